/-
  The reference's tables: rows, shapes, validity.
-/
import Derived.Test.YtkkihplpglchjaaGreatDoorPart16
import Derived.Test.YtkkihplpglchjaaGreatDoorPart12
import Derived.Test.YtkkihplpglchjaaGreatDoorPart13
import Derived.Test.YtkkihplpglchjaaGreatDoorPart14
set_option linter.constructorNameAsVariable false
set_option linter.unusedSimpArgs false
set_option linter.unusedVariables false
namespace Go.Am
open Go Go.Proofs
set_option maxHeartbeats 1000000
attribute [local irreducible] AR BZ Lex Bm Aj Spec
variable {TB:Ba}
theorem Hk {t:Dx} {al:Int} {A:W→Bool} (hT:Hx Tryz.prog TB 60 101 t al A) (cols words:List W) (hl:cols.length≤4194304) (hw:∀w∈words,w.length≤4194305) (hb:∀x∈cols,x.length≤4194304) (hwl:words.length≤4194304) :
    Pure Tryz.prog TB 61 [Cg t,Bk cols,Bk words] (Bk (words.map (marks A cols))):=by
  refine eN Tryz.func61 rfl (by kernel_rfl) rfl ?_;intro Γ hΓ
  (repeat first|refine aU rfl ?_)
  (refine Ag rfl ?_;refine Di (fun _ _=>Ek rfl rfl rfl) rfl ?_)
  (repeat first|refine tX rfl ?_ |refine aU rfl ?_ |refine Aa ?_)
  (refine pW rfl ?_ rfl (by rfl);refine Be rfl rfl rfl rfl (by simp) (by rfl) (by rfl) (by rfl) (by rfl) ?_)
  (repeat first|refine tX rfl ?_ |refine aU rfl ?_ |refine Aa ?_)
  refine aB ?_
  refine aL (α:={k:Nat // k≤words.length}) [1,2,3] [] rfl rfl (fun ⟨k,hk⟩=>[(7,.o (.arr 0 1 0 k)),(8,eI .i64 k)]) (fun ⟨k,hk⟩=>[(0,.cells 9 1 ((words.take k).map fun w=>[.d (tD (marks A cols w))]))]) 1 (fun ⟨k,hk⟩=>words.length - k) (⟨0,by omega⟩) hΓ rfl (by (simp[cX,zC,hΓ])) ?_;rintro ⟨k,hk⟩;(try dsimp only[cA,cB])
  by_cases hlt:k < words.length
  · obtain ⟨x,hx⟩:=get_some hlt
    have hx':=get_map (g:=BH) hx
    have hr:=IG hT cols x hl (hw x (List.mem_of_getElem? hx)) hb
    have hst:(words.take (k+1)).map (fun w=>[C.d (tD (marks A cols w))])=(words.take k).map (fun w=>[C.d (tD (marks A cols w))])++[[C.d (tD (marks A cols x))]]:=by rw [List.take_add_one,hx];simp
    (repeat first|refine sN rfl ?_ |refine tX rfl ?_ |refine s2 rfl fun _ _hb=>?_ |refine aU rfl ?_ |refine Aa ?_)
    (refine aC rfl ?_ ?_<;>rintro ⟨⟩)
    · refine aK ?_
      refine aS (aB ?_)
      refine rG (Hf [9]) (by kernel_rfl) ?_
      (repeat first|refine tA rfl ?_ |(refine s4 rfl ‹_› rfl ?_ ?_;omega) |refine sP rfl (hr) rfl ?_)
      (refine pW rfl ?_ rfl (by rfl);refine Ax rfl rfl rfl (by first| (simp;done)|(simp;(omega))) rfl (by intro r hr;simp at hr;subst hr;rfl) (by rfl) (Nat.le_of_ble_eq_true rfl) (by simp;omega) ?_)
      (repeat first|(refine sA rfl ?_ ?_;first|exact tI|omega) |refine aU rfl ?_ |refine Aa ?_)
      refine ⟨⟨k+1,by omega⟩,by dsimp only;(omega),[1],?_⟩
      simp[cX,zC,hΓ,hst]
    · exfalso;(simp only[oZ] at *;omega)
  · obtain rfl:k=words.length:=by omega
    rw [List.take_length]
    (repeat first|refine sN rfl ?_ |refine tX rfl ?_ |refine s2 rfl fun _ _hb=>?_ |refine aU rfl ?_ |refine Aa ?_)
    (refine aC rfl ?_ ?_<;>rintro ⟨⟩)
    · exfalso;(simp only[oZ] at *;omega)
    · refine aE ?_
      (repeat first|refine tX rfl ?_ |refine aU rfl ?_ |refine Aa ?_)
      refine Aj.settle [(6,Bk (words.map (marks A cols)))] ⟨⟨_,rfl,.o (.full rfl (by simp [Function.comp_def]) (by simp))⟩,trivial⟩ ?_
      refine aR ⟨_,rfl,rfl⟩
def rowAt (al:Int) (l:List W) (i:Nat):Bool:=match l[i]? with
  | none=>true
  | some w=>!decide (w.length=0) && (within w al && decide (w.dropLast∈l.take i))
def FR (al:Int) (l:List W) (i:Nat):Bool:=match l[i]? with
  | none=>true
  | some w=>decide (w.length≤4000) && (within w al && !decide (w∈l.take i))
def Dd (f:Nat→Bool) (n:Nat):Bool:=(List.range n).all fun i=>decide (i=0) || f i
theorem Fj {f:Nat→Bool} {k:Nat} (h:Dd f k=true) (hf:f k=true):Dd f (k+1)=true:=by
  unfold Dd at *
  rw [List.range_succ,List.all_append,h];simp [hf]
theorem EX {f:Nat→Bool} {k n:Nat} (h0:0 < k) (h:k < n) (hf:f k=false):Dd f n=false:=by
  unfold Dd
  rw [List.all_eq_false]
  exact ⟨k,List.mem_range.2 h,by simp [hf];omega⟩
def Gl (al:Int) (t:A3):Bool:=decide (0≤al) && (decide (1≤t.rows.length∧t.rows.length≤12) && (decide (1≤t.cols.length∧t.cols.length≤20) && (decide (t.rows[0]? = some []) && decide (t.cols[0]? = some []))))
def Dw (al:Int) (t:A3):Bool:=Gl al t && (Dd (rowAt al t.rows) t.rows.length && Dd (FR al t.cols) t.cols.length)
theorem NT (al:Int) (t:A3) (hz:PU t):Pure Tryz.prog TB 59 [eI .i64 al,Cn t] (eB (Dw al t)):=by
  have hrl:=hz.rl
  have hcl:=hz.cl
  by_cases h0:Gl al t=true
  · have hss : Dw al t=(Dd (rowAt al t.rows) t.rows.length && Dd (FR al t.cols) t.cols.length):=by unfold Dw;rw [h0];rfl
    rw [hss]
    unfold Gl at h0
    simp only [Bool.and_eq_true,decide_eq_true_eq] at h0
    obtain ⟨h1,h2,h3,h4,h5⟩:=h0
    have h4':=get_map (g:=BH) (k:=0) h4
    have h5':=get_map (g:=BH) (k:=0) h5
    have e0:((0:Nat):Int).toNat=(0:Int).toNat:=rfl
    rw [e0] at h4' h5'
    refine eN Tryz.func59 rfl (by kernel_rfl) rfl ?_;intro Γ hΓ
    (repeat' first|refine sN rfl ?_ |refine tA rfl ?_ |(refine s4 rfl ‹_› rfl ?_ ?_;omega) |refine s2 rfl fun _ _hb=>?_ |refine s3 rfl ?_ ?_<;>rintro rfl |refine aU rfl ?_ |refine Aa ?_|(refine aC rfl ?_ ?_<;>rintro ⟨⟩)|refine aK ?_|refine aE ?_|refine aB ?_|refine aR ⟨_,rfl,?_⟩)
    all_goals first
      | (exfalso;(simp only[oZ] at *;omega);done)
      | (exfalso;simp at *;done)
      | skip
    refine aL (α:={k:Nat // 1≤k∧k≤t.rows.length∧Dd (rowAt al t.rows) k=true}) [0,3,5,6] [] rfl rfl (fun ⟨k,hk1,hk,ha⟩=>[(7,eI .i64 k)]) (fun ⟨k,hk1,hk,ha⟩=>[]) 0 (fun ⟨k,hk1,hk,ha⟩=>t.rows.length - k) (⟨1,by omega,by omega,rfl⟩) hΓ rfl (by (simp[cX,zC,hΓ])) ?_;rintro ⟨k,hk1,hk,ha⟩;(try dsimp only[cA,cB])
    by_cases hlt:k < t.rows.length
    · obtain ⟨x,hx⟩:=get_some hlt
      have hx':=get_map (g:=BH) hx
      have hxb:=hz.rb x (List.mem_of_getElem? hx)
      have hra:rowAt al t.rows k=(!decide (x.length=0) && (within x al && decide (x.dropLast∈t.rows.take k))):=by unfold rowAt;rw [hx]
      have hww:=CZ (TB:=TB) x al (by omega)
      have hin:Pure Tryz.prog TB 62 [.o (.d (.l ((t.rows.map BH).take ((k:Nat):Int).toNat))),eT (x.take ((x.length:Int) - 1).toNat)] (eB (decide (x.dropLast∈t.rows.take k))):=by
        have e1:(x.take ((x.length:Int) - 1).toNat)=x.dropLast:=by rw [List.dropLast_eq_take];congr 1;omega
        rw [e1,Int.toNat_natCast,←List.map_take]
        exact Gb _ _ (by simp;omega)
      (repeat first|refine tA rfl ?_ |refine s2 rfl fun _ _hb=>?_ |refine aU rfl ?_ |refine Aa ?_)
      (refine aC rfl ?_ ?_<;>rintro ⟨⟩)
      · (repeat' first|(refine sA rfl ?_ ?_;first|exact tI|omega) |(refine s4 rfl ‹_› rfl ?_ ?_;omega) |refine s2 rfl fun _ _hb=>?_ |(refine sC rfl (hww) ?_;intro _ _hb)|(refine sC rfl (hin) ?_;intro _ _hb)|(refine Ag rfl ?_;refine gA rfl ?_;first| refine gS (fun _ _=>GJ rfl rfl (by simp) (by omega) (by (simp only[oZ] at *;omega))) ?_|refine gS (fun _ _=>MX rfl rfl (by (simp only[oZ] at *;omega)) (by omega)) ?_) |refine s3 rfl ?_ ?_<;>rintro rfl |refine aU rfl ?_ |refine Aa ?_ |refine rE (by kernel_rfl) ?_|(refine aC rfl ?_ ?_<;>rintro ⟨⟩)|refine aK ?_|refine aE ?_|refine aB ?_|refine aR ⟨_,rfl,?_⟩)
        all_goals first
          | (show eB false=eB _;rw [EX (by omega) hlt (by rw [hra];grind)];rfl)
          | (have hst:=Fj ha (by rw [hra];grind);refine ⟨⟨k+1,by omega,by omega,hst⟩,by dsimp only;(omega),[],?_⟩;simp[cX,zC,hΓ])
      · exfalso;(simp only[oZ] at *;omega)
    · obtain rfl:k=t.rows.length:=by omega
      rw [ha]
      (repeat first|refine tA rfl ?_ |refine s2 rfl fun _ _hb=>?_ |refine aU rfl ?_ |refine Aa ?_)
      (refine aC rfl ?_ ?_<;>rintro ⟨⟩)
      · exfalso;(simp only[oZ] at *;omega)
      · (repeat' first|refine tA rfl ?_ |refine aU rfl ?_ |refine Aa ?_|(refine aC rfl ?_ ?_<;>rintro ⟨⟩)|refine aK ?_|refine aE ?_|refine aB ?_|refine aR ⟨_,rfl,?_⟩)
        refine aL (α:={k:Nat // 1≤k∧k≤t.cols.length∧Dd (FR al t.cols) k=true}) [0,3,6] [] rfl rfl (fun ⟨k,hk1,hk,ha⟩=>[(9,eI .i64 k)]) (fun ⟨k,hk1,hk,ha⟩=>[]) 0 (fun ⟨k,hk1,hk,ha⟩=>t.cols.length - k) (⟨1,by omega,by omega,rfl⟩) hΓ rfl (by (simp[cX,zC,hΓ])) ?_;rintro ⟨k,hk1,hk,ha⟩;(try dsimp only[cA,cB])
        by_cases hlt:k < t.cols.length
        · obtain ⟨x,hx⟩:=get_some hlt
          have hx':=get_map (g:=BH) hx
          have hxb:=hz.cb x (List.mem_of_getElem? hx)
          have hra:FR al t.cols k=(decide (x.length≤4000) && (within x al && !decide (x∈t.cols.take k))):=by unfold FR;rw [hx]
          have hww:=CZ (TB:=TB) x al (by omega)
          have hin:Pure Tryz.prog TB 62 [.o (.d (.l ((t.cols.map BH).take ((k:Nat):Int).toNat))),eT x] (eB (decide (x∈t.cols.take k))):=by
            rw [Int.toNat_natCast,←List.map_take]
            exact Gb _ _ (by simp;omega)
          (repeat first|refine tA rfl ?_ |refine s2 rfl fun _ _hb=>?_ |refine aU rfl ?_ |refine Aa ?_)
          (refine aC rfl ?_ ?_<;>rintro ⟨⟩)
          · (repeat' first|(refine sA rfl ?_ ?_;first|exact tI|omega) |(refine s4 rfl ‹_› rfl ?_ ?_;omega) |refine s2 rfl fun _ _hb=>?_ |(refine sC rfl (hww) ?_;intro _ _hb)|(refine sC rfl (hin) ?_;intro _ _hb)|(refine Ag rfl ?_;refine gA rfl ?_;first| refine gS (fun _ _=>GJ rfl rfl (by simp) (by omega) (by (simp only[oZ] at *;omega))) ?_) |refine s3 rfl ?_ ?_<;>rintro rfl |refine aU rfl ?_ |refine Aa ?_|(refine aC rfl ?_ ?_<;>rintro ⟨⟩)|refine aK ?_|refine aE ?_|refine aB ?_|refine aR ⟨_,rfl,?_⟩)
            all_goals first
              | (show eB false=eB _;rw [EX (by omega) hlt (by rw [hra];grind)];rfl)
              | (have hst:=Fj ha (by rw [hra];grind);refine ⟨⟨k+1,by omega,by omega,hst⟩,by dsimp only;(omega),[],?_⟩;simp[cX,zC,hΓ])
          · exfalso;(simp only[oZ] at *;omega)
        · obtain rfl:k=t.cols.length:=by omega
          rw [ha]
          (repeat first|refine tA rfl ?_ |refine s2 rfl fun _ _hb=>?_ |refine aU rfl ?_ |refine Aa ?_)
          (refine aC rfl ?_ ?_<;>rintro ⟨⟩)
          · exfalso;(simp only[oZ] at *;omega)
          · (repeat' first|refine tA rfl ?_ |refine aU rfl ?_ |refine Aa ?_|(refine aC rfl ?_ ?_<;>rintro ⟨⟩)|refine aK ?_|refine aE ?_|refine aB ?_|refine aR ⟨_,rfl,?_⟩)
            rfl
  · have hss:Dw al t=false:=by unfold Dw;simp [h0]
    rw [hss]
    have h0':¬(0≤al∧(1≤t.rows.length∧t.rows.length≤12)∧(1≤t.cols.length∧t.cols.length≤20)∧t.rows[0]? = some []∧t.cols[0]? = some []):=by
      intro h;apply h0;unfold Gl;simp [h]
    have hR':(t.rows.map BH)[(0:Int).toNat]? = (t.rows[0]?).map BH:=by simp
    have hC':(t.cols.map BH)[(0:Int).toNat]? = (t.cols[0]?).map BH:=by simp
    have hRn:t.rows[0]? = none→t.rows.length=0:=fun h=>by have:=List.getElem?_eq_none_iff.1 h;omega
    have hCn:t.cols[0]? = none→t.cols.length=0:=fun h=>by have:=List.getElem?_eq_none_iff.1 h;omega
    refine eN Tryz.func59 rfl (by kernel_rfl) rfl ?_;intro Γ hΓ
    cases hR:t.rows[0]?<;>cases hC:t.cols[0]?<;>rw [hR] at hR' h0'<;>rw [hC] at hC' h0'<;>(
      (repeat' first|refine sN rfl ?_ |refine tA rfl ?_ |(refine s4 rfl ‹_› rfl ?_ ?_;omega) |refine s2 rfl fun _ _hb=>?_ |refine s3 rfl ?_ ?_<;>rintro rfl |refine aU rfl ?_ |refine Aa ?_|(refine aC rfl ?_ ?_<;>rintro ⟨⟩)|refine aK ?_|refine aE ?_|refine aB ?_|refine aR ⟨_,rfl,?_⟩)
      all_goals first
        | rfl
        | (exfalso;grind;done))
def Gc (al:Int) (w:W):Bool:=within w al && decide (w.length≤4000)
theorem O7 {t:Dx} {al:Int} {A:W→Bool} (hT:Hx Tryz.prog TB 60 101 t al A) (w:W) (hl:w.length≤1099511627776):Pure Tryz.prog TB 80 [Cg t,eT w] (eB (Gc al w)):=by
  have h1:=hT.alph
  have h2:=CZ (TB:=TB) w al hl
  have hc:Gc al w=(within w al && decide ((w.length:Int)≤4000)):=by unfold Gc;congr 1;rw [decide_eq_decide];omega
  rw [hc]
  refine eN Tryz.func80 rfl (by kernel_rfl) rfl ?_;intro Γ hΓ
  (repeat' first|refine tA rfl ?_ |refine s2 rfl fun _ _hb=>?_ |refine sP rfl (h1) rfl ?_|(refine sC rfl (h2) ?_;intro _ _hb) |refine s3 rfl ?_ ?_<;>rintro rfl |refine aU rfl ?_ |refine Aa ?_|(refine aC rfl ?_ ?_<;>rintro ⟨⟩)|refine aK ?_|refine aE ?_|refine aB ?_|refine aR ⟨_,rfl,?_⟩)
  all_goals (show E.o _=E.o _;congr;grind)
def AL (A:W→Bool) (al:Int) (t:A3):Bool:=Dw al t && decide (AB A t).Nodup
theorem Qn {l:List W} {k:Nat} {x:W} (hx:l[k]? = some x) (h:(l.take k).Nodup) (hn:x∉l.take k):(l.take (k+1)).Nodup:=by
  rw [List.take_add_one,hx,List.nodup_append]
  refine ⟨h,by simp,fun a ha b hb e=>?_⟩
  simp at hb;subst hb;exact hn (e ▸ ha)
theorem WL {l:List W} {k:Nat} {x:W} (hx:l[k]? = some x) (hn:x∈l.take k):¬l.Nodup:=by
  intro h
  obtain ⟨h1,rfl⟩:=List.getElem?_eq_some_iff.1 hx
  rw [←List.take_append_drop k l,List.nodup_append] at h
  exact h.2.2 _ hn _ (by rw [List.drop_eq_getElem_cons h1];exact List.mem_cons_self) rfl
theorem Dz {t:Dx} {al:Int} {A:W→Bool} (hT:Hx Tryz.prog TB 60 101 t al A) (tab:A3) (hz:PU tab):Pure Tryz.prog TB 18 [Cg t,Cn tab] (eB (AL A al tab)):=by
  have h1:=hT.alph
  have h2:=NT (TB:=TB) al tab hz
  have h3:=Hk hT tab.cols tab.rows hz.cl (fun w hw=>by have:=hz.rb w hw;omega) hz.cb hz.rl
  by_cases hs:Dw al tab=true
  · have hv:AL A al tab=decide (AB A tab).Nodup:=by unfold AL;rw [hs];rfl
    rw [hv]
    have h3':Pure Tryz.prog TB 61 [Cg t,Bk tab.cols,Bk tab.rows] (Bk (AB A tab)):=h3
    have hml:(AB A tab).length=tab.rows.length:=by simp [AB]
    have hrl:=hz.rl
    generalize AB A tab=l at *
    refine eN Tryz.func18 rfl (by kernel_rfl) rfl ?_;intro Γ hΓ
    (repeat' first|refine tA rfl ?_ |refine s2 rfl fun _ _hb=>?_ |refine sP rfl (h1) rfl ?_|(refine sC rfl (h2) ?_;intro _ _hb)|refine sP rfl (h3') rfl ?_ |refine aU rfl ?_ |refine Aa ?_ |refine rE (by kernel_rfl) ?_|(refine aC rfl ?_ ?_<;>rintro ⟨⟩)|refine aK ?_|refine aE ?_|refine aB ?_|refine aR ⟨_,rfl,?_⟩)
    all_goals first
      | (exfalso;grind;done)
      | skip
    refine aL (α:={k:Nat // k≤l.length∧(l.take k).Nodup}) [5] [] rfl rfl (fun ⟨k,hk,hn⟩=>[(6,eI .i64 k)]) (fun ⟨k,hk,hn⟩=>[]) 0 (fun ⟨k,hk,hn⟩=>l.length - k) (⟨0,by omega,by simp⟩) hΓ rfl (by (simp[cX,zC,hΓ])) ?_;rintro ⟨k,hk,hn⟩;(try dsimp only[cA,cB])
    by_cases hlt:k < l.length
    · obtain ⟨x,hx⟩:=get_some hlt
      have hx':=get_map (g:=BH) hx
      have hin:Pure Tryz.prog TB 62 [.o (.d (.l ((l.map BH).take ((k:Nat):Int).toNat))),eT x] (eB (decide (x∈l.take k))):=by
        rw [Int.toNat_natCast,←List.map_take]
        exact Gb _ _ (by simp;omega)
      (repeat first|refine sN rfl ?_ |refine tA rfl ?_ |refine s2 rfl fun _ _hb=>?_ |refine aU rfl ?_ |refine Aa ?_)
      (refine aC rfl ?_ ?_<;>rintro ⟨⟩)
      · (repeat' first|(refine sA rfl ?_ ?_;first|exact tI|omega) |(refine s4 rfl ‹_› rfl ?_ ?_;omega) |(refine sC rfl (hin) ?_;intro _ _hb)|(refine Ag rfl ?_;refine gA rfl ?_;first| refine gS (fun _ _=>GJ rfl rfl (by simp) (by omega) (by (simp only[oZ] at *;omega))) ?_) |refine aU rfl ?_ |refine Aa ?_ |refine rE (by kernel_rfl) ?_|(refine aC rfl ?_ ?_<;>rintro ⟨⟩)|refine aK ?_|refine aE ?_|refine aB ?_|refine aR ⟨_,rfl,?_⟩)
        · show eB false=eB _
          rw [decide_eq_false (WL hx (by simpa using _hb))]
        · have hst:=Qn hx hn (by simpa using _hb)
          refine ⟨⟨k+1,by omega,hst⟩,by dsimp only;(omega),[],?_⟩
          simp[cX,zC,hΓ]
      · exfalso;(simp only[oZ] at *;omega)
    · rw [List.take_of_length_le (by omega)] at hn
      (repeat first|refine sN rfl ?_ |refine tA rfl ?_ |refine s2 rfl fun _ _hb=>?_ |refine aU rfl ?_ |refine Aa ?_)
      (refine aC rfl ?_ ?_<;>rintro ⟨⟩)
      · exfalso;(simp only[oZ] at *;omega)
      · (repeat' first|refine tA rfl ?_ |refine aU rfl ?_ |refine Aa ?_|(refine aC rfl ?_ ?_<;>rintro ⟨⟩)|refine aK ?_|refine aE ?_|refine aB ?_|refine aR ⟨_,rfl,?_⟩)
        rw [decide_eq_true hn]
  · have hv:AL A al tab=false:=by unfold AL;simp [hs]
    rw [hv]
    refine eN Tryz.func18 rfl (by kernel_rfl) rfl ?_;intro Γ hΓ
    (repeat' first|refine tA rfl ?_ |refine s2 rfl fun _ _hb=>?_ |refine sP rfl (h1) rfl ?_|(refine sC rfl (h2) ?_;intro _ _hb) |refine aU rfl ?_ |refine Aa ?_ |refine rE (by kernel_rfl) ?_|(refine aC rfl ?_ ?_<;>rintro ⟨⟩)|refine aK ?_|refine aE ?_|refine aB ?_|refine aR ⟨_,rfl,?_⟩)
    all_goals first
      | rfl
      | (exfalso;grind;done)
theorem Hj {t:Dx} {al:Int} {A:W→Bool} (hT:Hx Tryz.prog TB 60 101 t al A) (tab:A3) (hz:PU tab):Pure Tryz.prog TB 64 [Cg t,Cn tab] (Sy (A9 A (Bl al) tab)):=by
  have h1:=hT.alph
  have h2:=BW (TB:=TB) al
  have h3:Pure Tryz.prog TB 61 [Cg t,Bk tab.cols,Bk tab.rows] (Bk (AB A tab)):=Hk hT tab.cols tab.rows hz.cl (fun w hw=>by have:=hz.rb w hw;omega) hz.cb hz.rl
  have hrl:=hz.rl
  have hla:(Af al).length≤6:=AI al 6
  refine eN Tryz.func64 rfl (by kernel_rfl) rfl ?_;intro Γ hΓ
  (repeat' first|refine tA rfl ?_ |refine sP rfl (h1) rfl ?_|refine sP rfl (h2) rfl ?_|refine sP rfl (h3) rfl ?_ |refine aU rfl ?_ |refine Aa ?_|(refine aC rfl ?_ ?_<;>rintro ⟨⟩)|refine aK ?_|refine aE ?_|refine aB ?_|refine aR ⟨_,rfl,?_⟩)
  refine aL (α:={k:Nat // k≤tab.rows.length∧∀w∈BQ (Bl al) (tab.rows.take k),marks A tab.cols w∈AB A tab}) [2,3,6,7] [] rfl rfl (fun ⟨k,hk,hkd⟩=>[(8,eI .i64 k)]) (fun ⟨k,hk,hkd⟩=>[]) 0 (fun ⟨k,hk,hkd⟩=>tab.rows.length - k) (⟨0,by omega,by simp [BQ]⟩) hΓ rfl (by (simp[cX,zC,hΓ])) ?_;rintro ⟨k,hk,hkd⟩;(try dsimp only[cA,cB])
  by_cases hlt:k < tab.rows.length
  · obtain ⟨r, hx⟩:=get_some hlt
    have hx':=get_map (g:=BH) hx
    have hrb:=hz.rb r (List.mem_of_getElem? hx)
    (repeat first|refine sN rfl ?_ |refine tA rfl ?_ |refine s2 rfl fun _ _hb=>?_ |refine aU rfl ?_ |refine Aa ?_)
    (refine aC rfl ?_ ?_<;>rintro ⟨⟩)
    · refine aK ?_
      refine aS (aB ?_)
      (repeat first|refine tA rfl ?_ |refine aU rfl ?_ |refine Aa ?_)
      refine aB ?_
      refine aL (α:={j:Nat // j≤(Af al).length∧∀x∈(Bl al).take j,marks A tab.cols (r++[x])∈AB A tab}) [2,3,6,7,8] [] rfl rfl (fun ⟨j,hj,hjd⟩=>[(9,eI .i64 j)]) (fun ⟨j,hj,hjd⟩=>[]) 0 (fun ⟨j,hj,hjd⟩=>(Af al).length - j) (⟨0,by omega,by simp⟩) hΓ rfl (by (simp[cX,zC,hΓ])) ?_;rintro ⟨j,hj,hjd⟩;(try dsimp only[cA,cB])
      by_cases hjlt:j < (Af al).length
      · obtain ⟨l,hl⟩:=get_some hjlt
        have hl':=get_map (g:=CC) hl
        have hlb:=Bg (List.mem_of_getElem? hl)
        have hll:(Bl al)[j]? = some (lb l):=by simp [Bl,hl]
        have htx:Pure Tryz.prog TB 90 [eI .i64 l] (eT [lb l]):=E3 l hlb.1 (by omega)
        have hrow:=IG hT tab.cols (r++[lb l]) hz.cl (by simp;omega) hz.cb
        have hin:=Gb (TB:=TB) (AB A tab) (marks A tab.cols (r++[lb l])) (by simp [AB];omega)
        (repeat first|refine sN rfl ?_ |refine tA rfl ?_ |refine s2 rfl fun _ _hb=>?_ |refine aU rfl ?_ |refine Aa ?_)
        (refine aC rfl ?_ ?_<;>rintro ⟨⟩)
        · (repeat' first|(refine sA rfl ?_ ?_;first|exact tI|omega|simp only[oZ] at *;omega) |(refine s4 rfl ‹_› rfl ?_ ?_;omega) |refine s2 rfl fun _ _hb=>?_ |refine sP rfl (htx) rfl ?_|refine sP rfl (hrow) rfl ?_|(refine sC rfl (hin) ?_;intro _ _hb) |refine aU rfl ?_ |refine Aa ?_ |refine rE (by kernel_rfl) ?_|(refine aC rfl ?_ ?_<;>rintro ⟨⟩)|refine aK ?_|refine aE ?_|refine aB ?_|refine aR ⟨_,rfl,?_⟩)
          · have hno:marks A tab.cols (r++[lb l])∉AB A tab:=by grind
            rw [Qr hx hll hkd hjd hno]
            rfl
          · have hyes:marks A tab.cols (r++[lb l])∈AB A tab:=by grind
            have hjd2:∀x∈(Bl al).take (j+1),marks A tab.cols (r++[x])∈AB A tab:=fun x hx=>by
              rw [List.take_add_one,hll] at hx
              rcases List.mem_append.1 hx with hx|hx
              · exact hjd x hx
              · simp at hx;subst hx;exact hyes
            refine ⟨⟨j+1,by omega,hjd2⟩,by dsimp only;(omega),[],?_⟩
            simp[cX,zC,hΓ]
        · exfalso;(simp only[oZ] at *;omega)
      · have hkd2:∀w∈BQ (Bl al) (tab.rows.take (k+1)),marks A tab.cols w∈AB A tab:=fun w hw=>by
          rw [Kx hx] at hw
          rcases List.mem_append.1 hw with hw|hw
          · exact hkd w hw
          · obtain ⟨x,hx2,rfl⟩:=List.mem_map.1 hw
            exact hjd x (by rw [List.take_of_length_le (by simp [Bl];omega)];exact hx2)
        (repeat first|refine sN rfl ?_ |refine tA rfl ?_ |refine s2 rfl fun _ _hb=>?_ |refine aU rfl ?_ |refine Aa ?_)
        (refine aC rfl ?_ ?_<;>rintro ⟨⟩)
        · exfalso;(simp only[oZ] at *;omega)
        · (repeat' first|(refine sA rfl ?_ ?_;first|exact tI|omega) |refine aU rfl ?_ |refine Aa ?_|(refine aC rfl ?_ ?_<;>rintro ⟨⟩)|refine aK ?_|refine aE ?_|refine aB ?_|refine aR ⟨_,rfl,?_⟩)
          refine ⟨⟨k+1,by omega,hkd2⟩,by dsimp only;(omega),[],?_⟩
          simp[cX,zC,hΓ]
    · exfalso;(simp only[oZ] at *;omega)
  · have hno:A9 A (Bl al) tab=none:=List.find?_eq_none.2 fun w hw=>by
      have:=hkd w (by rw [List.take_of_length_le (by omega)];exact hw)
      simpa using this
    rw [hno]
    (repeat first|refine sN rfl ?_ |refine tA rfl ?_ |refine s2 rfl fun _ _hb=>?_ |refine aU rfl ?_ |refine Aa ?_)
    (refine aC rfl ?_ ?_<;>rintro ⟨⟩)
    · exfalso;(simp only[oZ] at *;omega)
    · (repeat' first|refine tA rfl ?_ |refine aU rfl ?_ |refine Aa ?_|(refine aC rfl ?_ ?_<;>rintro ⟨⟩)|refine aK ?_|refine aE ?_|refine aB ?_|refine aR ⟨_,rfl,?_⟩)
      rfl
theorem GU {t:Dx} {al:Int} {A:W→Bool} (hT:Hx Tryz.prog TB 60 101 t al A) (tab:A3) (hz:PU tab):Pure Tryz.prog TB 21 [Cg t,Cn tab] (Sy (if AL A al tab then A9 A (Bl al) tab else none)):=by
  have h1:=Dz hT tab hz
  have h2:=Hj hT tab hz
  by_cases hv:AL A al tab=true
  · rw [if_pos hv]
    cases ho:A9 A (Bl al) tab<;>rw [ho] at h2<;>(
      refine eN Tryz.func21 rfl (by kernel_rfl) rfl ?_;intro Γ hΓ
      (repeat' first|refine tA rfl ?_ |refine s2 rfl fun _ _hb=>?_ |(refine sC rfl (h1) ?_;intro _ _hb)|refine sP rfl (h2) rfl ?_ |refine aU rfl ?_ |refine Aa ?_|(refine aC rfl ?_ ?_<;>rintro ⟨⟩)|refine aK ?_|refine aE ?_|refine aB ?_|refine aR ⟨_,rfl,?_⟩)
      all_goals first
        | rfl
        | (exfalso;grind;done))
  · rw [if_neg hv]
    refine eN Tryz.func21 rfl (by kernel_rfl) rfl ?_;intro Γ hΓ
    (repeat' first|refine tA rfl ?_ |refine s2 rfl fun _ _hb=>?_ |(refine sC rfl (h1) ?_;intro _ _hb) |refine aU rfl ?_ |refine Aa ?_|(refine aC rfl ?_ ?_<;>rintro ⟨⟩)|refine aK ?_|refine aE ?_|refine aB ?_|refine aR ⟨_,rfl,?_⟩)
    all_goals first
      | rfl
      | (exfalso;grind;done)
def BU (A:W→Bool) (al:Int) (t:A3):Bool:=AL A al t && (A9 A (Bl al) t).isNone
theorem K3 {t:Dx} {al:Int} {A:W→Bool} (hT:Hx Tryz.prog TB 60 101 t al A) (tab:A3) (hz:PU tab):Pure Tryz.prog TB 87 [Cg t,Cn tab] (eB (BU A al tab)):=by
  have h1:=Dz hT tab hz
  have h2:=GU hT tab hz
  by_cases hv:AL A al tab=true
  · rw [if_pos hv] at h2
    have hc:BU A al tab=(A9 A (Bl al) tab).isNone:=by unfold BU;rw [hv];rfl
    rw [hc]
    cases ho:A9 A (Bl al) tab<;>rw [ho] at h2<;>(
      refine eN Tryz.func87 rfl (by kernel_rfl) rfl ?_;intro Γ hΓ
      (repeat' first|refine tA rfl ?_ |refine s2 rfl fun _ _hb=>?_ |(refine sC rfl (h1) ?_;intro _ _hb)|refine sP rfl (h2) rfl ?_ |refine s3 rfl ?_ ?_<;>rintro rfl |refine aU rfl ?_ |refine Aa ?_|(refine aC rfl ?_ ?_<;>rintro ⟨⟩)|refine aK ?_|refine aE ?_|refine aB ?_|refine aR ⟨_,rfl,?_⟩)
      all_goals first
        | rfl
        | (exfalso;grind;done)
        | (show E.o _=E.o _;congr;first| grind|(simp at *;assumption)))
  · rw [if_neg hv] at h2
    have hc:BU A al tab=false:=by unfold BU;simp [hv]
    rw [hc]
    refine eN Tryz.func87 rfl (by kernel_rfl) rfl ?_;intro Γ hΓ
    (repeat' first|refine tA rfl ?_ |refine s2 rfl fun _ _hb=>?_ |(refine sC rfl (h1) ?_;intro _ _hb)|refine sP rfl (h2) rfl ?_ |refine s3 rfl ?_ ?_<;>rintro rfl |refine aU rfl ?_ |refine Aa ?_|(refine aC rfl ?_ ?_<;>rintro ⟨⟩)|refine aK ?_|refine aE ?_|refine aB ?_|refine aR ⟨_,rfl,?_⟩)
    all_goals first
      | rfl
      | (exfalso;grind;done)
theorem Wz {l:List W} {s:W} {k:Nat} (hx:l[k]? = some s) (hn:s∉l.take k):l.idxOf s=k:=by
  have hl:k < l.length:=(List.getElem?_eq_some_iff.1 hx).1
  have e:l=l.take k++s::l.drop (k+1):=by rw [←CB hx,List.take_append_drop]
  rw [e,List.idxOf_append,if_neg hn,List.idxOf_cons_self]
  simp;omega
theorem NS (l:List W) (s:W) (hm:s∈l) (hl:l.length≤1099511627776):Pure Tryz.prog TB 89 [Bk l,eT s] (eI .i64 (l.idxOf s:Nat)):=by
  refine eN Tryz.func89 rfl (by kernel_rfl) rfl ?_;intro Γ hΓ
  (repeat first|refine tA rfl ?_ |refine aU rfl ?_ |refine Aa ?_)
  refine aB ?_
  refine aL (α:={k:Nat // k≤l.length∧s∉l.take k}) [0,1] [] rfl rfl (fun ⟨k,hk,hn⟩=>[(5,eI .i64 k)]) (fun ⟨k,hk,hn⟩=>[]) 0 (fun ⟨k,hk,hn⟩=>l.length - k) (⟨0,by omega,by simp⟩) hΓ rfl (by (simp[cX,zC,hΓ])) ?_;rintro ⟨k,hk,hn⟩;(try dsimp only[cA,cB])
  have hkl:k < l.length:=by
    rcases Nat.lt_or_ge k l.length with h|h
    · exact h
    · rw [List.take_of_length_le h] at hn;exact absurd hm hn
  obtain ⟨x,hx⟩:=get_some (l:=l) (k:=k) hkl
  have hx':=get_map (g:=BH) hx
  by_cases hs:x=s
  · subst hs
    have he:=Wz hx hn
    rw [he]
    (repeat first|refine tA rfl ?_ |(refine s4 rfl ‹_› rfl ?_ ?_;omega) |refine s2 rfl fun _ _hb=>?_ |refine aU rfl ?_ |refine Aa ?_)
    (refine aC rfl ?_ ?_<;>rintro ⟨⟩)
    · exfalso;simp at _hb
    · (repeat' first|refine tA rfl ?_ |refine aU rfl ?_ |refine Aa ?_|(refine aC rfl ?_ ?_<;>rintro ⟨⟩)|refine aK ?_|refine aE ?_|refine aB ?_|refine aR ⟨_,rfl,?_⟩)
      rfl
  · have hn2:s∉l.take (k+1):=by
      rw [List.take_add_one,hx]
      intro h
      rcases List.mem_append.1 h with h|h
      · exact hn h
      · simp at h;exact hs h.symm
    (repeat first|refine tA rfl ?_ |(refine s4 rfl ‹_› rfl ?_ ?_;omega) |refine s2 rfl fun _ _hb=>?_ |refine aU rfl ?_ |refine Aa ?_)
    (refine aC rfl ?_ ?_<;>rintro ⟨⟩)
    · (repeat' first|(refine sA rfl ?_ ?_;first|exact tI|omega) |refine aU rfl ?_ |refine Aa ?_|(refine aC rfl ?_ ?_<;>rintro ⟨⟩)|refine aK ?_|refine aE ?_|refine aB ?_|refine aR ⟨_,rfl,?_⟩)
      refine ⟨⟨k+1,by omega,hn2⟩,by dsimp only;(omega),[],?_⟩
      simp[cX,zC,hΓ]
    · exfalso;simp [hs] at _hb
end Go.Am
namespace Go.Am
open Go
set_option linter.unusedVariables false
theorem NM {f:Nat→Bool} {n k:Nat} (h:Dd f n=true) (h0:0 < k) (hk:k < n):f k=true:=by
  unfold Dd at h
  have:=(List.all_eq_true.1 h) k (List.mem_range.2 hk)
  simp at this
  rcases this with h|h
  · omega
  · exact h
structure OK (al:Int) (t:A3):Prop where
  pos:0≤al
  r1:1≤t.rows.length
  rl:t.rows.length≤12
  c1:1≤t.cols.length
  cl:t.cols.length≤20
  r0:t.rows[0]? = some []
  c0:t.cols[0]? = some []
  rw:∀w∈t.rows,w.length≤50000∧AV (Bl al) w
  cw:∀w∈t.cols,w.length≤4000∧AV (Bl al) w
  pre:∀(i:Nat) w,t.rows[i]? = some w→0 < i→w≠[]∧∃j,j < i∧t.rows[j]? = some w.dropLast
  ndC:t.cols.Nodup
theorem N5 {α:Type} {l:List α} {k:Nat} {x:α} (h:x∈l.take k):∃j,j < k∧l[j]? = some x:=by
  obtain ⟨j,hj,he⟩:=List.getElem_of_mem h
  have h1:j < k:=by simp at hj;omega
  refine ⟨j,h1,?_⟩
  rw [←he,List.getElem_take,List.getElem?_eq_getElem]
theorem NC {α:Type} {l:List α} {j k:Nat} {x:α} (h:l[j]? = some x) (hj:j < k):x∈l.take k:=by
  have:(l.take k)[j]? = some x:=by rw [List.getElem?_take,if_pos hj];exact h
  exact List.mem_of_getElem? this
theorem Ht {w:W} {al:Int} (h:within w al=true):w.length≤50000:=by
  unfold within at h
  simp only [Bool.and_eq_true,decide_eq_true_eq] at h
  exact h.1
theorem KZ {al:Int} {t:A3} (h:Dw al t=true):OK al t:=by
  unfold Dw Gl at h
  simp only [Bool.and_eq_true,decide_eq_true_eq] at h
  obtain ⟨⟨h1,h2,h3,h4,h5⟩,h6,h7⟩:=h
  have hrow:∀(i:Nat) w,t.rows[i]? = some w→0 < i→w≠[]∧within w al=true∧w.dropLast∈t.rows.take i:=fun i w hi h0=>by
    have:=NM h6 h0 (List.getElem?_eq_some_iff.1 hi).1
    unfold rowAt at this
    rw [hi] at this
    simp only [Bool.and_eq_true,decide_eq_true_eq,Bool.not_eq_true',decide_eq_false_iff_not] at this
    exact ⟨fun e=>this.1 (by rw [e];rfl),this.2.1,this.2.2⟩
  have hcol:∀(i:Nat) w,t.cols[i]? = some w→0 < i→w.length≤4000∧within w al=true∧w∉t.cols.take i:=fun i w hi h0=>by
    have:=NM h7 h0 (List.getElem?_eq_some_iff.1 hi).1
    unfold FR at this
    rw [hi] at this
    simp only [Bool.and_eq_true,decide_eq_true_eq,Bool.not_eq_true',decide_eq_false_iff_not] at this
    exact this
  refine ⟨h1,h2.1,h2.2,h3.1,h3.2,h4,h5,fun w hw=>?_,fun w hw=>?_,fun i w hi h0=>?_,?_⟩
  · obtain ⟨i,hi,he⟩:=List.getElem_of_mem hw
    have hi':t.rows[i]? = some w:=by rw [List.getElem?_eq_getElem hi,he]
    rcases Nat.eq_zero_or_pos i with h0|h0
    · subst h0
      rw [h4] at hi';injection hi' with hi';subst hi'
      exact ⟨by simp,fun c hc=>by cases hc⟩
    · have:=hrow i w hi' h0
      exact ⟨Ht this.2.1,Ck this.2.1⟩
  · obtain ⟨i,hi,he⟩:=List.getElem_of_mem hw
    have hi':t.cols[i]? = some w:=by rw [List.getElem?_eq_getElem hi,he]
    rcases Nat.eq_zero_or_pos i with h0|h0
    · subst h0
      rw [h5] at hi';injection hi' with hi';subst hi'
      exact ⟨by simp,fun c hc=>by cases hc⟩
    · have:=hcol i w hi' h0
      exact ⟨this.1,Ck this.2.1⟩
  · have:=hrow i w hi h0
    exact ⟨this.1,N5 this.2.2⟩
  · unfold List.Nodup
    rw [List.pairwise_iff_getElem]
    intro i j hi hj hij he
    have:=hcol j t.cols[j] (List.getElem?_eq_getElem hj) (by omega)
    exact this.2.2 (NC (by rw [List.getElem?_eq_getElem hi,he]) hij)
theorem BG {A:W→Bool} {al:Int} {t:A3} (h:AL A al t=true):OK al t∧(AB A t).Nodup:=by
  unfold AL at h
  rw [Bool.and_eq_true,decide_eq_true_eq] at h
  exact ⟨KZ h.1,h.2⟩
theorem PK {A:W→Bool} {al:Int} {t:A3} (h:AL A al t=true):ZD A (Bl al) t:=by
  obtain ⟨h1,h2⟩:=BG h
  exact ⟨h1.r0,h1.c0,h1.pre,fun w hw=>(h1.rw w hw).2,fun w hw=>(h1.cw w hw).2,h2,h1.ndC⟩
theorem LK {A:W→Bool} {al:Int} {t:A3} (h:BU A al t=true):AL A al t=true∧A9 A (Bl al) t=none∧CJ A (Bl al) t:=by
  unfold BU at h
  rw [Bool.and_eq_true] at h
  have h2:A9 A (Bl al) t=none:=by simpa using h.2
  exact ⟨h.1,h2,⟨PK h.1,KD h2⟩⟩
def Un (A L:W→Bool) (al:Int):Prop:=∀w,AV (Bl al) w→w.length≤50000→A w=L w
theorem Tq {ls:List UInt8} {u w:W} (hu:AV ls u) (hw:AV ls w):AV ls (u++w):=fun c hc=>by
  rcases List.mem_append.1 hc with h|h
  · exact hu c h
  · exact hw c h
theorem LZ {A L:W→Bool} {al:Int} (h:Un A L al) {cols:List W} {w:W} (hw:AV (Bl al) w) (hc:∀x∈cols,AV (Bl al) x∧w.length+x.length≤50000):marks A cols w=marks L cols w:=by
  rw [marks,marks,List.map_inj_left]
  intro x hx
  rw [h _ (Tq hw (hc x hx).1) (by simp;exact (hc x hx).2)]
theorem IZ {A L:W→Bool} {al:Int} {b:Nat} {t:A3} (h:Un A L al) (ht:Hz al b t) (hb:b≤20100):AB A t=AB L t:=by
  rw [AB,AB,List.map_inj_left]
  intro r hr
  have:=ht.onR r hr
  exact LZ h this.1 fun x hx=>⟨(ht.onC x hx).1,by have:=(ht.onC x hx).2;omega⟩
theorem Oa {A L:W→Bool} {al:Int} {b:Nat} {t:A3} (h:Un A L al) (ht:Hz al b t) (hb:b≤20100) {r:W} {l:UInt8} (hr:r∈t.rows) (hl:l∈Bl al):marks A t.cols (r++[l])=marks L t.cols (r++[l]):=by
  have:=ht.onR r hr
  refine LZ h (Tq this.1 (fun c hc=>by simp at hc;subst hc;exact hl)) fun x hx=>⟨(ht.onC x hx).1,by have:=(ht.onC x hx).2;simp;omega⟩
theorem NJ {α:Type} {p q:α→Bool}:∀ {l:List α},(∀x∈l,p x=q x)→l.find? p=l.find? q
  | [],_=>rfl
  | x::l,h=>by
    rw [List.find?_cons,List.find?_cons,h x (by simp),NJ (l:=l) fun y hy=>h y (by simp [hy])]
theorem Rv {A L:W→Bool} {al:Int} {b:Nat} {t:A3} (h:Un A L al) (ht:Hz al b t) (hb:b≤20100):A9 A (Bl al) t=A9 L (Bl al) t:=by
  unfold A9
  refine NJ fun w hw=>?_
  unfold BQ at hw
  simp only [List.mem_flatMap,List.mem_map] at hw
  obtain ⟨r,hr,l,hl,rfl⟩:=hw
  rw [IZ h ht hb,Oa h ht hb hr hl]
theorem SL {A L:W→Bool} {al:Int} {b:Nat} {t:A3} (h:Un A L al) (ht:Hz al b t) (hb:b≤20100) {r:W} {l:UInt8} (hr:r∈t.rows) (hl:l∈Bl al):DW A t (r++[l])=DW L t (r++[l]):=by
  unfold DW
  rw [IZ h ht hb,Oa h ht hb hr hl]
theorem Sm {A L:W→Bool} {al:Int} {b:Nat} {t:A3} (h:Un A L al) (ht:Hz al b t) (hb:b≤20100):A1 A al t=A1 L al t:=by
  unfold A1
  congr 1
  · refine List.map_inj_left.2 fun r hr=>List.map_inj_left.2 fun l hl=>?_
    rw [SL h ht hb hr (JL hl)]
  · refine List.map_inj_left.2 fun r hr=>?_
    have:=ht.onR r hr
    rw [h r this.1 (by omega)]
end Go.Am
namespace Go.Am
open Go Go.Proofs
set_option maxHeartbeats 1000000
attribute [local irreducible] AR BZ Lex Bm Aj Spec
section
variable {P:Program} {TB:Ba} {Γ:Ctx} {d:Option Tmp} {ty:TypeId} {pos:String} {af:Array Edge} {g:Option (Nat×Bool)} {f:Env} {σ:Ab} {nx:Nat}
theorem Vm {t k e:TypeId} {x:Operand} {id:Nat} {es:List (Value×Value)} [hm:FM P t k e] (hx:ev f x=some (.o (.mp id))) (ho:look σ id=some (.mp es)) :
    AR P TB Γ ⟨d,.call ⟨.builtin .len,#[x],#[t]⟩,ty,pos,af,g⟩ f σ nx (eI .i64 es.length):=
  Ay fun V ρ hr hi=>by
    have e1:=hr.get (by simp [Op.operands,Call.operands]) hx
    generalize hv:ρ x=v at e1
    cases e1 with
    | mp hid=>
      obtain ⟨hn,ents,clock,h1,h2⟩:=hi.st.obj id _ ho
      have hl:ents.size=es.length:=by have:=congrArg List.length h2;simpa using this
      refine ⟨.int .i64 es.length,?_,.d (.v rfl)⟩
      simp [execOp,resolve,invoke,builtin,hv,Builtin.len_,run_underlying hm.out,MapKept.run_getObj_map h1,goInt,hl,go_sem]
end
variable {TB:Ba}
theorem Kz (L:W→Bool) (t:A3):∀k,k≤t.rows.length→(A5 L t k).length≤k∧((A5 L t k).length=k↔((AB L t).take k).Nodup)
  | 0,_=>by simp [A5]
  | k + 1,hk=>by
    obtain ⟨h1,h2⟩:=Kz L t k (by omega)
    have hx:=Ho (L:=L) (t:=t) (k:=k) (by omega)
    have hf:=IS L t k (by omega) (marks L t.cols (t.rows.getD k []))
    rw [A5]
    by_cases hm:marks L t.cols (t.rows.getD k [])∈(AB L t).take k
    · rw [if_pos hm] at hf
      rw [hf]
      simp only [Option.isSome_some,if_true]
      refine ⟨by omega,?_⟩
      constructor
      · intro h;omega
      · intro h
        rw [List.take_add_one,hx] at h
        simp only [Option.toList_some] at h
        rw [List.nodup_append] at h
        exact absurd rfl (h.2.2 _ hm _ (by simp))
    · rw [if_neg hm] at hf
      rw [hf]
      simp only [Option.isSome_none,Bool.false_eq_true,if_false]
      refine ⟨by simp;omega,?_⟩
      simp only [List.length_append,List.length_cons,List.length_nil]
      constructor
      · intro h
        exact Qn hx (h2.1 (by omega)) hm
      · intro h
        rw [List.take_add_one,hx] at h
        simp only [Option.toList_some] at h
        rw [List.nodup_append] at h
        have:=h2.2 h.1
        omega
theorem Pr (L:W→Bool) (t:A3):(A5 L t t.rows.length).length=t.rows.length↔(AB L t).Nodup:=by
  have:=(Kz L t t.rows.length (Nat.le_refl _)).2
  rwa [List.take_of_length_le (by simp [AB])] at this
theorem OK.short {al:Int} {t:A3} (h:OK al t):∀(i:Nat) w,t.rows[i]? = some w→w.length≤i:=by
  intro i
  induction i using Nat.strongRecOn with
  | ind i ih=>
    intro w hi
    rcases Nat.eq_zero_or_pos i with rfl|h0
    · have:=h.r0.symm.trans hi
      injection this with this
      subst this;simp
    · obtain ⟨hne,j,hj,hjw⟩:=h.pre i w hi h0
      have:=ih j hj _ hjw
      rw [List.length_dropLast] at this
      omega
theorem OK.bd {al:Int} {t:A3} (h:OK al t):Hz al 20000 t:=by
  refine ⟨fun w hw=>⟨(h.rw w hw).2,?_⟩,fun x hx=>⟨(h.cw x hx).2,by have:=(h.cw x hx).1;omega⟩,h.rl,h.cl⟩
  obtain ⟨i,hi,he⟩:=List.getElem_of_mem hw
  have:=h.short i w (by rw [List.getElem?_eq_getElem hi,he])
  have:=h.rl
  omega
theorem GS {c:C} {L:W→Bool} {ok:W→Prop} (hc:FF Tryz.prog TB c L ok) (al:Int) (w:W) (hl:w.length≤1099511627776):Pure Tryz.prog TB 78 [O2 al c,eT w] (eB (Gc al w)):=by
  have h1:=Dn (TB:=TB) w al hl
  have hr:=Dk c hc.Bc
  have he:Gc al w=(decide ((w.length:Int)≤4000) && within w al):=by unfold Gc;rw [Bool.and_comm];congr 1;rw [decide_eq_decide];omega
  rw [he]
  refine eG Tryz.func78 rfl (by kernel_rfl) rfl ?_;intro Γ hΓ
  (repeat first|refine aU rfl ?_)
  (refine pW rfl ?_ rfl (by rfl);refine E6 rfl rfl ?_)
  (repeat first|refine tA rfl ?_ |refine s2 rfl fun _ _hb=>?_ |(refine sC rfl (h1) ?_;intro _ _hb) |refine s3 rfl ?_ ?_<;>rintro rfl |refine aU rfl ?_ |refine Aa ?_)
  (repeat' first|refine tA rfl ?_ |(refine sC rfl (h1) ?_;intro _ _hb) |refine Aa ?_|(refine aC rfl ?_ ?_<;>rintro ⟨⟩));all_goals try contradiction
  all_goals (subst_vars;refine aR ⟨_,rfl,?_⟩;show E.o _=E.o _;congr;grind)
end Go.Am
namespace Go.Am
open Go Go.Proofs
set_option maxHeartbeats 1000000
attribute [local irreducible] AR BZ Lex Bm Aj Spec
variable {TB:Ba}
theorem En {c:C} {L:W→Bool} {ok:W→Prop} (hc:FF Tryz.prog TB c L ok) (al:Int) (hal:Bq al=true) (t:A3) (hf:OK al t→JW ok (Bl al) t) (hz:PU t) :
    Pure Tryz.prog TB 58 [O2 al c,Cn t] (eB (AL L al t)):=by
  have hr:=Dk c hc.Bc
  have hrl:=hz.rl
  have hcl:=hz.cl
  have hal0:0≤al:=by unfold Bq at hal;simp at hal;omega
  by_cases h0:Gl al t=true
  · have hss : Dw al t=(Dd (rowAt al t.rows) t.rows.length && Dd (FR al t.cols) t.cols.length):=by unfold Dw;rw [h0];rfl
    have hvv:AL L al t=((Dd (rowAt al t.rows) t.rows.length && Dd (FR al t.cols) t.cols.length) && decide (AB L t).Nodup):=by unfold AL;rw [hss]
    unfold Gl at h0
    simp only [Bool.and_eq_true,decide_eq_true_eq] at h0
    obtain ⟨h1,h2,h3,h4,h5⟩:=h0
    have h4':=get_map (g:=BH) (k:=0) h4
    have h5':=get_map (g:=BH) (k:=0) h5
    have e0:((0:Nat):Int).toNat=(0:Int).toNat:=rfl
    rw [e0] at h4' h5'
    have hdr:((t.rows.map BH).drop (1:Int).toNat).length=t.rows.length - 1:=by simp
    have hdc:((t.cols.map BH).drop (1:Int).toNat).length=t.cols.length - 1:=by simp
    refine eG Tryz.func58 rfl (by kernel_rfl) rfl ?_;intro Γ hΓ
    (repeat first|refine aU rfl ?_)
    (refine pW rfl ?_ rfl (by rfl);refine E6 rfl rfl ?_)
    (refine Ag rfl ?_;refine Di (fun _ _=>Ek rfl rfl rfl) rfl ?_)
    (repeat first|refine tA rfl ?_ |refine aU rfl ?_ |refine Aa ?_)
    refine rG (Hf []) (by kernel_rfl) ?_
    (repeat first|refine sN rfl ?_ |refine tA rfl ?_ |refine s2 rfl fun _ _hb=>?_ |refine s3 rfl ?_ ?_<;>rintro rfl |refine aU rfl ?_ |refine Aa ?_)
    (repeat' first|refine sN rfl ?_ |refine tA rfl ?_ |(refine s4 rfl ‹_› rfl ?_ ?_;omega) |refine s2 rfl fun _ _hb=>?_ |refine s3 rfl ?_ ?_<;>rintro rfl |refine aU rfl ?_ |refine Aa ?_|(refine aC rfl ?_ ?_<;>rintro ⟨⟩));all_goals try contradiction
    all_goals first
      | (exfalso;(simp only[oZ] at *;omega);done)
      | (exfalso;simp at *;done)
      | skip
    refine aK ?_
    (repeat first|refine tA rfl ?_|(refine Ag rfl ?_;refine gA rfl ?_;first| refine gS (fun _ _=>Qw rfl rfl (by simp) (by omega) (by (simp only[oZ] at *;omega))) ?_) |refine aU rfl ?_ |refine Aa ?_)
    refine aB ?_
    refine aL (α:={k:Nat // k+1≤t.rows.length∧Dd (rowAt al t.rows) (k+1)=true}) [2,3,5,6,46,47] [0] rfl rfl (fun ⟨k,hk,ha⟩=>[(48,eI .i64 k)]) (fun ⟨k,hk,ha⟩=>[]) 1 (fun ⟨k,hk,ha⟩=>t.rows.length - k) (⟨0,by omega,rfl⟩) hΓ rfl (by (simp[cX,zC,hΓ,hr])) ?_;rintro ⟨k,hk,ha⟩;(try dsimp only[cA,cB])
    by_cases hlt:k+1 < t.rows.length
    · obtain ⟨x,hx⟩:=get_some hlt
      have hx':((t.rows.map BH).drop (1:Int).toNat)[((k:Nat):Int).toNat]? = some (BH x):=by rw [List.getElem?_drop,Nat.add_comm];simp [hx]
      have hxb:=hz.rb x (List.mem_of_getElem? hx)
      have hra:rowAt al t.rows (k+1)=(!decide (x.length=0) && (within x al && decide (x.dropLast∈t.rows.take (k+1)))):=by unfold rowAt;rw [hx]
      have hww:=Dn (TB:=TB) x al (by omega)
      have hin:Pure Tryz.prog TB 109 [.o (.d (.l ((t.rows.map BH).take ((k:Int)+1).toNat))),eT (x.take ((x.length:Int) - 1).toNat)] (eB (decide (x.dropLast∈t.rows.take (k+1)))):=by
        have e1:(x.take ((x.length:Int) - 1).toNat)=x.dropLast:=by rw [List.dropLast_eq_take];congr 1;omega
        rw [e1,show ((k:Int)+1).toNat=k+1 by omega,←List.map_take]
        exact Jh _ _
      have hxe:(x=[])↔x.length=0:=by rw [List.length_eq_zero_iff]
      (repeat first|refine s2 rfl fun _ _hb=>?_ |refine aU rfl ?_ |refine Aa ?_)
      ((refine aC rfl ?_ ?_<;>rintro ⟨⟩);all_goals try(exfalso;(simp only[oZ] at *;omega)))
      refine aK ?_
      refine aS (aB ?_)
      (repeat first|refine tA rfl ?_ |(refine s4 rfl ‹_› rfl ?_ ?_;omega) |refine aU rfl ?_ |refine Aa ?_)
      refine rG (Hf []) (by kernel_rfl) ?_
      by_cases hx0:x=[]
      · rw [decide_eq_true (hxe.1 hx0)] at hra
        (repeat' first|(refine sA rfl ?_ ?_;first|exact tI|omega) |refine s2 rfl fun _ _hb=>?_ |(refine sC rfl (hww) ?_;intro _ _hb)|(refine sC rfl (hin) ?_;intro _ _hb) |refine s3 rfl ?_ ?_<;>rintro rfl |refine aU rfl ?_ |refine Aa ?_|(refine aC rfl ?_ ?_<;>rintro ⟨⟩));all_goals try contradiction
        all_goals first
          | (exfalso;simp at *;grind;done)
          | (refine aR ⟨_,rfl,?_⟩;show eB false=eB _;rw [hvv,EX (by omega) hlt (by rw [hra];rfl)];rfl)
      · have hpos:0 < x.length:=List.length_pos_iff.2 hx0
        (repeat' first|(refine sA rfl ?_ ?_;first|exact tI|omega) |refine s2 rfl fun _ _hb=>?_ |(refine sC rfl (hww) ?_;intro _ _hb)|(refine sC rfl (hin) ?_;intro _ _hb)|(refine Ag rfl ?_;refine gA rfl ?_;first| refine gS (fun _ _=>GJ rfl rfl (by simp) (by omega) (by (simp only[oZ] at *;omega))) ?_|refine gS (fun _ _=>MX rfl rfl (by omega) (by omega)) ?_) |refine s3 rfl ?_ ?_<;>rintro rfl |refine aU rfl ?_ |refine Aa ?_|(refine aC rfl ?_ ?_<;>rintro ⟨⟩));all_goals try contradiction
        all_goals first
          | (exfalso;exact hx0 (of_decide_eq_true ‹decide (x=[])=true›);done)
          | (refine aR ⟨_,rfl,?_⟩;show eB false=eB _;rw [hvv,EX (by omega) hlt (by rw [hra];grind)];rfl)
          | (have hst:=Fj ha (by rw [hra];grind)
             refine aK ?_
             (repeat first|(refine sA rfl ?_ ?_;first|exact tI|omega) |refine aU rfl ?_ |refine Aa ?_)
             refine ⟨⟨k+1,by omega,hst⟩,by dsimp only;(omega),[0],?_⟩
             simp[cX,zC,hΓ,hr])
    · obtain hke:k+1=t.rows.length:=by omega
      rw [hke] at ha
      rw [ha,Bool.true_and] at hvv
      (repeat first|refine s2 rfl fun _ _hb=>?_ |refine aU rfl ?_ |refine Aa ?_)
      ((refine aC rfl ?_ ?_<;>rintro ⟨⟩);all_goals try(exfalso;(simp only[oZ] at *;omega)))
      refine aE ?_
      (repeat first|refine tA rfl ?_|(refine Ag rfl ?_;refine gA rfl ?_;first| refine gS (fun _ _=>Qw rfl rfl (by simp) (by omega) (by (simp only[oZ] at *;omega))) ?_) |refine aU rfl ?_ |refine Aa ?_)
      refine aB ?_
      have hra1:=ha
      clear hke ha hk
      refine aL (α:={k:Nat // k+1≤t.cols.length∧Dd (FR al t.cols) (k+1)=true}) [2,3,5,6,77,78] [0] rfl rfl (fun ⟨k,hk,ha⟩=>[(79,eI .i64 k)]) (fun ⟨k,hk,ha⟩=>[]) 1 (fun ⟨k,hk,ha⟩=>t.cols.length - k) (⟨0,by omega,rfl⟩) hΓ rfl (by (simp[cX,zC,hΓ,hr])) ?_;rintro ⟨k,hk,ha⟩;(try dsimp only[cA,cB])
      by_cases hlt:k+1 < t.cols.length
      · obtain ⟨x,hx⟩:=get_some hlt
        have hx':((t.cols.map BH).drop (1:Int).toNat)[((k:Nat):Int).toNat]? = some (BH x):=by rw [List.getElem?_drop,Nat.add_comm];simp [hx]
        have hxb:=hz.cb x (List.mem_of_getElem? hx)
        have hra:FR al t.cols (k+1)=(decide (x.length≤4000) && (within x al && !decide (x∈t.cols.take (k+1)))):=by unfold FR;rw [hx]
        have hcw:=GS (TB:=TB) hc al x (by omega)
        have hin:Pure Tryz.prog TB 109 [.o (.d (.l ((t.cols.map BH).take ((k:Int)+1).toNat))),eT x] (eB (decide (x∈t.cols.take (k+1)))):=by
          rw [show ((k:Int)+1).toNat=k+1 by omega,←List.map_take]
          exact Jh _ _
        (repeat first|refine s2 rfl fun _ _hb=>?_ |refine aU rfl ?_ |refine Aa ?_)
        ((refine aC rfl ?_ ?_<;>rintro ⟨⟩);all_goals try(exfalso;(simp only[oZ] at *;omega)))
        refine aK ?_
        refine aS (aB ?_)
        (repeat first|refine tA rfl ?_ |(refine s4 rfl ‹_› rfl ?_ ?_;omega) |refine aU rfl ?_ |refine Aa ?_)
        (repeat' first|(refine sA rfl ?_ ?_;first|exact tI|omega) |refine s2 rfl fun _ _hb=>?_ |(refine sC rfl (hin) ?_;intro _ _hb)|(refine Ag rfl ?_;refine gA rfl ?_;first| (refine gB (fun _ _=>Bb rfl rfl (by simp [E.Bc,C.BR,C.Bc,hc.Bc,eC]) hcw rfl) ?_;intro _ _hb)|refine gS (fun _ _=>GJ rfl rfl (by simp) (by omega) (by (simp only[oZ] at *;omega))) ?_) |refine s3 rfl ?_ ?_<;>rintro rfl |refine aU rfl ?_ |refine Aa ?_|(refine aC rfl ?_ ?_<;>rintro ⟨⟩));all_goals try contradiction
        all_goals first
          | (refine aR ⟨_,rfl,?_⟩;show eB false=eB _;rw [hvv,EX (by omega) hlt (by rw [hra];unfold Gc at *;grind)];rfl)
          | (have hst:=Fj ha (by rw [hra];unfold Gc at *;grind)
             refine aK ?_
             (repeat first|(refine sA rfl ?_ ?_;first|exact tI|omega) |refine aU rfl ?_ |refine Aa ?_)
             refine ⟨⟨k+1,by omega,hst⟩,by dsimp only;(omega),[0],?_⟩
             simp[cX,zC,hΓ,hr])
      · obtain hke:k+1=t.cols.length:=by omega
        rw [hke] at ha
        rw [ha,Bool.true_and] at hvv
        have hsf:OK al t:=KZ (by rw [hss,hra1,ha];rfl)
        have hask:=(hsf.bd.UC (hf hsf) (by omega)).1
        have hnv:=Pr L t
        have hml:(E5 (A5 L t t.rows.length)).length=(A5 L t t.rows.length).length:=by simp [E5]
        (repeat first|refine s2 rfl fun _ _hb=>?_ |refine aU rfl ?_ |refine Aa ?_)
        ((refine aC rfl ?_ ?_<;>rintro ⟨⟩);all_goals try(exfalso;(simp only[oZ] at *;omega)))
        refine aE ?_
        (repeat first|refine tA rfl ?_ |refine aU rfl ?_)
        (refine pW rfl ?_ rfl (by rfl);refine Ac [] rfl rfl (EJ hc al t hask) ⟨rfl,by simp,by simp⟩ (by simp [Ds,E.AO,C.BE,C.AO,hr,eC]) trivial ?_;rintro x0 σ1 nx1 ⟨rfl,rfl,rfl⟩ _)
        (repeat first|refine sN rfl ?_ |refine tA rfl ?_ |refine s2 rfl fun _ _hb=>?_|(refine Ag rfl ?_;refine gA rfl ?_;first| refine gQ (Vm rfl rfl) (by rfl) ?_) |refine Aa ?_)
        refine aR ⟨_,rfl,?_⟩
        rw [hvv]
        subst_vars
        show eB _=eB _
        congr 4
        rw [eq_iff_iff]
        exact ⟨fun h=>hnv.1 (by omega),fun h=>by have:=hnv.2 h;omega⟩
  · have hvv:AL L al t=false:=by unfold AL Dw;simp [h0]
    rw [hvv]
    have h0':¬((1≤t.rows.length∧t.rows.length≤12)∧(1≤t.cols.length∧t.cols.length≤20)∧t.rows[0]? = some []∧t.cols[0]? = some []):=by
      intro h;apply h0;unfold Gl;simp [h,hal0]
    have hR':(t.rows.map BH)[(0:Int).toNat]? = (t.rows[0]?).map BH:=by simp
    have hC':(t.cols.map BH)[(0:Int).toNat]? = (t.cols[0]?).map BH:=by simp
    have hRn:t.rows[0]? = none→t.rows.length=0:=fun h=>by have:=List.getElem?_eq_none_iff.1 h;omega
    have hCn:t.cols[0]? = none→t.cols.length=0:=fun h=>by have:=List.getElem?_eq_none_iff.1 h;omega
    refine eG Tryz.func58 rfl (by kernel_rfl) rfl ?_;intro Γ hΓ
    (repeat first|refine aU rfl ?_)
    (refine pW rfl ?_ rfl (by rfl);refine E6 rfl rfl ?_)
    (refine Ag rfl ?_;refine Di (fun _ _=>Ek rfl rfl rfl) rfl ?_)
    (repeat first|refine tA rfl ?_ |refine aU rfl ?_ |refine Aa ?_)
    refine rG (Hf []) (by kernel_rfl) ?_
    cases hR:t.rows[0]?<;>cases hC:t.cols[0]?<;>rw [hR] at hR' h0'<;>rw [hC] at hC' h0'<;>(
      (repeat first|refine sN rfl ?_ |refine tA rfl ?_ |refine s2 rfl fun _ _hb=>?_ |refine s3 rfl ?_ ?_<;>rintro rfl |refine aU rfl ?_ |refine Aa ?_)
      (repeat' first|refine sN rfl ?_ |refine tA rfl ?_ |(refine s4 rfl ‹_› rfl ?_ ?_;omega) |refine s2 rfl fun _ _hb=>?_ |refine s3 rfl ?_ ?_<;>rintro rfl |refine aU rfl ?_ |refine Aa ?_|(refine aC rfl ?_ ?_<;>rintro ⟨⟩));all_goals try contradiction
      all_goals first
        | (subst_vars;exact aR ⟨_,rfl,rfl⟩)
        | (exfalso;grind;done))
end Go.Am
namespace Go.Am
open Go Go.Proofs
set_option linter.unusedVariables false
def C6 (n:Nat) (p:W→Prop):Prop:=∃l:List W,l.length≤n∧∀w,p w→w∈l
theorem C6.or {a b:Nat} {p q:W→Prop} (h:C6 a p) (h':C6 b q):C6 (a+b) (fun w=>p w∨q w):=by
  obtain ⟨l,h1,h2⟩:=h
  obtain ⟨l',h3,h4⟩:=h'
  exact ⟨l++l',by simp;omega,fun w hw=>List.mem_append.2 (hw.imp (h2 w) (h4 w))⟩
theorem C6.sub {a b:Nat} {p q:W→Prop} (h:C6 a p) (hs:∀w,q w→p w) (hb:a≤b):C6 b q:=by
  obtain ⟨l,h1,h2⟩:=h
  exact ⟨l,by omega,fun w hw=>h2 w (hs w hw)⟩
theorem C6.none {n:Nat} {p:W→Prop} (h:∀w,¬p w):C6 n p:=⟨[],by simp,fun w hw=>absurd hw (h w)⟩
theorem C6.if {n:Nat} {p:W→Prop} {c:Prop} (h:c→C6 n p):C6 n (fun w=>c∧p w):=by
  by_cases hc:c
  · exact (h hc).sub (fun w hw=>hw.2) (Nat.le_refl _)
  · exact .none fun w hw=>hc hw.1
theorem Ks {α β:Type} (f:α→List β) (b:Nat):∀(l:List α),(∀x∈l,(f x).length≤b)→(l.flatMap f).length≤l.length*b
  | [],_=>by simp
  | x::l,h=>by
    have h1:=Ks f b l fun y hy=>h y (by simp [hy])
    have h2:=h x (by simp)
    rw [List.flatMap_cons,List.length_append,List.length_cons,Nat.succ_mul]
    omega
theorem C6.ex {α:Type} {n b:Nat} {p:W→Prop} {q:α→W→Prop} (l:List α) (hl:l.length≤n) (hq:∀x∈l,C6 b (q x)) (h:∀w,p w→∃x∈l,q x w):C6 (n*b) p:=by
  classical
  have hf:∀x:α,∃k:List W,x∈l→k.length≤b∧∀w,q x w→w∈k:=fun x=>by
    by_cases hx:x∈l
    · obtain ⟨k,h1,h2⟩:=hq x hx;exact ⟨k,fun _=>⟨h1,h2⟩⟩
    · exact ⟨[],fun h=>absurd h hx⟩
  have hg:=fun x=>Classical.choose_spec (hf x)
  refine ⟨l.flatMap fun x=>Classical.choose (hf x),Nat.le_trans (Ks _ b l fun x hx=>(hg x hx).1) (Nat.mul_le_mul_right b hl),fun w hw=>?_⟩
  obtain ⟨x,hx,hxw⟩:=h w hw
  exact List.mem_flatMap.2 ⟨x,hx,(hg x hx).2 w hxw⟩
theorem C6.map {α:Type} {n:Nat} {p:W→Prop} (f:α→W) (l:List α) (hl:l.length≤n) (h:∀w,p w→∃x∈l,w=f x):C6 n p:=
  ⟨l.map f,by simpa using hl,fun w hw=>by obtain ⟨x,hx,rfl⟩:=h w hw;exact List.mem_map.2 ⟨x,hx,rfl⟩⟩
theorem UU (al:Int):(Bl al).length≤6:=by
  unfold Bl
  rw [List.length_map]
  exact AI al 6
theorem Ra {al:Int} {b:Nat} {t:A3} (h:Hz al b t):C6 1764 (NB (Bl al) t):=by
  have hrl:=h.rl
  have hcl:=h.cl
  refine C6.ex (n:=12) (b:=147) (q:=fun r v=>∃m:W,(m=[]∨∃l∈Bl al,m=[l])∧∃x:W,(x=[]∨x∈t.cols)∧v=r++m++x) t.rows hrl (fun r _=>?_) fun w hw=>hw
  refine C6.ex (n:=7) (b:=21) (q:=fun m v=>∃x:W,(x=[]∨x∈t.cols)∧v=r++m++x) ([]::(Bl al).map fun l=>[l]) (by have:=UU al;simp;omega) (fun m _=>?_) fun w hw=>?_
  · exact C6.map (fun x=>r++m++x) ([]::t.cols) (by simp;omega) fun w ⟨x,hx,hw⟩=>⟨x,by simpa using hx,hw⟩
  · obtain ⟨m,hm,h3⟩:=hw
    refine ⟨m,?_,h3⟩
    rcases hm with rfl|⟨l,hl,rfl⟩
    · simp
    · exact List.mem_cons_of_mem _ (List.mem_map.2 ⟨l,hl,rfl⟩)
theorem LP {L:W→Bool} {ls:List UInt8}:∀(n:Nat) (t:A3),(DB L ls n t).length≤n+1
  | 0,t=>by simp [DB]
  | n + 1,t=>by
    unfold DB
    cases A9 L ls t with
    | none=>simp
    | some w=>
      dsimp only
      split
      · simp
      · have:=LP (L:=L) (ls:=ls) n ⟨t.rows++[w],t.cols⟩
        simp;omega
theorem QZ {L:W→Bool} {al:Int} {b:Nat} {t:A3} (h:Hz al b t):C6 24696 (fun v=>∃y∈DB L (Bl al) 13 t,NB (Bl al) y v):=
  C6.ex (n:=14) (b:=1764) (q:=fun y v=>NB (Bl al) y v) (DB L (Bl al) 13 t) (LP 13 t) (fun y hy=>Ra (h.grow hy)) fun w hw=>hw
def okB (al:Int) (w:W):Prop:=AV (Bl al) w∧w.length≤50000
theorem To (al:Int):OR (okB al) al:=fun w h1 h2=>⟨h1,h2⟩
theorem QK {α:Type}:∀(l m:List α),l.Nodup→(∀x∈l,x∈m)→l.length≤m.length
  | [],_,_,_=>by simp
  | x :: l,m,hn,hs=>by
    obtain ⟨a,b,rfl⟩:=List.append_of_mem (hs x (by simp))
    rw [List.nodup_cons] at hn
    have h:=QK l (a++b) hn.2 fun y hy=>by
      have h1:=hs y (List.mem_cons_of_mem _ hy)
      simp only [List.mem_append,List.mem_cons] at h1 ⊢
      rcases h1 with h1|rfl|h1
      · exact .inl h1
      · exact absurd hy hn.1
      · exact .inr h1
    simp at h ⊢;omega
theorem Qc {t:B3} {n:Nat} {p:W→Prop} {al:Int} (h:C6 n p) (hn:n≤20000000) (hb:∀w,p w→okB al w):VL t p:=by
  obtain ⟨k,hk,hm⟩:=h
  intro l hnd hl
  have hsub:l ⊆ B9 t::(k.filter fun w=>w.length≤50000).flatMap fun w=>(List.range 50001).map fun i=>KS t (B9 t) (w.take i):=fun F hF=>by
    rcases hl F hF with rfl|⟨u,v,ho,rfl⟩
    · simp
    · have h1:=(hb _ ho).2
      refine List.mem_cons_of_mem _ (List.mem_flatMap.2 ⟨u++v,List.mem_filter.2 ⟨hm _ ho,by simpa using h1⟩,List.mem_map.2 ⟨u.length,List.mem_range.2 (by simp at h1;omega),by simp⟩⟩)
  have h1:=QK _ _ hnd hsub
  have h2:=Ks (fun w:W=>(List.range 50001).map fun i=>KS t (B9 t) (w.take i)) 50001 (k.filter fun w=>w.length≤50000) (fun x _=>by simp)
  have h3:(k.filter fun w=>w.length≤50000).length≤n:=Nat.le_trans (List.length_filter_le _ _) hk
  rw [List.length_cons] at h1
  have h4:(k.filter fun w=>decide (w.length≤50000)).length*50001≤20000000*50001:=Nat.mul_le_mul_right _ (by omega)
  omega
theorem X9 {al:Int} {w:W} (h:okB al w):Xt al w:=⟨h.1,Nat.le_trans h.2 (by omega)⟩
theorem QO {te:Dx} {n:Nat} {p:W→Prop} (h:C6 n p) (hn:n≤20000000) (hb:∀w,p w→okB (AM te) w):(∀w,p w→Xt (AM te) w)∧Nj te p:=by
  refine ⟨fun w hw=>X9 (hb w hw),?_⟩
  obtain ⟨kn,a,s,q,al⟩:=te
  cases kn with
  | true=>intro h;cases h
  | false=>exact fun _=>Qc h hn hb
def Si (te:Dx) (x:A3) (v:W):Prop:=OK (AM te) x∧∃y∈DB (CG te) (Bl (AM te)) 13 x,NB (Bl (AM te)) y v
theorem P0 {te:Dx} {x:A3}:∀v,Si te x v→okB (AM te) v:=fun v ⟨h,y,hy,hv⟩=>h.bd.ZU (To _) (by omega) y hy v hv
theorem LC (te:Dx) (x:A3):C6 24696 (Si te x):=C6.if fun h=>QZ h.bd
theorem PZ (te:Dx) (x:A3):∃ok:W→Prop,(∀w,ok w→Xt (AM te) w)∧Nj te ok∧(OK (AM te) x→∀y∈DB (CG te) (Bl (AM te)) 13 x,JW ok (Bl (AM te)) y):=by
  obtain ⟨h1,h2⟩:=QO (te:=te) (LC te x) (by omega) P0
  exact ⟨_,h1,h2,fun h y hy v hv=>⟨h,y,hy,hv⟩⟩
theorem UD (te:Dx) (x:A3) (w:W):∃ok:W→Prop,(∀w,ok w→Xt (AM te) w)∧Nj te ok∧(OK (AM te) x→∀y∈DB (CG te) (Bl (AM te)) 13 x,JW ok (Bl (AM te)) y)∧
    (OK (AM te) x→AV (Bl (AM te)) w∧w.length≤4000→∀c∈x.cols,ok (w++c)):=by
  obtain ⟨h1,h2⟩:=QO (te:=te) (p:=fun v=>Si te x v∨(OK (AM te) x∧AV (Bl (AM te)) w∧w.length≤4000)∧∃c∈x.cols,v=w++c)
    ((LC te x).or (b:=20) (C6.if fun h=>C6.map (fun c=>w++c) x.cols h.1.cl fun v hv=>hv)) (by omega) (fun v hv=>by
      rcases hv with hv|⟨⟨h,hw⟩,c,hc,rfl⟩
      · exact P0 v hv
      · have h3:=h.cw c hc
        refine ⟨fun d hd=>?_,by simp;omega⟩
        rcases List.mem_append.1 hd with hd|hd
        · exact hw.1 d hd
        · exact h3.2 d hd)
  exact ⟨_,h1,h2,fun h y hy v hv=>.inl ⟨h,y,hy,hv⟩,fun h hw c hc=>.inr ⟨⟨h,hw⟩,c,hc,rfl⟩⟩
end Go.Am
namespace Go.Am
open Go Go.Proofs
set_option maxHeartbeats 1000000
attribute [local irreducible] AR BZ Lex Bm Aj Spec
variable {TB:Ba}
theorem NF {A:W→Bool} {ls:List UInt8} {m:Nat} {u:A3} {w:W} {R:Option A3} (he:R=CM A ls (m+1) u) (ho:A9 A ls u=some w) (hl:u.rows.length < 12):R=CM A ls m ⟨u.rows++[w],u.cols⟩:=by
  rw [he]
  conv=>lhs;unfold CM
  rw [ho]
  dsimp only
  rw [if_neg (by omega)]
theorem J9 {t:Dx} {al:Int} {A:W→Bool} (hT:Hx Tryz.prog TB 60 101 t al A) (tab:A3) (hz:PU tab) :
    Pure Tryz.prog TB 69 [Cg t,Cn tab] (LM (if AL A al tab then CM A (Bl al) 13 tab else none)):=by
  have h1:=Dz hT tab hz
  by_cases hv:AL A al tab=true
  · rw [if_pos hv]
    rw [hv] at h1
    have hsh:OK al tab:=(BG hv).1
    have hr1:=hsh.r1
    have hc1:=hsh.c1
    have hrl:=hsh.rl
    have hcl:=hsh.cl
    refine eG Tryz.func69 rfl (by kernel_rfl) rfl ?_;intro Γ hΓ
    (repeat first|refine tA rfl ?_ |refine s2 rfl fun _ _hb=>?_ |refine sP rfl (h1) rfl ?_ |refine aU rfl ?_ |refine Aa ?_)
    ((refine aC rfl ?_ ?_<;>rintro ⟨⟩);all_goals try (simp at _hb;done))
    refine aK ?_
    (repeat first|refine aU rfl ?_)
    refine R.TW [(0,2),(1,2),(2,2),(4,2),(5,2),(6,2),(9,3),(3,1),(7,1),(8,2),(10,5)] mixed (by kernel_rfl) rfl (by kernel_rfl) ?_
    (repeat ((refine R.Ag rfl ?_;first|(refine R.yQ (md:=false) rfl rfl rfl ?_ ?_;exact tI) |refine R.yP rfl rfl rfl rfl ?_|refine R.Di (fun _ _ _=>EC (by rfl) (by rfl)) rfl rfl ?_ )))
    (refine R.Ag rfl ?_;refine R.HZ (fun _=>?_) rfl rfl;refine CD rfl rfl rfl (by intro r hr;simp at hr;obtain ⟨_,_,rfl⟩:=hr;rfl) (by rfl) (Nat.le_of_ble_eq_true rfl) (by simp;omega) (fun h=>?_) (fun _=>?_))
    · exfalso;simp at h;rw [h] at hr1;simp at hr1
    (refine R.Ag rfl ?_;refine R.HZ (fun _=>?_) rfl rfl;refine CD rfl rfl rfl (by intro r hr;simp at hr;obtain ⟨_,_,rfl⟩:=hr;rfl) (by rfl) (Nat.le_of_ble_eq_true rfl) (by simp;omega) (fun h=>?_) (fun _=>?_))
    · exfalso;simp at h;rw [h] at hc1;simp at hc1
    (repeat ((refine R.Ag rfl ?_;first|refine R.yA rfl rfl rfl rfl ?_|refine R.Di (fun _ _ _=>AD rfl rfl (by rfl) (by rfl)) rfl rfl ?_ )))
    refine R.MG ?_
    refine aS ?_
    refine Aj.Ak [2] [] rfl rfl [(4,.o (.ptr 0 2 0 0)),(6,.o (.ptr 3 2 0 0))] [(0,.cells 36 2 [[.d (.l []),.d (.l [])]]),(1,.cells 9 1 (tab.rows.map AJ)),(2,.cells 9 1 (tab.cols.map AJ)),(3,.cells 36 2 [[.arr 1 1 0 tab.rows.length,.arr 2 1 0 tab.cols.length]])] [0,1,2,3] (rl hΓ rfl) (by (simp[cX,zC,hΓ])) ?_;(try dsimp only[cA,cB])
    have hfo0:=Hj hT tab hz
    have htk:∀l:List W,((l.map AJ).drop 0).take l.length=(l.map BH).map (fun r=>r.map C.d):=fun l=>by rw [List.drop_zero,List.take_of_length_le (by simp)];simp [Function.comp_def]
    have hev:∀u:A3,Xk [(0,.cells 36 2 [[.d (.l []),.d (.l [])]]),(1,.cells 9 1 (u.rows.map AJ)),(2,.cells 9 1 (u.cols.map AJ)),(3,.cells 36 2 [[.arr 1 1 0 u.rows.length,.arr 2 1 0 u.cols.length]])] [Cg t,.a [.arr 1 1 0 u.rows.length,.arr 2 1 0 u.cols.length]] [Cg t,Cn u]:=fun u=>
      .cons (.cons (.pure rfl) (.cons (.pure rfl) (.cons (.pure rfl) (.cons (.pure rfl) (.cons (.pure rfl) (.cons (.pure rfl) (.cons (.pure rfl) (.cons (.pure rfl) (.cons (.pure rfl) (.cons (.pure rfl) (.cons (.pure rfl) .nil))))))))))) (.cons (.cons (.arr rfl (by simp) (htk _)) (.cons (.arr rfl (by simp) (htk _)) .nil)) .nil)
    have hop:∀x:A3,Sy (A9 A (Bl al) x)=.t [(false,[.d (tD ((A9 A (Bl al) x).getD []))]),(false,[.d (bD (A9 A (Bl al) x).isSome)])]:=fun x=>by cases A9 A (Bl al) x<;>rfl
    rw [hop] at hfo0
    (repeat first|refine tA rfl ?_|(refine Ag rfl ?_;refine gA rfl ?_;first| refine gQ (MT rfl rfl ((hev tab)) (hfo0) rfl) rfl ?_) |refine aU rfl ?_ |refine Aa ?_)
    obtain ⟨R,hR⟩:∃R,R=CM A (Bl al) 13 tab:=⟨_,rfl⟩
    rw [←hR]
    refine aB ?_
    refine aL (α:={p:Nat×A3 // p.1≤13∧13≤p.1+p.2.rows.length∧p.2.rows.length≤12∧p.2.cols.length≤20∧(∀w∈p.2.rows,w.length≤50000+p.2.rows.length)∧(∀w∈p.2.cols,w.length≤4000)∧R=CM A (Bl al) p.1 p.2}) [2,4,6] [0] rfl rfl (fun ⟨⟨m,u⟩,hm,hmu,hur,huc,hurb,hucb,he⟩=>[(7,eT ((A9 A (Bl al) u).getD [])),(8,eB (A9 A (Bl al) u).isSome)]) (fun ⟨⟨m,u⟩,hm,hmu,hur,huc,hurb,hucb,he⟩=>[(1,.cells 9 1 (u.rows.map AJ)),(2,.cells 9 1 (u.cols.map AJ)),(3,.cells 36 2 [[.arr 1 1 0 u.rows.length,.arr 2 1 0 u.cols.length]])]) 4 (fun ⟨⟨m,u⟩,hm,hmu,hur,huc,hurb,hucb,he⟩=>m) (⟨(13,tab),by simp,by simp,hrl,hcl,fun w hw=>by have:=(hsh.rw w hw).1;show w.length≤50000+tab.rows.length;omega,fun w hw=>(hsh.cw w hw).1,hR⟩) hΓ rfl (by (simp[cX,zC,hΓ])) ?_;rintro ⟨⟨m,u⟩,hm,hmu,hur,huc,hurb,hucb,he⟩;(try dsimp only[cA,cB])
    dsimp only at hm hmu hur huc hurb hucb he
    have hz0:A9 A (Bl al) u=none∨∃w,A9 A (Bl al) u=some w:=by cases A9 A (Bl al) u<;>simp
    rcases hz0 with ho|⟨w,ho⟩
    · rw [ho]
      have hn:R=some u:=by
        rw [he]
        obtain ⟨m',rfl⟩:∃m',m=m'+1:=⟨m - 1,by omega⟩
        simp [CM,ho]
      (repeat first|refine tA rfl ?_ |refine aU rfl ?_ |refine Aa ?_)
      ((refine aC rfl ?_ ?_<;>rintro ⟨⟩);all_goals try (simp at _hb;done))
      refine aE ?_
      (repeat first|refine tA rfl ?_ |refine aU rfl ?_ |refine Aa ?_)
      refine Aj.settle [(4,.o (.ip [AZ u.rows,AZ u.cols])),(5,eB true)] ⟨⟨_,rfl,.o (.box rfl (.cons (.full rfl (by simp [Function.comp_def]) (by simp)) (.cons (.full rfl (by simp [Function.comp_def]) (by simp)) .nil)))⟩,⟨_,rfl,.o .d⟩,trivial⟩ ?_
      refine aR ⟨_,rfl,?_⟩
      rw [hn];rfl
    · rw [ho]
      obtain ⟨m',rfl⟩:∃m',m=m'+1:=⟨m - 1,by omega⟩
      obtain ⟨⟨r,hr,l,hl,hw⟩,_⟩:=Hm ho
      have hwl:w.length≤50000+(u.rows++[w]).length:=by
        have:=hurb r hr
        rw [hw];simp;omega
      (repeat first|refine tA rfl ?_ |refine aU rfl ?_ |refine Aa ?_)
      ((refine aC rfl ?_ ?_<;>rintro ⟨⟩);all_goals try (simp at _hb;done))
      refine aK ?_
      refine aB ?_
      (repeat first|refine tA rfl ?_ |refine s2 rfl fun _ _hb=>?_ |refine aU rfl ?_ |refine Aa ?_)
      (refine aC rfl ?_ ?_<;>rintro ⟨⟩)
      · have h12:u.rows.length=12:=by (simp only[oZ] at *;omega)
        have hn:R=none:=by
          rw [he]
          simp [CM,ho,h12]
        (repeat first|refine tA rfl ?_|(refine Ag rfl ?_;refine gA rfl ?_;first| refine gS (fun _ _=>AD rfl rfl (by rfl) (by rfl)) ?_) |refine aU rfl ?_ |refine Aa ?_)
        refine Aj.settle [(4,.o (.ip [.l [],.l []])),(5,eB false)] ⟨⟨_,rfl,.o (.box rfl (.cons .d (.cons .d .nil)))⟩,⟨_,rfl,.o .d⟩,trivial⟩ ?_
        refine aR ⟨_,rfl,?_⟩
        rw [hn];rfl
      · have hlt:u.rows.length < 12:=by (simp only[oZ] at *;omega)
        have hst:=NF he ho hlt
        have hzu:PU ⟨u.rows++[w],u.cols⟩:=⟨by simp;omega,by dsimp only;omega,fun x hx=>by
          rcases List.mem_append.1 hx with hx|hx
          · have:=hurb x hx;omega
          · simp at hx;subst hx;simp at hwl;omega,fun x hx=>by have:=hucb x hx;omega⟩
        have hfo:=Hj hT ⟨u.rows++[w],u.cols⟩ hzu
        rw [hop] at hfo
        refine aK ?_
        (repeat first|refine tA rfl ?_ |refine aU rfl ?_)
        (refine pW rfl ?_ rfl (by rfl);refine Ax rfl rfl rfl (by first| (simp;done)|(simp;(omega))) rfl (by intro r hr;simp at hr;subst hr;rfl) (by rfl) (Nat.le_of_ble_eq_true rfl) (by simp;omega) ?_)
        (repeat first|refine tA rfl ?_)
        refine Aa ?_
        have hn1:∀x∈u.rows++[w],x.length≤50000+(u.rows++[w]).length:=fun x hx=>by
          rcases List.mem_append.1 hx with hx|hx
          · have:=hurb x hx;simp;omega
          · simp at hx;subst hx;exact hwl
        refine Aj.Ak [2,4,6] [] rfl rfl [] [(0,.cells 36 2 [[.d (.l []),.d (.l [])]]),(1,.cells 9 1 ((u.rows++[w]).map AJ)),(2,.cells 9 1 (u.cols.map AJ)),(3,.cells 36 2 [[.arr 1 1 0 (u.rows++[w]).length,.arr 2 1 0 u.cols.length]])] [0,4,2,3] (rl hΓ rfl) (by (simp[cX,zC,hΓ])) ?_;(try dsimp only[cA,cB])
        (repeat first|refine tA rfl ?_|(refine Ag rfl ?_;refine gA rfl ?_;first| refine gQ (MT rfl rfl ((hev ⟨u.rows++[w],u.cols⟩)) (hfo) rfl) rfl ?_) |refine aU rfl ?_ |refine Aa ?_)
        refine ⟨⟨⟨m',⟨u.rows++[w],u.cols⟩⟩,by dsimp only;omega,by simp;omega,by simp;omega,huc,hn1,hucb,hst⟩,by dsimp only;(omega),[0,1,2,3],?_⟩
        simp[cX,zC,hΓ]
  · have hv:AL A al tab=false:=by simpa using hv
    rw [if_neg (by simp [hv])]
    rw [hv] at h1
    refine eG Tryz.func69 rfl (by kernel_rfl) rfl ?_;intro Γ hΓ
    (repeat first|refine tA rfl ?_ |refine s2 rfl fun _ _hb=>?_ |refine sP rfl (h1) rfl ?_ |refine aU rfl ?_ |refine Aa ?_)
    ((refine aC rfl ?_ ?_<;>rintro ⟨⟩);all_goals try (simp at _hb;done))
    (repeat first|refine tA rfl ?_|(refine Ag rfl ?_;refine gA rfl ?_;first| refine gS (fun _ _=>AD rfl rfl (by rfl) (by rfl)) ?_) |refine aU rfl ?_ |refine Aa ?_)
    refine Aj.settle [(4,.o (.ip [.l [],.l []])),(5,eB false)] ⟨⟨_,rfl,.o (.box rfl (.cons .d (.cons .d .nil)))⟩,⟨_,rfl,.o .d⟩,trivial⟩ ?_
    refine aR ⟨_,rfl,rfl⟩
end Go.Am
