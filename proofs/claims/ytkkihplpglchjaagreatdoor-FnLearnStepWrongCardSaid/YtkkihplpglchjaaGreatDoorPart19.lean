/-
  The reference's tables: rows, shapes, validity.
-/
import Derived.Test.YtkkihplpglchjaaGreatDoorPart18
import Derived.Test.YtkkihplpglchjaaGreatDoorPart13
import Derived.Test.YtkkihplpglchjaaGreatDoorPart14
import Derived.Test.YtkkihplpglchjaaGreatDoorPart15
set_option linter.constructorNameAsVariable false
set_option linter.unusedSimpArgs false
set_option linter.unusedVariables false
namespace Go.Am
open Go Go.Proofs
set_option maxHeartbeats 1000000
attribute [local irreducible] A1 BZ Lex Bj Ai Spec
variable {TB:Bh}
theorem IK{t:Cx}{al:Int}{A:W→Bool}(hT:Hc Tryz.prog TB 60 101 t al A)(cols words:List W)(hl:cols.length≤4194304)(hw:∀w∈words,w.length≤4194305)(hb:∀x∈cols,x.length≤4194304)(hwl:words.length≤4194304) :
 Pure Tryz.prog TB 61 [B8 t,Bp cols,Bp words] (Bp (words.map (marks A cols))):=by
 refine eN Tryz.func61 rfl (by kernel_rfl) rfl ?_;intro Γ hΓ
 (repeat first|refine aU rfl ?_)
 (refine Af rfl ?_;refine Ci (fun _ _=>C0 rfl rfl rfl) rfl ?_)
 (repeat first|refine tX rfl ?_ |refine aU rfl ?_ |refine Aa ?_)
 (refine pW rfl ?_ rfl (by rfl);refine Ba rfl rfl rfl rfl (by simp) (by rfl) (by rfl) (by rfl) (by rfl) ?_)
 (repeat first|refine tX rfl ?_ |refine aU rfl ?_ |refine Aa ?_)
 refine aB ?_
 refine aL (α:={k:Nat // k≤words.length}) [1,2,3] [] rfl rfl (fun ⟨k,hk⟩=>[(7,.o (.arr 0 1 0 k)),(8,eI .i64 k)]) (fun ⟨k,hk⟩=>[(0,.cells 9 1 ((words.take k).map fun w=>[.d (tD (marks A cols w))]))]) 1 (fun ⟨k,hk⟩=>words.length - k) (⟨0,by omega⟩) hΓ rfl (by (simp[cX,zC,hΓ])) ?_;rintro⟨k,hk⟩;(try dsimp only[cA,cB])
 by_cases hlt:k < words.length
 ·obtain⟨x,hx⟩:=get_some hlt
  have hx':=get_map (g:=BD) hx
  have hr:=Kc hT cols x hl (hw x (List.mem_of_getElem? hx)) hb
  have hst:(words.take (k+1)).map (fun w=>[C.d (tD (marks A cols w))])=(words.take k).map (fun w=>[C.d (tD (marks A cols w))])++[[C.d (tD (marks A cols x))]]:=by rw [List.take_add_one,hx];simp
  (repeat first|refine sN rfl ?_ |refine tX rfl ?_ |refine s2 rfl fun _ _hb=>?_ |refine aU rfl ?_ |refine Aa ?_)
  (refine aC rfl ?_ ?_<;>rintro⟨⟩)
  ·refine aK ?_
   refine aS (aB ?_)
   refine rG (HN [9]) (by kernel_rfl) ?_
   (repeat first|refine tA rfl ?_ |(refine s4 rfl ‹_› rfl ?_ ?_;omega) |refine sP rfl (hr) rfl ?_)
   (refine pW rfl ?_ rfl (by rfl);refine Ax rfl rfl rfl (by first| (simp;done)|(simp;(omega))) rfl (by intro r hr;simp at hr;subst hr;rfl) (by rfl) (Nat.le_of_ble_eq_true rfl) (by simp;omega) ?_)
   (repeat first|(refine sA rfl ?_ ?_;first|exact tI|omega) |refine aU rfl ?_ |refine Aa ?_)
   refine⟨⟨k+1,by omega⟩,by dsimp only;(omega),[1],?_⟩
   simp[cX,zC,hΓ,hst]
  ·exfalso;(simp only[oZ] at *;omega)
 ·obtain rfl:k=words.length:=by omega
  rw [List.take_length]
  (repeat first|refine sN rfl ?_ |refine tX rfl ?_ |refine s2 rfl fun _ _hb=>?_ |refine aU rfl ?_ |refine Aa ?_)
  (refine aC rfl ?_ ?_<;>rintro⟨⟩)
  ·exfalso;(simp only[oZ] at *;omega)
  ·refine aE ?_
   (repeat first|refine tX rfl ?_ |refine aU rfl ?_ |refine Aa ?_)
   refine Ai.settle [(6,Bp (words.map (marks A cols)))] ⟨⟨_,rfl,.o (.full rfl (by simp [Function.comp_def]) (by simp))⟩,trivial⟩ ?_
   refine aR ⟨_,rfl,rfl⟩
def rowAt(al:Int)(l:List W)(i:Nat):Bool:=match l[i]? with
 | none=>true
 | some w=>!decide (w.length=0) && (within w al && decide (w.dropLast∈l.take i))
def G0(al:Int)(l:List W)(i:Nat):Bool:=match l[i]? with
 | none=>true
 | some w=>decide (w.length≤4000) && (within w al && !decide (w∈l.take i))
def Dt(f:Nat→Bool)(n:Nat):Bool:=(List.range n).all fun i=>decide (i=0) || f i
theorem GG{f:Nat→Bool}{k:Nat}(h:Dt f k=true)(hf:f k=true):Dt f (k+1)=true:=by
 unfold Dt at *
 rw [List.range_succ,List.all_append,h];simp [hf]
theorem Gc{f:Nat→Bool}{k n:Nat}(h0:0 < k)(h:k < n)(hf:f k=false):Dt f n=false:=by
 unfold Dt
 rw [List.all_eq_false]
 exact⟨k,List.mem_range.2 h,by simp [hf];omega⟩
def GR(al:Int)(t:AT):Bool:=decide (0≤al) && (decide (1≤t.rows.length∧t.rows.length≤12) && (decide (1≤t.cols.length∧t.cols.length≤20) && (decide (t.rows[0]? = some []) && decide (t.cols[0]? = some []))))
def DG(al:Int)(t:AT):Bool:=GR al t && (Dt (rowAt al t.rows) t.rows.length && Dt (G0 al t.cols) t.cols.length)
theorem P7(al:Int)(t:AT)(hz:Ly t):Pure Tryz.prog TB 59 [eI .i64 al,BV t] (eB (DG al t)):=by
 have hrl:=hz.rl
 have hcl:=hz.cl
 by_cases h0:GR al t=true
 ·have hss : DG al t=(Dt (rowAt al t.rows) t.rows.length && Dt (G0 al t.cols) t.cols.length):=by unfold DG;rw [h0];rfl
  rw [hss]
  unfold GR at h0
  simp only [Bool.and_eq_true,decide_eq_true_eq] at h0
  obtain⟨h1,h2,h3,h4,h5⟩:=h0
  have h4':=get_map (g:=BD) (k:=0) h4
  have h5':=get_map (g:=BD) (k:=0) h5
  have e0:((0:Nat):Int).toNat=(0:Int).toNat:=rfl
  rw [e0] at h4' h5'
  refine eN Tryz.func59 rfl (by kernel_rfl) rfl ?_;intro Γ hΓ
  (repeat' first|refine sN rfl ?_ |refine tA rfl ?_ |(refine s4 rfl ‹_› rfl ?_ ?_;omega) |refine s2 rfl fun _ _hb=>?_ |refine s3 rfl ?_ ?_<;>rintro rfl |refine aU rfl ?_ |refine Aa ?_|(refine aC rfl ?_ ?_<;>rintro⟨⟩)|refine aK ?_|refine aE ?_|refine aB ?_|refine aR ⟨_,rfl,?_⟩)
  all_goals first
   | (exfalso;(simp only[oZ] at *;omega);done)
   | (exfalso;simp at *;done)
   | skip
  refine aL (α:={k:Nat // 1≤k∧k≤t.rows.length∧Dt (rowAt al t.rows) k=true}) [0,3,5,6] [] rfl rfl (fun ⟨k,hk1,hk,ha⟩=>[(7,eI .i64 k)]) (fun ⟨k,hk1,hk,ha⟩=>[]) 0 (fun ⟨k,hk1,hk,ha⟩=>t.rows.length - k) (⟨1,by omega,by omega,rfl⟩) hΓ rfl (by (simp[cX,zC,hΓ])) ?_;rintro⟨k,hk1,hk,ha⟩;(try dsimp only[cA,cB])
  by_cases hlt:k < t.rows.length
  ·obtain⟨x,hx⟩:=get_some hlt
   have hx':=get_map (g:=BD) hx
   have hxb:=hz.rb x (List.mem_of_getElem? hx)
   have hra:rowAt al t.rows k=(!decide (x.length=0) && (within x al && decide (x.dropLast∈t.rows.take k))):=by unfold rowAt;rw [hx]
   have hww:=DC (TB:=TB) x al (by omega)
   have hin:Pure Tryz.prog TB 62 [.o (.d (.l ((t.rows.map BD).take ((k:Nat):Int).toNat))),eT (x.take ((x.length:Int) - 1).toNat)] (eB (decide (x.dropLast∈t.rows.take k))):=by
    have e1:(x.take ((x.length:Int) - 1).toNat)=x.dropLast:=by rw [List.dropLast_eq_take];congr 1;omega
    rw [e1,Int.toNat_natCast,←List.map_take]
    exact Gg _ _ (by simp;omega)
   (repeat first|refine tA rfl ?_ |refine s2 rfl fun _ _hb=>?_ |refine aU rfl ?_ |refine Aa ?_)
   (refine aC rfl ?_ ?_<;>rintro⟨⟩)
   ·(repeat' first|(refine sA rfl ?_ ?_;first|exact tI|omega) |(refine s4 rfl ‹_› rfl ?_ ?_;omega) |refine s2 rfl fun _ _hb=>?_ |(refine sC rfl (hww) ?_;intro _ _hb)|(refine sC rfl (hin) ?_;intro _ _hb)|(refine Af rfl ?_;refine gA rfl ?_;first| refine gS (fun _ _=>HZ rfl rfl (by simp) (by omega) (by (simp only[oZ] at *;omega))) ?_|refine gS (fun _ _=>Ls rfl rfl (by (simp only[oZ] at *;omega)) (by omega)) ?_) |refine s3 rfl ?_ ?_<;>rintro rfl |refine aU rfl ?_ |refine Aa ?_ |refine rE (by kernel_rfl) ?_|(refine aC rfl ?_ ?_<;>rintro⟨⟩)|refine aK ?_|refine aE ?_|refine aB ?_|refine aR ⟨_,rfl,?_⟩)
    all_goals first
     | (show eB false=eB _;rw [Gc (by omega) hlt (by rw [hra];grind)];rfl)
     | (have hst:=GG ha (by rw [hra];grind);refine⟨⟨k+1,by omega,by omega,hst⟩,by dsimp only;(omega),[],?_⟩;simp[cX,zC,hΓ])
   ·exfalso;(simp only[oZ] at *;omega)
  ·obtain rfl:k=t.rows.length:=by omega
   rw [ha]
   (repeat first|refine tA rfl ?_ |refine s2 rfl fun _ _hb=>?_ |refine aU rfl ?_ |refine Aa ?_)
   (refine aC rfl ?_ ?_<;>rintro⟨⟩)
   ·exfalso;(simp only[oZ] at *;omega)
   ·(repeat' first|refine tA rfl ?_ |refine aU rfl ?_ |refine Aa ?_|(refine aC rfl ?_ ?_<;>rintro⟨⟩)|refine aK ?_|refine aE ?_|refine aB ?_|refine aR ⟨_,rfl,?_⟩)
    refine aL (α:={k:Nat // 1≤k∧k≤t.cols.length∧Dt (G0 al t.cols) k=true}) [0,3,6] [] rfl rfl (fun ⟨k,hk1,hk,ha⟩=>[(9,eI .i64 k)]) (fun ⟨k,hk1,hk,ha⟩=>[]) 0 (fun ⟨k,hk1,hk,ha⟩=>t.cols.length - k) (⟨1,by omega,by omega,rfl⟩) hΓ rfl (by (simp[cX,zC,hΓ])) ?_;rintro⟨k,hk1,hk,ha⟩;(try dsimp only[cA,cB])
    by_cases hlt:k < t.cols.length
    ·obtain⟨x,hx⟩:=get_some hlt
     have hx':=get_map (g:=BD) hx
     have hxb:=hz.cb x (List.mem_of_getElem? hx)
     have hra:G0 al t.cols k=(decide (x.length≤4000) && (within x al && !decide (x∈t.cols.take k))):=by unfold G0;rw [hx]
     have hww:=DC (TB:=TB) x al (by omega)
     have hin:Pure Tryz.prog TB 62 [.o (.d (.l ((t.cols.map BD).take ((k:Nat):Int).toNat))),eT x] (eB (decide (x∈t.cols.take k))):=by
      rw [Int.toNat_natCast,←List.map_take]
      exact Gg _ _ (by simp;omega)
     (repeat first|refine tA rfl ?_ |refine s2 rfl fun _ _hb=>?_ |refine aU rfl ?_ |refine Aa ?_)
     (refine aC rfl ?_ ?_<;>rintro⟨⟩)
     ·(repeat' first|(refine sA rfl ?_ ?_;first|exact tI|omega) |(refine s4 rfl ‹_› rfl ?_ ?_;omega) |refine s2 rfl fun _ _hb=>?_ |(refine sC rfl (hww) ?_;intro _ _hb)|(refine sC rfl (hin) ?_;intro _ _hb)|(refine Af rfl ?_;refine gA rfl ?_;first| refine gS (fun _ _=>HZ rfl rfl (by simp) (by omega) (by (simp only[oZ] at *;omega))) ?_) |refine s3 rfl ?_ ?_<;>rintro rfl |refine aU rfl ?_ |refine Aa ?_|(refine aC rfl ?_ ?_<;>rintro⟨⟩)|refine aK ?_|refine aE ?_|refine aB ?_|refine aR ⟨_,rfl,?_⟩)
      all_goals first
       | (show eB false=eB _;rw [Gc (by omega) hlt (by rw [hra];grind)];rfl)
       | (have hst:=GG ha (by rw [hra];grind);refine⟨⟨k+1,by omega,by omega,hst⟩,by dsimp only;(omega),[],?_⟩;simp[cX,zC,hΓ])
     ·exfalso;(simp only[oZ] at *;omega)
    ·obtain rfl:k=t.cols.length:=by omega
     rw [ha]
     (repeat first|refine tA rfl ?_ |refine s2 rfl fun _ _hb=>?_ |refine aU rfl ?_ |refine Aa ?_)
     (refine aC rfl ?_ ?_<;>rintro⟨⟩)
     ·exfalso;(simp only[oZ] at *;omega)
     ·(repeat' first|refine tA rfl ?_ |refine aU rfl ?_ |refine Aa ?_|(refine aC rfl ?_ ?_<;>rintro⟨⟩)|refine aK ?_|refine aE ?_|refine aB ?_|refine aR ⟨_,rfl,?_⟩)
      rfl
 ·have hss:DG al t=false:=by unfold DG;simp [h0]
  rw [hss]
  have h0':¬(0≤al∧(1≤t.rows.length∧t.rows.length≤12)∧(1≤t.cols.length∧t.cols.length≤20)∧t.rows[0]? = some []∧t.cols[0]? = some []):=by
   intro h;apply h0;unfold GR;simp [h]
  have hR':(t.rows.map BD)[(0:Int).toNat]? = (t.rows[0]?).map BD:=by simp
  have hC':(t.cols.map BD)[(0:Int).toNat]? = (t.cols[0]?).map BD:=by simp
  have hRn:t.rows[0]? = none→t.rows.length=0:=fun h=>by have:=List.getElem?_eq_none_iff.1 h;omega
  have hCn:t.cols[0]? = none→t.cols.length=0:=fun h=>by have:=List.getElem?_eq_none_iff.1 h;omega
  refine eN Tryz.func59 rfl (by kernel_rfl) rfl ?_;intro Γ hΓ
  cases hR:t.rows[0]?<;>cases hC:t.cols[0]?<;>rw [hR] at hR' h0'<;>rw [hC] at hC' h0'<;>(
   (repeat' first|refine sN rfl ?_ |refine tA rfl ?_ |(refine s4 rfl ‹_› rfl ?_ ?_;omega) |refine s2 rfl fun _ _hb=>?_ |refine s3 rfl ?_ ?_<;>rintro rfl |refine aU rfl ?_ |refine Aa ?_|(refine aC rfl ?_ ?_<;>rintro⟨⟩)|refine aK ?_|refine aE ?_|refine aB ?_|refine aR ⟨_,rfl,?_⟩)
   all_goals first
    | rfl
    | (exfalso;grind;done))
def C8(al:Int)(w:W):Bool:=within w al && decide (w.length≤4000)
theorem IL{t:Cx}{al:Int}{A:W→Bool}(hT:Hc Tryz.prog TB 60 101 t al A)(w:W)(hl:w.length≤1099511627776):Pure Tryz.prog TB 80 [B8 t,eT w] (eB (C8 al w)):=by
 have h1:=hT.alph
 have h2:=DC (TB:=TB) w al hl
 have hc:C8 al w=(within w al && decide ((w.length:Int)≤4000)):=by unfold C8;congr 1;rw [decide_eq_decide];omega
 rw [hc]
 refine eN Tryz.func80 rfl (by kernel_rfl) rfl ?_;intro Γ hΓ
 (repeat' first|refine tA rfl ?_ |refine s2 rfl fun _ _hb=>?_ |refine sP rfl (h1) rfl ?_|(refine sC rfl (h2) ?_;intro _ _hb) |refine s3 rfl ?_ ?_<;>rintro rfl |refine aU rfl ?_ |refine Aa ?_|(refine aC rfl ?_ ?_<;>rintro⟨⟩)|refine aK ?_|refine aE ?_|refine aB ?_|refine aR ⟨_,rfl,?_⟩)
 all_goals (show E.o _=E.o _;congr;grind)
def AB(A:W→Bool)(al:Int)(t:AT):Bool:=DG al t && decide (AA A t).Nodup
theorem Ti{l:List W}{k:Nat}{x:W}(hx:l[k]? = some x)(h:(l.take k).Nodup)(hn:x∉l.take k):(l.take (k+1)).Nodup:=by
 rw [List.take_add_one,hx,List.nodup_append]
 refine⟨h,by simp,fun a ha b hb e=>?_⟩
 simp at hb;subst hb;exact hn (e ▸ ha)
theorem ZA{l:List W}{k:Nat}{x:W}(hx:l[k]? = some x)(hn:x∈l.take k):¬l.Nodup:=by
 intro h
 obtain⟨h1,rfl⟩:=List.getElem?_eq_some_iff.1 hx
 rw [←List.take_append_drop k l,List.nodup_append] at h
 exact h.2.2 _ hn _ (by rw [List.drop_eq_getElem_cons h1];exact List.mem_cons_self) rfl
theorem DB{t:Cx}{al:Int}{A:W→Bool}(hT:Hc Tryz.prog TB 60 101 t al A)(tab:AT)(hz:Ly tab):Pure Tryz.prog TB 18 [B8 t,BV tab] (eB (AB A al tab)):=by
 have h1:=hT.alph
 have h2:=P7 (TB:=TB) al tab hz
 have h3:=IK hT tab.cols tab.rows hz.cl (fun w hw=>by have:=hz.rb w hw;omega) hz.cb hz.rl
 by_cases hs:DG al tab=true
 ·have hv:AB A al tab=decide (AA A tab).Nodup:=by unfold AB;rw [hs];rfl
  rw [hv]
  have h3':Pure Tryz.prog TB 61 [B8 t,Bp tab.cols,Bp tab.rows] (Bp (AA A tab)):=h3
  have hml:(AA A tab).length=tab.rows.length:=by simp [AA]
  have hrl:=hz.rl
  generalize AA A tab=l at *
  refine eN Tryz.func18 rfl (by kernel_rfl) rfl ?_;intro Γ hΓ
  (repeat' first|refine tA rfl ?_ |refine s2 rfl fun _ _hb=>?_ |refine sP rfl (h1) rfl ?_|(refine sC rfl (h2) ?_;intro _ _hb)|refine sP rfl (h3') rfl ?_ |refine aU rfl ?_ |refine Aa ?_ |refine rE (by kernel_rfl) ?_|(refine aC rfl ?_ ?_<;>rintro⟨⟩)|refine aK ?_|refine aE ?_|refine aB ?_|refine aR ⟨_,rfl,?_⟩)
  all_goals first
   | (exfalso;grind;done)
   | skip
  refine aL (α:={k:Nat // k≤l.length∧(l.take k).Nodup}) [5] [] rfl rfl (fun ⟨k,hk,hn⟩=>[(6,eI .i64 k)]) (fun ⟨k,hk,hn⟩=>[]) 0 (fun ⟨k,hk,hn⟩=>l.length - k) (⟨0,by omega,by simp⟩) hΓ rfl (by (simp[cX,zC,hΓ])) ?_;rintro⟨k,hk,hn⟩;(try dsimp only[cA,cB])
  by_cases hlt:k < l.length
  ·obtain⟨x,hx⟩:=get_some hlt
   have hx':=get_map (g:=BD) hx
   have hin:Pure Tryz.prog TB 62 [.o (.d (.l ((l.map BD).take ((k:Nat):Int).toNat))),eT x] (eB (decide (x∈l.take k))):=by
    rw [Int.toNat_natCast,←List.map_take]
    exact Gg _ _ (by simp;omega)
   (repeat first|refine sN rfl ?_ |refine tA rfl ?_ |refine s2 rfl fun _ _hb=>?_ |refine aU rfl ?_ |refine Aa ?_)
   (refine aC rfl ?_ ?_<;>rintro⟨⟩)
   ·(repeat' first|(refine sA rfl ?_ ?_;first|exact tI|omega) |(refine s4 rfl ‹_› rfl ?_ ?_;omega) |(refine sC rfl (hin) ?_;intro _ _hb)|(refine Af rfl ?_;refine gA rfl ?_;first| refine gS (fun _ _=>HZ rfl rfl (by simp) (by omega) (by (simp only[oZ] at *;omega))) ?_) |refine aU rfl ?_ |refine Aa ?_ |refine rE (by kernel_rfl) ?_|(refine aC rfl ?_ ?_<;>rintro⟨⟩)|refine aK ?_|refine aE ?_|refine aB ?_|refine aR ⟨_,rfl,?_⟩)
    ·show eB false=eB _
     rw [decide_eq_false (ZA hx (by simpa using _hb))]
    ·have hst:=Ti hx hn (by simpa using _hb)
     refine⟨⟨k+1,by omega,hst⟩,by dsimp only;(omega),[],?_⟩
     simp[cX,zC,hΓ]
   ·exfalso;(simp only[oZ] at *;omega)
  ·rw [List.take_of_length_le (by omega)] at hn
   (repeat first|refine sN rfl ?_ |refine tA rfl ?_ |refine s2 rfl fun _ _hb=>?_ |refine aU rfl ?_ |refine Aa ?_)
   (refine aC rfl ?_ ?_<;>rintro⟨⟩)
   ·exfalso;(simp only[oZ] at *;omega)
   ·(repeat' first|refine tA rfl ?_ |refine aU rfl ?_ |refine Aa ?_|(refine aC rfl ?_ ?_<;>rintro⟨⟩)|refine aK ?_|refine aE ?_|refine aB ?_|refine aR ⟨_,rfl,?_⟩)
    rw [decide_eq_true hn]
 ·have hv:AB A al tab=false:=by unfold AB;simp [hs]
  rw [hv]
  refine eN Tryz.func18 rfl (by kernel_rfl) rfl ?_;intro Γ hΓ
  (repeat' first|refine tA rfl ?_ |refine s2 rfl fun _ _hb=>?_ |refine sP rfl (h1) rfl ?_|(refine sC rfl (h2) ?_;intro _ _hb) |refine aU rfl ?_ |refine Aa ?_ |refine rE (by kernel_rfl) ?_|(refine aC rfl ?_ ?_<;>rintro⟨⟩)|refine aK ?_|refine aE ?_|refine aB ?_|refine aR ⟨_,rfl,?_⟩)
  all_goals first
   | rfl
   | (exfalso;grind;done)
theorem II{t:Cx}{al:Int}{A:W→Bool}(hT:Hc Tryz.prog TB 60 101 t al A)(tab:AT)(hz:Ly tab):Pure Tryz.prog TB 64 [B8 t,BV tab] (OS (AO A (AY al) tab)):=by
 have h1:=hT.alph
 have h2:=BM (TB:=TB) al
 have h3:Pure Tryz.prog TB 61 [B8 t,Bp tab.cols,Bp tab.rows] (Bp (AA A tab)):=IK hT tab.cols tab.rows hz.cl (fun w hw=>by have:=hz.rb w hw;omega) hz.cb hz.rl
 have hrl:=hz.rl
 have hla:(Ac al).length≤6:=AR al 6
 refine eN Tryz.func64 rfl (by kernel_rfl) rfl ?_;intro Γ hΓ
 (repeat' first|refine tA rfl ?_ |refine sP rfl (h1) rfl ?_|refine sP rfl (h2) rfl ?_|refine sP rfl (h3) rfl ?_ |refine aU rfl ?_ |refine Aa ?_|(refine aC rfl ?_ ?_<;>rintro⟨⟩)|refine aK ?_|refine aE ?_|refine aB ?_|refine aR ⟨_,rfl,?_⟩)
 refine aL (α:={k:Nat // k≤tab.rows.length∧∀w∈Cd (AY al) (tab.rows.take k),marks A tab.cols w∈AA A tab}) [2,3,6,7] [] rfl rfl (fun ⟨k,hk,hkd⟩=>[(8,eI .i64 k)]) (fun ⟨k,hk,hkd⟩=>[]) 0 (fun ⟨k,hk,hkd⟩=>tab.rows.length - k) (⟨0,by omega,by simp [Cd]⟩) hΓ rfl (by (simp[cX,zC,hΓ])) ?_;rintro⟨k,hk,hkd⟩;(try dsimp only[cA,cB])
 by_cases hlt:k < tab.rows.length
 ·obtain⟨r, hx⟩:=get_some hlt
  have hx':=get_map (g:=BD) hx
  have hrb:=hz.rb r (List.mem_of_getElem? hx)
  (repeat first|refine sN rfl ?_ |refine tA rfl ?_ |refine s2 rfl fun _ _hb=>?_ |refine aU rfl ?_ |refine Aa ?_)
  (refine aC rfl ?_ ?_<;>rintro⟨⟩)
  ·refine aK ?_
   refine aS (aB ?_)
   (repeat first|refine tA rfl ?_ |refine aU rfl ?_ |refine Aa ?_)
   refine aB ?_
   refine aL (α:={j:Nat // j≤(Ac al).length∧∀x∈(AY al).take j,marks A tab.cols (r++[x])∈AA A tab}) [2,3,6,7,8] [] rfl rfl (fun ⟨j,hj,hjd⟩=>[(9,eI .i64 j)]) (fun ⟨j,hj,hjd⟩=>[]) 0 (fun ⟨j,hj,hjd⟩=>(Ac al).length - j) (⟨0,by omega,by simp⟩) hΓ rfl (by (simp[cX,zC,hΓ])) ?_;rintro⟨j,hj,hjd⟩;(try dsimp only[cA,cB])
   by_cases hjlt:j < (Ac al).length
   ·obtain⟨l,hl⟩:=get_some hjlt
    have hl':=get_map (g:=Bv) hl
    have hlb:=A2 (List.mem_of_getElem? hl)
    have hll:(AY al)[j]? = some (lb l):=by simp [AY,hl]
    have htx:Pure Tryz.prog TB 90 [eI .i64 l] (eT [lb l]):=EU l hlb.1 (by omega)
    have hrow:=Kc hT tab.cols (r++[lb l]) hz.cl (by simp;omega) hz.cb
    have hin:=Gg (TB:=TB) (AA A tab) (marks A tab.cols (r++[lb l])) (by simp [AA];omega)
    (repeat first|refine sN rfl ?_ |refine tA rfl ?_ |refine s2 rfl fun _ _hb=>?_ |refine aU rfl ?_ |refine Aa ?_)
    (refine aC rfl ?_ ?_<;>rintro⟨⟩)
    ·(repeat' first|(refine sA rfl ?_ ?_;first|exact tI|omega|simp only[oZ] at *;omega) |(refine s4 rfl ‹_› rfl ?_ ?_;omega) |refine s2 rfl fun _ _hb=>?_ |refine sP rfl (htx) rfl ?_|refine sP rfl (hrow) rfl ?_|(refine sC rfl (hin) ?_;intro _ _hb) |refine aU rfl ?_ |refine Aa ?_ |refine rE (by kernel_rfl) ?_|(refine aC rfl ?_ ?_<;>rintro⟨⟩)|refine aK ?_|refine aE ?_|refine aB ?_|refine aR ⟨_,rfl,?_⟩)
     ·have hno:marks A tab.cols (r++[lb l])∉AA A tab:=by grind
      rw [Tp hx hll hkd hjd hno]
      rfl
     ·have hyes:marks A tab.cols (r++[lb l])∈AA A tab:=by grind
      have hjd2:∀x∈(AY al).take (j+1),marks A tab.cols (r++[x])∈AA A tab:=fun x hx=>by
       rw [List.take_add_one,hll] at hx
       rcases List.mem_append.1 hx with hx|hx
       ·exact hjd x hx
       ·simp at hx;subst hx;exact hyes
      refine⟨⟨j+1,by omega,hjd2⟩,by dsimp only;(omega),[],?_⟩
      simp[cX,zC,hΓ]
    ·exfalso;(simp only[oZ] at *;omega)
   ·have hkd2:∀w∈Cd (AY al) (tab.rows.take (k+1)),marks A tab.cols w∈AA A tab:=fun w hw=>by
     rw [Mr hx] at hw
     rcases List.mem_append.1 hw with hw|hw
     ·exact hkd w hw
     ·obtain⟨x,hx2,rfl⟩:=List.mem_map.1 hw
      exact hjd x (by rw [List.take_of_length_le (by simp [AY];omega)];exact hx2)
    (repeat first|refine sN rfl ?_ |refine tA rfl ?_ |refine s2 rfl fun _ _hb=>?_ |refine aU rfl ?_ |refine Aa ?_)
    (refine aC rfl ?_ ?_<;>rintro⟨⟩)
    ·exfalso;(simp only[oZ] at *;omega)
    ·(repeat' first|(refine sA rfl ?_ ?_;first|exact tI|omega) |refine aU rfl ?_ |refine Aa ?_|(refine aC rfl ?_ ?_<;>rintro⟨⟩)|refine aK ?_|refine aE ?_|refine aB ?_|refine aR ⟨_,rfl,?_⟩)
     refine⟨⟨k+1,by omega,hkd2⟩,by dsimp only;(omega),[],?_⟩
     simp[cX,zC,hΓ]
  ·exfalso;(simp only[oZ] at *;omega)
 ·have hno:AO A (AY al) tab=none:=List.find?_eq_none.2 fun w hw=>by
   have:=hkd w (by rw [List.take_of_length_le (by omega)];exact hw)
   simpa using this
  rw [hno]
  (repeat first|refine sN rfl ?_ |refine tA rfl ?_ |refine s2 rfl fun _ _hb=>?_ |refine aU rfl ?_ |refine Aa ?_)
  (refine aC rfl ?_ ?_<;>rintro⟨⟩)
  ·exfalso;(simp only[oZ] at *;omega)
  ·(repeat' first|refine tA rfl ?_ |refine aU rfl ?_ |refine Aa ?_|(refine aC rfl ?_ ?_<;>rintro⟨⟩)|refine aK ?_|refine aE ?_|refine aB ?_|refine aR ⟨_,rfl,?_⟩)
   rfl
theorem Io{t:Cx}{al:Int}{A:W→Bool}(hT:Hc Tryz.prog TB 60 101 t al A)(tab:AT)(hz:Ly tab):Pure Tryz.prog TB 21 [B8 t,BV tab] (OS (if AB A al tab then AO A (AY al) tab else none)):=by
 have h1:=DB hT tab hz
 have h2:=II hT tab hz
 by_cases hv:AB A al tab=true
 ·rw [if_pos hv]
  cases ho:AO A (AY al) tab<;>rw [ho] at h2<;>(
   refine eN Tryz.func21 rfl (by kernel_rfl) rfl ?_;intro Γ hΓ
   (repeat' first|refine tA rfl ?_ |refine s2 rfl fun _ _hb=>?_ |(refine sC rfl (h1) ?_;intro _ _hb)|refine sP rfl (h2) rfl ?_ |refine aU rfl ?_ |refine Aa ?_|(refine aC rfl ?_ ?_<;>rintro⟨⟩)|refine aK ?_|refine aE ?_|refine aB ?_|refine aR ⟨_,rfl,?_⟩)
   all_goals first
    | rfl
    | (exfalso;grind;done))
 ·rw [if_neg hv]
  refine eN Tryz.func21 rfl (by kernel_rfl) rfl ?_;intro Γ hΓ
  (repeat' first|refine tA rfl ?_ |refine s2 rfl fun _ _hb=>?_ |(refine sC rfl (h1) ?_;intro _ _hb) |refine aU rfl ?_ |refine Aa ?_|(refine aC rfl ?_ ?_<;>rintro⟨⟩)|refine aK ?_|refine aE ?_|refine aB ?_|refine aR ⟨_,rfl,?_⟩)
  all_goals first
   | rfl
   | (exfalso;grind;done)
def Bk(A:W→Bool)(al:Int)(t:AT):Bool:=AB A al t && (AO A (AY al) t).isNone
theorem MW{t:Cx}{al:Int}{A:W→Bool}(hT:Hc Tryz.prog TB 60 101 t al A)(tab:AT)(hz:Ly tab):Pure Tryz.prog TB 87 [B8 t,BV tab] (eB (Bk A al tab)):=by
 have h1:=DB hT tab hz
 have h2:=Io hT tab hz
 by_cases hv:AB A al tab=true
 ·rw [if_pos hv] at h2
  have hc:Bk A al tab=(AO A (AY al) tab).isNone:=by unfold Bk;rw [hv];rfl
  rw [hc]
  cases ho:AO A (AY al) tab<;>rw [ho] at h2<;>(
   refine eN Tryz.func87 rfl (by kernel_rfl) rfl ?_;intro Γ hΓ
   (repeat' first|refine tA rfl ?_ |refine s2 rfl fun _ _hb=>?_ |(refine sC rfl (h1) ?_;intro _ _hb)|refine sP rfl (h2) rfl ?_ |refine s3 rfl ?_ ?_<;>rintro rfl |refine aU rfl ?_ |refine Aa ?_|(refine aC rfl ?_ ?_<;>rintro⟨⟩)|refine aK ?_|refine aE ?_|refine aB ?_|refine aR ⟨_,rfl,?_⟩)
   all_goals first
    | rfl
    | (exfalso;grind;done)
    | (show E.o _=E.o _;congr;first| grind|(simp at *;assumption)))
 ·rw [if_neg hv] at h2
  have hc:Bk A al tab=false:=by unfold Bk;simp [hv]
  rw [hc]
  refine eN Tryz.func87 rfl (by kernel_rfl) rfl ?_;intro Γ hΓ
  (repeat' first|refine tA rfl ?_ |refine s2 rfl fun _ _hb=>?_ |(refine sC rfl (h1) ?_;intro _ _hb)|refine sP rfl (h2) rfl ?_ |refine s3 rfl ?_ ?_<;>rintro rfl |refine aU rfl ?_ |refine Aa ?_|(refine aC rfl ?_ ?_<;>rintro⟨⟩)|refine aK ?_|refine aE ?_|refine aB ?_|refine aR ⟨_,rfl,?_⟩)
  all_goals first
   | rfl
   | (exfalso;grind;done)
theorem Zp{l:List W}{s:W}{k:Nat}(hx:l[k]? = some s)(hn:s∉l.take k):l.idxOf s=k:=by
 have hl:k < l.length:=(List.getElem?_eq_some_iff.1 hx).1
 have e:l=l.take k++s::l.drop (k+1):=by rw [←Cz hx,List.take_append_drop]
 rw [e,List.idxOf_append,if_neg hn,List.idxOf_cons_self]
 simp;omega
theorem P6(l:List W)(s:W)(hm:s∈l)(hl:l.length≤1099511627776):Pure Tryz.prog TB 89 [Bp l,eT s] (eI .i64 (l.idxOf s:Nat)):=by
 refine eN Tryz.func89 rfl (by kernel_rfl) rfl ?_;intro Γ hΓ
 (repeat first|refine tA rfl ?_ |refine aU rfl ?_ |refine Aa ?_)
 refine aB ?_
 refine aL (α:={k:Nat // k≤l.length∧s∉l.take k}) [0,1] [] rfl rfl (fun ⟨k,hk,hn⟩=>[(5,eI .i64 k)]) (fun ⟨k,hk,hn⟩=>[]) 0 (fun ⟨k,hk,hn⟩=>l.length - k) (⟨0,by omega,by simp⟩) hΓ rfl (by (simp[cX,zC,hΓ])) ?_;rintro⟨k,hk,hn⟩;(try dsimp only[cA,cB])
 have hkl:k < l.length:=by
  rcases Nat.lt_or_ge k l.length with h|h
  ·exact h
  ·rw [List.take_of_length_le h] at hn;exact absurd hm hn
 obtain⟨x,hx⟩:=get_some (l:=l) (k:=k) hkl
 have hx':=get_map (g:=BD) hx
 by_cases hs:x=s
 ·subst hs
  have he:=Zp hx hn
  rw [he]
  (repeat first|refine tA rfl ?_ |(refine s4 rfl ‹_› rfl ?_ ?_;omega) |refine s2 rfl fun _ _hb=>?_ |refine aU rfl ?_ |refine Aa ?_)
  (refine aC rfl ?_ ?_<;>rintro⟨⟩)
  ·exfalso;simp at _hb
  ·(repeat' first|refine tA rfl ?_ |refine aU rfl ?_ |refine Aa ?_|(refine aC rfl ?_ ?_<;>rintro⟨⟩)|refine aK ?_|refine aE ?_|refine aB ?_|refine aR ⟨_,rfl,?_⟩)
   rfl
 ·have hn2:s∉l.take (k+1):=by
   rw [List.take_add_one,hx]
   intro h
   rcases List.mem_append.1 h with h|h
   ·exact hn h
   ·simp at h;exact hs h.symm
  (repeat first|refine tA rfl ?_ |(refine s4 rfl ‹_› rfl ?_ ?_;omega) |refine s2 rfl fun _ _hb=>?_ |refine aU rfl ?_ |refine Aa ?_)
  (refine aC rfl ?_ ?_<;>rintro⟨⟩)
  ·(repeat' first|(refine sA rfl ?_ ?_;first|exact tI|omega) |refine aU rfl ?_ |refine Aa ?_|(refine aC rfl ?_ ?_<;>rintro⟨⟩)|refine aK ?_|refine aE ?_|refine aB ?_|refine aR ⟨_,rfl,?_⟩)
   refine⟨⟨k+1,by omega,hn2⟩,by dsimp only;(omega),[],?_⟩
   simp[cX,zC,hΓ]
  ·exfalso;simp [hs] at _hb
end Go.Am
namespace Go.Am
open Go
set_option linter.unusedVariables false
theorem PV{f:Nat→Bool}{n k:Nat}(h:Dt f n=true)(h0:0 < k)(hk:k < n):f k=true:=by
 unfold Dt at h
 have:=(List.all_eq_true.1 h) k (List.mem_range.2 hk)
 simp at this
 rcases this with h|h
 ·omega
 ·exact h
theorem PW{f:Nat→Bool}{n:Nat}(h:∀k,0 < k→k < n→f k=true):Dt f n=true:=by
 unfold Dt
 refine List.all_eq_true.2 fun k hk=>?_
 have hk:=List.mem_range.1 hk
 rcases Nat.eq_zero_or_pos k with h0|h0
 ·subst h0;rfl
 ·simp [h k h0 hk]
structure OK (al:Int) (t:AT):Prop where
 pos:0≤al
 r1:1≤t.rows.length
 rl:t.rows.length≤12
 c1:1≤t.cols.length
 cl:t.cols.length≤20
 r0:t.rows[0]? = some []
 c0:t.cols[0]? = some []
 rw:∀w∈t.rows,w.length≤50000∧AN (AY al) w
 cw:∀w∈t.cols,w.length≤4000∧AN (AY al) w
 pre:∀(i:Nat) w,t.rows[i]? = some w→0 < i→w≠[]∧∃j,j < i∧t.rows[j]? = some w.dropLast
 ndC:t.cols.Nodup
theorem KO{α:Type}{l:List α}{k:Nat}{x:α}(h:x∈l.take k):∃j,j < k∧l[j]? = some x:=by
 obtain⟨j,hj,he⟩:=List.getElem_of_mem h
 have h1:j < k:=by simp at hj;omega
 refine⟨j,h1,?_⟩
 rw [←he,List.getElem_take,List.getElem?_eq_getElem]
theorem KG{α:Type}{l:List α}{j k:Nat}{x:α}(h:l[j]? = some x)(hj:j < k):x∈l.take k:=by
 have:(l.take k)[j]? = some x:=by rw [List.getElem?_take,if_pos hj];exact h
 exact List.mem_of_getElem? this
theorem IW{w:W}{al:Int}(h:within w al=true):w.length≤50000:=by
 unfold within at h
 simp only [Bool.and_eq_true,decide_eq_true_eq] at h
 exact h.1
theorem MQ{al:Int}{t:AT}(h:DG al t=true):OK al t:=by
 unfold DG GR at h
 simp only [Bool.and_eq_true,decide_eq_true_eq] at h
 obtain⟨⟨h1,h2,h3,h4,h5⟩,h6,h7⟩:=h
 have hrow:∀(i:Nat) w,t.rows[i]? = some w→0 < i→w≠[]∧within w al=true∧w.dropLast∈t.rows.take i:=fun i w hi h0=>by
  have:=PV h6 h0 (List.getElem?_eq_some_iff.1 hi).1
  unfold rowAt at this
  rw [hi] at this
  simp only [Bool.and_eq_true,decide_eq_true_eq,Bool.not_eq_true',decide_eq_false_iff_not] at this
  exact⟨fun e=>this.1 (by rw [e];rfl),this.2.1,this.2.2⟩
 have hcol:∀(i:Nat) w,t.cols[i]? = some w→0 < i→w.length≤4000∧within w al=true∧w∉t.cols.take i:=fun i w hi h0=>by
  have:=PV h7 h0 (List.getElem?_eq_some_iff.1 hi).1
  unfold G0 at this
  rw [hi] at this
  simp only [Bool.and_eq_true,decide_eq_true_eq,Bool.not_eq_true',decide_eq_false_iff_not] at this
  exact this
 refine⟨h1,h2.1,h2.2,h3.1,h3.2,h4,h5,fun w hw=>?_,fun w hw=>?_,fun i w hi h0=>?_,?_⟩
 ·obtain⟨i,hi,he⟩:=List.getElem_of_mem hw
  have hi':t.rows[i]? = some w:=by rw [List.getElem?_eq_getElem hi,he]
  rcases Nat.eq_zero_or_pos i with h0|h0
  ·subst h0
   rw [h4] at hi';injection hi' with hi';subst hi'
   exact⟨by simp,fun c hc=>by cases hc⟩
  ·have:=hrow i w hi' h0
   exact⟨IW this.2.1,Cw this.2.1⟩
 ·obtain⟨i,hi,he⟩:=List.getElem_of_mem hw
  have hi':t.cols[i]? = some w:=by rw [List.getElem?_eq_getElem hi,he]
  rcases Nat.eq_zero_or_pos i with h0|h0
  ·subst h0
   rw [h5] at hi';injection hi' with hi';subst hi'
   exact⟨by simp,fun c hc=>by cases hc⟩
  ·have:=hcol i w hi' h0
   exact⟨this.1,Cw this.2.1⟩
 ·have:=hrow i w hi h0
  exact⟨this.1,KO this.2.2⟩
 ·unfold List.Nodup
  rw [List.pairwise_iff_getElem]
  intro i j hi hj hij he
  have:=hcol j t.cols[j] (List.getElem?_eq_getElem hj) (by omega)
  exact this.2.2 (KG (by rw [List.getElem?_eq_getElem hi,he]) hij)
theorem UL{al:Int}{t:AT}(ha:Bo al=true)(h0:0≤al)(hr:1≤t.rows.length∧t.rows.length≤12)(hc:1≤t.cols.length∧t.cols.length≤20)(r0:t.rows[0]? = some [])(c0:t.cols[0]? = some [])
 (rw':∀w∈t.rows,w.length≤50000∧AN (AY al) w) (cw:∀w∈t.cols,w.length≤4000∧AN (AY al) w) (pre:∀(i:Nat) w,t.rows[i]? = some w→0 < i→w≠[]∧∃j,j < i∧t.rows[j]? = some w.dropLast) (ndC:t.cols.Nodup):DG al t=true:=by
 unfold DG GR
 simp only [Bool.and_eq_true,decide_eq_true_eq]
 refine⟨⟨h0,hr,hc,r0,c0⟩,PW fun k hk hkn=>?_,PW fun k hk hkn=>?_⟩
 ·have hx:=List.getElem?_eq_getElem hkn
  obtain⟨h1,j,hj,h2⟩:=pre k _ hx hk
  have h3:=rw' _ (List.getElem_mem hkn)
  unfold rowAt
  rw [hx]
  simp only [Bool.and_eq_true,decide_eq_true_eq,Bool.not_eq_true',decide_eq_false_iff_not]
  exact⟨fun e=>h1 (List.length_eq_zero_iff.1 e),DF h3.2 h3.1 ha,KG h2 hj⟩
 ·have hx:=List.getElem?_eq_getElem hkn
  have h3:=cw _ (List.getElem_mem hkn)
  unfold G0
  rw [hx]
  simp only [Bool.and_eq_true,decide_eq_true_eq,Bool.not_eq_true',decide_eq_false_iff_not]
  refine⟨h3.1,DF h3.2 (by omega) ha,fun hm=>?_⟩
  obtain⟨j,hj,he⟩:=KO hm
  obtain⟨hj2,he⟩:=List.getElem?_eq_some_iff.1 he
  exact(List.pairwise_iff_getElem.1 ndC) j k hj2 hkn hj he
theorem Bs{A:W→Bool}{al:Int}{t:AT}(h:AB A al t=true):OK al t∧(AA A t).Nodup:=by
 unfold AB at h
 rw [Bool.and_eq_true,decide_eq_true_eq] at h
 exact⟨MQ h.1,h.2⟩
theorem Er{A:W→Bool}{al:Int}{t:AT}(h:AB A al t=true):TOk A (AY al) t:=by
 obtain⟨h1,h2⟩:=Bs h
 exact⟨h1.r0,h1.c0,h1.pre,fun w hw=>(h1.rw w hw).2,fun w hw=>(h1.cw w hw).2,h2,h1.ndC⟩
theorem Ic{A:W→Bool}{al:Int}{t:AT}(ha:Bo al=true)(h0:0≤al)(h:TOk A (AY al) t)(hr:t.rows.length≤12)(hc:t.cols.length≤20)(hrw:∀w∈t.rows,w.length≤50000)(hcw:∀w∈t.cols,w.length≤4000):AB A al t=true:=by
 unfold AB
 rw [Bool.and_eq_true,decide_eq_true_eq]
 have h1:=(List.getElem?_eq_some_iff.1 h.r0).1
 have h2:=(List.getElem?_eq_some_iff.1 h.c0).1
 exact⟨UL ha h0 ⟨h1,hr⟩ ⟨h2,hc⟩ h.r0 h.c0 (fun w hw=>⟨hrw w hw,h.onR w hw⟩) (fun w hw=>⟨hcw w hw,h.onC w hw⟩) h.pre h.ndC,h.nd⟩
theorem HL{A:W→Bool}{al:Int}{t:AT}(h:Bk A al t=true):AB A al t=true∧AO A (AY al) t=none∧BN A (AY al) t:=by
 unfold Bk at h
 rw [Bool.and_eq_true] at h
 have h2:AO A (AY al) t=none:=by simpa using h.2
 exact⟨h.1,h2,⟨Er h.1,Em h2⟩⟩
theorem OK.sz{al:Int}{t:AT}(h:OK al t):Ly t:=⟨by have:=h.rl;omega,by have:=h.cl;omega,fun w hw=>by have:=(h.rw w hw).1;omega,fun w hw=>by have:=(h.cw w hw).1;omega⟩
def QZ(A L:W→Bool)(al:Int):Prop:=∀w,AN (AY al) w→w.length≤50000→A w=L w
theorem O5{ls:List UInt8}{u w:W}(hu:AN ls u)(hw:AN ls w):AN ls (u++w):=fun c hc=>by
 rcases List.mem_append.1 hc with h|h
 ·exact hu c h
 ·exact hw c h
theorem Oc{A L:W→Bool}{al:Int}(h:QZ A L al){cols:List W}{w:W}(hw:AN (AY al) w)(hc:∀x∈cols,AN (AY al) x∧w.length+x.length≤50000):marks A cols w=marks L cols w:=by
 rw [marks,marks,List.map_inj_left]
 intro x hx
 rw [h _ (O5 hw (hc x hx).1) (by simp;exact(hc x hx).2)]
theorem Gp{A L:W→Bool}{al:Int}{b:Nat}{t:AT}(h:QZ A L al)(ht:Fp al b t)(hb:b≤20100):AA A t=AA L t:=by
 rw [AA,AA,List.map_inj_left]
 intro r hr
 have:=ht.onR r hr
 exact Oc h this.1 fun x hx=>⟨(ht.onC x hx).1,by have:=(ht.onC x hx).2;omega⟩
theorem Mq{A L:W→Bool}{al:Int}{b:Nat}{t:AT}(h:QZ A L al)(ht:Fp al b t)(hb:b≤20100){r:W}{l:UInt8}(hr:r∈t.rows)(hl:l∈AY al):marks A t.cols (r++[l])=marks L t.cols (r++[l]):=by
 have:=ht.onR r hr
 refine Oc h (O5 this.1 (fun c hc=>by simp at hc;subst hc;exact hl)) fun x hx=>⟨(ht.onC x hx).1,by have:=(ht.onC x hx).2;simp;omega⟩
theorem PQ{α:Type}{p q:α→Bool}:∀ {l:List α},(∀x∈l,p x=q x)→l.find? p=l.find? q
 | [],_=>rfl
 | x::l,h=>by
  rw [List.find?_cons,List.find?_cons,h x (by simp),PQ (l:=l) fun y hy=>h y (by simp [hy])]
theorem Kq{A L:W→Bool}{al:Int}{b:Nat}{t:AT}(h:QZ A L al)(ht:Fp al b t)(hb:b≤20100):AO A (AY al) t=AO L (AY al) t:=by
 unfold AO
 refine PQ fun w hw=>?_
 unfold Cd at hw
 simp only [List.mem_flatMap,List.mem_map] at hw
 obtain⟨r,hr,l,hl,rfl⟩:=hw
 rw [Gp h ht hb,Mq h ht hb hr hl]
theorem LM{A L:W→Bool}{al:Int}(h:QZ A L al):∀(n:Nat) {b:Nat} {t:AT},Fp al b t→b+n≤20100→A3 A (AY al) n t=A3 L (AY al) n t
 | 0,_,_,_,_=>rfl
 | n + 1,b,t,ht,hb=>by
  unfold A3
  rw [Kq h ht (by omega)]
  cases ho:AO L (AY al) t with
  | none=>rfl
  | some w=>
   dsimp only
   by_cases h12:t.rows.length=12
   ·rw [if_pos h12,if_pos h12]
   ·rw [if_neg h12,if_neg h12]
    have hrl:=ht.rl
    exact LM h n (ht.push ho (by omega)) (by omega)
theorem P4{A L:W→Bool}{al:Int}{b:Nat}{t:AT}(h:QZ A L al)(ht:Fp al b t)(hb:b≤20100){r:W}{l:UInt8}(hr:r∈t.rows)(hl:l∈AY al):De A t (r++[l])=De L t (r++[l]):=by
 unfold De
 rw [Gp h ht hb,Mq h ht hb hr hl]
theorem Vz{A L:W→Bool}{al:Int}{b:Nat}{t:AT}(h:QZ A L al)(ht:Fp al b t)(hb:b≤20100):A9 A al t=A9 L al t:=by
 unfold A9
 congr 1
 ·refine List.map_inj_left.2 fun r hr=>List.map_inj_left.2 fun l hl=>?_
  rw [P4 h ht hb hr (Ll hl)]
 ·refine List.map_inj_left.2 fun r hr=>?_
  have:=ht.onR r hr
  rw [h r this.1 (by omega)]
theorem TOk.cJ{A L:W→Bool}{al:Int}{b:Nat}{t:AT}(h:QZ A L al)(ht:Fp al b t)(hb:b≤20100)(hk:TOk L (AY al) t):TOk A (AY al) t:=⟨hk.r0,hk.c0,hk.pre,hk.onR,hk.onC,by rw [Gp h ht hb];exact hk.nd,hk.ndC⟩
theorem BN.cJ{A L:W→Bool}{al:Int}{b:Nat}{t:AT}(h:QZ A L al)(ht:Fp al b t)(hb:b≤20100)(hk:BN L (AY al) t):BN A (AY al) t:=⟨hk.toTOk.cJ h ht hb,fun r hr l hl=>by
 rw [Mq h ht hb hr hl,Gp h ht hb];exact hk.cl r hr l hl⟩
theorem Xl{A:W→Bool}{al:Int}{t:AT}(h:BN A (AY al) t){q:Nat}(hq:q < t.rows.length):t.rows.getD q []∈t.rows:=by
 rw [List.getD,List.getElem?_eq_getElem hq];exact List.getElem_mem hq
theorem KS{A L:W→Bool}{al:Int}{b0:Nat}{t:AT}(h:QZ A L al)(ht:Fp al b0 t)(hb:b0≤20100)(hk:BN L (AY al) t)(b:Bool):∀(w:W) (q:Nat),q < t.rows.length→AN (AY al) w→w.length≤20000→splitAt A t b q w=splitAt L t b q w
 | [],_,_,_,_=>rfl
 | c :: w,q,hq,hw,hl=>by
  have hr:=Xl hk hq
  have hc:=hw c (by simp)
  have he:=P4 h ht hb hr hc
  obtain⟨r',h2,_⟩:=hk.idx (i:=q) (List.getElem?_eq_getElem hq) hc
  have hg:t.rows.getD q []=t.rows[q]:=by rw [List.getD,List.getElem?_eq_getElem hq];rfl
  rw [←hg] at h2
  have hq2:=(List.getElem?_eq_some_iff.1 h2).1
  have hr2:=Xl hk hq2
  have hww:AN (AY al) w:=fun x hx=>hw x (by simp [hx])
  simp at hl
  have hA:A (t.rows.getD (De L t (t.rows.getD q []++[c])) []++w)=L (t.rows.getD (De L t (t.rows.getD q []++[c])) []++w):=
   h _ (O5 (ht.onR _ hr2).1 hww) (by have:=(ht.onR _ hr2).2;simp only [List.length_append];omega)
  unfold splitAt
  rw [he,hA]
  split
  ·rfl
  ·exact KS h ht hb hk b w _ hq2 hww (by omega)
end Go.Am
namespace Go.Am
open Go Go.Proofs
set_option maxHeartbeats 1000000
attribute [local irreducible] A1 BZ Lex Bj Ai Spec
section
variable {P:Program}{TB:Bh}{Γ:Ctx}{d:Option Tmp}{ty:TypeId}{pos:String}{af:Array Edge}{g:Option (Nat×Bool)}{f:Env}{σ:Ab}{nx:Nat}
theorem Yo{t k e:TypeId}{x:Operand}{id:Nat}{es:List (Value×Value)}[hm:Ik P t k e](hx:ev f x=some (.o (.mp id)))(ho:look σ id=some (.mp es)) :
 A1 P TB Γ ⟨d,.call ⟨.builtin .len,#[x],#[t]⟩,ty,pos,af,g⟩ f σ nx (eI .i64 es.length):=
 AH fun V ρ hr hi=>by
  have e1:=hr.get (by simp [Op.operands,Call.operands]) hx
  generalize hv:ρ x=v at e1
  cases e1 with
  | mp hid=>
   obtain⟨hn,ents,clock,h1,h2⟩:=hi.st.obj id _ ho
   have hl:ents.size=es.length:=by have:=congrArg List.length h2;simpa using this
   refine⟨.int .i64 es.length,?_,.d (.v rfl)⟩
   simp [execOp,resolve,invoke,builtin,hv,Builtin.len_,run_underlying hm.out,MapKept.run_getObj_map h1,goInt,hl,go_sem]
end
variable {TB:Bh}
theorem Mu(L:W→Bool)(t:AT):∀k,k≤t.rows.length→(Bn L t k).length≤k∧((Bn L t k).length=k↔((AA L t).take k).Nodup)
 | 0,_=>by simp [Bn]
 | k + 1,hk=>by
  obtain⟨h1,h2⟩:=Mu L t k (by omega)
  have hx:=IS (L:=L) (t:=t) (k:=k) (by omega)
  have hf:=Ko L t k (by omega) (marks L t.cols (t.rows.getD k []))
  rw [Bn]
  by_cases hm:marks L t.cols (t.rows.getD k [])∈(AA L t).take k
  ·rw [if_pos hm] at hf
   rw [hf]
   simp only [Option.isSome_some,if_true]
   refine⟨by omega,?_⟩
   constructor
   ·intro h;omega
   ·intro h
    rw [List.take_add_one,hx] at h
    simp only [Option.toList_some] at h
    rw [List.nodup_append] at h
    exact absurd rfl (h.2.2 _ hm _ (by simp))
  ·rw [if_neg hm] at hf
   rw [hf]
   simp only [Option.isSome_none,Bool.false_eq_true,if_false]
   refine⟨by simp;omega,?_⟩
   simp only [List.length_append,List.length_cons,List.length_nil]
   constructor
   ·intro h
    exact Ti hx (h2.1 (by omega)) hm
   ·intro h
    rw [List.take_add_one,hx] at h
    simp only [Option.toList_some] at h
    rw [List.nodup_append] at h
    have:=h2.2 h.1
    omega
theorem RQ(L:W→Bool)(t:AT):(Bn L t t.rows.length).length=t.rows.length↔(AA L t).Nodup:=by
 have:=(Mu L t t.rows.length (Nat.le_refl _)).2
 rwa [List.take_of_length_le (by simp [AA])] at this
theorem OK.short{al:Int}{t:AT}(h:OK al t):∀(i:Nat) w,t.rows[i]? = some w→w.length≤i:=by
 intro i
 induction i using Nat.strongRecOn with
 | ind i ih=>
  intro w hi
  rcases Nat.eq_zero_or_pos i with rfl|h0
  ·have:=h.r0.symm.trans hi
   injection this with this
   subst this;simp
  ·obtain⟨hne,j,hj,hjw⟩:=h.pre i w hi h0
   have:=ih j hj _ hjw
   rw [List.length_dropLast] at this
   omega
theorem OK.bd{al:Int}{t:AT}(h:OK al t):Fp al 20000 t:=by
 refine⟨fun w hw=>⟨(h.rw w hw).2,?_⟩,fun x hx=>⟨(h.cw x hx).2,by have:=(h.cw x hx).1;omega⟩,h.rl,h.cl⟩
 obtain⟨i,hi,he⟩:=List.getElem_of_mem hw
 have:=h.short i w (by rw [List.getElem?_eq_getElem hi,he])
 have:=h.rl
 omega
theorem Es{c:C}{L:W→Bool}{ok:W→Prop}(hc:FD Tryz.prog TB c L ok)(al:Int)(w:W)(hl:w.length≤1099511627776):Pure Tryz.prog TB 78 [Ji al c,eT w] (eB (C8 al w)):=by
 have h1:=CG (TB:=TB) w al hl
 have hr:=Cm c hc.AS
 have he:C8 al w=(decide ((w.length:Int)≤4000) && within w al):=by unfold C8;rw [Bool.and_comm];congr 1;rw [decide_eq_decide];omega
 rw [he]
 refine eG Tryz.func78 rfl (by kernel_rfl) rfl ?_;intro Γ hΓ
 (repeat first|refine aU rfl ?_)
 (refine pW rfl ?_ rfl (by rfl);refine Dm rfl rfl ?_)
 (repeat first|refine tA rfl ?_ |refine s2 rfl fun _ _hb=>?_ |(refine sC rfl (h1) ?_;intro _ _hb) |refine s3 rfl ?_ ?_<;>rintro rfl |refine aU rfl ?_ |refine Aa ?_)
 (repeat' first|refine tA rfl ?_ |(refine sC rfl (h1) ?_;intro _ _hb) |refine Aa ?_|(refine aC rfl ?_ ?_<;>rintro⟨⟩));all_goals try contradiction
 all_goals (subst_vars;refine aR ⟨_,rfl,?_⟩;show E.o _=E.o _;congr;grind)
end Go.Am
namespace Go.Am
open Go Go.Proofs
set_option maxHeartbeats 1000000
attribute [local irreducible] A1 BZ Lex Bj Ai Spec
variable {TB:Bh}
theorem CE{c:C}{L:W→Bool}{ok:W→Prop}(hc:FD Tryz.prog TB c L ok)(al:Int)(hal:Bo al=true)(t:AT)(hf:OK al t→Ij ok (AY al) t)(hz:Ly t) :
    Pure Tryz.prog TB 58 [Ji al c,BV t] (eB (AB L al t)):=by
  have hr:=Cm c hc.AS
  have hrl:=hz.rl
  have hcl:=hz.cl
  have hal0:0≤al:=by unfold Bo at hal;simp at hal;omega
  by_cases h0:GR al t=true
  · have hss : DG al t=(Dt (rowAt al t.rows) t.rows.length && Dt (G0 al t.cols) t.cols.length):=by unfold DG;rw [h0];rfl
    have hvv:AB L al t=((Dt (rowAt al t.rows) t.rows.length && Dt (G0 al t.cols) t.cols.length) && decide (AA L t).Nodup):=by unfold AB;rw [hss]
    unfold GR at h0
    simp only [Bool.and_eq_true,decide_eq_true_eq] at h0
    obtain⟨h1,h2,h3,h4,h5⟩:=h0
    have h4':=get_map (g:=BD) (k:=0) h4
    have h5':=get_map (g:=BD) (k:=0) h5
    have e0:((0:Nat):Int).toNat=(0:Int).toNat:=rfl
    rw [e0] at h4' h5'
    have hdr:((t.rows.map BD).drop (1:Int).toNat).length=t.rows.length - 1:=by simp
    have hdc:((t.cols.map BD).drop (1:Int).toNat).length=t.cols.length - 1:=by simp
    refine eG Tryz.func58 rfl (by kernel_rfl) rfl ?_;intro Γ hΓ
    (repeat first|refine aU rfl ?_)
    (refine pW rfl ?_ rfl (by rfl);refine Dm rfl rfl ?_)
    (refine Af rfl ?_;refine Ci (fun _ _=>C0 rfl rfl rfl) rfl ?_)
    (repeat first|refine tA rfl ?_ |refine aU rfl ?_ |refine Aa ?_)
    refine rG (HN []) (by kernel_rfl) ?_
    (repeat first|refine sN rfl ?_ |refine tA rfl ?_ |refine s2 rfl fun _ _hb=>?_ |refine s3 rfl ?_ ?_<;>rintro rfl |refine aU rfl ?_ |refine Aa ?_)
    (repeat' first|refine sN rfl ?_ |refine tA rfl ?_ |(refine s4 rfl ‹_› rfl ?_ ?_;omega) |refine s2 rfl fun _ _hb=>?_ |refine s3 rfl ?_ ?_<;>rintro rfl |refine aU rfl ?_ |refine Aa ?_|(refine aC rfl ?_ ?_<;>rintro⟨⟩));all_goals try contradiction
    all_goals first
      | (exfalso;(simp only[oZ] at *;omega);done)
      | (exfalso;simp at *;done)
      | skip
    refine aK ?_
    (repeat first|refine tA rfl ?_|(refine Af rfl ?_;refine gA rfl ?_;first| refine gS (fun _ _=>Tu rfl rfl (by simp) (by omega) (by (simp only[oZ] at *;omega))) ?_) |refine aU rfl ?_ |refine Aa ?_)
    refine aB ?_
    refine aL (α:={k:Nat // k+1≤t.rows.length∧Dt (rowAt al t.rows) (k+1)=true}) [2,3,5,6,46,47] [0] rfl rfl (fun ⟨k,hk,ha⟩=>[(48,eI .i64 k)]) (fun ⟨k,hk,ha⟩=>[]) 1 (fun ⟨k,hk,ha⟩=>t.rows.length - k) (⟨0,by omega,rfl⟩) hΓ rfl (by (simp[cX,zC,hΓ,hr])) ?_;rintro⟨k,hk,ha⟩;(try dsimp only[cA,cB])
    by_cases hlt:k+1 < t.rows.length
    · obtain⟨x,hx⟩:=get_some hlt
      have hx':((t.rows.map BD).drop (1:Int).toNat)[((k:Nat):Int).toNat]? = some (BD x):=by rw [List.getElem?_drop,Nat.add_comm];simp [hx]
      have hxb:=hz.rb x (List.mem_of_getElem? hx)
      have hra:rowAt al t.rows (k+1)=(!decide (x.length=0) && (within x al && decide (x.dropLast∈t.rows.take (k+1)))):=by unfold rowAt;rw [hx]
      have hww:=CG (TB:=TB) x al (by omega)
      have hin:Pure Tryz.prog TB 109 [.o (.d (.l ((t.rows.map BD).take ((k:Int)+1).toNat))),eT (x.take ((x.length:Int) - 1).toNat)] (eB (decide (x.dropLast∈t.rows.take (k+1)))):=by
        have e1:(x.take ((x.length:Int) - 1).toNat)=x.dropLast:=by rw [List.dropLast_eq_take];congr 1;omega
        rw [e1,show ((k:Int)+1).toNat=k+1 by omega,←List.map_take]
        exact Fv _ _
      have hxe:(x=[])↔x.length=0:=by rw [List.length_eq_zero_iff]
      (repeat first|refine s2 rfl fun _ _hb=>?_ |refine aU rfl ?_ |refine Aa ?_)
      ((refine aC rfl ?_ ?_<;>rintro⟨⟩);all_goals try(exfalso;(simp only[oZ] at *;omega)))
      refine aK ?_
      refine aS (aB ?_)
      (repeat first|refine tA rfl ?_ |(refine s4 rfl ‹_› rfl ?_ ?_;omega) |refine aU rfl ?_ |refine Aa ?_)
      refine rG (HN []) (by kernel_rfl) ?_
      by_cases hx0:x=[]
      · rw [decide_eq_true (hxe.1 hx0)] at hra
        (repeat' first|(refine sA rfl ?_ ?_;first|exact tI|omega) |refine s2 rfl fun _ _hb=>?_ |(refine sC rfl (hww) ?_;intro _ _hb)|(refine sC rfl (hin) ?_;intro _ _hb) |refine s3 rfl ?_ ?_<;>rintro rfl |refine aU rfl ?_ |refine Aa ?_|(refine aC rfl ?_ ?_<;>rintro⟨⟩));all_goals try contradiction
        all_goals first
          | (exfalso;simp at *;grind;done)
          | (refine aR ⟨_,rfl,?_⟩;show eB false=eB _;rw [hvv,Gc (by omega) hlt (by rw [hra];rfl)];rfl)
      · have hpos:0 < x.length:=List.length_pos_iff.2 hx0
        (repeat' first|(refine sA rfl ?_ ?_;first|exact tI|omega) |refine s2 rfl fun _ _hb=>?_ |(refine sC rfl (hww) ?_;intro _ _hb)|(refine sC rfl (hin) ?_;intro _ _hb)|(refine Af rfl ?_;refine gA rfl ?_;first| refine gS (fun _ _=>HZ rfl rfl (by simp) (by omega) (by (simp only[oZ] at *;omega))) ?_|refine gS (fun _ _=>Ls rfl rfl (by omega) (by omega)) ?_) |refine s3 rfl ?_ ?_<;>rintro rfl |refine aU rfl ?_ |refine Aa ?_|(refine aC rfl ?_ ?_<;>rintro⟨⟩));all_goals try contradiction
        all_goals first
          | (exfalso;exact hx0 (of_decide_eq_true ‹decide (x=[])=true›);done)
          | (refine aR ⟨_,rfl,?_⟩;show eB false=eB _;rw [hvv,Gc (by omega) hlt (by rw [hra];grind)];rfl)
          | (have hst:=GG ha (by rw [hra];grind)
             refine aK ?_
             (repeat first|(refine sA rfl ?_ ?_;first|exact tI|omega) |refine aU rfl ?_ |refine Aa ?_)
             refine⟨⟨k+1,by omega,hst⟩,by dsimp only;(omega),[0],?_⟩
             simp[cX,zC,hΓ,hr])
    · obtain hke:k+1=t.rows.length:=by omega
      rw [hke] at ha
      rw [ha,Bool.true_and] at hvv
      (repeat first|refine s2 rfl fun _ _hb=>?_ |refine aU rfl ?_ |refine Aa ?_)
      ((refine aC rfl ?_ ?_<;>rintro⟨⟩);all_goals try(exfalso;(simp only[oZ] at *;omega)))
      refine aE ?_
      (repeat first|refine tA rfl ?_|(refine Af rfl ?_;refine gA rfl ?_;first| refine gS (fun _ _=>Tu rfl rfl (by simp) (by omega) (by (simp only[oZ] at *;omega))) ?_) |refine aU rfl ?_ |refine Aa ?_)
      refine aB ?_
      have hra1:=ha
      clear hke ha hk
      refine aL (α:={k:Nat // k+1≤t.cols.length∧Dt (G0 al t.cols) (k+1)=true}) [2,3,5,6,77,78] [0] rfl rfl (fun ⟨k,hk,ha⟩=>[(79,eI .i64 k)]) (fun ⟨k,hk,ha⟩=>[]) 1 (fun ⟨k,hk,ha⟩=>t.cols.length - k) (⟨0,by omega,rfl⟩) hΓ rfl (by (simp[cX,zC,hΓ,hr])) ?_;rintro⟨k,hk,ha⟩;(try dsimp only[cA,cB])
      by_cases hlt:k+1 < t.cols.length
      · obtain⟨x,hx⟩:=get_some hlt
        have hx':((t.cols.map BD).drop (1:Int).toNat)[((k:Nat):Int).toNat]? = some (BD x):=by rw [List.getElem?_drop,Nat.add_comm];simp [hx]
        have hxb:=hz.cb x (List.mem_of_getElem? hx)
        have hra:G0 al t.cols (k+1)=(decide (x.length≤4000) && (within x al && !decide (x∈t.cols.take (k+1)))):=by unfold G0;rw [hx]
        have hcw:=Es (TB:=TB) hc al x (by omega)
        have hin:Pure Tryz.prog TB 109 [.o (.d (.l ((t.cols.map BD).take ((k:Int)+1).toNat))),eT x] (eB (decide (x∈t.cols.take (k+1)))):=by
          rw [show ((k:Int)+1).toNat=k+1 by omega,←List.map_take]
          exact Fv _ _
        (repeat first|refine s2 rfl fun _ _hb=>?_ |refine aU rfl ?_ |refine Aa ?_)
        ((refine aC rfl ?_ ?_<;>rintro⟨⟩);all_goals try(exfalso;(simp only[oZ] at *;omega)))
        refine aK ?_
        refine aS (aB ?_)
        (repeat first|refine tA rfl ?_ |(refine s4 rfl ‹_› rfl ?_ ?_;omega) |refine aU rfl ?_ |refine Aa ?_)
        (repeat' first|(refine sA rfl ?_ ?_;first|exact tI|omega) |refine s2 rfl fun _ _hb=>?_ |(refine sC rfl (hin) ?_;intro _ _hb)|(refine Af rfl ?_;refine gA rfl ?_;first| (refine gB (fun _ _=>AJ rfl rfl (by simp [E.AS,C.Be,C.AS,hc.AS,eC]) hcw rfl) ?_;intro _ _hb)|refine gS (fun _ _=>HZ rfl rfl (by simp) (by omega) (by (simp only[oZ] at *;omega))) ?_) |refine s3 rfl ?_ ?_<;>rintro rfl |refine aU rfl ?_ |refine Aa ?_|(refine aC rfl ?_ ?_<;>rintro⟨⟩));all_goals try contradiction
        all_goals first
          | (refine aR ⟨_,rfl,?_⟩;show eB false=eB _;rw [hvv,Gc (by omega) hlt (by rw [hra];unfold C8 at *;grind)];rfl)
          | (have hst:=GG ha (by rw [hra];unfold C8 at *;grind)
             refine aK ?_
             (repeat first|(refine sA rfl ?_ ?_;first|exact tI|omega) |refine aU rfl ?_ |refine Aa ?_)
             refine⟨⟨k+1,by omega,hst⟩,by dsimp only;(omega),[0],?_⟩
             simp[cX,zC,hΓ,hr])
      · obtain hke:k+1=t.cols.length:=by omega
        rw [hke] at ha
        rw [ha,Bool.true_and] at hvv
        have hsf:OK al t:=MQ (by rw [hss,hra1,ha];rfl)
        have hask:=(hsf.bd.PG (hf hsf) (by omega)).1
        have hnv:=RQ L t
        have hml:(Gj (Bn L t t.rows.length)).length=(Bn L t t.rows.length).length:=by simp [Gj]
        (repeat first|refine s2 rfl fun _ _hb=>?_ |refine aU rfl ?_ |refine Aa ?_)
        ((refine aC rfl ?_ ?_<;>rintro⟨⟩);all_goals try(exfalso;(simp only[oZ] at *;omega)))
        refine aE ?_
        (repeat first|refine tA rfl ?_ |refine aU rfl ?_)
        (refine pW rfl ?_ rfl (by rfl);refine Ae [] rfl rfl (FN hc al t hask) ⟨rfl,by simp,by simp⟩ (by simp [Ha,E.A4,C.Ce,C.A4,hr,eC]) trivial ?_;rintro x0 σ1 nx1 ⟨rfl,rfl,rfl⟩ _)
        (repeat first|refine sN rfl ?_ |refine tA rfl ?_ |refine s2 rfl fun _ _hb=>?_|(refine Af rfl ?_;refine gA rfl ?_;first| refine gQ (Yo rfl rfl) (by rfl) ?_) |refine Aa ?_)
        refine aR ⟨_,rfl,?_⟩
        rw [hvv]
        subst_vars
        show eB _=eB _
        congr 4
        rw [eq_iff_iff]
        exact⟨fun h=>hnv.1 (by omega),fun h=>by have:=hnv.2 h;omega⟩
  · have hvv:AB L al t=false:=by unfold AB DG;simp [h0]
    rw [hvv]
    have h0':¬((1≤t.rows.length∧t.rows.length≤12)∧(1≤t.cols.length∧t.cols.length≤20)∧t.rows[0]? = some []∧t.cols[0]? = some []):=by
      intro h;apply h0;unfold GR;simp [h,hal0]
    have hR':(t.rows.map BD)[(0:Int).toNat]? = (t.rows[0]?).map BD:=by simp
    have hC':(t.cols.map BD)[(0:Int).toNat]? = (t.cols[0]?).map BD:=by simp
    have hRn:t.rows[0]? = none→t.rows.length=0:=fun h=>by have:=List.getElem?_eq_none_iff.1 h;omega
    have hCn:t.cols[0]? = none→t.cols.length=0:=fun h=>by have:=List.getElem?_eq_none_iff.1 h;omega
    refine eG Tryz.func58 rfl (by kernel_rfl) rfl ?_;intro Γ hΓ
    (repeat first|refine aU rfl ?_)
    (refine pW rfl ?_ rfl (by rfl);refine Dm rfl rfl ?_)
    (refine Af rfl ?_;refine Ci (fun _ _=>C0 rfl rfl rfl) rfl ?_)
    (repeat first|refine tA rfl ?_ |refine aU rfl ?_ |refine Aa ?_)
    refine rG (HN []) (by kernel_rfl) ?_
    cases hR:t.rows[0]?<;>cases hC:t.cols[0]?<;>rw [hR] at hR' h0'<;>rw [hC] at hC' h0'<;>(
      (repeat first|refine sN rfl ?_ |refine tA rfl ?_ |refine s2 rfl fun _ _hb=>?_ |refine s3 rfl ?_ ?_<;>rintro rfl |refine aU rfl ?_ |refine Aa ?_)
      (repeat' first|refine sN rfl ?_ |refine tA rfl ?_ |(refine s4 rfl ‹_› rfl ?_ ?_;omega) |refine s2 rfl fun _ _hb=>?_ |refine s3 rfl ?_ ?_<;>rintro rfl |refine aU rfl ?_ |refine Aa ?_|(refine aC rfl ?_ ?_<;>rintro⟨⟩));all_goals try contradiction
      all_goals first
        | (subst_vars;exact aR ⟨_,rfl,rfl⟩)
        | (exfalso;grind;done))
end Go.Am
namespace Go.Am
open Go Go.Proofs
set_option linter.unusedVariables false
def Dp(n:Nat)(p:W→Prop):Prop:=∃l:List W,l.length≤n∧∀w,p w→w∈l
theorem Dp.or{a b:Nat}{p q:W→Prop}(h:Dp a p)(h':Dp b q):Dp (a+b) (fun w=>p w∨q w):=by
 obtain⟨l,h1,h2⟩:=h
 obtain⟨l',h3,h4⟩:=h'
 exact⟨l++l',by simp;omega,fun w hw=>List.mem_append.2 (hw.imp (h2 w) (h4 w))⟩
theorem Dp.sub{a b:Nat}{p q:W→Prop}(h:Dp a p)(hs:∀w,q w→p w)(hb:a≤b):Dp b q:=by
 obtain⟨l,h1,h2⟩:=h
 exact⟨l,by omega,fun w hw=>h2 w (hs w hw)⟩
theorem Dp.none{n:Nat}{p:W→Prop}(h:∀w,¬p w):Dp n p:=⟨[],by simp,fun w hw=>absurd hw (h w)⟩
theorem Dp.if{n:Nat}{p:W→Prop}{c:Prop}(h:c→Dp n p):Dp n (fun w=>c∧p w):=by
 by_cases hc:c
 ·exact(h hc).sub (fun w hw=>hw.2) (Nat.le_refl _)
 ·exact .none fun w hw=>hc hw.1
theorem Mm{α β:Type}(f:α→List β)(b:Nat):∀(l:List α),(∀x∈l,(f x).length≤b)→(l.flatMap f).length≤l.length*b
 | [],_=>by simp
 | x::l,h=>by
  have h1:=Mm f b l fun y hy=>h y (by simp [hy])
  have h2:=h x (by simp)
  rw [List.flatMap_cons,List.length_append,List.length_cons,Nat.succ_mul]
  omega
theorem Dp.ex{α:Type}{n b:Nat}{p:W→Prop}{q:α→W→Prop}(l:List α)(hl:l.length≤n)(hq:∀x∈l,Dp b (q x))(h:∀w,p w→∃x∈l,q x w):Dp (n*b) p:=by
 classical
 have hf:∀x:α,∃k:List W,x∈l→k.length≤b∧∀w,q x w→w∈k:=fun x=>by
  by_cases hx:x∈l
  ·obtain⟨k,h1,h2⟩:=hq x hx;exact⟨k,fun _=>⟨h1,h2⟩⟩
  ·exact⟨[],fun h=>absurd h hx⟩
 have hg:=fun x=>Classical.choose_spec (hf x)
 refine⟨l.flatMap fun x=>Classical.choose (hf x),Nat.le_trans (Mm _ b l fun x hx=>(hg x hx).1) (Nat.mul_le_mul_right b hl),fun w hw=>?_⟩
 obtain⟨x,hx,hxw⟩:=h w hw
 exact List.mem_flatMap.2 ⟨x,hx,(hg x hx).2 w hxw⟩
theorem Dp.map{α:Type}{n:Nat}{p:W→Prop}(f:α→W)(l:List α)(hl:l.length≤n)(h:∀w,p w→∃x∈l,w=f x):Dp n p:=
 ⟨l.map f,by simpa using hl,fun w hw=>by obtain⟨x,hx,rfl⟩:=h w hw;exact List.mem_map.2 ⟨x,hx,rfl⟩⟩
theorem X6(al:Int):(AY al).length≤6:=by
 unfold AY
 rw [List.length_map]
 exact AR al 6
theorem NX{al:Int}{b:Nat}{t:AT}(h:Fp al b t):Dp 1764 (LF (AY al) t):=by
 have hrl:=h.rl
 have hcl:=h.cl
 refine Dp.ex (n:=12) (b:=147) (q:=fun r v=>∃m:W,(m=[]∨∃l∈AY al,m=[l])∧∃x:W,(x=[]∨x∈t.cols)∧v=r++m++x) t.rows hrl (fun r _=>?_) fun w hw=>hw
 refine Dp.ex (n:=7) (b:=21) (q:=fun m v=>∃x:W,(x=[]∨x∈t.cols)∧v=r++m++x) ([]::(AY al).map fun l=>[l]) (by have:=X6 al;simp;omega) (fun m _=>?_) fun w hw=>?_
 ·exact Dp.map (fun x=>r++m++x) ([]::t.cols) (by simp;omega) fun w ⟨x,hx,hw⟩=>⟨x,by simpa using hx,hw⟩
 ·obtain⟨m,hm,h3⟩:=hw
  refine⟨m,?_,h3⟩
  rcases hm with rfl|⟨l,hl,rfl⟩
  ·simp
  ·exact List.mem_cons_of_mem _ (List.mem_map.2 ⟨l,hl,rfl⟩)
theorem N0{L:W→Bool}{ls:List UInt8}:∀(n:Nat) (t:AT),(Du L ls n t).length≤n+1
 | 0,t=>by simp [Du]
 | n + 1,t=>by
  unfold Du
  cases AO L ls t with
  | none=>simp
  | some w=>
   dsimp only
   split
   ·simp
   ·have:=N0 (L:=L) (ls:=ls) n ⟨t.rows++[w],t.cols⟩
    simp;omega
theorem NW{L:W→Bool}{al:Int}{b:Nat}{t:AT}(h:Fp al b t):Dp 24696 (fun v=>∃y∈Du L (AY al) 13 t,LF (AY al) y v):=
 Dp.ex (n:=14) (b:=1764) (q:=fun y v=>LF (AY al) y v) (Du L (AY al) 13 t) (N0 13 t) (fun y hy=>NX (h.grow hy)) fun w hw=>hw
theorem T5{al:Int}{b:Nat}{t:AT}(h:Fp al b t){w:W}(hw:w.length≤20000):Dp 260013 (SB t w):=by
 have hrl:=h.rl
 refine Dp.ex (n:=13) (b:=20001) (q:=fun r v=>∃k:Nat,v=r++w.drop k) ([]::t.rows) (by simp;omega) (fun r _=>?_) fun v ⟨r,hr,hv⟩=>⟨r,by simpa using hr,hv⟩
 refine Dp.map (fun k=>r++w.drop k) (List.range 20001) (by simp) fun v ⟨k,hv⟩=>?_
 by_cases hk:k < 20001
 ·exact⟨k,List.mem_range.2 hk,hv⟩
 ·exact⟨20000,by simp,by rw [hv,List.drop_of_length_le (by omega),List.drop_of_length_le (by omega)]⟩
theorem T4{L:W→Bool}{al:Int}{t:AT}(h:Fp al 20000 t){w:W}(hon:AN (AY al) w)(hw:w.length≤20000):Dp 286473 (SA L (AY al) t w):=by
 refine((NX h).or ((T5 h hw).or (b:=24696) ?_)).sub (b:=286473) (fun v hv=>hv) (by omega)
 cases hs:BX L t w with
 | none=>exact .none fun v ⟨x,hx,_⟩=>by cases hx
 | some x=>
  cases ha:Db t x with
  | none=>exact .none fun v ⟨x',hx,u,hu,_⟩=>by injection hx with hx;subst hx;rw [ha] at hu;cases hu
  | some u=>
   obtain⟨p,_,rfl⟩:=GU hs
   exact(NW (L:=L) (OL h (fun c hc=>hon c (by simp [hc])) (by simp at hw;omega) ha)).sub (fun v ⟨x',hx,u',hu,hv⟩=>by
    injection hx with hx;subst hx
    rw [ha] at hu;injection hu with hu;subst hu;exact hv) (Nat.le_refl _)
def okB(al:Int)(w:W):Prop:=AN (AY al) w∧w.length≤50000
theorem Jw(al:Int):OJ (okB al) al:=fun w h1 h2=>⟨h1,h2⟩
theorem TK{α:Type}:∀(l m:List α),l.Nodup→(∀x∈l,x∈m)→l.length≤m.length
 | [],_,_,_=>by simp
 | x :: l,m,hn,hs=>by
  obtain⟨a,b,rfl⟩:=List.append_of_mem (hs x (by simp))
  rw [List.nodup_cons] at hn
  have h:=TK l (a++b) hn.2 fun y hy=>by
   have h1:=hs y (List.mem_cons_of_mem _ hy)
   simp only [List.mem_append,List.mem_cons] at h1 ⊢
   rcases h1 with h1|rfl|h1
   ·exact .inl h1
   ·exact absurd hy hn.1
   ·exact .inr h1
  simp at h ⊢;omega
theorem SL{t:Cy}{n:Nat}{p:W→Prop}{al:Int}(h:Dp n p)(hn:n≤20000000)(hb:∀w,p w→okB al w):YM t p:=by
 obtain⟨k,hk,hm⟩:=h
 intro l hnd hl
 have hsub:l ⊆ CD t::(k.filter fun w=>w.length≤50000).flatMap fun w=>(List.range 50001).map fun i=>MK t (CD t) (w.take i):=fun F hF=>by
  rcases hl F hF with rfl|⟨u,v,ho,rfl⟩
  ·simp
  ·have h1:=(hb _ ho).2
   refine List.mem_cons_of_mem _ (List.mem_flatMap.2 ⟨u++v,List.mem_filter.2 ⟨hm _ ho,by simpa using h1⟩,List.mem_map.2 ⟨u.length,List.mem_range.2 (by simp at h1;omega),by simp⟩⟩)
 have h1:=TK _ _ hnd hsub
 have h2:=Mm (fun w:W=>(List.range 50001).map fun i=>MK t (CD t) (w.take i)) 50001 (k.filter fun w=>w.length≤50000) (fun x _=>by simp)
 have h3:(k.filter fun w=>w.length≤50000).length≤n:=Nat.le_trans (List.length_filter_le _ _) hk
 rw [List.length_cons] at h1
 have h4:(k.filter fun w=>decide (w.length≤50000)).length*50001≤20000000*50001:=Nat.mul_le_mul_right _ (by omega)
 omega
theorem bm{al:Int}{w:W}(h:okB al w):aa al w:=⟨h.1,Nat.le_trans h.2 (by omega)⟩
theorem TQ{te:Cx}{n:Nat}{p:W→Prop}(h:Dp n p)(hn:n≤20000000)(hb:∀w,p w→okB (Ak te) w):(∀w,p w→aa (Ak te) w)∧Pn te p:=by
 refine⟨fun w hw=>bm (hb w hw),?_⟩
 obtain⟨kn,a,s,q,al⟩:=te
 cases kn with
 | true=>intro h;cases h
 | false=>exact fun _=>SL h hn hb
def Vw(te:Cx)(x:AT)(v:W):Prop:=OK (Ak te) x∧∃y∈Du (A8 te) (AY (Ak te)) 13 x,LF (AY (Ak te)) y v
theorem SC{te:Cx}{x:AT}:∀v,Vw te x v→okB (Ak te) v:=fun v ⟨h,y,hy,hv⟩=>h.bd.dJ (Jw _) (by omega) y hy v hv
theorem NL(te:Cx)(x:AT):Dp 24696 (Vw te x):=Dp.if fun h=>NW h.bd
theorem Lf(te:Cx)(x:AT):∃ok:W→Prop,(∀w,ok w→aa (Ak te) w)∧Pn te ok∧(OK (Ak te) x→∀y∈Du (A8 te) (AY (Ak te)) 13 x,Ij ok (AY (Ak te)) y):=by
 obtain⟨h1,h2⟩:=TQ (te:=te) (NL te x) (by omega) SC
 exact⟨_,h1,h2,fun h y hy v hv=>⟨h,y,hy,hv⟩⟩
theorem PH(te:Cx)(x:AT)(w:W):∃ok:W→Prop,(∀w,ok w→aa (Ak te) w)∧Pn te ok∧(OK (Ak te) x→∀y∈Du (A8 te) (AY (Ak te)) 13 x,Ij ok (AY (Ak te)) y)∧
 (OK (Ak te) x→AN (AY (Ak te)) w∧w.length≤4000→∀v,SA (A8 te) (AY (Ak te)) x w v→ok v):=by
 obtain⟨h1,h2⟩:=TQ (te:=te) (p:=fun v=>Vw te x v∨(OK (Ak te) x∧AN (AY (Ak te)) w∧w.length≤4000)∧SA (A8 te) (AY (Ak te)) x w v)
  ((NL te x).or (b:=286473) (Dp.if fun h=>T4 h.1.bd h.2.1 (by omega))) (by omega) (fun v hv=>by
   rcases hv with hv|⟨⟨h,hw⟩,hv⟩
   ·exact SC v hv
   ·rcases hv with hv|hv|⟨z,hz,u,hu,y,hy,hv⟩
    ·exact h.bd.on (Jw _) (by omega) v hv
    ·exact(h.bd.mono (by omega)).dR (Jw _) hw.1 (by omega) v hv
    ·obtain⟨p,_,rfl⟩:=GU hz
     exact(OL h.bd (fun c hc=>hw.1 c (by simp [hc])) (by simp at hw;omega) hu).dJ (Jw _) (by omega) y hy v hv)
 exact⟨_,h1,h2,fun h y hy v hv=>.inl ⟨h,y,hy,hv⟩,fun h hw v hv=>.inr ⟨⟨h,hw⟩,hv⟩⟩
end Go.Am
namespace Go.Am
open Go Go.Proofs
set_option maxHeartbeats 1000000
attribute [local irreducible] A1 BZ Lex Bj Ai Spec
variable {TB:Bh}
theorem PJ{A:W→Bool}{ls:List UInt8}{m:Nat}{u:AT}{w:W}{R:Option AT}(he:R=A3 A ls (m+1) u)(ho:AO A ls u=some w)(hl:u.rows.length < 12):R=A3 A ls m ⟨u.rows++[w],u.cols⟩:=by
 rw [he]
 conv=>lhs;unfold A3
 rw [ho]
 dsimp only
 rw [if_neg (by omega)]
theorem E5{t:Cx}{al:Int}{A:W→Bool}(hT:Hc Tryz.prog TB 60 101 t al A)(tab:AT)(hz:Ly tab) :
 Pure Tryz.prog TB 69 [B8 t,BV tab] (Ex (if AB A al tab then A3 A (AY al) 13 tab else none)):=by
 have h1:=DB hT tab hz
 by_cases hv:AB A al tab=true
 ·rw [if_pos hv]
  rw [hv] at h1
  have hsh:OK al tab:=(Bs hv).1
  have hr1:=hsh.r1
  have hc1:=hsh.c1
  have hrl:=hsh.rl
  have hcl:=hsh.cl
  refine eG Tryz.func69 rfl (by kernel_rfl) rfl ?_;intro Γ hΓ
  (repeat first|refine tA rfl ?_ |refine s2 rfl fun _ _hb=>?_ |refine sP rfl (h1) rfl ?_ |refine aU rfl ?_ |refine Aa ?_)
  ((refine aC rfl ?_ ?_<;>rintro⟨⟩);all_goals try (simp at _hb;done))
  refine aK ?_
  (repeat first|refine aU rfl ?_)
  refine R.UC [(0,2),(1,2),(2,2),(4,2),(5,2),(6,2),(9,3),(3,1),(7,1),(8,2),(10,5)] mixed (by kernel_rfl) rfl (by kernel_rfl) ?_
  (repeat ((refine R.Af rfl ?_;first|(refine R.yQ (md:=false) rfl rfl rfl ?_ ?_;exact tI) |refine R.yP rfl rfl rfl rfl ?_|refine R.Ci (fun _ _ _=>Eu (by rfl) (by rfl)) rfl rfl ?_ )))
  (refine R.Af rfl ?_;refine R.Ih (fun _=>?_) rfl rfl;refine CC rfl rfl rfl (by intro r hr;simp at hr;obtain⟨_,_,rfl⟩:=hr;rfl) (by rfl) (Nat.le_of_ble_eq_true rfl) (by simp;omega) (fun h=>?_) (fun _=>?_))
  ·exfalso;simp at h;rw [h] at hr1;simp at hr1
  (refine R.Af rfl ?_;refine R.Ih (fun _=>?_) rfl rfl;refine CC rfl rfl rfl (by intro r hr;simp at hr;obtain⟨_,_,rfl⟩:=hr;rfl) (by rfl) (Nat.le_of_ble_eq_true rfl) (by simp;omega) (fun h=>?_) (fun _=>?_))
  ·exfalso;simp at h;rw [h] at hc1;simp at hc1
  (repeat ((refine R.Af rfl ?_;first|refine R.yA rfl rfl rfl rfl ?_|refine R.Ci (fun _ _ _=>Av rfl rfl (by rfl) (by rfl)) rfl rfl ?_ )))
  refine R.Nu ?_
  refine aS ?_
  refine Ai.Ar [2] [] rfl rfl [(4,.o (.ptr 0 2 0 0)),(6,.o (.ptr 3 2 0 0))] [(0,.cells 36 2 [[.d (.l []),.d (.l [])]]),(1,.cells 9 1 (tab.rows.map AP)),(2,.cells 9 1 (tab.cols.map AP)),(3,.cells 36 2 [[.arr 1 1 0 tab.rows.length,.arr 2 1 0 tab.cols.length]])] [0,1,2,3] (rl hΓ rfl) (by (simp[cX,zC,hΓ])) ?_;(try dsimp only[cA,cB])
  have hfo0:=II hT tab hz
  have htk:∀l:List W,((l.map AP).drop 0).take l.length=(l.map BD).map (fun r=>r.map C.d):=fun l=>by rw [List.drop_zero,List.take_of_length_le (by simp)];simp [Function.comp_def]
  have hev:∀u:AT,YX [(0,.cells 36 2 [[.d (.l []),.d (.l [])]]),(1,.cells 9 1 (u.rows.map AP)),(2,.cells 9 1 (u.cols.map AP)),(3,.cells 36 2 [[.arr 1 1 0 u.rows.length,.arr 2 1 0 u.cols.length]])] [B8 t,.a [.arr 1 1 0 u.rows.length,.arr 2 1 0 u.cols.length]] [B8 t,BV u]:=fun u=>
   .cons (.cons (.pure rfl) (.cons (.pure rfl) (.cons (.pure rfl) (.cons (.pure rfl) (.cons (.pure rfl) (.cons (.pure rfl) (.cons (.pure rfl) (.cons (.pure rfl) (.cons (.pure rfl) (.cons (.pure rfl) (.cons (.pure rfl) .nil))))))))))) (.cons (.cons (.arr rfl (by simp) (htk _)) (.cons (.arr rfl (by simp) (htk _)) .nil)) .nil)
  have hop:∀x:AT,OS (AO A (AY al) x)=.t [(false,[.d (tD ((AO A (AY al) x).getD []))]),(false,[.d (bD (AO A (AY al) x).isSome)])]:=fun x=>by cases AO A (AY al) x<;>rfl
  rw [hop] at hfo0
  (repeat first|refine tA rfl ?_|(refine Af rfl ?_;refine gA rfl ?_;first| refine gQ (HY rfl rfl ((hev tab)) (hfo0) rfl) rfl ?_) |refine aU rfl ?_ |refine Aa ?_)
  obtain⟨R,hR⟩:∃R,R=A3 A (AY al) 13 tab:=⟨_,rfl⟩
  rw [←hR]
  refine aB ?_
  refine aL (α:={p:Nat×AT // p.1≤13∧13≤p.1+p.2.rows.length∧p.2.rows.length≤12∧p.2.cols.length≤20∧(∀w∈p.2.rows,w.length≤50000+p.2.rows.length)∧(∀w∈p.2.cols,w.length≤4000)∧R=A3 A (AY al) p.1 p.2}) [2,4,6] [0] rfl rfl (fun ⟨⟨m,u⟩,hm,hmu,hur,huc,hurb,hucb,he⟩=>[(7,eT ((AO A (AY al) u).getD [])),(8,eB (AO A (AY al) u).isSome)]) (fun ⟨⟨m,u⟩,hm,hmu,hur,huc,hurb,hucb,he⟩=>[(1,.cells 9 1 (u.rows.map AP)),(2,.cells 9 1 (u.cols.map AP)),(3,.cells 36 2 [[.arr 1 1 0 u.rows.length,.arr 2 1 0 u.cols.length]])]) 4 (fun ⟨⟨m,u⟩,hm,hmu,hur,huc,hurb,hucb,he⟩=>m) (⟨(13,tab),by simp,by simp,hrl,hcl,fun w hw=>by have:=(hsh.rw w hw).1;show w.length≤50000+tab.rows.length;omega,fun w hw=>(hsh.cw w hw).1,hR⟩) hΓ rfl (by (simp[cX,zC,hΓ])) ?_;rintro⟨⟨m,u⟩,hm,hmu,hur,huc,hurb,hucb,he⟩;(try dsimp only[cA,cB])
  dsimp only at hm hmu hur huc hurb hucb he
  have hz0:AO A (AY al) u=none∨∃w,AO A (AY al) u=some w:=by cases AO A (AY al) u<;>simp
  rcases hz0 with ho|⟨w,ho⟩
  ·rw [ho]
   have hn:R=some u:=by
    rw [he]
    obtain⟨m',rfl⟩:∃m',m=m'+1:=⟨m - 1,by omega⟩
    simp [A3,ho]
   (repeat first|refine tA rfl ?_ |refine aU rfl ?_ |refine Aa ?_)
   ((refine aC rfl ?_ ?_<;>rintro⟨⟩);all_goals try (simp at _hb;done))
   refine aE ?_
   (repeat first|refine tA rfl ?_ |refine aU rfl ?_ |refine Aa ?_)
   refine Ai.settle [(4,.o (.ip [AM u.rows,AM u.cols])),(5,eB true)] ⟨⟨_,rfl,.o (.box rfl (.cons (.full rfl (by simp [Function.comp_def]) (by simp)) (.cons (.full rfl (by simp [Function.comp_def]) (by simp)) .nil)))⟩,⟨_,rfl,.o .d⟩,trivial⟩ ?_
   refine aR ⟨_,rfl,?_⟩
   rw [hn];rfl
  ·rw [ho]
   obtain⟨m',rfl⟩:∃m',m=m'+1:=⟨m - 1,by omega⟩
   obtain⟨⟨r,hr,l,hl,hw⟩,_⟩:=Ff ho
   have hwl:w.length≤50000+(u.rows++[w]).length:=by
    have:=hurb r hr
    rw [hw];simp;omega
   (repeat first|refine tA rfl ?_ |refine aU rfl ?_ |refine Aa ?_)
   ((refine aC rfl ?_ ?_<;>rintro⟨⟩);all_goals try (simp at _hb;done))
   refine aK ?_
   refine aB ?_
   (repeat first|refine tA rfl ?_ |refine s2 rfl fun _ _hb=>?_ |refine aU rfl ?_ |refine Aa ?_)
   (refine aC rfl ?_ ?_<;>rintro⟨⟩)
   ·have h12:u.rows.length=12:=by (simp only[oZ] at *;omega)
    have hn:R=none:=by
     rw [he]
     simp [A3,ho,h12]
    (repeat first|refine tA rfl ?_|(refine Af rfl ?_;refine gA rfl ?_;first| refine gS (fun _ _=>Av rfl rfl (by rfl) (by rfl)) ?_) |refine aU rfl ?_ |refine Aa ?_)
    refine Ai.settle [(4,.o (.ip [.l [],.l []])),(5,eB false)] ⟨⟨_,rfl,.o (.box rfl (.cons .d (.cons .d .nil)))⟩,⟨_,rfl,.o .d⟩,trivial⟩ ?_
    refine aR ⟨_,rfl,?_⟩
    rw [hn];rfl
   ·have hlt:u.rows.length < 12:=by (simp only[oZ] at *;omega)
    have hst:=PJ he ho hlt
    have hzu:Ly ⟨u.rows++[w],u.cols⟩:=⟨by simp;omega,by dsimp only;omega,fun x hx=>by
     rcases List.mem_append.1 hx with hx|hx
     ·have:=hurb x hx;omega
     ·simp at hx;subst hx;simp at hwl;omega,fun x hx=>by have:=hucb x hx;omega⟩
    have hfo:=II hT ⟨u.rows++[w],u.cols⟩ hzu
    rw [hop] at hfo
    refine aK ?_
    (repeat first|refine tA rfl ?_ |refine aU rfl ?_)
    (refine pW rfl ?_ rfl (by rfl);refine Ax rfl rfl rfl (by first| (simp;done)|(simp;(omega))) rfl (by intro r hr;simp at hr;subst hr;rfl) (by rfl) (Nat.le_of_ble_eq_true rfl) (by simp;omega) ?_)
    (repeat first|refine tA rfl ?_)
    refine Aa ?_
    have hn1:∀x∈u.rows++[w],x.length≤50000+(u.rows++[w]).length:=fun x hx=>by
     rcases List.mem_append.1 hx with hx|hx
     ·have:=hurb x hx;simp;omega
     ·simp at hx;subst hx;exact hwl
    refine Ai.Ar [2,4,6] [] rfl rfl [] [(0,.cells 36 2 [[.d (.l []),.d (.l [])]]),(1,.cells 9 1 ((u.rows++[w]).map AP)),(2,.cells 9 1 (u.cols.map AP)),(3,.cells 36 2 [[.arr 1 1 0 (u.rows++[w]).length,.arr 2 1 0 u.cols.length]])] [0,4,2,3] (rl hΓ rfl) (by (simp[cX,zC,hΓ])) ?_;(try dsimp only[cA,cB])
    (repeat first|refine tA rfl ?_|(refine Af rfl ?_;refine gA rfl ?_;first| refine gQ (HY rfl rfl ((hev ⟨u.rows++[w],u.cols⟩)) (hfo) rfl) rfl ?_) |refine aU rfl ?_ |refine Aa ?_)
    refine⟨⟨⟨m',⟨u.rows++[w],u.cols⟩⟩,by dsimp only;omega,by simp;omega,by simp;omega,huc,hn1,hucb,hst⟩,by dsimp only;(omega),[0,1,2,3],?_⟩
    simp[cX,zC,hΓ]
 ·have hv:AB A al tab=false:=by simpa using hv
  rw [if_neg (by simp [hv])]
  rw [hv] at h1
  refine eG Tryz.func69 rfl (by kernel_rfl) rfl ?_;intro Γ hΓ
  (repeat first|refine tA rfl ?_ |refine s2 rfl fun _ _hb=>?_ |refine sP rfl (h1) rfl ?_ |refine aU rfl ?_ |refine Aa ?_)
  ((refine aC rfl ?_ ?_<;>rintro⟨⟩);all_goals try (simp at _hb;done))
  (repeat first|refine tA rfl ?_|(refine Af rfl ?_;refine gA rfl ?_;first| refine gS (fun _ _=>Av rfl rfl (by rfl) (by rfl)) ?_) |refine aU rfl ?_ |refine Aa ?_)
  refine Ai.settle [(4,.o (.ip [.l [],.l []])),(5,eB false)] ⟨⟨_,rfl,.o (.box rfl (.cons .d (.cons .d .nil)))⟩,⟨_,rfl,.o .d⟩,trivial⟩ ?_
  refine aR ⟨_,rfl,rfl⟩
end Go.Am
