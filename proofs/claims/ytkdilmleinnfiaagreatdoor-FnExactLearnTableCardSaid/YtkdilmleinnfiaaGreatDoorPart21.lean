/-
  The reference's tables: rows, shapes, validity.
-/
import Derived.Test.YtkdilmleinnfiaaGreatDoorPart17
import Derived.Test.YtkdilmleinnfiaaGreatDoorPart15
import Derived.Test.YtkdilmleinnfiaaGreatDoorPart20
import Derived.Test.YtkdilmleinnfiaaGreatDoorPart16
set_option linter.constructorNameAsVariable false
set_option linter.unusedSectionVars false
set_option linter.unusedSimpArgs false
set_option linter.unusedVariables false
namespace Go.Am
open Go Go.Proofs
set_option maxHeartbeats 1000000
set_option maxRecDepth 4000
attribute [local irreducible] AV BX Lex Bf Av Spec
variable {TB:Be}
theorem IB{t:CL}{al:Int}{A:W→Bool}(hT:Ih Tryz.prog TB 93 85 t al A)(cols words:List W)(hl:cols.length≤4194304)(hw:∀w∈words,w.length≤4194305)(hb:∀x∈cols,x.length≤4194304)(hwl:words.length≤4194304) :
 Pure Tryz.prog TB 95 [Cj t,Bl cols,Bl words] (Bl (words.map (marks A cols))):=by
 refine eN Tryz.func95 rfl (by kernel_rfl) rfl ?_;intro Γ hΓ
 (repeat first|refine aU rfl ?_)
 (refine Ai rfl ?_;refine B5 (fun _ _=>CE rfl rfl rfl) rfl ?_)
 (repeat first|refine tX rfl ?_ |refine aU rfl ?_ |refine Aa ?_)
 (refine pW rfl ?_ rfl (by rfl);refine C5 rfl rfl rfl rfl (by simp) (by rfl) (by rfl) (by rfl) (by rfl) ?_)
 (repeat first|refine tX rfl ?_ |refine aU rfl ?_ |refine Aa ?_)
 refine aB ?_
 refine aL (α:={k:Nat // k≤words.length}) [1,2,3] [] rfl rfl (fun ⟨k,hk⟩=>[(7,.o (.arr 0 1 0 k)),(8,eI .i64 k)]) (fun ⟨k,hk⟩=>[(0,.cells 9 1 ((words.take k).map fun w=>[.d (tD (marks A cols w))]))]) 1 (fun ⟨k,hk⟩=>words.length - k) (⟨0,by omega⟩) hΓ rfl (by (simp[cX,zC,hΓ])) ?_;rintro⟨k,hk⟩;(try dsimp only[cA,cB])
 by_cases hlt:k < words.length
 ·obtain⟨x,hx⟩:=get_some hlt
  have hx':=get_map (g:=BD) hx
  have hr:=Kb hT cols x hl (hw x (List.mem_of_getElem? hx)) hb
  have hst:(words.take (k+1)).map (fun w=>[C.d (tD (marks A cols w))])=(words.take k).map (fun w=>[C.d (tD (marks A cols w))])++[[C.d (tD (marks A cols x))]]:=by rw [List.take_add_one,hx];simp
  (repeat first|refine sN rfl ?_ |refine tX rfl ?_ |refine s2 rfl fun _ _hb=>?_ |refine aU rfl ?_ |refine Aa ?_)
  (refine aC rfl ?_ ?_<;>rintro⟨⟩)
  ·refine aK ?_
   refine aS (aB ?_)
   refine rG (J6 [9]) (by kernel_rfl) ?_
   (repeat first|refine tA rfl ?_ |(refine s4 rfl ‹_› rfl ?_ ?_;omega) |refine sP rfl (hr) rfl ?_)
   (refine pW rfl ?_ rfl (by rfl);refine AY rfl rfl rfl (by first| (simp;done)|(simp;(omega))) rfl (by intro r hr;simp at hr;subst hr;rfl) (by rfl) (Nat.le_of_ble_eq_true rfl) (by simp;omega) ?_)
   (repeat first|(refine sA rfl ?_ ?_;first|exact tI|omega) |refine aU rfl ?_ |refine Aa ?_)
   refine⟨⟨k+1,by omega⟩,by dsimp only;(omega),[1],?_⟩
   simp[cX,zC,hΓ,hst]
  ·exfalso;(simp only[oZ] at *;omega)
 ·obtain rfl:k=words.length:=by omega
  rw [List.take_length]
  (repeat first|refine sN rfl ?_ |refine tX rfl ?_ |refine s2 rfl fun _ _hb=>?_ |refine aU rfl ?_ |refine Aa ?_)
  (refine aC rfl ?_ ?_<;>rintro⟨⟩)
  ·exfalso;(simp only[oZ] at *;omega)
  ·refine aE ?_
   (repeat first|refine tX rfl ?_ |refine aU rfl ?_ |refine Aa ?_)
   refine Av.settle [(6,Bl (words.map (marks A cols)))] ⟨⟨_,rfl,.o (.full rfl (by simp [Function.comp_def]) (by simp))⟩,trivial⟩ ?_
   refine aR ⟨_,rfl,rfl⟩
def rowAt(al:Int)(l:List W)(i:Nat):Bool:=match l[i]? with
 | none=>true
 | some w=>!decide (w.length=0) && (within w al && decide (w.dropLast∈l.take i))
def GJ(al:Int)(l:List W)(i:Nat):Bool:=match l[i]? with
 | none=>true
 | some w=>decide (w.length≤4000) && (within w al && !decide (w∈l.take i))
def C0(f:Nat→Bool)(n:Nat):Bool:=(List.range n).all fun i=>decide (i=0) || f i
theorem Gp{f:Nat→Bool}{k:Nat}(h:C0 f k=true)(hf:f k=true):C0 f (k+1)=true:=by
 unfold C0 at *
 rw [List.range_succ,List.all_append,h];simp [hf]
theorem FH{f:Nat→Bool}{k n:Nat}(h0:0 < k)(h:k < n)(hf:f k=false):C0 f n=false:=by
 unfold C0
 rw [List.all_eq_false]
 exact⟨k,List.mem_range.2 h,by simp [hf];omega⟩
def GD(al:Int)(t:AN):Bool:=decide (0≤al) && (decide (1≤t.rows.length∧t.rows.length≤12) && (decide (1≤t.cols.length∧t.cols.length≤20) && (decide (t.rows[0]? = some []) && decide (t.cols[0]? = some []))))
def Df(al:Int)(t:AN):Bool:=GD al t && (C0 (rowAt al t.rows) t.rows.length && C0 (GJ al t.cols) t.cols.length)
theorem P0(al:Int)(t:AN)(hz:Na t):Pure Tryz.prog TB 129 [eI .i64 al,B8 t] (eB (Df al t)):=by
 have hrl:=hz.rl
 have hcl:=hz.cl
 by_cases h0:GD al t=true
 ·have hss : Df al t=(C0 (rowAt al t.rows) t.rows.length && C0 (GJ al t.cols) t.cols.length):=by unfold Df;rw [h0];rfl
  rw [hss]
  unfold GD at h0
  simp only [Bool.and_eq_true,decide_eq_true_eq] at h0
  obtain⟨h1,h2,h3,h4,h5⟩:=h0
  have h4':=get_map (g:=BD) (k:=0) h4
  have h5':=get_map (g:=BD) (k:=0) h5
  have e0:((0:Nat):Int).toNat=(0:Int).toNat:=rfl
  rw [e0] at h4' h5'
  refine eN Tryz.func129 rfl (by kernel_rfl) rfl ?_;intro Γ hΓ
  (repeat' first|refine sN rfl ?_ |refine tA rfl ?_ |(refine s4 rfl ‹_› rfl ?_ ?_;omega) |refine s2 rfl fun _ _hb=>?_ |refine s3 rfl ?_ ?_<;>rintro rfl |refine aU rfl ?_ |refine Aa ?_|(refine aC rfl ?_ ?_<;>rintro⟨⟩)|refine aK ?_|refine aE ?_|refine aB ?_|refine aR ⟨_,rfl,?_⟩)
  all_goals first
   | (exfalso;(simp only[oZ] at *;omega);done)
   | (exfalso;simp at *;done)
   | skip
  refine aL (α:={k:Nat // 1≤k∧k≤t.rows.length∧C0 (rowAt al t.rows) k=true}) [0,3,5,6] [] rfl rfl (fun ⟨k,hk1,hk,ha⟩=>[(7,eI .i64 k)]) (fun ⟨k,hk1,hk,ha⟩=>[]) 0 (fun ⟨k,hk1,hk,ha⟩=>t.rows.length - k) (⟨1,by omega,by omega,rfl⟩) hΓ rfl (by (simp[cX,zC,hΓ])) ?_;rintro⟨k,hk1,hk,ha⟩;(try dsimp only[cA,cB])
  by_cases hlt:k < t.rows.length
  ·obtain⟨x,hx⟩:=get_some hlt
   have hx':=get_map (g:=BD) hx
   have hxb:=hz.rb x (List.mem_of_getElem? hx)
   have hra:rowAt al t.rows k=(!decide (x.length=0) && (within x al && decide (x.dropLast∈t.rows.take k))):=by unfold rowAt;rw [hx]
   have hww:=C7 (TB:=TB) x al (by omega)
   have hin:Pure Tryz.prog TB 72 [.o (.d (.l ((t.rows.map BD).take ((k:Nat):Int).toNat))),eT (x.take ((x.length:Int) - 1).toNat)] (eB (decide (x.dropLast∈t.rows.take k))):=by
    have e1:(x.take ((x.length:Int) - 1).toNat)=x.dropLast:=by rw [List.dropLast_eq_take];congr 1;omega
    rw [e1,Int.toNat_natCast,←List.map_take]
    exact Hj _ _ (by simp;omega)
   (repeat first|refine tA rfl ?_ |refine s2 rfl fun _ _hb=>?_ |refine aU rfl ?_ |refine Aa ?_)
   (refine aC rfl ?_ ?_<;>rintro⟨⟩)
   ·(repeat' first|(refine sA rfl ?_ ?_;first|exact tI|omega) |(refine s4 rfl ‹_› rfl ?_ ?_;omega) |refine s2 rfl fun _ _hb=>?_ |(refine sC rfl (hww) ?_;intro _ _hb)|(refine sC rfl (hin) ?_;intro _ _hb)|(refine Ai rfl ?_;refine gA rfl ?_;first| refine gS (fun _ _=>Ju rfl rfl (by simp) (by omega) (by (simp only[oZ] at *;omega))) ?_|refine gS (fun _ _=>TL rfl rfl (by (simp only[oZ] at *;omega)) (by omega)) ?_) |refine s3 rfl ?_ ?_<;>rintro rfl |refine aU rfl ?_ |refine Aa ?_ |refine rE (by kernel_rfl) ?_|(refine aC rfl ?_ ?_<;>rintro⟨⟩)|refine aK ?_|refine aE ?_|refine aB ?_|refine aR ⟨_,rfl,?_⟩)
    all_goals first
     | (show eB false=eB _;rw [FH (by omega) hlt (by rw [hra];grind)];rfl)
     | (have hst:=Gp ha (by rw [hra];grind);refine⟨⟨k+1,by omega,by omega,hst⟩,by dsimp only;(omega),[],?_⟩;simp[cX,zC,hΓ])
   ·exfalso;(simp only[oZ] at *;omega)
  ·obtain rfl:k=t.rows.length:=by omega
   rw [ha]
   (repeat first|refine tA rfl ?_ |refine s2 rfl fun _ _hb=>?_ |refine aU rfl ?_ |refine Aa ?_)
   (refine aC rfl ?_ ?_<;>rintro⟨⟩)
   ·exfalso;(simp only[oZ] at *;omega)
   ·(repeat' first|refine tA rfl ?_ |refine aU rfl ?_ |refine Aa ?_|(refine aC rfl ?_ ?_<;>rintro⟨⟩)|refine aK ?_|refine aE ?_|refine aB ?_|refine aR ⟨_,rfl,?_⟩)
    refine aL (α:={k:Nat // 1≤k∧k≤t.cols.length∧C0 (GJ al t.cols) k=true}) [0,3,6] [] rfl rfl (fun ⟨k,hk1,hk,ha⟩=>[(9,eI .i64 k)]) (fun ⟨k,hk1,hk,ha⟩=>[]) 0 (fun ⟨k,hk1,hk,ha⟩=>t.cols.length - k) (⟨1,by omega,by omega,rfl⟩) hΓ rfl (by (simp[cX,zC,hΓ])) ?_;rintro⟨k,hk1,hk,ha⟩;(try dsimp only[cA,cB])
    by_cases hlt:k < t.cols.length
    ·obtain⟨x,hx⟩:=get_some hlt
     have hx':=get_map (g:=BD) hx
     have hxb:=hz.cb x (List.mem_of_getElem? hx)
     have hra:GJ al t.cols k=(decide (x.length≤4000) && (within x al && !decide (x∈t.cols.take k))):=by unfold GJ;rw [hx]
     have hww:=C7 (TB:=TB) x al (by omega)
     have hin:Pure Tryz.prog TB 72 [.o (.d (.l ((t.cols.map BD).take ((k:Nat):Int).toNat))),eT x] (eB (decide (x∈t.cols.take k))):=by
      rw [Int.toNat_natCast,←List.map_take]
      exact Hj _ _ (by simp;omega)
     (repeat first|refine tA rfl ?_ |refine s2 rfl fun _ _hb=>?_ |refine aU rfl ?_ |refine Aa ?_)
     (refine aC rfl ?_ ?_<;>rintro⟨⟩)
     ·(repeat' first|(refine sA rfl ?_ ?_;first|exact tI|omega) |(refine s4 rfl ‹_› rfl ?_ ?_;omega) |refine s2 rfl fun _ _hb=>?_ |(refine sC rfl (hww) ?_;intro _ _hb)|(refine sC rfl (hin) ?_;intro _ _hb)|(refine Ai rfl ?_;refine gA rfl ?_;first| refine gS (fun _ _=>Ju rfl rfl (by simp) (by omega) (by (simp only[oZ] at *;omega))) ?_) |refine s3 rfl ?_ ?_<;>rintro rfl |refine aU rfl ?_ |refine Aa ?_|(refine aC rfl ?_ ?_<;>rintro⟨⟩)|refine aK ?_|refine aE ?_|refine aB ?_|refine aR ⟨_,rfl,?_⟩)
      all_goals first
       | (show eB false=eB _;rw [FH (by omega) hlt (by rw [hra];grind)];rfl)
       | (have hst:=Gp ha (by rw [hra];grind);refine⟨⟨k+1,by omega,by omega,hst⟩,by dsimp only;(omega),[],?_⟩;simp[cX,zC,hΓ])
     ·exfalso;(simp only[oZ] at *;omega)
    ·obtain rfl:k=t.cols.length:=by omega
     rw [ha]
     (repeat first|refine tA rfl ?_ |refine s2 rfl fun _ _hb=>?_ |refine aU rfl ?_ |refine Aa ?_)
     (refine aC rfl ?_ ?_<;>rintro⟨⟩)
     ·exfalso;(simp only[oZ] at *;omega)
     ·(repeat' first|refine tA rfl ?_ |refine aU rfl ?_ |refine Aa ?_|(refine aC rfl ?_ ?_<;>rintro⟨⟩)|refine aK ?_|refine aE ?_|refine aB ?_|refine aR ⟨_,rfl,?_⟩)
      rfl
 ·have hss:Df al t=false:=by unfold Df;simp [h0]
  rw [hss]
  have h0':¬(0≤al∧(1≤t.rows.length∧t.rows.length≤12)∧(1≤t.cols.length∧t.cols.length≤20)∧t.rows[0]? = some []∧t.cols[0]? = some []):=by
   intro h;apply h0;unfold GD;simp [h]
  have hR':(t.rows.map BD)[(0:Int).toNat]? = (t.rows[0]?).map BD:=by simp
  have hC':(t.cols.map BD)[(0:Int).toNat]? = (t.cols[0]?).map BD:=by simp
  have hRn:t.rows[0]? = none→t.rows.length=0:=fun h=>by have:=List.getElem?_eq_none_iff.1 h;omega
  have hCn:t.cols[0]? = none→t.cols.length=0:=fun h=>by have:=List.getElem?_eq_none_iff.1 h;omega
  refine eN Tryz.func129 rfl (by kernel_rfl) rfl ?_;intro Γ hΓ
  cases hR:t.rows[0]?<;>cases hC:t.cols[0]?<;>rw [hR] at hR' h0'<;>rw [hC] at hC' h0'<;>(
   (repeat' first|refine sN rfl ?_ |refine tA rfl ?_ |(refine s4 rfl ‹_› rfl ?_ ?_;omega) |refine s2 rfl fun _ _hb=>?_ |refine s3 rfl ?_ ?_<;>rintro rfl |refine aU rfl ?_ |refine Aa ?_|(refine aC rfl ?_ ?_<;>rintro⟨⟩)|refine aK ?_|refine aE ?_|refine aB ?_|refine aR ⟨_,rfl,?_⟩)
   all_goals first
    | rfl
    | (exfalso;grind;done))
def CN(al:Int)(w:W):Bool:=within w al && decide (w.length≤4000)
theorem LZ{t:CL}{al:Int}{A:W→Bool}(hT:Ih Tryz.prog TB 93 85 t al A)(w:W)(hl:w.length≤1099511627776):Pure Tryz.prog TB 71 [Cj t,eT w] (eB (CN al w)):=by
 have h1:=hT.alph
 have h2:=C7 (TB:=TB) w al hl
 have hc:CN al w=(within w al && decide ((w.length:Int)≤4000)):=by unfold CN;congr 1;rw [decide_eq_decide];omega
 rw [hc]
 refine eN Tryz.func71 rfl (by kernel_rfl) rfl ?_;intro Γ hΓ
 (repeat' first|refine tA rfl ?_ |refine s2 rfl fun _ _hb=>?_ |refine sP rfl (h1) rfl ?_|(refine sC rfl (h2) ?_;intro _ _hb) |refine s3 rfl ?_ ?_<;>rintro rfl |refine aU rfl ?_ |refine Aa ?_|(refine aC rfl ?_ ?_<;>rintro⟨⟩)|refine aK ?_|refine aE ?_|refine aB ?_|refine aR ⟨_,rfl,?_⟩)
 all_goals (show E.o _=E.o _;congr;grind)
def AF(A:W→Bool)(al:Int)(t:AN):Bool:=Df al t && decide (Az A t).Nodup
theorem Ts{l:List W}{k:Nat}{x:W}(hx:l[k]? = some x)(h:(l.take k).Nodup)(hn:x∉l.take k):(l.take (k+1)).Nodup:=by
 rw [List.take_add_one,hx,List.nodup_append]
 refine⟨h,by simp,fun a ha b hb e=>?_⟩
 simp at hb;subst hb;exact hn (e ▸ ha)
theorem aA{l:List W}{k:Nat}{x:W}(hx:l[k]? = some x)(hn:x∈l.take k):¬l.Nodup:=by
 intro h
 obtain⟨h1,rfl⟩:=List.getElem?_eq_some_iff.1 hx
 rw [←List.take_append_drop k l,List.nodup_append] at h
 exact h.2.2 _ hn _ (by rw [List.drop_eq_getElem_cons h1];exact List.mem_cons_self) rfl
theorem Ec{t:CL}{al:Int}{A:W→Bool}(hT:Ih Tryz.prog TB 93 85 t al A)(tab:AN)(hz:Na tab):Pure Tryz.prog TB 55 [Cj t,B8 tab] (eB (AF A al tab)):=by
 have h1:=hT.alph
 have h2:=P0 (TB:=TB) al tab hz
 have h3:=IB hT tab.cols tab.rows hz.cl (fun w hw=>by have:=hz.rb w hw;omega) hz.cb hz.rl
 by_cases hs:Df al tab=true
 ·have hv:AF A al tab=decide (Az A tab).Nodup:=by unfold AF;rw [hs];rfl
  rw [hv]
  have h3':Pure Tryz.prog TB 95 [Cj t,Bl tab.cols,Bl tab.rows] (Bl (Az A tab)):=h3
  have hml:(Az A tab).length=tab.rows.length:=by simp [Az]
  have hrl:=hz.rl
  generalize Az A tab=l at *
  refine eN Tryz.func55 rfl (by kernel_rfl) rfl ?_;intro Γ hΓ
  (repeat' first|refine tA rfl ?_ |refine s2 rfl fun _ _hb=>?_ |refine sP rfl (h1) rfl ?_|(refine sC rfl (h2) ?_;intro _ _hb)|refine sP rfl (h3') rfl ?_ |refine aU rfl ?_ |refine Aa ?_ |refine rE (by kernel_rfl) ?_|(refine aC rfl ?_ ?_<;>rintro⟨⟩)|refine aK ?_|refine aE ?_|refine aB ?_|refine aR ⟨_,rfl,?_⟩)
  all_goals first
   | (exfalso;grind;done)
   | skip
  refine aL (α:={k:Nat // k≤l.length∧(l.take k).Nodup}) [5] [] rfl rfl (fun ⟨k,hk,hn⟩=>[(6,eI .i64 k)]) (fun ⟨k,hk,hn⟩=>[]) 0 (fun ⟨k,hk,hn⟩=>l.length - k) (⟨0,by omega,by simp⟩) hΓ rfl (by (simp[cX,zC,hΓ])) ?_;rintro⟨k,hk,hn⟩;(try dsimp only[cA,cB])
  by_cases hlt:k < l.length
  ·obtain⟨x,hx⟩:=get_some hlt
   have hx':=get_map (g:=BD) hx
   have hin:Pure Tryz.prog TB 72 [.o (.d (.l ((l.map BD).take ((k:Nat):Int).toNat))),eT x] (eB (decide (x∈l.take k))):=by
    rw [Int.toNat_natCast,←List.map_take]
    exact Hj _ _ (by simp;omega)
   (repeat first|refine sN rfl ?_ |refine tA rfl ?_ |refine s2 rfl fun _ _hb=>?_ |refine aU rfl ?_ |refine Aa ?_)
   (refine aC rfl ?_ ?_<;>rintro⟨⟩)
   ·(repeat' first|(refine sA rfl ?_ ?_;first|exact tI|omega) |(refine s4 rfl ‹_› rfl ?_ ?_;omega) |(refine sC rfl (hin) ?_;intro _ _hb)|(refine Ai rfl ?_;refine gA rfl ?_;first| refine gS (fun _ _=>Ju rfl rfl (by simp) (by omega) (by (simp only[oZ] at *;omega))) ?_) |refine aU rfl ?_ |refine Aa ?_ |refine rE (by kernel_rfl) ?_|(refine aC rfl ?_ ?_<;>rintro⟨⟩)|refine aK ?_|refine aE ?_|refine aB ?_|refine aR ⟨_,rfl,?_⟩)
    ·show eB false=eB _
     rw [decide_eq_false (aA hx (by simpa using _hb))]
    ·have hst:=Ts hx hn (by simpa using _hb)
     refine⟨⟨k+1,by omega,hst⟩,by dsimp only;(omega),[],?_⟩
     simp[cX,zC,hΓ]
   ·exfalso;(simp only[oZ] at *;omega)
  ·rw [List.take_of_length_le (by omega)] at hn
   (repeat first|refine sN rfl ?_ |refine tA rfl ?_ |refine s2 rfl fun _ _hb=>?_ |refine aU rfl ?_ |refine Aa ?_)
   (refine aC rfl ?_ ?_<;>rintro⟨⟩)
   ·exfalso;(simp only[oZ] at *;omega)
   ·(repeat' first|refine tA rfl ?_ |refine aU rfl ?_ |refine Aa ?_|(refine aC rfl ?_ ?_<;>rintro⟨⟩)|refine aK ?_|refine aE ?_|refine aB ?_|refine aR ⟨_,rfl,?_⟩)
    rw [decide_eq_true hn]
 ·have hv:AF A al tab=false:=by unfold AF;simp [hs]
  rw [hv]
  refine eN Tryz.func55 rfl (by kernel_rfl) rfl ?_;intro Γ hΓ
  (repeat' first|refine tA rfl ?_ |refine s2 rfl fun _ _hb=>?_ |refine sP rfl (h1) rfl ?_|(refine sC rfl (h2) ?_;intro _ _hb) |refine aU rfl ?_ |refine Aa ?_ |refine rE (by kernel_rfl) ?_|(refine aC rfl ?_ ?_<;>rintro⟨⟩)|refine aK ?_|refine aE ?_|refine aB ?_|refine aR ⟨_,rfl,?_⟩)
  all_goals first
   | rfl
   | (exfalso;grind;done)
theorem IA{t:CL}{al:Int}{A:W→Bool}(hT:Ih Tryz.prog TB 93 85 t al A)(tab:AN)(hz:Na tab):Pure Tryz.prog TB 90 [Cj t,B8 tab] (RA (AM A (AO al) tab)):=by
 have h1:=hT.alph
 have h2:=CO (TB:=TB) al
 have h3:Pure Tryz.prog TB 95 [Cj t,Bl tab.cols,Bl tab.rows] (Bl (Az A tab)):=IB hT tab.cols tab.rows hz.cl (fun w hw=>by have:=hz.rb w hw;omega) hz.cb hz.rl
 have hrl:=hz.rl
 have hla:(Ac al).length≤6:=A0 al 6
 refine eN Tryz.func90 rfl (by kernel_rfl) rfl ?_;intro Γ hΓ
 (repeat' first|refine tA rfl ?_ |refine sP rfl (h1) rfl ?_|refine sP rfl (h2) rfl ?_|refine sP rfl (h3) rfl ?_ |refine aU rfl ?_ |refine Aa ?_|(refine aC rfl ?_ ?_<;>rintro⟨⟩)|refine aK ?_|refine aE ?_|refine aB ?_|refine aR ⟨_,rfl,?_⟩)
 refine aL (α:={k:Nat // k≤tab.rows.length∧∀w∈BP (AO al) (tab.rows.take k),marks A tab.cols w∈Az A tab}) [2,3,6,7] [] rfl rfl (fun ⟨k,hk,hkd⟩=>[(8,eI .i64 k)]) (fun ⟨k,hk,hkd⟩=>[]) 0 (fun ⟨k,hk,hkd⟩=>tab.rows.length - k) (⟨0,by omega,by simp [BP]⟩) hΓ rfl (by (simp[cX,zC,hΓ])) ?_;rintro⟨k,hk,hkd⟩;(try dsimp only[cA,cB])
 by_cases hlt:k < tab.rows.length
 ·obtain⟨r, hx⟩:=get_some hlt
  have hx':=get_map (g:=BD) hx
  have hrb:=hz.rb r (List.mem_of_getElem? hx)
  (repeat first|refine sN rfl ?_ |refine tA rfl ?_ |refine s2 rfl fun _ _hb=>?_ |refine aU rfl ?_ |refine Aa ?_)
  (refine aC rfl ?_ ?_<;>rintro⟨⟩)
  ·refine aK ?_
   refine aS (aB ?_)
   (repeat first|refine tA rfl ?_ |refine aU rfl ?_ |refine Aa ?_)
   refine aB ?_
   refine aL (α:={j:Nat // j≤(Ac al).length∧∀x∈(AO al).take j,marks A tab.cols (r++[x])∈Az A tab}) [2,3,6,7,8] [] rfl rfl (fun ⟨j,hj,hjd⟩=>[(9,eI .i64 j)]) (fun ⟨j,hj,hjd⟩=>[]) 0 (fun ⟨j,hj,hjd⟩=>(Ac al).length - j) (⟨0,by omega,by simp⟩) hΓ rfl (by (simp[cX,zC,hΓ])) ?_;rintro⟨j,hj,hjd⟩;(try dsimp only[cA,cB])
   by_cases hjlt:j < (Ac al).length
   ·obtain⟨l,hl⟩:=get_some hjlt
    have hl':=get_map (g:=Bm) hl
    have hlb:=AS (List.mem_of_getElem? hl)
    have hll:(AO al)[j]? = some (lb l):=by simp [AO,hl]
    have htx:Pure Tryz.prog TB 98 [eI .i64 l] (eT [lb l]):=Kc l hlb.1 (by omega)
    have hrow:=Kb hT tab.cols (r++[lb l]) hz.cl (by simp;omega) hz.cb
    have hin:=Hj (TB:=TB) (Az A tab) (marks A tab.cols (r++[lb l])) (by simp [Az];omega)
    (repeat first|refine sN rfl ?_ |refine tA rfl ?_ |refine s2 rfl fun _ _hb=>?_ |refine aU rfl ?_ |refine Aa ?_)
    (refine aC rfl ?_ ?_<;>rintro⟨⟩)
    ·(repeat' first|(refine sA rfl ?_ ?_;first|exact tI|omega|simp only[oZ] at *;omega) |(refine s4 rfl ‹_› rfl ?_ ?_;omega) |refine s2 rfl fun _ _hb=>?_ |refine sP rfl (htx) rfl ?_|refine sP rfl (hrow) rfl ?_|(refine sC rfl (hin) ?_;intro _ _hb) |refine aU rfl ?_ |refine Aa ?_ |refine rE (by kernel_rfl) ?_|(refine aC rfl ?_ ?_<;>rintro⟨⟩)|refine aK ?_|refine aE ?_|refine aB ?_|refine aR ⟨_,rfl,?_⟩)
     ·have hno:marks A tab.cols (r++[lb l])∉Az A tab:=by grind
      rw [Tx hx hll hkd hjd hno]
      rfl
     ·have hyes:marks A tab.cols (r++[lb l])∈Az A tab:=by grind
      have hjd2:∀x∈(AO al).take (j+1),marks A tab.cols (r++[x])∈Az A tab:=fun x hx=>by
       rw [List.take_add_one,hll] at hx
       rcases List.mem_append.1 hx with hx|hx
       ·exact hjd x hx
       ·simp at hx;subst hx;exact hyes
      refine⟨⟨j+1,by omega,hjd2⟩,by dsimp only;(omega),[],?_⟩
      simp[cX,zC,hΓ]
    ·exfalso;(simp only[oZ] at *;omega)
   ·have hkd2:∀w∈BP (AO al) (tab.rows.take (k+1)),marks A tab.cols w∈Az A tab:=fun w hw=>by
     rw [Mj hx] at hw
     rcases List.mem_append.1 hw with hw|hw
     ·exact hkd w hw
     ·obtain⟨x,hx2,rfl⟩:=List.mem_map.1 hw
      exact hjd x (by rw [List.take_of_length_le (by simp [AO];omega)];exact hx2)
    (repeat first|refine sN rfl ?_ |refine tA rfl ?_ |refine s2 rfl fun _ _hb=>?_ |refine aU rfl ?_ |refine Aa ?_)
    (refine aC rfl ?_ ?_<;>rintro⟨⟩)
    ·exfalso;(simp only[oZ] at *;omega)
    ·(repeat' first|(refine sA rfl ?_ ?_;first|exact tI|omega) |refine aU rfl ?_ |refine Aa ?_|(refine aC rfl ?_ ?_<;>rintro⟨⟩)|refine aK ?_|refine aE ?_|refine aB ?_|refine aR ⟨_,rfl,?_⟩)
     refine⟨⟨k+1,by omega,hkd2⟩,by dsimp only;(omega),[],?_⟩
     simp[cX,zC,hΓ]
  ·exfalso;(simp only[oZ] at *;omega)
 ·have hno:AM A (AO al) tab=none:=List.find?_eq_none.2 fun w hw=>by
   have:=hkd w (by rw [List.take_of_length_le (by omega)];exact hw)
   simpa using this
  rw [hno]
  (repeat first|refine sN rfl ?_ |refine tA rfl ?_ |refine s2 rfl fun _ _hb=>?_ |refine aU rfl ?_ |refine Aa ?_)
  (refine aC rfl ?_ ?_<;>rintro⟨⟩)
  ·exfalso;(simp only[oZ] at *;omega)
  ·(repeat' first|refine tA rfl ?_ |refine aU rfl ?_ |refine Aa ?_|(refine aC rfl ?_ ?_<;>rintro⟨⟩)|refine aK ?_|refine aE ?_|refine aB ?_|refine aR ⟨_,rfl,?_⟩)
   rfl
theorem Ni{t:CL}{al:Int}{A:W→Bool}(hT:Ih Tryz.prog TB 93 85 t al A)(tab:AN)(hz:Na tab):Pure Tryz.prog TB 159 [Cj t,B8 tab] (RA (if AF A al tab then AM A (AO al) tab else none)):=by
 have h1:=Ec hT tab hz
 have h2:=IA hT tab hz
 by_cases hv:AF A al tab=true
 ·rw [if_pos hv]
  cases ho:AM A (AO al) tab<;>rw [ho] at h2<;>(
   refine eN Tryz.func159 rfl (by kernel_rfl) rfl ?_;intro Γ hΓ
   (repeat' first|refine tA rfl ?_ |refine s2 rfl fun _ _hb=>?_ |(refine sC rfl (h1) ?_;intro _ _hb)|refine sP rfl (h2) rfl ?_ |refine aU rfl ?_ |refine Aa ?_|(refine aC rfl ?_ ?_<;>rintro⟨⟩)|refine aK ?_|refine aE ?_|refine aB ?_|refine aR ⟨_,rfl,?_⟩)
   all_goals first
    | rfl
    | (exfalso;grind;done))
 ·rw [if_neg hv]
  refine eN Tryz.func159 rfl (by kernel_rfl) rfl ?_;intro Γ hΓ
  (repeat' first|refine tA rfl ?_ |refine s2 rfl fun _ _hb=>?_ |(refine sC rfl (h1) ?_;intro _ _hb) |refine aU rfl ?_ |refine Aa ?_|(refine aC rfl ?_ ?_<;>rintro⟨⟩)|refine aK ?_|refine aE ?_|refine aB ?_|refine aR ⟨_,rfl,?_⟩)
  all_goals first
   | rfl
   | (exfalso;grind;done)
def A6(A:W→Bool)(al:Int)(t:AN):Bool:=AF A al t && (AM A (AO al) t).isNone
theorem MQ{t:CL}{al:Int}{A:W→Bool}(hT:Ih Tryz.prog TB 93 85 t al A)(tab:AN)(hz:Na tab):Pure Tryz.prog TB 92 [Cj t,B8 tab] (eB (A6 A al tab)):=by
 have h1:=Ec hT tab hz
 have h2:=Ni hT tab hz
 by_cases hv:AF A al tab=true
 ·rw [if_pos hv] at h2
  have hc:A6 A al tab=(AM A (AO al) tab).isNone:=by unfold A6;rw [hv];rfl
  rw [hc]
  cases ho:AM A (AO al) tab<;>rw [ho] at h2<;>(
   refine eN Tryz.func92 rfl (by kernel_rfl) rfl ?_;intro Γ hΓ
   (repeat' first|refine tA rfl ?_ |refine s2 rfl fun _ _hb=>?_ |(refine sC rfl (h1) ?_;intro _ _hb)|refine sP rfl (h2) rfl ?_ |refine s3 rfl ?_ ?_<;>rintro rfl |refine aU rfl ?_ |refine Aa ?_|(refine aC rfl ?_ ?_<;>rintro⟨⟩)|refine aK ?_|refine aE ?_|refine aB ?_|refine aR ⟨_,rfl,?_⟩)
   all_goals first
    | rfl
    | (exfalso;grind;done)
    | (show E.o _=E.o _;congr;first| grind|(simp at *;assumption)))
 ·rw [if_neg hv] at h2
  have hc:A6 A al tab=false:=by unfold A6;simp [hv]
  rw [hc]
  refine eN Tryz.func92 rfl (by kernel_rfl) rfl ?_;intro Γ hΓ
  (repeat' first|refine tA rfl ?_ |refine s2 rfl fun _ _hb=>?_ |(refine sC rfl (h1) ?_;intro _ _hb)|refine sP rfl (h2) rfl ?_ |refine s3 rfl ?_ ?_<;>rintro rfl |refine aU rfl ?_ |refine Aa ?_|(refine aC rfl ?_ ?_<;>rintro⟨⟩)|refine aK ?_|refine aE ?_|refine aB ?_|refine aR ⟨_,rfl,?_⟩)
  all_goals first
   | rfl
   | (exfalso;grind;done)
theorem ae{l:List W}{s:W}{k:Nat}(hx:l[k]? = some s)(hn:s∉l.take k):l.idxOf s=k:=by
 have hl:k < l.length:=(List.getElem?_eq_some_iff.1 hx).1
 have e:l=l.take k++s::l.drop (k+1):=by rw [←BJ hx,List.take_append_drop]
 rw [e,List.idxOf_append,if_neg hn,List.idxOf_cons_self]
 simp;omega
theorem PZ(l:List W)(s:W)(hm:s∈l)(hl:l.length≤1099511627776):Pure Tryz.prog TB 96 [Bl l,eT s] (eI .i64 (l.idxOf s:Nat)):=by
 refine eN Tryz.func96 rfl (by kernel_rfl) rfl ?_;intro Γ hΓ
 (repeat first|refine tA rfl ?_ |refine aU rfl ?_ |refine Aa ?_)
 refine aB ?_
 refine aL (α:={k:Nat // k≤l.length∧s∉l.take k}) [0,1] [] rfl rfl (fun ⟨k,hk,hn⟩=>[(5,eI .i64 k)]) (fun ⟨k,hk,hn⟩=>[]) 0 (fun ⟨k,hk,hn⟩=>l.length - k) (⟨0,by omega,by simp⟩) hΓ rfl (by (simp[cX,zC,hΓ])) ?_;rintro⟨k,hk,hn⟩;(try dsimp only[cA,cB])
 have hkl:k < l.length:=by
  rcases Nat.lt_or_ge k l.length with h|h
  ·exact h
  ·rw [List.take_of_length_le h] at hn;exact absurd hm hn
 obtain⟨x,hx⟩:=get_some (l:=l) (k:=k) hkl
 have hx':=get_map (g:=BD) hx
 by_cases hs:x=s
 ·subst hs
  have he:=ae hx hn
  rw [he]
  (repeat first|refine tA rfl ?_ |(refine s4 rfl ‹_› rfl ?_ ?_;omega) |refine s2 rfl fun _ _hb=>?_ |refine aU rfl ?_ |refine Aa ?_)
  (refine aC rfl ?_ ?_<;>rintro⟨⟩)
  ·exfalso;simp at _hb
  ·(repeat' first|refine tA rfl ?_ |refine aU rfl ?_ |refine Aa ?_|(refine aC rfl ?_ ?_<;>rintro⟨⟩)|refine aK ?_|refine aE ?_|refine aB ?_|refine aR ⟨_,rfl,?_⟩)
   rfl
 ·have hn2:s∉l.take (k+1):=by
   rw [List.take_add_one,hx]
   intro h
   rcases List.mem_append.1 h with h|h
   ·exact hn h
   ·simp at h;exact hs h.symm
  (repeat first|refine tA rfl ?_ |(refine s4 rfl ‹_› rfl ?_ ?_;omega) |refine s2 rfl fun _ _hb=>?_ |refine aU rfl ?_ |refine Aa ?_)
  (refine aC rfl ?_ ?_<;>rintro⟨⟩)
  ·(repeat' first|(refine sA rfl ?_ ?_;first|exact tI|omega) |refine aU rfl ?_ |refine Aa ?_|(refine aC rfl ?_ ?_<;>rintro⟨⟩)|refine aK ?_|refine aE ?_|refine aB ?_|refine aR ⟨_,rfl,?_⟩)
   refine⟨⟨k+1,by omega,hn2⟩,by dsimp only;(omega),[],?_⟩
   simp[cX,zC,hΓ]
  ·exfalso;simp [hs] at _hb
end Go.Am
namespace Go.Am
open Go
set_option linter.unusedVariables false
theorem PQ{f:Nat→Bool}{n k:Nat}(h:C0 f n=true)(h0:0 < k)(hk:k < n):f k=true:=by
 unfold C0 at h
 have:=(List.all_eq_true.1 h) k (List.mem_range.2 hk)
 simp at this
 rcases this with h|h
 ·omega
 ·exact h
theorem PR{f:Nat→Bool}{n:Nat}(h:∀k,0 < k→k < n→f k=true):C0 f n=true:=by
 unfold C0
 refine List.all_eq_true.2 fun k hk=>?_
 have hk:=List.mem_range.1 hk
 rcases Nat.eq_zero_or_pos k with h0|h0
 ·subst h0;rfl
 ·simp [h k h0 hk]
structure Pl (al:Int) (t:AN):Prop where
 pos:0≤al
 r1:1≤t.rows.length
 rl:t.rows.length≤12
 c1:1≤t.cols.length
 cl:t.cols.length≤20
 r0:t.rows[0]? = some []
 c0:t.cols[0]? = some []
 rw:∀w∈t.rows,w.length≤50000∧AB (AO al) w
 cw:∀w∈t.cols,w.length≤4000∧AB (AO al) w
 pre:∀(i:Nat) w,t.rows[i]? = some w→0 < i→w≠[]∧∃j,j < i∧t.rows[j]? = some w.dropLast
 ndC:t.cols.Nodup
theorem KG{α:Type}{l:List α}{k:Nat}{x:α}(h:x∈l.take k):∃j,j < k∧l[j]? = some x:=by
 obtain⟨j,hj,he⟩:=List.getElem_of_mem h
 have h1:j < k:=by simp at hj;omega
 refine⟨j,h1,?_⟩
 rw [←he,List.getElem_take,List.getElem?_eq_getElem]
theorem KA{α:Type}{l:List α}{j k:Nat}{x:α}(h:l[j]? = some x)(hj:j < k):x∈l.take k:=by
 have:(l.take k)[j]? = some x:=by rw [List.getElem?_take,if_pos hj];exact h
 exact List.mem_of_getElem? this
theorem SD{w:W}{al:Int}(h:within w al=true):w.length≤50000:=by
 unfold within at h
 simp only [Bool.and_eq_true,decide_eq_true_eq] at h
 exact h.1
theorem MJ{al:Int}{t:AN}(h:Df al t=true):Pl al t:=by
 unfold Df GD at h
 simp only [Bool.and_eq_true,decide_eq_true_eq] at h
 obtain⟨⟨h1,h2,h3,h4,h5⟩,h6,h7⟩:=h
 have hrow:∀(i:Nat) w,t.rows[i]? = some w→0 < i→w≠[]∧within w al=true∧w.dropLast∈t.rows.take i:=fun i w hi h0=>by
  have:=PQ h6 h0 (List.getElem?_eq_some_iff.1 hi).1
  unfold rowAt at this
  rw [hi] at this
  simp only [Bool.and_eq_true,decide_eq_true_eq,Bool.not_eq_true',decide_eq_false_iff_not] at this
  exact⟨fun e=>this.1 (by rw [e];rfl),this.2.1,this.2.2⟩
 have hcol:∀(i:Nat) w,t.cols[i]? = some w→0 < i→w.length≤4000∧within w al=true∧w∉t.cols.take i:=fun i w hi h0=>by
  have:=PQ h7 h0 (List.getElem?_eq_some_iff.1 hi).1
  unfold GJ at this
  rw [hi] at this
  simp only [Bool.and_eq_true,decide_eq_true_eq,Bool.not_eq_true',decide_eq_false_iff_not] at this
  exact this
 refine⟨h1,h2.1,h2.2,h3.1,h3.2,h4,h5,fun w hw=>?_,fun w hw=>?_,fun i w hi h0=>?_,?_⟩
 ·obtain⟨i,hi,he⟩:=List.getElem_of_mem hw
  have hi':t.rows[i]? = some w:=by rw [List.getElem?_eq_getElem hi,he]
  rcases Nat.eq_zero_or_pos i with h0|h0
  ·subst h0
   rw [h4] at hi';injection hi' with hi';subst hi'
   exact⟨by simp,fun c hc=>by cases hc⟩
  ·have:=hrow i w hi' h0
   exact⟨SD this.2.1,Dj this.2.1⟩
 ·obtain⟨i,hi,he⟩:=List.getElem_of_mem hw
  have hi':t.cols[i]? = some w:=by rw [List.getElem?_eq_getElem hi,he]
  rcases Nat.eq_zero_or_pos i with h0|h0
  ·subst h0
   rw [h5] at hi';injection hi' with hi';subst hi'
   exact⟨by simp,fun c hc=>by cases hc⟩
  ·have:=hcol i w hi' h0
   exact⟨this.1,Dj this.2.1⟩
 ·have:=hrow i w hi h0
  exact⟨this.1,KG this.2.2⟩
 ·unfold List.Nodup
  rw [List.pairwise_iff_getElem]
  intro i j hi hj hij he
  have:=hcol j t.cols[j] (List.getElem?_eq_getElem hj) (by omega)
  exact this.2.2 (KA (by rw [List.getElem?_eq_getElem hi,he]) hij)
theorem U0{al:Int}{t:AN}(ha:Bb al=true)(h0:0≤al)(hr:1≤t.rows.length∧t.rows.length≤12)(hc:1≤t.cols.length∧t.cols.length≤20)(r0:t.rows[0]? = some [])(c0:t.cols[0]? = some [])
 (rw':∀w∈t.rows,w.length≤50000∧AB (AO al) w) (cw:∀w∈t.cols,w.length≤4000∧AB (AO al) w) (pre:∀(i:Nat) w,t.rows[i]? = some w→0 < i→w≠[]∧∃j,j < i∧t.rows[j]? = some w.dropLast) (ndC:t.cols.Nodup):Df al t=true:=by
 unfold Df GD
 simp only [Bool.and_eq_true,decide_eq_true_eq]
 refine⟨⟨h0,hr,hc,r0,c0⟩,PR fun k hk hkn=>?_,PR fun k hk hkn=>?_⟩
 ·have hx:=List.getElem?_eq_getElem hkn
  obtain⟨h1,j,hj,h2⟩:=pre k _ hx hk
  have h3:=rw' _ (List.getElem_mem hkn)
  unfold rowAt
  rw [hx]
  simp only [Bool.and_eq_true,decide_eq_true_eq,Bool.not_eq_true',decide_eq_false_iff_not]
  exact⟨fun e=>h1 (List.length_eq_zero_iff.1 e),DS h3.2 h3.1 ha,KA h2 hj⟩
 ·have hx:=List.getElem?_eq_getElem hkn
  have h3:=cw _ (List.getElem_mem hkn)
  unfold GJ
  rw [hx]
  simp only [Bool.and_eq_true,decide_eq_true_eq,Bool.not_eq_true',decide_eq_false_iff_not]
  refine⟨h3.1,DS h3.2 (by omega) ha,fun hm=>?_⟩
  obtain⟨j,hj,he⟩:=KG hm
  obtain⟨hj2,he⟩:=List.getElem?_eq_some_iff.1 he
  exact(List.pairwise_iff_getElem.1 ndC) j k hj2 hkn hj he
theorem Bh{A:W→Bool}{al:Int}{t:AN}(h:AF A al t=true):Pl al t∧(Az A t).Nodup:=by
 unfold AF at h
 rw [Bool.and_eq_true,decide_eq_true_eq] at h
 exact⟨MJ h.1,h.2⟩
theorem E3{A:W→Bool}{al:Int}{t:AN}(h:AF A al t=true):TOk A (AO al) t:=by
 obtain⟨h1,h2⟩:=Bh h
 exact⟨h1.r0,h1.c0,h1.pre,fun w hw=>(h1.rw w hw).2,fun w hw=>(h1.cw w hw).2,h2,h1.ndC⟩
theorem Gd{A:W→Bool}{al:Int}{t:AN}(ha:Bb al=true)(h0:0≤al)(h:TOk A (AO al) t)(hr:t.rows.length≤12)(hc:t.cols.length≤20)(hrw:∀w∈t.rows,w.length≤50000)(hcw:∀w∈t.cols,w.length≤4000):AF A al t=true:=by
 unfold AF
 rw [Bool.and_eq_true,decide_eq_true_eq]
 have h1:=(List.getElem?_eq_some_iff.1 h.r0).1
 have h2:=(List.getElem?_eq_some_iff.1 h.c0).1
 exact⟨U0 ha h0 ⟨h1,hr⟩ ⟨h2,hc⟩ h.r0 h.c0 (fun w hw=>⟨hrw w hw,h.onR w hw⟩) (fun w hw=>⟨hcw w hw,h.onC w hw⟩) h.pre h.ndC,h.nd⟩
theorem DO{A:W→Bool}{al:Int}{t:AN}(h:A6 A al t=true):AF A al t=true∧AM A (AO al) t=none∧A7 A (AO al) t:=by
 unfold A6 at h
 rw [Bool.and_eq_true] at h
 have h2:AM A (AO al) t=none:=by simpa using h.2
 exact⟨h.1,h2,⟨E3 h.1,DU h2⟩⟩
theorem Rx{A:W→Bool}{al:Int}{t:AN}(h:AF A al t=true)(ho:AM A (AO al) t=none):A6 A al t=true:=by
 unfold A6;rw [h,ho];rfl
theorem Pl.sz{al:Int}{t:AN}(h:Pl al t):Na t:=⟨by have:=h.rl;omega,by have:=h.cl;omega,fun w hw=>by have:=(h.rw w hw).1;omega,fun w hw=>by have:=(h.cw w hw).1;omega⟩
def QX(A L:W→Bool)(al:Int):Prop:=∀w,AB (AO al) w→w.length≤50000→A w=L w
theorem RX{ls:List UInt8}{u w:W}(hu:AB ls u)(hw:AB ls w):AB ls (u++w):=fun c hc=>by
 rcases List.mem_append.1 hc with h|h
 ·exact hu c h
 ·exact hw c h
theorem NW{A L:W→Bool}{al:Int}(h:QX A L al){cols:List W}{w:W}(hw:AB (AO al) w)(hc:∀x∈cols,AB (AO al) x∧w.length+x.length≤50000):marks A cols w=marks L cols w:=by
 rw [marks,marks,List.map_inj_left]
 intro x hx
 rw [h _ (RX hw (hc x hx).1) (by simp;exact(hc x hx).2)]
theorem FV{A L:W→Bool}{al:Int}{b:Nat}{t:AN}(h:QX A L al)(ht:ED al b t)(hb:b≤20100):Az A t=Az L t:=by
 rw [Az,Az,List.map_inj_left]
 intro r hr
 have:=ht.onR r hr
 exact NW h this.1 fun x hx=>⟨(ht.onC x hx).1,by have:=(ht.onC x hx).2;omega⟩
theorem Mi{A L:W→Bool}{al:Int}{b:Nat}{t:AN}(h:QX A L al)(ht:ED al b t)(hb:b≤20100){r:W}{l:UInt8}(hr:r∈t.rows)(hl:l∈AO al):marks A t.cols (r++[l])=marks L t.cols (r++[l]):=by
 have:=ht.onR r hr
 refine NW h (RX this.1 (fun c hc=>by simp at hc;subst hc;exact hl)) fun x hx=>⟨(ht.onC x hx).1,by have:=(ht.onC x hx).2;simp;omega⟩
theorem PM{α:Type}{p q:α→Bool}:∀ {l:List α},(∀x∈l,p x=q x)→l.find? p=l.find? q
 | [],_=>rfl
 | x::l,h=>by
  rw [List.find?_cons,List.find?_cons,h x (by simp),PM (l:=l) fun y hy=>h y (by simp [hy])]
theorem Kj{A L:W→Bool}{al:Int}{b:Nat}{t:AN}(h:QX A L al)(ht:ED al b t)(hb:b≤20100):AM A (AO al) t=AM L (AO al) t:=by
 unfold AM
 refine PM fun w hw=>?_
 unfold BP at hw
 simp only [List.mem_flatMap,List.mem_map] at hw
 obtain⟨r,hr,l,hl,rfl⟩:=hw
 rw [FV h ht hb,Mi h ht hb hr hl]
theorem Gi{A L:W→Bool}{al:Int}(h:QX A L al):∀(n:Nat) {b:Nat} {t:AN},ED al b t→b+n≤20100→AZ A (AO al) n t=AZ L (AO al) n t
 | 0,_,_,_,_=>rfl
 | n + 1,b,t,ht,hb=>by
  unfold AZ
  rw [Kj h ht (by omega)]
  cases ho:AM L (AO al) t with
  | none=>rfl
  | some w=>
   dsimp only
   by_cases h12:t.rows.length=12
   ·rw [if_pos h12,if_pos h12]
   ·rw [if_neg h12,if_neg h12]
    have hrl:=ht.rl
    exact Gi h n (ht.push ho (by omega)) (by omega)
theorem PX{A L:W→Bool}{al:Int}{b:Nat}{t:AN}(h:QX A L al)(ht:ED al b t)(hb:b≤20100){r:W}{l:UInt8}(hr:r∈t.rows)(hl:l∈AO al):CD A t (r++[l])=CD L t (r++[l]):=by
 unfold CD
 rw [FV h ht hb,Mi h ht hb hr hl]
theorem Lx{A L:W→Bool}{al:Int}{b:Nat}{t:AN}(h:QX A L al)(ht:ED al b t)(hb:b≤20100):AT A al t=AT L al t:=by
 unfold AT
 congr 1
 ·refine List.map_inj_left.2 fun r hr=>List.map_inj_left.2 fun l hl=>?_
  rw [PX h ht hb hr (Lg hl)]
 ·refine List.map_inj_left.2 fun r hr=>?_
  have:=ht.onR r hr
  rw [h r this.1 (by omega)]
theorem TOk.cm{A L:W→Bool}{al:Int}{b:Nat}{t:AN}(h:QX A L al)(ht:ED al b t)(hb:b≤20100)(hk:TOk L (AO al) t):TOk A (AO al) t:=⟨hk.r0,hk.c0,hk.pre,hk.onR,hk.onC,by rw [FV h ht hb];exact hk.nd,hk.ndC⟩
theorem A7.cm{A L:W→Bool}{al:Int}{b:Nat}{t:AN}(h:QX A L al)(ht:ED al b t)(hb:b≤20100)(hk:A7 L (AO al) t):A7 A (AO al) t:=⟨hk.toTOk.cm h ht hb,fun r hr l hl=>by
 rw [Mi h ht hb hr hl,FV h ht hb];exact hk.cl r hr l hl⟩
theorem Xv{A:W→Bool}{al:Int}{t:AN}(h:A7 A (AO al) t){q:Nat}(hq:q < t.rows.length):t.rows.getD q []∈t.rows:=by
 rw [List.getD,List.getElem?_eq_getElem hq];exact List.getElem_mem hq
theorem KK{A L:W→Bool}{al:Int}{b0:Nat}{t:AN}(h:QX A L al)(ht:ED al b0 t)(hb:b0≤20100)(hk:A7 L (AO al) t)(b:Bool):∀(w:W) (q:Nat),q < t.rows.length→AB (AO al) w→w.length≤20000→splitAt A t b q w=splitAt L t b q w
 | [],_,_,_,_=>rfl
 | c :: w,q,hq,hw,hl=>by
  have hr:=Xv hk hq
  have hc:=hw c (by simp)
  have he:=PX h ht hb hr hc
  obtain⟨r',h2,_⟩:=hk.idx (i:=q) (List.getElem?_eq_getElem hq) hc
  have hg:t.rows.getD q []=t.rows[q]:=by rw [List.getD,List.getElem?_eq_getElem hq];rfl
  rw [←hg] at h2
  have hq2:=(List.getElem?_eq_some_iff.1 h2).1
  have hr2:=Xv hk hq2
  have hww:AB (AO al) w:=fun x hx=>hw x (by simp [hx])
  simp at hl
  have hA:A (t.rows.getD (CD L t (t.rows.getD q []++[c])) []++w)=L (t.rows.getD (CD L t (t.rows.getD q []++[c])) []++w):=
   h _ (RX (ht.onR _ hr2).1 hww) (by have:=(ht.onR _ hr2).2;simp only [List.length_append];omega)
  unfold splitAt
  rw [he,hA]
  split
  ·rfl
  ·exact KK h ht hb hk b w _ hq2 hww (by omega)
end Go.Am
namespace Go.Am
open Go Go.Proofs
set_option maxHeartbeats 1000000
set_option maxRecDepth 4000
attribute [local irreducible] AV BX Lex Bf Av Spec
section
variable {P:Program}{TB:Be}{Γ:Ctx}{d:Option Tmp}{ty:TypeId}{pos:String}{af:Array Edge}{g:Option (Nat×Bool)}{f:Env}{σ:Ab}{nx:Nat}
theorem YT{t k e:TypeId}{x:Operand}{id:Nat}{es:List (Value×Value)}[hm:HS P t k e](hx:ev f x=some (.o (.mp id)))(ho:look σ id=some (.mp es)) :
 AV P TB Γ ⟨d,.call ⟨.builtin .len,#[x],#[t]⟩,ty,pos,af,g⟩ f σ nx (eI .i64 es.length):=
 AA fun V ρ hr hi=>by
  have e1:=hr.get (by simp [Op.operands,Call.operands]) hx
  generalize hv:ρ x=v at e1
  cases e1 with
  | mp hid=>
   obtain⟨hn,ents,clock,h1,h2⟩:=hi.st.obj id _ ho
   have hl:ents.size=es.length:=by have:=congrArg List.length h2;simpa using this
   refine⟨.int .i64 es.length,?_,.d (.v rfl)⟩
   simp [execOp,resolve,invoke,builtin,hv,Builtin.len_,run_underlying hm.out,MapKept.run_getObj_map h1,goInt,hl,go_sem]
end
variable {TB:Be}
theorem Ml(L:W→Bool)(t:AN):∀k,k≤t.rows.length→(A9 L t k).length≤k∧((A9 L t k).length=k↔((Az L t).take k).Nodup)
 | 0,_=>by simp [A9]
 | k + 1,hk=>by
  obtain⟨h1,h2⟩:=Ml L t k (by omega)
  have hx:=II (L:=L) (t:=t) (k:=k) (by omega)
  have hf:=Kh L t k (by omega) (marks L t.cols (t.rows.getD k []))
  rw [A9]
  by_cases hm:marks L t.cols (t.rows.getD k [])∈(Az L t).take k
  ·rw [if_pos hm] at hf
   rw [hf]
   simp only [Option.isSome_some,if_true]
   refine⟨by omega,?_⟩
   constructor
   ·intro h;omega
   ·intro h
    rw [List.take_add_one,hx] at h
    simp only [Option.toList_some] at h
    rw [List.nodup_append] at h
    exact absurd rfl (h.2.2 _ hm _ (by simp))
  ·rw [if_neg hm] at hf
   rw [hf]
   simp only [Option.isSome_none,Bool.false_eq_true,if_false]
   refine⟨by simp;omega,?_⟩
   simp only [List.length_append,List.length_cons,List.length_nil]
   constructor
   ·intro h
    exact Ts hx (h2.1 (by omega)) hm
   ·intro h
    rw [List.take_add_one,hx] at h
    simp only [Option.toList_some] at h
    rw [List.nodup_append] at h
    have:=h2.2 h.1
    omega
theorem RV(L:W→Bool)(t:AN):(A9 L t t.rows.length).length=t.rows.length↔(Az L t).Nodup:=by
 have:=(Ml L t t.rows.length (Nat.le_refl _)).2
 rwa [List.take_of_length_le (by simp [Az])] at this
theorem Pl.short{al:Int}{t:AN}(h:Pl al t):∀(i:Nat) w,t.rows[i]? = some w→w.length≤i:=by
 intro i
 induction i using Nat.strongRecOn with
 | ind i ih=>
  intro w hi
  rcases Nat.eq_zero_or_pos i with rfl|h0
  ·have:=h.r0.symm.trans hi
   injection this with this
   subst this;simp
  ·obtain⟨hne,j,hj,hjw⟩:=h.pre i w hi h0
   have:=ih j hj _ hjw
   rw [List.length_dropLast] at this
   omega
theorem Pl.bd{al:Int}{t:AN}(h:Pl al t):ED al 20000 t:=by
 refine⟨fun w hw=>⟨(h.rw w hw).2,?_⟩,fun x hx=>⟨(h.cw x hx).2,by have:=(h.cw x hx).1;omega⟩,h.rl,h.cl⟩
 obtain⟨i,hi,he⟩:=List.getElem_of_mem hw
 have:=h.short i w (by rw [List.getElem?_eq_getElem hi,he])
 have:=h.rl
 omega
theorem DW{c:C}{L:W→Bool}{ok:W→Prop}(hc:En Tryz.prog TB c L ok)(al:Int)(w:W)(hl:w.length≤1099511627776):Pure Tryz.prog TB 77 [FF al c,eT w] (eB (CN al w)):=by
 have h1:=HA (TB:=TB) w al hl -- 131
 have hr:=BW c hc.AL
 have he:CN al w=(decide ((w.length:Int)≤4000) && within w al):=by unfold CN;rw [Bool.and_comm];congr 1;rw [decide_eq_decide];omega
 rw [he]
 refine eG Tryz.func77 rfl (by kernel_rfl) rfl ?_;intro Γ hΓ
 (repeat first |refine sN rfl ?_ |((first|refine sM rfl ?_ ?_|refine s4 rfl ‹_› rfl ?_ ?_);first|exact tI|omega|simp only[oZ] at *;omega) |refine s2 rfl fun _ _hb=>?_ |refine s3 rfl ?_ ?_<;>rintro rfl |refine aU rfl ?_ |refine Aa ?_ |refine rE (by kernel_rfl) ?_)
 (refine pW rfl ?_ rfl (by rfl);refine CT rfl rfl ?_)
 (repeat first |refine sN rfl ?_ |((first|refine sA rfl ?_ ?_|refine s4 rfl ‹_› rfl ?_ ?_);first|exact tI|omega|simp only[oZ] at *;omega) |refine s2 rfl fun _ _hb=>?_ |(refine sC rfl (h1) ?_;intro _ _hb) |refine s3 rfl ?_ ?_<;>rintro rfl |refine aU rfl ?_ |refine Aa ?_)
 (repeat' first |refine sN rfl ?_ |((first|refine sA rfl ?_ ?_|refine s4 rfl ‹_› rfl ?_ ?_);first|exact tI|omega|simp only[oZ] at *;omega) |refine s2 rfl fun _ _hb=>?_ |(refine sC rfl (h1) ?_;intro _ _hb) |refine s3 rfl ?_ ?_<;>rintro rfl |refine aU rfl ?_ |refine Aa ?_|(refine aC rfl ?_ ?_<;>rintro⟨⟩));all_goals try contradiction
 all_goals (subst_vars;refine aR ⟨_,rfl,?_⟩;show E.o _=E.o _;congr;grind)
end Go.Am
namespace Go.Am
open Go Go.Proofs
set_option maxHeartbeats 1000000
set_option maxRecDepth 4000
attribute [local irreducible] AV BX Lex Bf Av Spec
variable {TB:Be}
theorem CI{c:C}{L:W→Bool}{ok:W→Prop}(hc:En Tryz.prog TB c L ok)(al:Int)(hal:Bb al=true)(t:AN)(hf:Pl al t→GQ ok (AO al) t)(hz:Na t) :
    Pure Tryz.prog TB 76 [FF al c,B8 t] (eB (AF L al t)):=by
  have hr:=BW c hc.AL
  have hrl:=hz.rl
  have hcl:=hz.cl
  have hal0:0≤al:=by unfold Bb at hal;simp at hal;omega
  by_cases h0:GD al t=true
  · have hss : Df al t=(C0 (rowAt al t.rows) t.rows.length && C0 (GJ al t.cols) t.cols.length):=by unfold Df;rw [h0];rfl
    have hvv:AF L al t=((C0 (rowAt al t.rows) t.rows.length && C0 (GJ al t.cols) t.cols.length) && decide (Az L t).Nodup):=by unfold AF;rw [hss]
    unfold GD at h0
    simp only [Bool.and_eq_true,decide_eq_true_eq] at h0
    obtain⟨h1,h2,h3,h4,h5⟩:=h0
    have h4':=get_map (g:=BD) (k:=0) h4
    have h5':=get_map (g:=BD) (k:=0) h5
    have e0:((0:Nat):Int).toNat=(0:Int).toNat:=rfl
    rw [e0] at h4' h5'
    have hdr:((t.rows.map BD).drop (1:Int).toNat).length=t.rows.length - 1:=by simp
    have hdc:((t.cols.map BD).drop (1:Int).toNat).length=t.cols.length - 1:=by simp
    refine eG Tryz.func76 rfl (by kernel_rfl) rfl ?_;intro Γ hΓ
    (repeat first|refine aU rfl ?_)
    (refine pW rfl ?_ rfl (by rfl);refine CT rfl rfl ?_)
    (refine Ai rfl ?_;refine B5 (fun _ _=>CE rfl rfl rfl) rfl ?_)
    (repeat first|refine tA rfl ?_ |refine aU rfl ?_ |refine Aa ?_)
    refine rG (J6 []) (by kernel_rfl) ?_
    (repeat first|refine sN rfl ?_ |refine tA rfl ?_ |refine s2 rfl fun _ _hb=>?_ |refine s3 rfl ?_ ?_<;>rintro rfl |refine aU rfl ?_ |refine Aa ?_)
    (repeat' first|refine sN rfl ?_ |refine tA rfl ?_ |(refine s4 rfl ‹_› rfl ?_ ?_;omega) |refine s2 rfl fun _ _hb=>?_ |refine s3 rfl ?_ ?_<;>rintro rfl |refine aU rfl ?_ |refine Aa ?_|(refine aC rfl ?_ ?_<;>rintro⟨⟩));all_goals try contradiction
    all_goals first
      | (exfalso;(simp only[oZ] at *;omega);done)
      | (exfalso;simp at *;done)
      | skip
    refine aK ?_
    (repeat first|refine tA rfl ?_|(refine Ai rfl ?_;refine gA rfl ?_;first| refine gS (fun _ _=>TE rfl rfl (by simp) (by omega) (by (simp only[oZ] at *;omega))) ?_) |refine aU rfl ?_ |refine Aa ?_)
    refine aB ?_
    refine aL (α:={k:Nat // k+1≤t.rows.length∧C0 (rowAt al t.rows) (k+1)=true}) [2,3,5,6,46,47] [0] rfl rfl (fun ⟨k,hk,ha⟩=>[(48,eI .i64 k)]) (fun ⟨k,hk,ha⟩=>[]) 1 (fun ⟨k,hk,ha⟩=>t.rows.length - k) (⟨0,by omega,rfl⟩) hΓ rfl (by (simp[cX,zC,hΓ,hr])) ?_;rintro⟨k,hk,ha⟩;(try dsimp only[cA,cB])
    by_cases hlt:k+1 < t.rows.length
    · obtain⟨x,hx⟩:=get_some hlt
      have hx':((t.rows.map BD).drop (1:Int).toNat)[((k:Nat):Int).toNat]? = some (BD x):=by rw [List.getElem?_drop,Nat.add_comm];simp [hx]
      have hxb:=hz.rb x (List.mem_of_getElem? hx)
      have hra:rowAt al t.rows (k+1)=(!decide (x.length=0) && (within x al && decide (x.dropLast∈t.rows.take (k+1)))):=by unfold rowAt;rw [hx]
      have hww:=HA (TB:=TB) x al (by omega)
      have hin:Pure Tryz.prog TB 148 [.o (.d (.l ((t.rows.map BD).take ((k:Int)+1).toNat))),eT (x.take ((x.length:Int) - 1).toNat)] (eB (decide (x.dropLast∈t.rows.take (k+1)))):=by
        have e1:(x.take ((x.length:Int) - 1).toNat)=x.dropLast:=by rw [List.dropLast_eq_take];congr 1;omega
        rw [e1,show ((k:Int)+1).toNat=k+1 by omega,←List.map_take]
        exact E9 _ _
      have hxe:(x=[])↔x.length=0:=by rw [List.length_eq_zero_iff]
      (repeat first|refine s2 rfl fun _ _hb=>?_ |refine aU rfl ?_ |refine Aa ?_)
      ((refine aC rfl ?_ ?_<;>rintro⟨⟩);all_goals try(exfalso;(simp only[oZ] at *;omega)))
      refine aK ?_
      refine aS (aB ?_)
      (repeat first|refine tA rfl ?_ |(refine s4 rfl ‹_› rfl ?_ ?_;omega) |refine aU rfl ?_ |refine Aa ?_)
      refine rG (J6 []) (by kernel_rfl) ?_
      by_cases hx0:x=[]
      · rw [decide_eq_true (hxe.1 hx0)] at hra
        (repeat' first|(refine sA rfl ?_ ?_;first|exact tI|omega) |refine s2 rfl fun _ _hb=>?_ |(refine sC rfl (hww) ?_;intro _ _hb)|(refine sC rfl (hin) ?_;intro _ _hb) |refine s3 rfl ?_ ?_<;>rintro rfl |refine aU rfl ?_ |refine Aa ?_|(refine aC rfl ?_ ?_<;>rintro⟨⟩));all_goals try contradiction
        all_goals first
          | (exfalso;simp at *;grind;done)
          | (refine aR ⟨_,rfl,?_⟩;show eB false=eB _;rw [hvv,FH (by omega) hlt (by rw [hra];rfl)];rfl)
      · have hpos:0 < x.length:=List.length_pos_iff.2 hx0
        (repeat' first|(refine sA rfl ?_ ?_;first|exact tI|omega) |refine s2 rfl fun _ _hb=>?_ |(refine sC rfl (hww) ?_;intro _ _hb)|(refine sC rfl (hin) ?_;intro _ _hb)|(refine Ai rfl ?_;refine gA rfl ?_;first| refine gS (fun _ _=>Ju rfl rfl (by simp) (by omega) (by (simp only[oZ] at *;omega))) ?_|refine gS (fun _ _=>TL rfl rfl (by omega) (by omega)) ?_) |refine s3 rfl ?_ ?_<;>rintro rfl |refine aU rfl ?_ |refine Aa ?_|(refine aC rfl ?_ ?_<;>rintro⟨⟩));all_goals try contradiction
        all_goals first
          | (exfalso;exact hx0 (of_decide_eq_true ‹decide (x=[])=true›);done)
          | (refine aR ⟨_,rfl,?_⟩;show eB false=eB _;rw [hvv,FH (by omega) hlt (by rw [hra];grind)];rfl)
          | (have hst:=Gp ha (by rw [hra];grind)
             refine aK ?_
             (repeat first|(refine sA rfl ?_ ?_;first|exact tI|omega) |refine aU rfl ?_ |refine Aa ?_)
             refine⟨⟨k+1,by omega,hst⟩,by dsimp only;(omega),[0],?_⟩
             simp[cX,zC,hΓ,hr])
    · obtain hke:k+1=t.rows.length:=by omega
      rw [hke] at ha
      rw [ha,Bool.true_and] at hvv
      (repeat first|refine s2 rfl fun _ _hb=>?_ |refine aU rfl ?_ |refine Aa ?_)
      ((refine aC rfl ?_ ?_<;>rintro⟨⟩);all_goals try(exfalso;(simp only[oZ] at *;omega)))
      refine aE ?_
      (repeat first|refine tA rfl ?_|(refine Ai rfl ?_;refine gA rfl ?_;first| refine gS (fun _ _=>TE rfl rfl (by simp) (by omega) (by (simp only[oZ] at *;omega))) ?_) |refine aU rfl ?_ |refine Aa ?_)
      refine aB ?_
      have hra1:=ha
      clear hke ha hk
      refine aL (α:={k:Nat // k+1≤t.cols.length∧C0 (GJ al t.cols) (k+1)=true}) [2,3,5,6,77,78] [0] rfl rfl (fun ⟨k,hk,ha⟩=>[(79,eI .i64 k)]) (fun ⟨k,hk,ha⟩=>[]) 1 (fun ⟨k,hk,ha⟩=>t.cols.length - k) (⟨0,by omega,rfl⟩) hΓ rfl (by (simp[cX,zC,hΓ,hr])) ?_;rintro⟨k,hk,ha⟩;(try dsimp only[cA,cB])
      by_cases hlt:k+1 < t.cols.length
      · obtain⟨x,hx⟩:=get_some hlt
        have hx':((t.cols.map BD).drop (1:Int).toNat)[((k:Nat):Int).toNat]? = some (BD x):=by rw [List.getElem?_drop,Nat.add_comm];simp [hx]
        have hxb:=hz.cb x (List.mem_of_getElem? hx)
        have hra:GJ al t.cols (k+1)=(decide (x.length≤4000) && (within x al && !decide (x∈t.cols.take (k+1)))):=by unfold GJ;rw [hx]
        have hcw:=DW (TB:=TB) hc al x (by omega)
        have hin:Pure Tryz.prog TB 148 [.o (.d (.l ((t.cols.map BD).take ((k:Int)+1).toNat))),eT x] (eB (decide (x∈t.cols.take (k+1)))):=by
          rw [show ((k:Int)+1).toNat=k+1 by omega,←List.map_take]
          exact E9 _ _
        (repeat first|refine s2 rfl fun _ _hb=>?_ |refine aU rfl ?_ |refine Aa ?_)
        ((refine aC rfl ?_ ?_<;>rintro⟨⟩);all_goals try(exfalso;(simp only[oZ] at *;omega)))
        refine aK ?_
        refine aS (aB ?_)
        (repeat first|refine tA rfl ?_ |(refine s4 rfl ‹_› rfl ?_ ?_;omega) |refine aU rfl ?_ |refine Aa ?_)
        (repeat' first|(refine sA rfl ?_ ?_;first|exact tI|omega) |refine s2 rfl fun _ _hb=>?_ |(refine sC rfl (hin) ?_;intro _ _hb)|(refine Ai rfl ?_;refine gA rfl ?_;first| (refine gB (fun _ _=>AD rfl rfl (by simp [E.AL,C.A5,C.AL,hc.AL,eC]) hcw rfl) ?_;intro _ _hb)|refine gS (fun _ _=>Ju rfl rfl (by simp) (by omega) (by (simp only[oZ] at *;omega))) ?_) |refine s3 rfl ?_ ?_<;>rintro rfl |refine aU rfl ?_ |refine Aa ?_|(refine aC rfl ?_ ?_<;>rintro⟨⟩));all_goals try contradiction
        all_goals first
          | (refine aR ⟨_,rfl,?_⟩;show eB false=eB _;rw [hvv,FH (by omega) hlt (by rw [hra];unfold CN at *;grind)];rfl)
          | (have hst:=Gp ha (by rw [hra];unfold CN at *;grind)
             refine aK ?_
             (repeat first|(refine sA rfl ?_ ?_;first|exact tI|omega) |refine aU rfl ?_ |refine Aa ?_)
             refine⟨⟨k+1,by omega,hst⟩,by dsimp only;(omega),[0],?_⟩
             simp[cX,zC,hΓ,hr])
      · obtain hke:k+1=t.cols.length:=by omega
        rw [hke] at ha
        rw [ha,Bool.true_and] at hvv
        have hsf:Pl al t:=MJ (by rw [hss,hra1,ha];rfl)
        have hask:=(hsf.bd.Uf (hf hsf) (by omega)).1
        have hnv:=RV L t
        have hml:(FN (A9 L t t.rows.length)).length=(A9 L t t.rows.length).length:=by simp [FN]
        (repeat first|refine s2 rfl fun _ _hb=>?_ |refine aU rfl ?_ |refine Aa ?_)
        ((refine aC rfl ?_ ?_<;>rintro⟨⟩);all_goals try(exfalso;(simp only[oZ] at *;omega)))
        refine aE ?_
        (repeat first|refine tA rfl ?_ |refine aU rfl ?_)
        (refine pW rfl ?_ rfl (by rfl);refine Cr [] rfl rfl (Ft hc al t hask) ⟨rfl,by simp,by simp⟩ (by simp [DM,E.AW,C.Bp,C.AW,hr,eC]) trivial ?_;rintro x0 σ1 nx1 ⟨rfl,rfl,rfl⟩ _)
        (repeat first|refine sN rfl ?_ |refine tA rfl ?_ |refine s2 rfl fun _ _hb=>?_|(refine Ai rfl ?_;refine gA rfl ?_;first| refine gQ (YT rfl rfl) (by rfl) ?_) |refine Aa ?_)
        refine aR ⟨_,rfl,?_⟩
        rw [hvv]
        subst_vars
        show eB _=eB _
        congr 4
        rw [eq_iff_iff]
        exact⟨fun h=>hnv.1 (by omega),fun h=>by have:=hnv.2 h;omega⟩
  · have hvv:AF L al t=false:=by unfold AF Df;simp [h0]
    rw [hvv]
    have h0':¬((1≤t.rows.length∧t.rows.length≤12)∧(1≤t.cols.length∧t.cols.length≤20)∧t.rows[0]? = some []∧t.cols[0]? = some []):=by
      intro h;apply h0;unfold GD;simp [h,hal0]
    have hR':(t.rows.map BD)[(0:Int).toNat]? = (t.rows[0]?).map BD:=by simp
    have hC':(t.cols.map BD)[(0:Int).toNat]? = (t.cols[0]?).map BD:=by simp
    have hRn:t.rows[0]? = none→t.rows.length=0:=fun h=>by have:=List.getElem?_eq_none_iff.1 h;omega
    have hCn:t.cols[0]? = none→t.cols.length=0:=fun h=>by have:=List.getElem?_eq_none_iff.1 h;omega
    refine eG Tryz.func76 rfl (by kernel_rfl) rfl ?_;intro Γ hΓ
    (repeat first|refine aU rfl ?_)
    (refine pW rfl ?_ rfl (by rfl);refine CT rfl rfl ?_)
    (refine Ai rfl ?_;refine B5 (fun _ _=>CE rfl rfl rfl) rfl ?_)
    (repeat first|refine tA rfl ?_ |refine aU rfl ?_ |refine Aa ?_)
    refine rG (J6 []) (by kernel_rfl) ?_
    cases hR:t.rows[0]?<;>cases hC:t.cols[0]?<;>rw [hR] at hR' h0'<;>rw [hC] at hC' h0'<;>(
      (repeat first|refine sN rfl ?_ |refine tA rfl ?_ |refine s2 rfl fun _ _hb=>?_ |refine s3 rfl ?_ ?_<;>rintro rfl |refine aU rfl ?_ |refine Aa ?_)
      (repeat' first|refine sN rfl ?_ |refine tA rfl ?_ |(refine s4 rfl ‹_› rfl ?_ ?_;omega) |refine s2 rfl fun _ _hb=>?_ |refine s3 rfl ?_ ?_<;>rintro rfl |refine aU rfl ?_ |refine Aa ?_|(refine aC rfl ?_ ?_<;>rintro⟨⟩));all_goals try contradiction
      all_goals first
        | (subst_vars;exact aR ⟨_,rfl,rfl⟩)
        | (exfalso;grind;done))
end Go.Am
namespace Go.Am
open Go Go.Proofs
set_option linter.unusedVariables false
def CY(n:Nat)(p:W→Prop):Prop:=∃l:List W,l.length≤n∧∀w,p w→w∈l
theorem CY.or{a b:Nat}{p q:W→Prop}(h:CY a p)(h':CY b q):CY (a+b) (fun w=>p w∨q w):=by
 obtain⟨l,h1,h2⟩:=h
 obtain⟨l',h3,h4⟩:=h'
 exact⟨l++l',by simp;omega,fun w hw=>List.mem_append.2 (hw.imp (h2 w) (h4 w))⟩
theorem CY.sub{a b:Nat}{p q:W→Prop}(h:CY a p)(hs:∀w,q w→p w)(hb:a≤b):CY b q:=by
 obtain⟨l,h1,h2⟩:=h
 exact⟨l,by omega,fun w hw=>h2 w (hs w hw)⟩
theorem CY.none{n:Nat}{p:W→Prop}(h:∀w,¬p w):CY n p:=⟨[],by simp,fun w hw=>absurd hw (h w)⟩
theorem CY.if{n:Nat}{p:W→Prop}{c:Prop}(h:c→CY n p):CY n (fun w=>c∧p w):=by
 by_cases hc:c
 ·exact(h hc).sub (fun w hw=>hw.2) (Nat.le_refl _)
 ·exact .none fun w hw=>hc hw.1
theorem Mc{α β:Type}(f:α→List β)(b:Nat):∀(l:List α),(∀x∈l,(f x).length≤b)→(l.flatMap f).length≤l.length*b
 | [],_=>by simp
 | x::l,h=>by
  have h1:=Mc f b l fun y hy=>h y (by simp [hy])
  have h2:=h x (by simp)
  rw [List.flatMap_cons,List.length_append,List.length_cons,Nat.succ_mul]
  omega
theorem CY.ex{α:Type}{n b:Nat}{p:W→Prop}{q:α→W→Prop}(l:List α)(hl:l.length≤n)(hq:∀x∈l,CY b (q x))(h:∀w,p w→∃x∈l,q x w):CY (n*b) p:=by
 classical
 have hf:∀x:α,∃k:List W,x∈l→k.length≤b∧∀w,q x w→w∈k:=fun x=>by
  by_cases hx:x∈l
  ·obtain⟨k,h1,h2⟩:=hq x hx;exact⟨k,fun _=>⟨h1,h2⟩⟩
  ·exact⟨[],fun h=>absurd h hx⟩
 have hg:=fun x=>Classical.choose_spec (hf x)
 refine⟨l.flatMap fun x=>Classical.choose (hf x),Nat.le_trans (Mc _ b l fun x hx=>(hg x hx).1) (Nat.mul_le_mul_right b hl),fun w hw=>?_⟩
 obtain⟨x,hx,hxw⟩:=h w hw
 exact List.mem_flatMap.2 ⟨x,hx,(hg x hx).2 w hxw⟩
theorem CY.map{α:Type}{n:Nat}{p:W→Prop}(f:α→W)(l:List α)(hl:l.length≤n)(h:∀w,p w→∃x∈l,w=f x):CY n p:=
 ⟨l.map f,by simpa using hl,fun w hw=>by obtain⟨x,hx,rfl⟩:=h w hw;exact List.mem_map.2 ⟨x,hx,rfl⟩⟩
theorem YD(al:Int):(AO al).length≤6:=by
 unfold AO
 rw [List.length_map]
 exact A0 al 6
theorem NM{al:Int}{b:Nat}{t:AN}(h:ED al b t):CY 1764 (Lw (AO al) t):=by
 have hrl:=h.rl
 have hcl:=h.cl
 refine CY.ex (n:=12) (b:=147) (q:=fun r v=>∃m:W,(m=[]∨∃l∈AO al,m=[l])∧∃x:W,(x=[]∨x∈t.cols)∧v=r++m++x) t.rows hrl (fun r _=>?_) fun w hw=>hw
 refine CY.ex (n:=7) (b:=21) (q:=fun m v=>∃x:W,(x=[]∨x∈t.cols)∧v=r++m++x) ([]::(AO al).map fun l=>[l]) (by have:=YD al;simp;omega) (fun m _=>?_) fun w hw=>?_
 ·exact CY.map (fun x=>r++m++x) ([]::t.cols) (by simp;omega) fun w ⟨x,hx,hw⟩=>⟨x,by simpa using hx,hw⟩
 ·obtain⟨m,hm,h3⟩:=hw
  refine⟨m,?_,h3⟩
  rcases hm with rfl|⟨l,hl,rfl⟩
  ·simp
  ·exact List.mem_cons_of_mem _ (List.mem_map.2 ⟨l,hl,rfl⟩)
theorem NQ{L:W→Bool}{ls:List UInt8}:∀(n:Nat) (t:AN),(Dl L ls n t).length≤n+1
 | 0,t=>by simp [Dl]
 | n + 1,t=>by
  unfold Dl
  cases AM L ls t with
  | none=>simp
  | some w=>
   dsimp only
   split
   ·simp
   ·have:=NQ (L:=L) (ls:=ls) n ⟨t.rows++[w],t.cols⟩
    simp;omega
theorem NL{L:W→Bool}{al:Int}{b:Nat}{t:AN}(h:ED al b t):CY 24696 (fun v=>∃y∈Dl L (AO al) 13 t,Lw (AO al) y v):=
 CY.ex (n:=14) (b:=1764) (q:=fun y v=>Lw (AO al) y v) (Dl L (AO al) 13 t) (NQ 13 t) (fun y hy=>NM (h.grow hy)) fun w hw=>hw
theorem Uo{al:Int}{b:Nat}{t:AN}(h:ED al b t){w:W}(hw:w.length≤20000):CY 260013 (SU t w):=by
 have hrl:=h.rl
 refine CY.ex (n:=13) (b:=20001) (q:=fun r v=>∃k:Nat,v=r++w.drop k) ([]::t.rows) (by simp;omega) (fun r _=>?_) fun v ⟨r,hr,hv⟩=>⟨r,by simpa using hr,hv⟩
 refine CY.map (fun k=>r++w.drop k) (List.range 20001) (by simp) fun v ⟨k,hv⟩=>?_
 by_cases hk:k < 20001
 ·exact⟨k,List.mem_range.2 hk,hv⟩
 ·exact⟨20000,by simp,by rw [hv,List.drop_of_length_le (by omega),List.drop_of_length_le (by omega)]⟩
theorem Un{L:W→Bool}{al:Int}{t:AN}(h:ED al 20000 t){w:W}(hon:AB (AO al) w)(hw:w.length≤20000):CY 286473 (SS L (AO al) t w):=by
 refine((NM h).or ((Uo h hw).or (b:=24696) ?_)).sub (b:=286473) (fun v hv=>hv) (by omega)
 cases hs:Bt L t w with
 | none=>exact .none fun v ⟨x,hx,_⟩=>by cases hx
 | some x=>
  cases ha:Dr t x with
  | none=>exact .none fun v ⟨x',hx,u,hu,_⟩=>by injection hx with hx;subst hx;rw [ha] at hu;cases hu
  | some u=>
   obtain⟨p,_,rfl⟩:=E0 hs
   exact(NL (L:=L) (K7 h (fun c hc=>hon c (by simp [hc])) (by simp at hw;omega) ha)).sub (fun v ⟨x',hx,u',hu,hv⟩=>by
    injection hx with hx;subst hx
    rw [ha] at hu;injection hu with hu;subst hu;exact hv) (Nat.le_refl _)
def okB(al:Int)(w:W):Prop:=AB (AO al) w∧w.length≤50000
theorem Jn(al:Int):GS (okB al) al:=fun w h1 h2=>⟨h1,h2⟩
theorem TY{α:Type}:∀(l m:List α),l.Nodup→(∀x∈l,x∈m)→l.length≤m.length
 | [],_,_,_=>by simp
 | x :: l,m,hn,hs=>by
  obtain⟨a,b,rfl⟩:=List.append_of_mem (hs x (by simp))
  rw [List.nodup_cons] at hn
  have h:=TY l (a++b) hn.2 fun y hy=>by
   have h1:=hs y (List.mem_cons_of_mem _ hy)
   simp only [List.mem_append,List.mem_cons] at h1 ⊢
   rcases h1 with h1|rfl|h1
   ·exact .inl h1
   ·exact absurd hy hn.1
   ·exact .inr h1
  simp at h ⊢;omega
theorem Yq{t:B1}{n:Nat}{p:W→Prop}{al:Int}(h:CY n p)(hn:n≤20000000)(hb:∀w,p w→okB al w):ZC t p:=by
 obtain⟨k,hk,hm⟩:=h
 intro l hnd hl
 have hsub:l ⊆ B6 t::(k.filter fun w=>w.length≤50000).flatMap fun w=>(List.range 50001).map fun i=>ME t (B6 t) (w.take i):=fun F hF=>by
  rcases hl F hF with rfl|⟨u,v,ho,rfl⟩
  ·simp
  ·have h1:=(hb _ ho).2
   refine List.mem_cons_of_mem _ (List.mem_flatMap.2 ⟨u++v,List.mem_filter.2 ⟨hm _ ho,by simpa using h1⟩,List.mem_map.2 ⟨u.length,List.mem_range.2 (by simp at h1;omega),by simp⟩⟩)
 have h1:=TY _ _ hnd hsub
 have h2:=Mc (fun w:W=>(List.range 50001).map fun i=>ME t (B6 t) (w.take i)) 50001 (k.filter fun w=>w.length≤50000) (fun x _=>by simp)
 have h3:(k.filter fun w=>w.length≤50000).length≤n:=Nat.le_trans (List.length_filter_le _ _) hk
 rw [List.length_cons] at h1
 have h4:(k.filter fun w=>decide (w.length≤50000)).length*50001≤20000000*50001:=Nat.mul_le_mul_right _ (by omega)
 omega
theorem cS{al:Int}{w:W}(h:okB al w):bR al w:=⟨h.1,Nat.le_trans h.2 (by omega)⟩
theorem Ub{te:CL}{n:Nat}{p:W→Prop}(h:CY n p)(hn:n≤20000000)(hb:∀w,p w→okB (Al te) w):(∀w,p w→bR (Al te) w)∧Pf te p:=by
 refine⟨fun w hw=>cS (hb w hw),?_⟩
 obtain⟨kn,a,s,q,al⟩:=te
 cases kn with
 | true=>intro h;cases h
 | false=>exact fun _=>Yq h hn hb
def VG(te:CL)(x:AN)(v:W):Prop:=Pl (Al te) x∧∃y∈Dl (Bd te) (AO (Al te)) 13 x,Lw (AO (Al te)) y v
theorem SV{te:CL}{x:AN}:∀v,VG te x v→okB (Al te) v:=fun v ⟨h,y,hy,hv⟩=>h.bd.ed (Jn _) (by omega) y hy v hv
theorem NB(te:CL)(x:AN):CY 24696 (VG te x):=CY.if fun h=>NL h.bd
theorem OD(te:CL)(x:AN):∃ok:W→Prop,(∀w,ok w→bR (Al te) w)∧Pf te ok∧(Pl (Al te) x→∀y∈Dl (Bd te) (AO (Al te)) 13 x,GQ ok (AO (Al te)) y):=by
 obtain⟨h1,h2⟩:=Ub (te:=te) (NB te x) (by omega) SV
 exact⟨_,h1,h2,fun h y hy v hv=>⟨h,y,hy,hv⟩⟩
theorem PA(te:CL)(x:AN)(w:W):∃ok:W→Prop,(∀w,ok w→bR (Al te) w)∧Pf te ok∧(Pl (Al te) x→∀y∈Dl (Bd te) (AO (Al te)) 13 x,GQ ok (AO (Al te)) y)∧
 (Pl (Al te) x→AB (AO (Al te)) w∧w.length≤4000→∀v,SS (Bd te) (AO (Al te)) x w v→ok v):=by
 obtain⟨h1,h2⟩:=Ub (te:=te) (p:=fun v=>VG te x v∨(Pl (Al te) x∧AB (AO (Al te)) w∧w.length≤4000)∧SS (Bd te) (AO (Al te)) x w v)
  ((NB te x).or (b:=286473) (CY.if fun h=>Un h.1.bd h.2.1 (by omega))) (by omega) (fun v hv=>by
   rcases hv with hv|⟨⟨h,hw⟩,hv⟩
   ·exact SV v hv
   ·rcases hv with hv|hv|⟨z,hz,u,hu,y,hy,hv⟩
    ·exact h.bd.on (Jn _) (by omega) v hv
    ·exact(h.bd.mono (by omega)).fV (Jn _) hw.1 (by omega) v hv
    ·obtain⟨p,_,rfl⟩:=E0 hz
     exact(K7 h.bd (fun c hc=>hw.1 c (by simp [hc])) (by simp at hw;omega) hu).ed (Jn _) (by omega) y hy v hv)
 exact⟨_,h1,h2,fun h y hy v hv=>.inl ⟨h,y,hy,hv⟩,fun h hw v hv=>.inr ⟨⟨h,hw⟩,hv⟩⟩
end Go.Am
