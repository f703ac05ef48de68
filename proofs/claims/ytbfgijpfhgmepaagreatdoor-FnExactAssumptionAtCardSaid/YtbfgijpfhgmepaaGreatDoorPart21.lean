/-
  The reference's tables: valid ones, the first open word.
-/
import Derived.Test.YtbfgijpfhgmepaaGreatDoorPart20
import Derived.Test.YtbfgijpfhgmepaaGreatDoorPart16
import Derived.Test.YtbfgijpfhgmepaaGreatDoorPart17
import Derived.Test.YtbfgijpfhgmepaaGreatDoorPart18
set_option linter.constructorNameAsVariable false
set_option linter.unusedSectionVars false
set_option linter.unusedSimpArgs false
set_option linter.unusedVariables false
namespace Go.Am
open Go Go.Proofs
set_option maxHeartbeats 1000000
attribute [local irreducible] AS BT Lex Bc Au Spec
variable {TB:Bt}
def Ge(al:Int)(w:W):Bool:=within w al && decide (w.length≤4000)
theorem OY{t:Ew}{al:Int}{A:W→Bool}(hT:J0 Tryz.prog TB 120 175 t al A)(w:W)(hl:w.length≤1099511627776):Pure Tryz.prog TB 192 [EC t,eT w] (eB (Ge al w)):=by
 have h1:=hT.alph
 have h2:=Ef (TB:=TB) w al hl
 have hc:Ge al w=(within w al && decide ((w.length:Int)≤4000)):=by unfold Ge;congr 1;rw [decide_eq_decide];omega
 rw [hc]
 refine eN Tryz.func192 rfl (by kernel_rfl) rfl ?_;intro Γ hΓ
 (repeat' first|refine tA rfl ?_ |refine s2 rfl fun _ _hb=>?_ |refine sP rfl (h1) rfl ?_|(refine sC rfl (h2) ?_;intro _ _hb) |refine s3 rfl ?_ ?_<;>rintro rfl |refine aU rfl ?_ |refine Aa ?_|(refine aC rfl ?_ ?_<;>rintro⟨⟩)|refine aK ?_|refine aE ?_|refine aB ?_|refine aR ⟨_,rfl,?_⟩)
 all_goals (show E.o _=E.o _;congr;grind)
def AX(A:W→Bool)(al:Int)(t:AW):Bool:=FU al t && decide (AF A t).Nodup
theorem fx{l:List W}{k:Nat}{x:W}(hx:l[k]? = some x)(h:(l.take k).Nodup)(hn:x∉l.take k):(l.take (k+1)).Nodup:=by
 rw [List.take_add_one,hx,List.nodup_append]
 refine⟨h,by simp,fun a ha b hb e=>?_⟩
 simp at hb;subst hb;exact hn (e ▸ ha)
theorem iQ{l:List W}{k:Nat}{x:W}(hx:l[k]? = some x)(hn:x∈l.take k):¬l.Nodup:=by
 intro h
 obtain⟨h1,rfl⟩:=List.getElem?_eq_some_iff.1 hx
 rw [←List.take_append_drop k l,List.nodup_append] at h
 exact h.2.2 _ hn _ (by rw [List.drop_eq_getElem_cons h1];exact List.mem_cons_self) rfl
theorem Fs{t:Ew}{al:Int}{A:W→Bool}(hT:J0 Tryz.prog TB 120 175 t al A)(tab:AW)(hz:VN tab):Pure Tryz.prog TB 171 [EC t,DW tab] (eB (AX A al tab)):=by
 have h1:=hT.alph
 have h2:=Ut (TB:=TB) al tab hz
 have h3:=Kj hT tab.cols tab.rows hz.cl (fun w hw=>by have:=hz.rb w hw;omega) hz.cb hz.rl
 by_cases hs:FU al tab=true
 ·have hv:AX A al tab=decide (AF A tab).Nodup:=by unfold AX;rw [hs];rfl
  rw [hv]
  have h3':Pure Tryz.prog TB 122 [EC t,CP tab.cols,CP tab.rows] (CP (AF A tab)):=h3
  have hml:(AF A tab).length=tab.rows.length:=by simp [AF]
  have hrl:=hz.rl
  generalize AF A tab=l at *
  refine eN Tryz.func171 rfl (by kernel_rfl) rfl ?_;intro Γ hΓ
  (repeat' first|refine tA rfl ?_ |refine s2 rfl fun _ _hb=>?_ |refine sP rfl (h1) rfl ?_|(refine sC rfl (h2) ?_;intro _ _hb)|refine sP rfl (h3') rfl ?_ |refine aU rfl ?_ |refine Aa ?_ |refine rE (by kernel_rfl) ?_|(refine aC rfl ?_ ?_<;>rintro⟨⟩)|refine aK ?_|refine aE ?_|refine aB ?_|refine aR ⟨_,rfl,?_⟩)
  all_goals first
   | (exfalso;grind;done)
   | skip
  refine aL (α:={k:Nat // k≤l.length∧(l.take k).Nodup}) [5] [] rfl rfl (fun ⟨k,hk,hn⟩=>[(6,eI .i64 k)]) (fun ⟨k,hk,hn⟩=>[]) 0 (fun ⟨k,hk,hn⟩=>l.length - k) (⟨0,by omega,by simp⟩) hΓ rfl (by (simp[cX,zC,hΓ])) ?_;rintro⟨k,hk,hn⟩;(try dsimp only[cA,cB])
  by_cases hlt:k < l.length
  ·obtain⟨x,hx⟩:=get_some hlt
   have hx':=get_map (g:=Ed) hx
   have hin:Pure Tryz.prog TB 195 [.o (.d (.l ((l.map Ed).take ((k:Nat):Int).toNat))),eT x] (eB (decide (x∈l.take k))):=by
    rw [Int.toNat_natCast,←List.map_take]
    exact I8 _ _ (by simp;omega)
   (repeat first|refine sN rfl ?_ |refine tA rfl ?_ |refine s2 rfl fun _ _hb=>?_ |refine aU rfl ?_ |refine Aa ?_)
   (refine aC rfl ?_ ?_<;>rintro⟨⟩)
   ·(repeat' first|(refine sA rfl ?_ ?_;first|exact tI|omega) |(refine s4 rfl ‹_› rfl ?_ ?_;omega) |(refine sC rfl (hin) ?_;intro _ _hb)|(refine Ai rfl ?_;refine gA rfl ?_;first| refine gS (fun _ _=>Tf rfl rfl (by simp) (by omega) (by (simp only[oZ] at *;omega))) ?_) |refine aU rfl ?_ |refine Aa ?_ |refine rE (by kernel_rfl) ?_|(refine aC rfl ?_ ?_<;>rintro⟨⟩)|refine aK ?_|refine aE ?_|refine aB ?_|refine aR ⟨_,rfl,?_⟩)
    ·show eB false=eB _
     rw [decide_eq_false (iQ hx (by simpa using _hb))]
    ·have hst:=fx hx hn (by simpa using _hb)
     refine⟨⟨k+1,by omega,hst⟩,by dsimp only;(omega),[],?_⟩
     simp[cX,zC,hΓ]
   ·exfalso;(simp only[oZ] at *;omega)
  ·rw [List.take_of_length_le (by omega)] at hn
   (repeat first|refine sN rfl ?_ |refine tA rfl ?_ |refine s2 rfl fun _ _hb=>?_ |refine aU rfl ?_ |refine Aa ?_)
   (refine aC rfl ?_ ?_<;>rintro⟨⟩)
   ·exfalso;(simp only[oZ] at *;omega)
   ·(repeat' first|refine tA rfl ?_ |refine aU rfl ?_ |refine Aa ?_|(refine aC rfl ?_ ?_<;>rintro⟨⟩)|refine aK ?_|refine aE ?_|refine aB ?_|refine aR ⟨_,rfl,?_⟩)
    rw [decide_eq_true hn]
 ·have hv:AX A al tab=false:=by unfold AX;simp [hs]
  rw [hv]
  refine eN Tryz.func171 rfl (by kernel_rfl) rfl ?_;intro Γ hΓ
  (repeat' first|refine tA rfl ?_ |refine s2 rfl fun _ _hb=>?_ |refine sP rfl (h1) rfl ?_|(refine sC rfl (h2) ?_;intro _ _hb) |refine aU rfl ?_ |refine Aa ?_ |refine rE (by kernel_rfl) ?_|(refine aC rfl ?_ ?_<;>rintro⟨⟩)|refine aK ?_|refine aE ?_|refine aB ?_|refine aR ⟨_,rfl,?_⟩)
  all_goals first
   | rfl
   | (exfalso;grind;done)
theorem Ki{t:Ew}{al:Int}{A:W→Bool}(hT:J0 Tryz.prog TB 120 175 t al A)(tab:AW)(hz:VN tab):Pure Tryz.prog TB 172 [EC t,DW tab] (Zv (A8 A (AZ al) tab)):=by
 have h1:=hT.alph
 have h2:=DG (TB:=TB) al
 have h3:Pure Tryz.prog TB 122 [EC t,CP tab.cols,CP tab.rows] (CP (AF A tab)):=Kj hT tab.cols tab.rows hz.cl (fun w hw=>by have:=hz.rb w hw;omega) hz.cb hz.rl
 have hrl:=hz.rl
 have hla:(Ac al).length≤6:=AV al 6
 refine eN Tryz.func172 rfl (by kernel_rfl) rfl ?_;intro Γ hΓ
 (repeat' first|refine tA rfl ?_ |refine sP rfl (h1) rfl ?_|refine sP rfl (h2) rfl ?_|refine sP rfl (h3) rfl ?_ |refine aU rfl ?_ |refine Aa ?_|(refine aC rfl ?_ ?_<;>rintro⟨⟩)|refine aK ?_|refine aE ?_|refine aB ?_|refine aR ⟨_,rfl,?_⟩)
 refine aL (α:={k:Nat // k≤tab.rows.length∧∀w∈CJ (AZ al) (tab.rows.take k),marks A tab.cols w∈AF A tab}) [2,3,6,7] [] rfl rfl (fun ⟨k,hk,hkd⟩=>[(8,eI .i64 k)]) (fun ⟨k,hk,hkd⟩=>[]) 0 (fun ⟨k,hk,hkd⟩=>tab.rows.length - k) (⟨0,by omega,by simp [CJ]⟩) hΓ rfl (by (simp[cX,zC,hΓ])) ?_;rintro⟨k,hk,hkd⟩;(try dsimp only[cA,cB])
 by_cases hlt:k < tab.rows.length
 ·obtain⟨r, hx⟩:=get_some hlt
  have hx':=get_map (g:=Ed) hx
  have hrb:=hz.rb r (List.mem_of_getElem? hx)
  (repeat first|refine sN rfl ?_ |refine tA rfl ?_ |refine s2 rfl fun _ _hb=>?_ |refine aU rfl ?_ |refine Aa ?_)
  (refine aC rfl ?_ ?_<;>rintro⟨⟩)
  ·refine aK ?_
   refine aS (aB ?_)
   (repeat first|refine tA rfl ?_ |refine aU rfl ?_ |refine Aa ?_)
   refine aB ?_
   refine aL (α:={j:Nat // j≤(Ac al).length∧∀x∈(AZ al).take j,marks A tab.cols (r++[x])∈AF A tab}) [2,3,6,7,8] [] rfl rfl (fun ⟨j,hj,hjd⟩=>[(9,eI .i64 j)]) (fun ⟨j,hj,hjd⟩=>[]) 0 (fun ⟨j,hj,hjd⟩=>(Ac al).length - j) (⟨0,by omega,by simp⟩) hΓ rfl (by (simp[cX,zC,hΓ])) ?_;rintro⟨j,hj,hjd⟩;(try dsimp only[cA,cB])
   by_cases hjlt:j < (Ac al).length
   ·obtain⟨l,hl⟩:=get_some hjlt
    have hl':=get_map (g:=Bm) hl
    have hlb:=Ak (List.mem_of_getElem? hl)
    have hll:(AZ al)[j]? = some (lb l):=by simp [AZ,hl]
    have htx:Pure Tryz.prog TB 125 [eI .i64 l] (eT [lb l]):=Mr l hlb.1 (by omega)
    have hrow:=Mq hT tab.cols (r++[lb l]) hz.cl (by simp;omega) hz.cb
    have hin:=I8 (TB:=TB) (AF A tab) (marks A tab.cols (r++[lb l])) (by simp [AF];omega)
    (repeat first|refine sN rfl ?_ |refine tA rfl ?_ |refine s2 rfl fun _ _hb=>?_ |refine aU rfl ?_ |refine Aa ?_)
    (refine aC rfl ?_ ?_<;>rintro⟨⟩)
    ·(repeat' first|(refine sA rfl ?_ ?_;first|exact tI|omega|simp only[oZ] at *;omega) |(refine s4 rfl ‹_› rfl ?_ ?_;omega) |refine s2 rfl fun _ _hb=>?_ |refine sP rfl (htx) rfl ?_|refine sP rfl (hrow) rfl ?_|(refine sC rfl (hin) ?_;intro _ _hb) |refine aU rfl ?_ |refine Aa ?_ |refine rE (by kernel_rfl) ?_|(refine aC rfl ?_ ?_<;>rintro⟨⟩)|refine aK ?_|refine aE ?_|refine aB ?_|refine aR ⟨_,rfl,?_⟩)
     ·have hno:marks A tab.cols (r++[lb l])∉AF A tab:=by grind
      rw [YI hx hll hkd hjd hno]
      rfl
     ·have hyes:marks A tab.cols (r++[lb l])∈AF A tab:=by grind
      have hjd2:∀x∈(AZ al).take (j+1),marks A tab.cols (r++[x])∈AF A tab:=fun x hx=>by
       rw [List.take_add_one,hll] at hx
       rcases List.mem_append.1 hx with hx|hx
       ·exact hjd x hx
       ·simp at hx;subst hx;exact hyes
      refine⟨⟨j+1,by omega,hjd2⟩,by dsimp only;(omega),[],?_⟩
      simp[cX,zC,hΓ]
    ·exfalso;(simp only[oZ] at *;omega)
   ·have hkd2:∀w∈CJ (AZ al) (tab.rows.take (k+1)),marks A tab.cols w∈AF A tab:=fun w hw=>by
     rw [Pc hx] at hw
     rcases List.mem_append.1 hw with hw|hw
     ·exact hkd w hw
     ·obtain⟨x,hx2,rfl⟩:=List.mem_map.1 hw
      exact hjd x (by rw [List.take_of_length_le (by simp [AZ];omega)];exact hx2)
    (repeat first|refine sN rfl ?_ |refine tA rfl ?_ |refine s2 rfl fun _ _hb=>?_ |refine aU rfl ?_ |refine Aa ?_)
    (refine aC rfl ?_ ?_<;>rintro⟨⟩)
    ·exfalso;(simp only[oZ] at *;omega)
    ·(repeat' first|(refine sA rfl ?_ ?_;first|exact tI|omega) |refine aU rfl ?_ |refine Aa ?_|(refine aC rfl ?_ ?_<;>rintro⟨⟩)|refine aK ?_|refine aE ?_|refine aB ?_|refine aR ⟨_,rfl,?_⟩)
     refine⟨⟨k+1,by omega,hkd2⟩,by dsimp only;(omega),[],?_⟩
     simp[cX,zC,hΓ]
  ·exfalso;(simp only[oZ] at *;omega)
 ·have hno:A8 A (AZ al) tab=none:=List.find?_eq_none.2 fun w hw=>by
   have:=hkd w (by rw [List.take_of_length_le (by omega)];exact hw)
   simpa using this
  rw [hno]
  (repeat first|refine sN rfl ?_ |refine tA rfl ?_ |refine s2 rfl fun _ _hb=>?_ |refine aU rfl ?_ |refine Aa ?_)
  (refine aC rfl ?_ ?_<;>rintro⟨⟩)
  ·exfalso;(simp only[oZ] at *;omega)
  ·(repeat' first|refine tA rfl ?_ |refine aU rfl ?_ |refine Aa ?_|(refine aC rfl ?_ ?_<;>rintro⟨⟩)|refine aK ?_|refine aE ?_|refine aB ?_|refine aR ⟨_,rfl,?_⟩)
   rfl
theorem Qk{t:Ew}{al:Int}{A:W→Bool}(hT:J0 Tryz.prog TB 120 175 t al A)(tab:AW)(hz:VN tab):Pure Tryz.prog TB 173 [EC t,DW tab] (Zv (if AX A al tab then A8 A (AZ al) tab else none)):=by
 have h1:=Fs hT tab hz
 have h2:=Ki hT tab hz
 by_cases hv:AX A al tab=true
 ·rw [if_pos hv]
  cases ho:A8 A (AZ al) tab<;>rw [ho] at h2<;>(
   refine eN Tryz.func173 rfl (by kernel_rfl) rfl ?_;intro Γ hΓ
   (repeat' first|refine tA rfl ?_ |refine s2 rfl fun _ _hb=>?_ |(refine sC rfl (h1) ?_;intro _ _hb)|refine sP rfl (h2) rfl ?_ |refine aU rfl ?_ |refine Aa ?_|(refine aC rfl ?_ ?_<;>rintro⟨⟩)|refine aK ?_|refine aE ?_|refine aB ?_|refine aR ⟨_,rfl,?_⟩)
   all_goals first
    | rfl
    | (exfalso;grind;done))
 ·rw [if_neg hv]
  refine eN Tryz.func173 rfl (by kernel_rfl) rfl ?_;intro Γ hΓ
  (repeat' first|refine tA rfl ?_ |refine s2 rfl fun _ _hb=>?_ |(refine sC rfl (h1) ?_;intro _ _hb) |refine aU rfl ?_ |refine Aa ?_|(refine aC rfl ?_ ?_<;>rintro⟨⟩)|refine aK ?_|refine aE ?_|refine aB ?_|refine aR ⟨_,rfl,?_⟩)
  all_goals first
   | rfl
   | (exfalso;grind;done)
def Bu(A:W→Bool)(al:Int)(t:AW):Bool:=AX A al t && (A8 A (AZ al) t).isNone
theorem PL{t:Ew}{al:Int}{A:W→Bool}(hT:J0 Tryz.prog TB 120 175 t al A)(tab:AW)(hz:VN tab):Pure Tryz.prog TB 119 [EC t,DW tab] (eB (Bu A al tab)):=by
 have h1:=Fs hT tab hz
 have h2:=Qk hT tab hz
 by_cases hv:AX A al tab=true
 ·rw [if_pos hv] at h2
  have hc:Bu A al tab=(A8 A (AZ al) tab).isNone:=by unfold Bu;rw [hv];rfl
  rw [hc]
  cases ho:A8 A (AZ al) tab<;>rw [ho] at h2<;>(
   refine eN Tryz.func119 rfl (by kernel_rfl) rfl ?_;intro Γ hΓ
   (repeat' first|refine tA rfl ?_ |refine s2 rfl fun _ _hb=>?_ |(refine sC rfl (h1) ?_;intro _ _hb)|refine sP rfl (h2) rfl ?_ |refine s3 rfl ?_ ?_<;>rintro rfl |refine aU rfl ?_ |refine Aa ?_|(refine aC rfl ?_ ?_<;>rintro⟨⟩)|refine aK ?_|refine aE ?_|refine aB ?_|refine aR ⟨_,rfl,?_⟩)
   all_goals first
    | rfl
    | (exfalso;grind;done)
    | (show E.o _=E.o _;congr;first| grind|(simp at *;assumption)))
 ·rw [if_neg hv] at h2
  have hc:Bu A al tab=false:=by unfold Bu;simp [hv]
  rw [hc]
  refine eN Tryz.func119 rfl (by kernel_rfl) rfl ?_;intro Γ hΓ
  (repeat' first|refine tA rfl ?_ |refine s2 rfl fun _ _hb=>?_ |(refine sC rfl (h1) ?_;intro _ _hb)|refine sP rfl (h2) rfl ?_ |refine s3 rfl ?_ ?_<;>rintro rfl |refine aU rfl ?_ |refine Aa ?_|(refine aC rfl ?_ ?_<;>rintro⟨⟩)|refine aK ?_|refine aE ?_|refine aB ?_|refine aR ⟨_,rfl,?_⟩)
  all_goals first
   | rfl
   | (exfalso;grind;done)
theorem iG{l:List W}{s:W}{k:Nat}(hx:l[k]? = some s)(hn:s∉l.take k):l.idxOf s=k:=by
 have hl:k < l.length:=(List.getElem?_eq_some_iff.1 hx).1
 have e:l=l.take k++s::l.drop (k+1):=by rw [←Bo hx,List.take_append_drop]
 rw [e,List.idxOf_append,if_neg hn,List.idxOf_cons_self]
 simp;omega
theorem Us(l:List W)(s:W)(hm:s∈l)(hl:l.length≤1099511627776):Pure Tryz.prog TB 123 [CP l,eT s] (eI .i64 (l.idxOf s:Nat)):=by
 refine eN Tryz.func123 rfl (by kernel_rfl) rfl ?_;intro Γ hΓ
 (repeat first|refine tA rfl ?_ |refine aU rfl ?_ |refine Aa ?_)
 refine aB ?_
 refine aL (α:={k:Nat // k≤l.length∧s∉l.take k}) [0,1] [] rfl rfl (fun ⟨k,hk,hn⟩=>[(5,eI .i64 k)]) (fun ⟨k,hk,hn⟩=>[]) 0 (fun ⟨k,hk,hn⟩=>l.length - k) (⟨0,by omega,by simp⟩) hΓ rfl (by (simp[cX,zC,hΓ])) ?_;rintro⟨k,hk,hn⟩;(try dsimp only[cA,cB])
 have hkl:k < l.length:=by
  rcases Nat.lt_or_ge k l.length with h|h
  ·exact h
  ·rw [List.take_of_length_le h] at hn;exact absurd hm hn
 obtain⟨x,hx⟩:=get_some (l:=l) (k:=k) hkl
 have hx':=get_map (g:=Ed) hx
 by_cases hs:x=s
 ·subst hs
  have he:=iG hx hn
  rw [he]
  (repeat first|refine tA rfl ?_ |(refine s4 rfl ‹_› rfl ?_ ?_;omega) |refine s2 rfl fun _ _hb=>?_ |refine aU rfl ?_ |refine Aa ?_)
  (refine aC rfl ?_ ?_<;>rintro⟨⟩)
  ·exfalso;simp at _hb
  ·(repeat' first|refine tA rfl ?_ |refine aU rfl ?_ |refine Aa ?_|(refine aC rfl ?_ ?_<;>rintro⟨⟩)|refine aK ?_|refine aE ?_|refine aB ?_|refine aR ⟨_,rfl,?_⟩)
   rfl
 ·have hn2:s∉l.take (k+1):=by
   rw [List.take_add_one,hx]
   intro h
   rcases List.mem_append.1 h with h|h
   ·exact hn h
   ·simp at h;exact hs h.symm
  (repeat first|refine tA rfl ?_ |(refine s4 rfl ‹_› rfl ?_ ?_;omega) |refine s2 rfl fun _ _hb=>?_ |refine aU rfl ?_ |refine Aa ?_)
  (refine aC rfl ?_ ?_<;>rintro⟨⟩)
  ·(repeat' first|(refine sA rfl ?_ ?_;first|exact tI|omega) |refine aU rfl ?_ |refine Aa ?_|(refine aC rfl ?_ ?_<;>rintro⟨⟩)|refine aK ?_|refine aE ?_|refine aB ?_|refine aR ⟨_,rfl,?_⟩)
   refine⟨⟨k+1,by omega,hn2⟩,by dsimp only;(omega),[],?_⟩
   simp[cX,zC,hΓ]
  ·exfalso;simp [hs] at _hb
end Go.Am
namespace Go.Am
open Go
set_option linter.unusedVariables false
theorem Uh{f:Nat→Bool}{n k:Nat}(h:GC f n=true)(h0:0 < k)(hk:k < n):f k=true:=by
 unfold GC at h
 have:=(List.all_eq_true.1 h) k (List.mem_range.2 hk)
 simp at this
 rcases this with h|h
 ·omega
 ·exact h
theorem Ui{f:Nat→Bool}{n:Nat}(h:∀k,0 < k→k < n→f k=true):GC f n=true:=by
 unfold GC
 refine List.all_eq_true.2 fun k hk=>?_
 have hk:=List.mem_range.1 hk
 rcases Nat.eq_zero_or_pos k with h0|h0
 ·subst h0;rfl
 ·simp [h k h0 hk]
structure bm (al:Int) (t:AW):Prop where
 pos:0≤al
 r1:1≤t.rows.length
 rl:t.rows.length≤12
 c1:1≤t.cols.length
 cl:t.cols.length≤20
 r0:t.rows[0]? = some []
 c0:t.cols[0]? = some []
 rw:∀w∈t.rows,w.length≤50000∧AK (AZ al) w
 cw:∀w∈t.cols,w.length≤4000∧AK (AZ al) w
 pre:∀(i:Nat) w,t.rows[i]? = some w→0 < i→w≠[]∧∃j,j < i∧t.rows[j]? = some w.dropLast
 ndC:t.cols.Nodup
theorem Nk{α:Type}{l:List α}{k:Nat}{x:α}(h:x∈l.take k):∃j,j < k∧l[j]? = some x:=by
 obtain⟨j,hj,he⟩:=List.getElem_of_mem h
 have h1:j < k:=by simp at hj;omega
 refine⟨j,h1,?_⟩
 rw [←he,List.getElem_take,List.getElem?_eq_getElem]
theorem MW{α:Type}{l:List α}{j k:Nat}{x:α}(h:l[j]? = some x)(hj:j < k):x∈l.take k:=by
 have:(l.take k)[j]? = some x:=by rw [List.getElem?_take,if_pos hj];exact h
 exact List.mem_of_getElem? this
theorem XD{w:W}{al:Int}(h:within w al=true):w.length≤50000:=by
 unfold within at h
 simp only [Bool.and_eq_true,decide_eq_true_eq] at h
 exact h.1
theorem Vn{al:Int}{t:AW}(h:FU al t=true):bm al t:=by
 unfold FU MJ at h
 simp only [Bool.and_eq_true,decide_eq_true_eq] at h
 obtain⟨⟨h1,h2,h3,h4,h5⟩,h6,h7⟩:=h
 have hrow:∀(i:Nat) w,t.rows[i]? = some w→0 < i→w≠[]∧within w al=true∧w.dropLast∈t.rows.take i:=fun i w hi h0=>by
  have:=Uh h6 h0 (List.getElem?_eq_some_iff.1 hi).1
  unfold rowAt at this
  rw [hi] at this
  simp only [Bool.and_eq_true,decide_eq_true_eq,Bool.not_eq_true',decide_eq_false_iff_not] at this
  exact⟨fun e=>this.1 (by rw [e];rfl),this.2.1,this.2.2⟩
 have hcol:∀(i:Nat) w,t.cols[i]? = some w→0 < i→w.length≤4000∧within w al=true∧w∉t.cols.take i:=fun i w hi h0=>by
  have:=Uh h7 h0 (List.getElem?_eq_some_iff.1 hi).1
  unfold OE at this
  rw [hi] at this
  simp only [Bool.and_eq_true,decide_eq_true_eq,Bool.not_eq_true',decide_eq_false_iff_not] at this
  exact this
 refine⟨h1,h2.1,h2.2,h3.1,h3.2,h4,h5,fun w hw=>?_,fun w hw=>?_,fun i w hi h0=>?_,?_⟩
 ·obtain⟨i,hi,he⟩:=List.getElem_of_mem hw
  have hi':t.rows[i]? = some w:=by rw [List.getElem?_eq_getElem hi,he]
  rcases Nat.eq_zero_or_pos i with h0|h0
  ·subst h0
   rw [h4] at hi';injection hi' with hi';subst hi'
   exact⟨by simp,fun c hc=>by cases hc⟩
  ·have:=hrow i w hi' h0
   exact⟨XD this.2.1,Eu this.2.1⟩
 ·obtain⟨i,hi,he⟩:=List.getElem_of_mem hw
  have hi':t.cols[i]? = some w:=by rw [List.getElem?_eq_getElem hi,he]
  rcases Nat.eq_zero_or_pos i with h0|h0
  ·subst h0
   rw [h5] at hi';injection hi' with hi';subst hi'
   exact⟨by simp,fun c hc=>by cases hc⟩
  ·have:=hcol i w hi' h0
   exact⟨this.1,Eu this.2.1⟩
 ·have:=hrow i w hi h0
  exact⟨this.1,Nk this.2.2⟩
 ·unfold List.Nodup
  rw [List.pairwise_iff_getElem]
  intro i j hi hj hij he
  have:=hcol j t.cols[j] (List.getElem?_eq_getElem hj) (by omega)
  exact this.2.2 (MW (by rw [List.getElem?_eq_getElem hi,he]) hij)
theorem aF{al:Int}{t:AW}(ha:A4 al=true)(h0:0≤al)(hr:1≤t.rows.length∧t.rows.length≤12)(hc:1≤t.cols.length∧t.cols.length≤20)(r0:t.rows[0]? = some [])(c0:t.cols[0]? = some [])
 (rw':∀w∈t.rows,w.length≤50000∧AK (AZ al) w) (cw:∀w∈t.cols,w.length≤4000∧AK (AZ al) w) (pre:∀(i:Nat) w,t.rows[i]? = some w→0 < i→w≠[]∧∃j,j < i∧t.rows[j]? = some w.dropLast) (ndC:t.cols.Nodup):FU al t=true:=by
 unfold FU MJ
 simp only [Bool.and_eq_true,decide_eq_true_eq]
 refine⟨⟨h0,hr,hc,r0,c0⟩,Ui fun k hk hkn=>?_,Ui fun k hk hkn=>?_⟩
 ·have hx:=List.getElem?_eq_getElem hkn
  obtain⟨h1,j,hj,h2⟩:=pre k _ hx hk
  have h3:=rw' _ (List.getElem_mem hkn)
  unfold rowAt
  rw [hx]
  simp only [Bool.and_eq_true,decide_eq_true_eq,Bool.not_eq_true',decide_eq_false_iff_not]
  exact⟨fun e=>h1 (List.length_eq_zero_iff.1 e),GF h3.2 h3.1 ha,MW h2 hj⟩
 ·have hx:=List.getElem?_eq_getElem hkn
  have h3:=cw _ (List.getElem_mem hkn)
  unfold OE
  rw [hx]
  simp only [Bool.and_eq_true,decide_eq_true_eq,Bool.not_eq_true',decide_eq_false_iff_not]
  refine⟨h3.1,GF h3.2 (by omega) ha,fun hm=>?_⟩
  obtain⟨j,hj,he⟩:=Nk hm
  obtain⟨hj2,he⟩:=List.getElem?_eq_some_iff.1 he
  exact(List.pairwise_iff_getElem.1 ndC) j k hj2 hkn hj he
theorem Ee{A:W→Bool}{al:Int}{t:AW}(h:AX A al t=true):bm al t∧(AF A t).Nodup:=by
 unfold AX at h
 rw [Bool.and_eq_true,decide_eq_true_eq] at h
 exact⟨Vn h.1,h.2⟩
theorem IA{A:W→Bool}{al:Int}{t:AW}(h:AX A al t=true):TOk A (AZ al) t:=by
 obtain⟨h1,h2⟩:=Ee h
 exact⟨h1.r0,h1.c0,h1.pre,fun w hw=>(h1.rw w hw).2,fun w hw=>(h1.cw w hw).2,h2,h1.ndC⟩
theorem JJ{A:W→Bool}{al:Int}{t:AW}(ha:A4 al=true)(h0:0≤al)(h:TOk A (AZ al) t)(hr:t.rows.length≤12)(hc:t.cols.length≤20)(hrw:∀w∈t.rows,w.length≤50000)(hcw:∀w∈t.cols,w.length≤4000):AX A al t=true:=by
 unfold AX
 rw [Bool.and_eq_true,decide_eq_true_eq]
 have h1:=(List.getElem?_eq_some_iff.1 h.r0).1
 have h2:=(List.getElem?_eq_some_iff.1 h.c0).1
 exact⟨aF ha h0 ⟨h1,hr⟩ ⟨h2,hc⟩ h.r0 h.c0 (fun w hw=>⟨hrw w hw,h.onR w hw⟩) (fun w hw=>⟨hcw w hw,h.onC w hw⟩) h.pre h.ndC,h.nd⟩
theorem Js{A:W→Bool}{al:Int}{t:AW}(h:Bu A al t=true):AX A al t=true∧A8 A (AZ al) t=none∧BL A (AZ al) t:=by
 unfold Bu at h
 rw [Bool.and_eq_true] at h
 have h2:A8 A (AZ al) t=none:=by simpa using h.2
 exact⟨h.1,h2,⟨IA h.1,GM h2⟩⟩
theorem bm.sz{al:Int}{t:AW}(h:bm al t):VN t:=⟨by have:=h.rl;omega,by have:=h.cl;omega,fun w hw=>by have:=(h.rw w hw).1;omega,fun w hw=>by have:=(h.cw w hw).1;omega⟩
def TC(A L:W→Bool)(al:Int):Prop:=∀w,AK (AZ al) w→w.length≤50000→A w=L w
theorem SU{ls:List UInt8}{u w:W}(hu:AK ls u)(hw:AK ls w):AK ls (u++w):=fun c hc=>by
 rcases List.mem_append.1 hc with h|h
 ·exact hu c h
 ·exact hw c h
theorem Rm{A L:W→Bool}{al:Int}(h:TC A L al){cols:List W}{w:W}(hw:AK (AZ al) w)(hc:∀x∈cols,AK (AZ al) x∧w.length+x.length≤50000):marks A cols w=marks L cols w:=by
 rw [marks,marks,List.map_inj_left]
 intro x hx
 rw [h _ (SU hw (hc x hx).1) (by simp;exact(hc x hx).2)]
theorem HS{A L:W→Bool}{al:Int}{b:Nat}{t:AW}(h:TC A L al)(ht:GY al b t)(hb:b≤20100):AF A t=AF L t:=by
 rw [AF,AF,List.map_inj_left]
 intro r hr
 have:=ht.onR r hr
 exact Rm h this.1 fun x hx=>⟨(ht.onC x hx).1,by have:=(ht.onC x hx).2;omega⟩
theorem Pb{A L:W→Bool}{al:Int}{b:Nat}{t:AW}(h:TC A L al)(ht:GY al b t)(hb:b≤20100){r:W}{l:UInt8}(hr:r∈t.rows)(hl:l∈AZ al):marks A t.cols (r++[l])=marks L t.cols (r++[l]):=by
 have:=ht.onR r hr
 refine Rm h (SU this.1 (fun c hc=>by simp at hc;subst hc;exact hl)) fun x hx=>⟨(ht.onC x hx).1,by have:=(ht.onC x hx).2;simp;omega⟩
theorem Ue{α:Type}{p q:α→Bool}:∀ {l:List α},(∀x∈l,p x=q x)→l.find? p=l.find? q
 | [],_=>rfl
 | x::l,h=>by
  rw [List.find?_cons,List.find?_cons,h x (by simp),Ue (l:=l) fun y hy=>h y (by simp [hy])]
theorem Mz{A L:W→Bool}{al:Int}{b:Nat}{t:AW}(h:TC A L al)(ht:GY al b t)(hb:b≤20100):A8 A (AZ al) t=A8 L (AZ al) t:=by
 unfold A8
 refine Ue fun w hw=>?_
 unfold CJ at hw
 simp only [List.mem_flatMap,List.mem_map] at hw
 obtain⟨r,hr,l,hl,rfl⟩:=hw
 rw [HS h ht hb,Pb h ht hb hr hl]
theorem OB{A L:W→Bool}{al:Int}(h:TC A L al):∀(n:Nat) {b:Nat} {t:AW},GY al b t→b+n≤20100→Bf A (AZ al) n t=Bf L (AZ al) n t
 | 0,_,_,_,_=>rfl
 | n + 1,b,t,ht,hb=>by
  unfold Bf
  rw [Mz h ht (by omega)]
  cases ho:A8 L (AZ al) t with
  | none=>rfl
  | some w=>
   dsimp only
   by_cases h12:t.rows.length=12
   ·rw [if_pos h12,if_pos h12]
   ·rw [if_neg h12,if_neg h12]
    have hrl:=ht.rl
    exact OB h n (ht.push ho (by omega)) (by omega)
theorem Uq{A L:W→Bool}{al:Int}{b:Nat}{t:AW}(h:TC A L al)(ht:GY al b t)(hb:b≤20100){r:W}{l:UInt8}(hr:r∈t.rows)(hl:l∈AZ al):CX A t (r++[l])=CX L t (r++[l]):=by
 unfold CX
 rw [HS h ht hb,Pb h ht hb hr hl]
theorem TW{A L:W→Bool}{al:Int}{b:Nat}{t:AW}(h:TC A L al)(ht:GY al b t)(hb:b≤20100):AT A al t=AT L al t:=by
 unfold AT
 congr 1
 ·refine List.map_inj_left.2 fun r hr=>List.map_inj_left.2 fun l hl=>?_
  rw [Uq h ht hb hr (Oa hl)]
 ·refine List.map_inj_left.2 fun r hr=>?_
  have:=ht.onR r hr
  rw [h r this.1 (by omega)]
theorem TOk.lR{A L:W→Bool}{al:Int}{b:Nat}{t:AW}(h:TC A L al)(ht:GY al b t)(hb:b≤20100)(hk:TOk L (AZ al) t):TOk A (AZ al) t:=⟨hk.r0,hk.c0,hk.pre,hk.onR,hk.onC,by rw [HS h ht hb];exact hk.nd,hk.ndC⟩
theorem BL.lR{A L:W→Bool}{al:Int}{b:Nat}{t:AW}(h:TC A L al)(ht:GY al b t)(hb:b≤20100)(hk:BL L (AZ al) t):BL A (AZ al) t:=⟨hk.toTOk.lR h ht hb,fun r hr l hl=>by
 rw [Pb h ht hb hr hl,HS h ht hb];exact hk.cl r hr l hl⟩
theorem dM{A:W→Bool}{al:Int}{t:AW}(h:BL A (AZ al) t){q:Nat}(hq:q < t.rows.length):t.rows.getD q []∈t.rows:=by
 rw [List.getD,List.getElem?_eq_getElem hq];exact List.getElem_mem hq
theorem Nt{A L:W→Bool}{al:Int}{b0:Nat}{t:AW}(h:TC A L al)(ht:GY al b0 t)(hb:b0≤20100)(hk:BL L (AZ al) t)(b:Bool):∀(w:W) (q:Nat),q < t.rows.length→AK (AZ al) w→w.length≤20000→splitAt A t b q w=splitAt L t b q w
 | [],_,_,_,_=>rfl
 | c :: w,q,hq,hw,hl=>by
  have hr:=dM hk hq
  have hc:=hw c (by simp)
  have he:=Uq h ht hb hr hc
  obtain⟨r',h2,_⟩:=hk.idx (i:=q) (List.getElem?_eq_getElem hq) hc
  have hg:t.rows.getD q []=t.rows[q]:=by rw [List.getD,List.getElem?_eq_getElem hq];rfl
  rw [←hg] at h2
  have hq2:=(List.getElem?_eq_some_iff.1 h2).1
  have hr2:=dM hk hq2
  have hww:AK (AZ al) w:=fun x hx=>hw x (by simp [hx])
  simp at hl
  have hA:A (t.rows.getD (CX L t (t.rows.getD q []++[c])) []++w)=L (t.rows.getD (CX L t (t.rows.getD q []++[c])) []++w):=
   h _ (SU (ht.onR _ hr2).1 hww) (by have:=(ht.onR _ hr2).2;simp only [List.length_append];omega)
  unfold splitAt
  rw [he,hA]
  split
  ·rfl
  ·exact Nt h ht hb hk b w _ hq2 hww (by omega)
end Go.Am
namespace Go.Am
open Go Go.Proofs
set_option maxHeartbeats 1000000
attribute [local irreducible] AS BT Lex Bc Au Spec
section
variable {P:Program}{TB:Bt}{Γ:Ctx}{d:Option Tmp}{ty:TypeId}{pos:String}{af:Array Edge}{g:Option (Nat×Bool)}{f:Env}{σ:Ab}{nx:Nat}
end
variable {TB:Bt}
theorem bm.short{al:Int}{t:AW}(h:bm al t):∀(i:Nat) w,t.rows[i]? = some w→w.length≤i:=by
 intro i
 induction i using Nat.strongRecOn with
 | ind i ih=>
  intro w hi
  rcases Nat.eq_zero_or_pos i with rfl|h0
  ·have:=h.r0.symm.trans hi
   injection this with this
   subst this;simp
  ·obtain⟨hne,j,hj,hjw⟩:=h.pre i w hi h0
   have:=ih j hj _ hjw
   rw [List.length_dropLast] at this
   omega
theorem bm.bd{al:Int}{t:AW}(h:bm al t):GY al 20000 t:=by
 refine⟨fun w hw=>⟨(h.rw w hw).2,?_⟩,fun x hx=>⟨(h.cw x hx).2,by have:=(h.cw x hx).1;omega⟩,h.rl,h.cl⟩
 obtain⟨i,hi,he⟩:=List.getElem_of_mem hw
 have:=h.short i w (by rw [List.getElem?_eq_getElem hi,he])
 have:=h.rl
 omega
end Go.Am
namespace Go.Am
open Go Go.Proofs
set_option maxHeartbeats 1000000
attribute [local irreducible] AS BT Lex Bc Au Spec
variable {TB:Bt}
end Go.Am
namespace Go.Am
open Go Go.Proofs
set_option linter.unusedVariables false
def EB(n:Nat)(p:W→Prop):Prop:=∃l:List W,l.length≤n∧∀w,p w→w∈l
theorem EB.or{a b:Nat}{p q:W→Prop}(h:EB a p)(h':EB b q):EB (a+b) (fun w=>p w∨q w):=by
 obtain⟨l,h1,h2⟩:=h
 obtain⟨l',h3,h4⟩:=h'
 exact⟨l++l',by simp;omega,fun w hw=>List.mem_append.2 (hw.imp (h2 w) (h4 w))⟩
theorem EB.sub{a b:Nat}{p q:W→Prop}(h:EB a p)(hs:∀w,q w→p w)(hb:a≤b):EB b q:=by
 obtain⟨l,h1,h2⟩:=h
 exact⟨l,by omega,fun w hw=>h2 w (hs w hw)⟩
theorem EB.none{n:Nat}{p:W→Prop}(h:∀w,¬p w):EB n p:=⟨[],by simp,fun w hw=>absurd hw (h w)⟩
theorem O4{α β:Type}(f:α→List β)(b:Nat):∀(l:List α),(∀x∈l,(f x).length≤b)→(l.flatMap f).length≤l.length*b
 | [],_=>by simp
 | x::l,h=>by
  have h1:=O4 f b l fun y hy=>h y (by simp [hy])
  have h2:=h x (by simp)
  rw [List.flatMap_cons,List.length_append,List.length_cons,Nat.succ_mul]
  omega
theorem EB.ex{α:Type}{n b:Nat}{p:W→Prop}{q:α→W→Prop}(l:List α)(hl:l.length≤n)(hq:∀x∈l,EB b (q x))(h:∀w,p w→∃x∈l,q x w):EB (n*b) p:=by
 classical
 have hf:∀x:α,∃k:List W,x∈l→k.length≤b∧∀w,q x w→w∈k:=fun x=>by
  by_cases hx:x∈l
  ·obtain⟨k,h1,h2⟩:=hq x hx;exact⟨k,fun _=>⟨h1,h2⟩⟩
  ·exact⟨[],fun h=>absurd h hx⟩
 have hg:=fun x=>Classical.choose_spec (hf x)
 refine⟨l.flatMap fun x=>Classical.choose (hf x),Nat.le_trans (O4 _ b l fun x hx=>(hg x hx).1) (Nat.mul_le_mul_right b hl),fun w hw=>?_⟩
 obtain⟨x,hx,hxw⟩:=h w hw
 exact List.mem_flatMap.2 ⟨x,hx,(hg x hx).2 w hxw⟩
theorem EB.map{α:Type}{n:Nat}{p:W→Prop}(f:α→W)(l:List α)(hl:l.length≤n)(h:∀w,p w→∃x∈l,w=f x):EB n p:=
 ⟨l.map f,by simpa using hl,fun w hw=>by obtain⟨x,hx,rfl⟩:=h w hw;exact List.mem_map.2 ⟨x,hx,rfl⟩⟩
theorem fo(al:Int):(AZ al).length≤6:=by
 unfold AZ
 rw [List.length_map]
 exact AV al 6
theorem Mi{al:Int}{b:Nat}{t:AW}(h:GY al b t):EB 1764 (MV (AZ al) t):=by
 have hrl:=h.rl
 have hcl:=h.cl
 refine EB.ex (n:=12) (b:=147) (q:=fun r v=>∃m:W,(m=[]∨∃l∈AZ al,m=[l])∧∃x:W,(x=[]∨x∈t.cols)∧v=r++m++x) t.rows hrl (fun r _=>?_) fun w hw=>hw
 refine EB.ex (n:=7) (b:=21) (q:=fun m v=>∃x:W,(x=[]∨x∈t.cols)∧v=r++m++x) ([]::(AZ al).map fun l=>[l]) (by have:=fo al;simp;omega) (fun m _=>?_) fun w hw=>?_
 ·exact EB.map (fun x=>r++m++x) ([]::t.cols) (by simp;omega) fun w ⟨x,hx,hw⟩=>⟨x,by simpa using hx,hw⟩
 ·obtain⟨m,hm,h3⟩:=hw
  refine⟨m,?_,h3⟩
  rcases hm with rfl|⟨l,hl,rfl⟩
  ·simp
  ·exact List.mem_cons_of_mem _ (List.mem_map.2 ⟨l,hl,rfl⟩)
theorem QR{L:W→Bool}{ls:List UInt8}:∀(n:Nat) (t:AW),(EI L ls n t).length≤n+1
 | 0,t=>by simp [EI]
 | n + 1,t=>by
  unfold EI
  cases A8 L ls t with
  | none=>simp
  | some w=>
   dsimp only
   split
   ·simp
   ·have:=QR (L:=L) (ls:=ls) n ⟨t.rows++[w],t.cols⟩
    simp;omega
theorem QN{L:W→Bool}{al:Int}{b:Nat}{t:AW}(h:GY al b t):EB 24696 (fun v=>∃y∈EI L (AZ al) 13 t,MV (AZ al) y v):=
 EB.ex (n:=14) (b:=1764) (q:=fun y v=>MV (AZ al) y v) (EI L (AZ al) 13 t) (QR 13 t) (fun y hy=>Mi (h.grow hy)) fun w hw=>hw
theorem ZD{al:Int}{b:Nat}{t:AW}(h:GY al b t){w:W}(hw:w.length≤20000):EB 260013 (XR t w):=by
 have hrl:=h.rl
 refine EB.ex (n:=13) (b:=20001) (q:=fun r v=>∃k:Nat,v=r++w.drop k) ([]::t.rows) (by simp;omega) (fun r _=>?_) fun v ⟨r,hr,hv⟩=>⟨r,by simpa using hr,hv⟩
 refine EB.map (fun k=>r++w.drop k) (List.range 20001) (by simp) fun v ⟨k,hv⟩=>?_
 by_cases hk:k < 20001
 ·exact⟨k,List.mem_range.2 hk,hv⟩
 ·exact⟨20000,by simp,by rw [hv,List.drop_of_length_le (by omega),List.drop_of_length_le (by omega)]⟩
theorem ZC{L:W→Bool}{al:Int}{t:AW}(h:GY al 20000 t){w:W}(hon:AK (AZ al) w)(hw:w.length≤20000):EB 286473 (XQ L (AZ al) t w):=by
 refine((Mi h).or ((ZD h hw).or (b:=24696) ?_)).sub (b:=286473) (fun v hv=>hv) (by omega)
 cases hs:CC L t w with
 | none=>exact .none fun v ⟨x,hx,_⟩=>by cases hx
 | some x=>
  cases ha:Fu t x with
  | none=>exact .none fun v ⟨x',hx,u,hu,_⟩=>by injection hx with hx;subst hx;rw [ha] at hu;cases hu
  | some u=>
   obtain⟨p,_,rfl⟩:=Iz hs
   exact(QN (L:=L) (Sb h (fun c hc=>hon c (by simp [hc])) (by simp at hw;omega) ha)).sub (fun v ⟨x',hx,u',hu,hv⟩=>by
    injection hx with hx;subst hx
    rw [ha] at hu;injection hu with hu;subst hu;exact hv) (Nat.le_refl _)
def okB(al:Int)(w:W):Prop:=AK (AZ al) w∧w.length≤50000
theorem Jb(al:Int):RZ (okB al) al:=fun w h1 h2=>⟨h1,h2⟩
theorem Zb{α:Type}:∀(l m:List α),l.Nodup→(∀x∈l,x∈m)→l.length≤m.length
 | [],_,_,_=>by simp
 | x :: l,m,hn,hs=>by
  obtain⟨a,b,rfl⟩:=List.append_of_mem (hs x (by simp))
  rw [List.nodup_cons] at hn
  have h:=Zb l (a++b) hn.2 fun y hy=>by
   have h1:=hs y (List.mem_cons_of_mem _ hy)
   simp only [List.mem_append,List.mem_cons] at h1 ⊢
   rcases h1 with h1|rfl|h1
   ·exact .inl h1
   ·exact absurd hy hn.1
   ·exact .inr h1
  simp at h ⊢;omega
theorem eZ{t:CD}{n:Nat}{p:W→Prop}{al:Int}(h:EB n p)(hn:n≤20000000)(hb:∀w,p w→okB al w):jF t p:=by
 obtain⟨k,hk,hm⟩:=h
 intro l hnd hl
 have hsub:l ⊆ Cq t::(k.filter fun w=>w.length≤50000).flatMap fun w=>(List.range 50001).map fun i=>GP t (Cq t) (w.take i):=fun F hF=>by
  rcases hl F hF with rfl|⟨u,v,ho,rfl⟩
  ·simp
  ·have h1:=(hb _ ho).2
   refine List.mem_cons_of_mem _ (List.mem_flatMap.2 ⟨u++v,List.mem_filter.2 ⟨hm _ ho,by simpa using h1⟩,List.mem_map.2 ⟨u.length,List.mem_range.2 (by simp at h1;omega),by simp⟩⟩)
 have h1:=Zb _ _ hnd hsub
 have h2:=O4 (fun w:W=>(List.range 50001).map fun i=>GP t (Cq t) (w.take i)) 50001 (k.filter fun w=>w.length≤50000) (fun x _=>by simp)
 have h3:(k.filter fun w=>w.length≤50000).length≤n:=Nat.le_trans (List.length_filter_le _ _) hk
 rw [List.length_cons] at h1
 have h4:(k.filter fun w=>decide (w.length≤50000)).length*50001≤20000000*50001:=Nat.mul_le_mul_right _ (by omega)
 omega
theorem kF{al:Int}{w:W}(h:okB al w):jK al w:=⟨h.1,Nat.le_trans h.2 (by omega)⟩
theorem gu{te:Ew}{n:Nat}{p:W→Prop}(h:EB n p)(hn:n≤20000000)(hb:∀w,p w→okB (AY te) w):(∀w,p w→jK (AY te) w)∧Tu te p:=by
 refine⟨fun w hw=>kF (hb w hw),?_⟩
 obtain⟨kn,a,s,q,al⟩:=te
 cases kn with
 | true=>intro h;cases h
 | false=>exact fun _=>eZ h hn hb
end Go.Am
namespace Go.Am
open Go Go.Proofs
set_option maxHeartbeats 1000000
attribute [local irreducible] AS BT Lex Bc Au Spec
variable {TB:Bt}
theorem T8{A:W→Bool}{ls:List UInt8}{m:Nat}{u:AW}{w:W}{R:Option AW}(he:R=Bf A ls (m+1) u)(ho:A8 A ls u=some w)(hl:u.rows.length < 12):R=Bf A ls m ⟨u.rows++[w],u.cols⟩:=by
 rw [he]
 conv=>lhs;unfold Bf
 rw [ho]
 dsimp only
 rw [if_neg (by omega)]
theorem IV{t:Ew}{al:Int}{A:W→Bool}(hT:J0 Tryz.prog TB 120 175 t al A)(tab:AW)(hz:VN tab) :
 Pure Tryz.prog TB 118 [EC t,DW tab] (IB (if AX A al tab then Bf A (AZ al) 13 tab else none)):=by
 have h1:=Fs hT tab hz
 by_cases hv:AX A al tab=true
 ·rw [if_pos hv]
  rw [hv] at h1
  have hsh:bm al tab:=(Ee hv).1
  have hr1:=hsh.r1
  have hc1:=hsh.c1
  have hrl:=hsh.rl
  have hcl:=hsh.cl
  refine eG Tryz.func118 rfl (by kernel_rfl) rfl ?_;intro Γ hΓ
  (repeat first|refine tA rfl ?_ |refine s2 rfl fun _ _hb=>?_ |refine sP rfl (h1) rfl ?_ |refine aU rfl ?_ |refine Aa ?_)
  ((refine aC rfl ?_ ?_<;>rintro⟨⟩);all_goals try (simp at _hb;done))
  refine aK ?_
  (repeat first|refine aU rfl ?_)
  refine R.NR [(0,2),(1,2),(2,2),(4,2),(5,2),(6,2),(9,3),(3,1),(7,1),(8,2),(10,5)] mixed (by kernel_rfl) rfl (by kernel_rfl) ?_
  (repeat ((refine R.Ai rfl ?_;first|(refine R.yQ (md:=false) rfl rfl rfl ?_ ?_;exact tI) |refine R.yP rfl rfl rfl rfl ?_|refine R.Bs (fun _ _ _=>Td (by rfl) (by rfl)) rfl rfl ?_ )))
  (refine R.Ai rfl ?_;refine R.NQ (fun _=>?_) rfl rfl;refine HL rfl rfl rfl (by intro r hr;simp at hr;obtain⟨_,_,rfl⟩:=hr;rfl) (by rfl) (Nat.le_of_ble_eq_true rfl) (by simp;omega) (fun h=>?_) (fun _=>?_))
  ·exfalso;simp at h;rw [h] at hr1;simp at hr1
  (refine R.Ai rfl ?_;refine R.NQ (fun _=>?_) rfl rfl;refine HL rfl rfl rfl (by intro r hr;simp at hr;obtain⟨_,_,rfl⟩:=hr;rfl) (by rfl) (Nat.le_of_ble_eq_true rfl) (by simp;omega) (fun h=>?_) (fun _=>?_))
  ·exfalso;simp at h;rw [h] at hc1;simp at hc1
  (repeat ((refine R.Ai rfl ?_;first|refine R.yA rfl rfl rfl rfl ?_|refine R.Bs (fun _ _ _=>AQ rfl rfl (by rfl) (by rfl)) rfl rfl ?_ )))
  refine R.NM ?_
  refine aS ?_
  refine Au.BR [2] [] rfl rfl [(4,.o (.ptr 0 2 0 0)),(6,.o (.ptr 3 2 0 0))] [(0,.cells 99 2 [[.d (.l []),.d (.l [])]]),(1,.cells 9 1 (tab.rows.map Ez)),(2,.cells 9 1 (tab.cols.map Ez)),(3,.cells 99 2 [[.arr 1 1 0 tab.rows.length,.arr 2 1 0 tab.cols.length]])] [0,1,2,3] (rl hΓ rfl) (by (simp[cX,zC,hΓ])) ?_;(try dsimp only[cA,cB])
  have hfo0:=Ki hT tab hz
  have htk:∀l:List W,((l.map Ez).drop 0).take l.length=(l.map Ed).map (fun r=>r.map C.d):=fun l=>by rw [List.drop_zero,List.take_of_length_le (by simp)];simp [Function.comp_def]
  have hev:∀u:AW,gY [(0,.cells 99 2 [[.d (.l []),.d (.l [])]]),(1,.cells 9 1 (u.rows.map Ez)),(2,.cells 9 1 (u.cols.map Ez)),(3,.cells 99 2 [[.arr 1 1 0 u.rows.length,.arr 2 1 0 u.cols.length]])] [EC t,.a [.arr 1 1 0 u.rows.length,.arr 2 1 0 u.cols.length]] [EC t,DW u]:=fun u=>
   .cons (.cons (.pure rfl) (.cons (.pure rfl) (.cons (.pure rfl) (.cons (.pure rfl) (.cons (.pure rfl) (.cons (.pure rfl) (.cons (.pure rfl) (.cons (.pure rfl) (.cons (.pure rfl) (.cons (.pure rfl) (.cons (.pure rfl) .nil))))))))))) (.cons (.cons (.arr rfl (by simp) (htk _)) (.cons (.arr rfl (by simp) (htk _)) .nil)) .nil)
  have hop:∀x:AW,Zv (A8 A (AZ al) x)=.t [(false,[.d (tD ((A8 A (AZ al) x).getD []))]),(false,[.d (bD (A8 A (AZ al) x).isSome)])]:=fun x=>by cases A8 A (AZ al) x<;>rfl
  rw [hop] at hfo0
  (repeat first|refine tA rfl ?_|(refine Ai rfl ?_;refine gA rfl ?_;first| refine gQ (Iu rfl rfl ((hev tab)) (hfo0) rfl) rfl ?_) |refine aU rfl ?_ |refine Aa ?_)
  obtain⟨R,hR⟩:∃R,R=Bf A (AZ al) 13 tab:=⟨_,rfl⟩
  rw [←hR]
  refine aB ?_
  refine aL (α:={p:Nat×AW // p.1≤13∧13≤p.1+p.2.rows.length∧p.2.rows.length≤12∧p.2.cols.length≤20∧(∀w∈p.2.rows,w.length≤50000+p.2.rows.length)∧(∀w∈p.2.cols,w.length≤4000)∧R=Bf A (AZ al) p.1 p.2}) [2,4,6] [0] rfl rfl (fun ⟨⟨m,u⟩,hm,hmu,hur,huc,hurb,hucb,he⟩=>[(7,eT ((A8 A (AZ al) u).getD [])),(8,eB (A8 A (AZ al) u).isSome)]) (fun ⟨⟨m,u⟩,hm,hmu,hur,huc,hurb,hucb,he⟩=>[(1,.cells 9 1 (u.rows.map Ez)),(2,.cells 9 1 (u.cols.map Ez)),(3,.cells 99 2 [[.arr 1 1 0 u.rows.length,.arr 2 1 0 u.cols.length]])]) 4 (fun ⟨⟨m,u⟩,hm,hmu,hur,huc,hurb,hucb,he⟩=>m) (⟨(13,tab),by simp,by simp,hrl,hcl,fun w hw=>by have:=(hsh.rw w hw).1;show w.length≤50000+tab.rows.length;omega,fun w hw=>(hsh.cw w hw).1,hR⟩) hΓ rfl (by (simp[cX,zC,hΓ])) ?_;rintro⟨⟨m,u⟩,hm,hmu,hur,huc,hurb,hucb,he⟩;(try dsimp only[cA,cB])
  dsimp only at hm hmu hur huc hurb hucb he
  have hz0:A8 A (AZ al) u=none∨∃w,A8 A (AZ al) u=some w:=by cases A8 A (AZ al) u<;>simp
  rcases hz0 with ho|⟨w,ho⟩
  ·rw [ho]
   have hn:R=some u:=by
    rw [he]
    obtain⟨m',rfl⟩:∃m',m=m'+1:=⟨m - 1,by omega⟩
    simp [Bf,ho]
   (repeat first|refine tA rfl ?_ |refine aU rfl ?_ |refine Aa ?_)
   ((refine aC rfl ?_ ?_<;>rintro⟨⟩);all_goals try (simp at _hb;done))
   refine aE ?_
   (repeat first|refine tA rfl ?_ |refine aU rfl ?_ |refine Aa ?_)
   refine Au.settle [(4,.o (.ip [Ch u.rows,Ch u.cols])),(5,eB true)] ⟨⟨_,rfl,.o (.box rfl (.cons (.full rfl (by simp [Function.comp_def]) (by simp)) (.cons (.full rfl (by simp [Function.comp_def]) (by simp)) .nil)))⟩,⟨_,rfl,.o .d⟩,trivial⟩ ?_
   refine aR ⟨_,rfl,?_⟩
   rw [hn];rfl
  ·rw [ho]
   obtain⟨m',rfl⟩:∃m',m=m'+1:=⟨m - 1,by omega⟩
   obtain⟨⟨r,hr,l,hl,hw⟩,_⟩:=Ir ho
   have hwl:w.length≤50000+(u.rows++[w]).length:=by
    have:=hurb r hr
    rw [hw];simp;omega
   (repeat first|refine tA rfl ?_ |refine aU rfl ?_ |refine Aa ?_)
   ((refine aC rfl ?_ ?_<;>rintro⟨⟩);all_goals try (simp at _hb;done))
   refine aK ?_
   refine aB ?_
   (repeat first|refine tA rfl ?_ |refine s2 rfl fun _ _hb=>?_ |refine aU rfl ?_ |refine Aa ?_)
   (refine aC rfl ?_ ?_<;>rintro⟨⟩)
   ·have h12:u.rows.length=12:=by (simp only[oZ] at *;omega)
    have hn:R=none:=by
     rw [he]
     simp [Bf,ho,h12]
    (repeat first|refine tA rfl ?_|(refine Ai rfl ?_;refine gA rfl ?_;first| refine gS (fun _ _=>AQ rfl rfl (by rfl) (by rfl)) ?_) |refine aU rfl ?_ |refine Aa ?_)
    refine Au.settle [(4,.o (.ip [.l [],.l []])),(5,eB false)] ⟨⟨_,rfl,.o (.box rfl (.cons .d (.cons .d .nil)))⟩,⟨_,rfl,.o .d⟩,trivial⟩ ?_
    refine aR ⟨_,rfl,?_⟩
    rw [hn];rfl
   ·have hlt:u.rows.length < 12:=by (simp only[oZ] at *;omega)
    have hst:=T8 he ho hlt
    have hzu:VN ⟨u.rows++[w],u.cols⟩:=⟨by simp;omega,by dsimp only;omega,fun x hx=>by
     rcases List.mem_append.1 hx with hx|hx
     ·have:=hurb x hx;omega
     ·simp at hx;subst hx;simp at hwl;omega,fun x hx=>by have:=hucb x hx;omega⟩
    have hfo:=Ki hT ⟨u.rows++[w],u.cols⟩ hzu
    rw [hop] at hfo
    refine aK ?_
    (repeat first|refine tA rfl ?_ |refine aU rfl ?_)
    (refine pW rfl ?_ rfl (by rfl);refine AH rfl rfl rfl (by first| (simp;done)|(simp;(omega))) rfl (by intro r hr;simp at hr;subst hr;rfl) (by rfl) (Nat.le_of_ble_eq_true rfl) (by simp;omega) ?_)
    (repeat first|refine tA rfl ?_)
    refine Aa ?_
    have hn1:∀x∈u.rows++[w],x.length≤50000+(u.rows++[w]).length:=fun x hx=>by
     rcases List.mem_append.1 hx with hx|hx
     ·have:=hurb x hx;simp;omega
     ·simp at hx;subst hx;exact hwl
    refine Au.BR [2,4,6] [] rfl rfl [] [(0,.cells 99 2 [[.d (.l []),.d (.l [])]]),(1,.cells 9 1 ((u.rows++[w]).map Ez)),(2,.cells 9 1 (u.cols.map Ez)),(3,.cells 99 2 [[.arr 1 1 0 (u.rows++[w]).length,.arr 2 1 0 u.cols.length]])] [0,4,2,3] (rl hΓ rfl) (by (simp[cX,zC,hΓ])) ?_;(try dsimp only[cA,cB])
    (repeat first|refine tA rfl ?_|(refine Ai rfl ?_;refine gA rfl ?_;first| refine gQ (Iu rfl rfl ((hev ⟨u.rows++[w],u.cols⟩)) (hfo) rfl) rfl ?_) |refine aU rfl ?_ |refine Aa ?_)
    refine⟨⟨⟨m',⟨u.rows++[w],u.cols⟩⟩,by dsimp only;omega,by simp;omega,by simp;omega,huc,hn1,hucb,hst⟩,by dsimp only;(omega),[0,1,2,3],?_⟩
    simp[cX,zC,hΓ]
 ·have hv:AX A al tab=false:=by simpa using hv
  rw [if_neg (by simp [hv])]
  rw [hv] at h1
  refine eG Tryz.func118 rfl (by kernel_rfl) rfl ?_;intro Γ hΓ
  (repeat first|refine tA rfl ?_ |refine s2 rfl fun _ _hb=>?_ |refine sP rfl (h1) rfl ?_ |refine aU rfl ?_ |refine Aa ?_)
  ((refine aC rfl ?_ ?_<;>rintro⟨⟩);all_goals try (simp at _hb;done))
  (repeat first|refine tA rfl ?_|(refine Ai rfl ?_;refine gA rfl ?_;first| refine gS (fun _ _=>AQ rfl rfl (by rfl) (by rfl)) ?_) |refine aU rfl ?_ |refine Aa ?_)
  refine Au.settle [(4,.o (.ip [.l [],.l []])),(5,eB false)] ⟨⟨_,rfl,.o (.box rfl (.cons .d (.cons .d .nil)))⟩,⟨_,rfl,.o .d⟩,trivial⟩ ?_
  refine aR ⟨_,rfl,rfl⟩
def MZ(o:Option AU):E:=match o with
 | some p=>.t [(true,[.d (iD p.al),.d (CR p.nx),.d (E4 p.ac)]),(false,[.d (bD true)])]
 | none=>.t [(true,[.d (iD 0),.d (.l []),.d (.l [])]),(false,[.d (bD false)])]
theorem Ho{t:Ew}{al:Int}{A:W→Bool}(hT:J0 Tryz.prog TB 120 175 t al A)(tab:AW)(hz:VN tab) :
 Pure Tryz.prog TB 69 [EC t,DW tab] (MZ (if Bu A al tab then some (AT A al tab) else none)):=by
 have h1:=PL hT tab hz
 by_cases hv:Bu A al tab=true
 ·rw [if_pos hv]
  rw [hv] at h1
  obtain⟨hv1,ho,hcl⟩:=Js hv
  have hsh:=(Ee hv1).1
  have hr1:=hsh.r1
  have hrl:=hsh.rl
  have hcl:=hsh.cl
  have h2:=hT.alph
  have h3:=DG (TB:=TB) al
  have h4:Pure Tryz.prog TB 122 [EC t,CP tab.cols,CP tab.rows] (CP (AF A tab)):=Kj hT tab.cols tab.rows hz.cl (fun w hw=>by have:=hz.rb w hw;omega) hz.cb hz.rl
  have hla:(Ac al).length≤6:=AV al 6
  have hml:(AF A tab).length=tab.rows.length:=by simp [AF]
  refine eG Tryz.func69 rfl (by kernel_rfl) rfl ?_;intro Γ hΓ
  (repeat first|refine tA rfl ?_ |refine s2 rfl fun _ _hb=>?_ |refine sP rfl (h1) rfl ?_ |refine aU rfl ?_ |refine Aa ?_)
  ((refine aC rfl ?_ ?_<;>rintro⟨⟩);all_goals try (simp at _hb;done))
  refine aK ?_
  (repeat first|refine tX rfl ?_ |refine sP rfl (h2) rfl ?_ |refine aU rfl ?_)
  (refine pW rfl ?_ rfl (by rfl);refine Mw 1 1 62 2 1 4 rfl rfl (by decide) rfl rfl (by rfl) (by rfl) ?_)
  (repeat first|refine tX rfl ?_ |refine sP rfl (h3) rfl ?_|refine sP rfl (h4) rfl ?_ |refine aU rfl ?_ |refine Aa ?_)
  refine aB ?_
  refine aL (α:={k:Nat // k≤tab.rows.length}) [2,3,4,6,7,8] [0] rfl rfl (fun ⟨k,hk⟩=>[(9,eI .i64 k)]) (fun ⟨k,hk⟩=>[(1,.cells 62 1 (((AT A al tab).nx.take k).map fun r=>[.d (FX r)])),(2,.cells 4 1 (((AT A al tab).ac.take k).map fun b=>[.d (bD b)])),(3,.cells 29 3 [[.d (iD al),.arr 1 1 0 k,.arr 2 1 0 k]])]) 4 (fun ⟨k,hk⟩=>tab.rows.length - k) (⟨0,by omega⟩) hΓ rfl (by (simp[cX,zC,hΓ])) ?_;rintro⟨k,hk⟩;(try dsimp only[cA,cB])
  have hnl:(AT A al tab).nx.length=tab.rows.length:=by simp [AT]
  have hac:(AT A al tab).ac.length=tab.rows.length:=by simp [AT]
  by_cases hlt:k < tab.rows.length
  ·obtain⟨r,hx⟩:=get_some hlt
   have hx':=get_map (g:=Ed) hx
   have hxm:=List.mem_of_getElem? hx
   have hrb:=hz.rb r hxm
   have hm:(AF A tab)[k]? = some (marks A tab.cols r):=by simp [AF,hx]
   have hm':=get_map (g:=Ed) hm
   have hm0:(marks A tab.cols r)[(0:Int).toNat]? = some (Rp (A r)):=by
    have:=hsh.c0
    simp [marks,this]
   (repeat first|refine sN rfl ?_ |refine tX rfl ?_ |refine s2 rfl fun _ _hb=>?_ |refine aU rfl ?_ |refine Aa ?_)
   refine Au.cond rfl (fun hb=>?_) (fun hb=>?_)<;>cases hb
   rotate_left
   ·exfalso;(simp only[oZ] at *;omega)
   refine aK ?_
   refine aS (aB ?_)
   (repeat first|refine aU rfl ?_)
   (refine pW rfl ?_ rfl (by rfl);refine BP rfl rfl rfl rfl (by simp) (by rfl) (by rfl) (by rfl) (by rfl) ?_)
   (repeat first|refine tX rfl ?_ |refine aU rfl ?_ |refine Aa ?_)
   refine aB ?_
   refine aL (α:={j:Nat // j≤(Ac al).length}) [2,3,4,6,7,8,9] [0,1,2,3] rfl rfl (fun ⟨j,hj⟩=>[(10,.o (.arr 4 1 0 j)),(11,eI .i64 j)]) (fun ⟨j,hj⟩=>[(4,.cells 3 1 (((Ac al).take j).map fun l=>[.d (iD ((CX A tab (r++[lb l]):Nat):Int))]))]) 5 (fun ⟨j,hj⟩=>(Ac al).length - j) (⟨0,by omega⟩) hΓ rfl (by (simp[cX,zC,hΓ])) ?_;rintro⟨j,hj⟩;(try dsimp only[cA,cB])
   by_cases hjlt:j < (Ac al).length
   ·obtain⟨l,hl⟩:=get_some hjlt
    have hl':=get_map (g:=Bm) hl
    have hlm:=List.mem_of_getElem? hl
    have hlb:=Ak hlm
    have htx:Pure Tryz.prog TB 125 [eI .i64 l] (eT [lb l]):=Mr l hlb.1 (by omega)
    have hrow:=Mq hT tab.cols (r++[lb l]) hz.cl (by simp;omega) hz.cb
    have hmm:marks A tab.cols (r++[lb l])∈AF A tab:=GM ho r hxm (lb l) (Oa hlm)
    have hix:Pure Tryz.prog TB 123 [CP (AF A tab),eT (marks A tab.cols (r++[lb l]))] (eI .i64 (CX A tab (r++[lb l]):Nat)):=Us (AF A tab) _ hmm (by omega)
    (repeat first|refine sN rfl ?_ |refine tX rfl ?_ |refine s2 rfl fun _ _hb=>?_ |refine aU rfl ?_ |refine Aa ?_)
    refine Au.cond rfl (fun hb=>?_) (fun hb=>?_)<;>cases hb
    rotate_left
    ·exfalso;(simp only[oZ] at *;omega)
    refine aK ?_
    refine aS (aB ?_)
    refine rG (IZ [19]) (by kernel_rfl) ?_
    (repeat first|(refine sA rfl ?_ ?_;first|exact tI|simp only[oZ] at *;omega) |(refine s4 rfl ‹_› rfl ?_ ?_;omega) |refine sP rfl (htx) rfl ?_|refine sP rfl (hrow) rfl ?_|refine sP rfl (hix) rfl ?_)
    (refine pW rfl ?_ rfl (by rfl);refine AH rfl rfl rfl (by first| (simp;done)|(simp;(omega))) rfl (by intro r hr;simp at hr;subst hr;rfl) (by rfl) (Nat.le_of_ble_eq_true rfl) (by simp;omega) ?_)
    (repeat first|(refine sA rfl ?_ ?_;first|exact tI|omega) |refine aU rfl ?_ |refine Aa ?_)
    refine⟨⟨j+1,by omega⟩,by dsimp only;(omega),[0,1,2,3,5],?_⟩
    (simp[cX,zC,hΓ,List.take_add_one,hl])
   ·obtain rfl:j=(Ac al).length:=by omega
    have hnx:(AT A al tab).nx.take (k+1)=(AT A al tab).nx.take k++[(Ac al).map fun l=>((CX A tab (r++[lb l]):Nat):Int)]:=by
     rw [List.take_add_one];simp [AT,hx]
    have hacs:(AT A al tab).ac.take (k+1)=(AT A al tab).ac.take k++[A r]:=by
     rw [List.take_add_one];simp [AT,hx]
    rw [List.take_length]
    (repeat first|refine sN rfl ?_ |refine tX rfl ?_ |refine s2 rfl fun _ _hb=>?_ |refine aU rfl ?_ |refine Aa ?_)
    refine Au.cond rfl (fun hb=>?_) (fun hb=>?_)<;>cases hb
    ·exfalso;(simp only[oZ] at *;omega)
    refine aE ?_
    refine Au.X8 [4] [2,3,4,6,7,8,9] rfl [(10,Ag ((Ac al).map fun l=>((CX A tab (r++[lb l]):Nat):Int)))] ⟨⟨_,rfl,.o (.full (by simp) rfl (by simp [Function.comp_def]) (by simp))⟩,trivial⟩ ?_;(try dsimp only[cA,cB])
    (repeat first|refine tA rfl ?_ |refine aU rfl ?_)
    (refine pW rfl ?_ rfl (by rfl);refine AH rfl rfl rfl (by first| (simp;done)|(simp;(omega))) rfl (by intro r hr;simp at hr;subst hr;rfl) (by rfl) (Nat.le_of_ble_eq_true rfl) (by simp;omega) ?_)
    (repeat first|refine tA rfl ?_ |refine Aa ?_)
    refine rG (IZ [9,11]) (by kernel_rfl) ?_
    (repeat first|refine tA rfl ?_ |(refine s4 rfl ‹_› rfl ?_ ?_;omega) |refine s2 rfl fun _ _hb=>?_)
    rename_i b
    have hbb:b=A r:=by
     cases hA:A r<;>cases b<;>simp [hA,Rp] at _hb<;>rfl
    subst hbb
    (refine pW rfl ?_ rfl (by rfl);refine AH rfl rfl rfl (by first| (simp;done)|(simp;(omega))) rfl (by intro r hr;simp at hr;subst hr;rfl) (by rfl) (Nat.le_of_ble_eq_true rfl) (by simp;omega) ?_)
    (repeat first|(refine sA rfl ?_ ?_;first|exact tI|omega) |refine aU rfl ?_ |refine Aa ?_)
    refine⟨⟨k+1,by omega⟩,by dsimp only;(omega),[0,5,6,3],?_⟩
    (simp[cX,zC,hΓ,hnx,hacs])
  ·obtain rfl:k=tab.rows.length:=by omega
   have ht1:(AT A al tab).nx.take tab.rows.length=(AT A al tab).nx:=List.take_of_length_le (by simp [AT])
   have ht2:(AT A al tab).ac.take tab.rows.length=(AT A al tab).ac:=List.take_of_length_le (by simp [AT])
   rw [ht1,ht2]
   (repeat first|refine sN rfl ?_ |refine tX rfl ?_ |refine s2 rfl fun _ _hb=>?_ |refine aU rfl ?_ |refine Aa ?_)
   refine Au.cond rfl (fun hb=>?_) (fun hb=>?_)<;>cases hb
   ·exfalso;(simp only[oZ] at *;omega)
   refine aE ?_
   (repeat first|refine tX rfl ?_ |refine aU rfl ?_ |refine Aa ?_)
   refine Au.settle [(4,.o (.ip [iD al,CR (AT A al tab).nx,E4 (AT A al tab).ac])),(5,eB true)] ⟨⟨_,rfl,.o (.box rfl (.cons .d (.cons (.full rfl (by simp [Function.comp_def]) (by simp [AT])) (.cons (.full rfl (by simp [Function.comp_def]) (by simp [AT])) .nil))))⟩,⟨_,rfl,.o .d⟩,trivial⟩ ?_
   refine aR ⟨_,rfl,rfl⟩
 ·have hv:Bu A al tab=false:=by simpa using hv
  rw [if_neg (by simp [hv])]
  rw [hv] at h1
  refine eG Tryz.func69 rfl (by kernel_rfl) rfl ?_;intro Γ hΓ
  (repeat first|refine tA rfl ?_ |refine s2 rfl fun _ _hb=>?_ |refine sP rfl (h1) rfl ?_ |refine aU rfl ?_ |refine Aa ?_)
  ((refine aC rfl ?_ ?_<;>rintro⟨⟩);all_goals try (simp at _hb;done))
  (repeat first|refine tA rfl ?_|(refine Ai rfl ?_;refine gA rfl ?_;first| refine gS (fun _ _=>AQ rfl rfl (by rfl) (by rfl)) ?_) |refine aU rfl ?_ |refine Aa ?_)
  refine Au.settle [(4,.o (.ip [iD 0,.l [],.l []])),(5,eB false)] ⟨⟨_,rfl,.o (.box rfl (.cons .d (.cons .d (.cons .d .nil))))⟩,⟨_,rfl,.o .d⟩,trivial⟩ ?_
  refine aR ⟨_,rfl,rfl⟩
theorem Dd(L:W→Bool)(al:Int)(t:AW):Bu L al t=(AX L al t && (A8 L (AZ al) t).isNone):=rfl
theorem GW{te:Ew}(hok:CG te=true):A4 (AY te)=true:=by
 obtain⟨kn,p,s,q,al⟩:=te
 cases kn with
 | true=>exact(AG hok).1
 | false=>
  have ht:A9 ⟨s,q,al⟩=true:=hok
  unfold A9 at ht;simp only [Bool.and_eq_true] at ht;exact ht.2.2
def Ou(A:W→Bool)(al:Int)(t:AW)(w:W):Option AW:=if AX A al t && Ge al w then Fu t w else none
theorem Qb{t:Ew}{al:Int}{A:W→Bool}(hT:J0 Tryz.prog TB 120 175 t al A)(tab:AW)(hz:VN tab)(w:W)(hw:w.length≤1048576) :
 Pure Tryz.prog TB 134 [EC t,DW tab,eT w] (IB (Ou A al tab w)):=by
 have h1:=Fs hT tab hz
 have h2:=OY hT w (by omega)
 have h3:=I8 (TB:=TB) tab.cols w (by have:=hz.cl;omega)
 by_cases hv:(AX A al tab && Ge al w)=true
 ·have ha:Ou A al tab w=Fu tab w:=by unfold Ou;rw [if_pos hv]
  rw [ha]
  rw [Bool.and_eq_true] at hv
  rw [hv.1] at h1
  rw [hv.2] at h2
  have hsh:bm al tab:=(Ee hv.1).1
  have hr1:=hsh.r1
  have hc1:=hsh.c1
  have hrl:=hsh.rl
  have hcl:=hsh.cl
  by_cases hn:tab.cols.length=20∨w∈tab.cols
  ·have hx:Fu tab w=none:=by unfold Fu;rw [if_pos hn]
   rw [hx]
   refine eG Tryz.func134 rfl (by kernel_rfl) rfl ?_;intro Γ hΓ
   (repeat' first|refine sN rfl ?_ |refine tA rfl ?_ |(refine s2 rfl fun _ _hb=>?_;try (simp only[Bool.not_true,Bool.not_false] at _hb;subst _hb)) |refine sP rfl (h1) rfl ?_|refine sP rfl (h2) rfl ?_|(refine sC rfl (h3) ?_;intro _ _hb)|(refine Ai rfl ?_;refine gA rfl ?_;first| refine gS (fun _ _=>AQ rfl rfl (by rfl) (by rfl)) ?_) |refine s3 rfl ?_ ?_<;>rintro rfl |refine aU rfl ?_ |refine Aa ?_ |refine rE (by kernel_rfl) ?_|(refine aC rfl ?_ ?_<;>rintro⟨⟩)|refine aK ?_|refine aE ?_|refine aB ?_|refine aR ⟨_,rfl,?_⟩)
   all_goals first
    | rfl
    | (exfalso;clear h1 h2 h3 hT;simp at *;grind;done)
    | skip
  ·have hx:Fu tab w=some ⟨tab.rows,tab.cols++[w]⟩:=by unfold Fu;rw [if_neg hn]
   rw [hx]
   have hm:decide (w∈tab.cols)=false:=decide_eq_false fun h=>hn (.inr h)
   have h20:tab.cols.length≠20:=fun h=>hn (.inl h)
   rw [hm] at h3
   refine eG Tryz.func134 rfl (by kernel_rfl) rfl ?_;intro Γ hΓ
   (repeat first|refine sN rfl ?_ |refine tA rfl ?_ |(refine s2 rfl fun _ _hb=>?_;try (simp only[Bool.not_true,Bool.not_false] at _hb;subst _hb)) |refine sP rfl (h1) rfl ?_|refine sP rfl (h2) rfl ?_|refine sP rfl (h3) rfl ?_ |refine aU rfl ?_ |refine Aa ?_)
   refine Au.cond rfl (fun hb=>?_) (fun hb=>?_)<;>cases hb
   ·exfalso;(simp only[oZ] at *;omega)
   refine aK ?_
   (repeat first|refine aU rfl ?_)
   refine rG (mL [0,1,2,4,5,6,8,9,3,7,10,11,12,13] [3,7,10,12] [0,1,2,4,5,6,8,9]) (by kernel_rfl) ?_
   (repeat first|refine tX rfl ?_|(refine Ai rfl ?_;refine gA rfl ?_;first| refine gS (fun _ _=>Td (by rfl) (by rfl)) ?_|refine gS (fun _ _=>Pl rfl rfl rfl rfl rfl (by rfl) (by rfl) (by rfl) (by rfl) (by rfl)) ?_))
   (refine pW rfl ?_ rfl (by rfl);refine HL rfl rfl rfl (by intro r hr;simp at hr;obtain⟨_,_,rfl⟩:=hr;rfl) (by rfl) (Nat.le_of_ble_eq_true rfl) (by simp;omega) (fun h=>?_) (fun _=>?_))
   ·exfalso;simp at h;rw [h] at hr1;simp at hr1
   (repeat first| (refine Ai rfl ?_;refine gA rfl ?_;first| refine gS (fun _ _=>Td (by rfl) (by rfl)) ?_|refine gS (fun _ _=>Pl rfl rfl rfl rfl rfl (by rfl) (by rfl) (by rfl) (by rfl) (by rfl)) ?_))
   (refine pW rfl ?_ rfl (by rfl);refine HL rfl rfl rfl (by intro r hr;simp at hr;obtain⟨_,_,rfl⟩:=hr;rfl) (by rfl) (Nat.le_of_ble_eq_true rfl) (by simp;omega) (fun h=>?_) (fun _=>?_))
   ·exfalso;simp at h;rw [h] at hc1;simp at hc1
   (refine pW rfl ?_ rfl (by rfl);refine AH rfl rfl rfl (by first| (simp;done)|(simp;(omega))) rfl (by intro r hr;simp at hr;subst hr;rfl) (by rfl) (Nat.le_of_ble_eq_true rfl) (by simp;omega) ?_)
   (repeat first|refine tA rfl ?_|(refine Ai rfl ?_;refine gA rfl ?_;first| refine gS (fun _ _=>AQ rfl rfl (by rfl) (by rfl)) ?_) |refine Aa ?_)
   refine Au.settle [(6,.o (.ip [Ch tab.rows,Ch (tab.cols++[w])])),(7,eB true)] ⟨⟨_,rfl,.o (.box rfl (.cons (.full rfl (by simp [Function.comp_def]) (by simp)) (.cons (.full rfl (by simp [Function.comp_def]) (by simp)) .nil)))⟩,⟨_,rfl,.o .d⟩,trivial⟩ ?_
   refine aR ⟨_,rfl,rfl⟩
 ·have ha:Ou A al tab w=none:=by unfold Ou;rw [if_neg hv]
  rw [ha]
  refine eG Tryz.func134 rfl (by kernel_rfl) rfl ?_;intro Γ hΓ
  (repeat' first|refine sN rfl ?_ |refine tA rfl ?_ |(refine s2 rfl fun _ _hb=>?_;try (simp only[Bool.not_true,Bool.not_false] at _hb;subst _hb)) |(refine sC rfl (h1) ?_;intro _ _hb)|(refine sC rfl (h2) ?_;intro _ _hb)|(refine sC rfl (h3) ?_;intro _ _hb)|(refine Ai rfl ?_;refine gA rfl ?_;first| refine gS (fun _ _=>AQ rfl rfl (by rfl) (by rfl)) ?_) |refine s3 rfl ?_ ?_<;>rintro rfl |refine aU rfl ?_ |refine Aa ?_ |refine rE (by kernel_rfl) ?_|(refine aC rfl ?_ ?_<;>rintro⟨⟩)|refine aK ?_|refine aE ?_|refine aB ?_|refine aR ⟨_,rfl,?_⟩)
  all_goals first
   | rfl
   | (exfalso;clear h1 h2 h3 hT;simp at *;grind;done)
   | skip
def Fi(A:W→Bool)(al:Int)(t:AW)(w:W):Option W:=if Bu A al t && Ge al w then CC A t w else none
theorem OX{al:Int}{w:W}(h:Ge al w=true):AK (AZ al) w∧w.length≤4000∧within w al=true:=by
 unfold Ge at h
 rw [Bool.and_eq_true,decide_eq_true_eq] at h
 exact⟨Eu h.1,h.2,h.1⟩
theorem bq{A:W→Bool}{al:Int}{t:AW}{w:W}(ha:A4 al=true)(hcl:BL A (AZ al) t)(hr:t.rows.length≤12)(hw:Ge al w=true):P9 (AT A al t) w=LZ A t w:=by
 obtain⟨h1,h2,h3⟩:=OX hw
 unfold P9
 rw [KI ha hcl hr,KC hcl h1]
 show (true && (within w al && _))=_
 rw [h3];rfl
theorem Vr{A:W→Bool}{t:AW}{w:W}{k q:Nat}{c:UInt8}{R:Option W}(hc:w[k]? = some c)(hR:R=splitAt A t (A w) q (w.drop k)) :
 (A (t.rows.getD (CX A t (t.rows.getD q []++[c])) []++w.drop (k+1))≠A w→R=some (w.drop (k+1)))∧(A (t.rows.getD (CX A t (t.rows.getD q []++[c])) []++w.drop (k+1))=A w→R=splitAt A t (A w) (CX A t (t.rows.getD q []++[c])) (w.drop (k+1))):=by
 have:=Lx (L:=A) (t:=t) (b:=A w) (q:=q) hc
 rw [this] at hR
 exact⟨fun h=>by rw [hR,if_pos h],fun h=>by rw [hR,if_neg (by simpa using h)]⟩
theorem Qx{t:Ew}{al:Int}{A:W→Bool}(hT:J0 Tryz.prog TB 120 175 t al A)(hal:0≤al→A4 al=true)(tab:AW)(hz:VN tab)(w:W)(hw:w.length≤1048576) :
 Pure Tryz.prog TB 133 [EC t,DW tab,eT w] (Zv (Fi A al tab w)):=by
 have h1:=Ho hT tab hz
 have h2:=OY hT w (by omega)
 have h4:=hT.ask w (by omega)
 by_cases hv:Bu A al tab=true
 ·rw [if_pos hv] at h1
  obtain⟨hv1,ho,hcl⟩:=Js hv
  have hsh:=(Ee hv1).1
  have ha:=hal hsh.pos
  have hau:=KI ha hcl hsh.rl
  have h3:=Ot (TB:=TB) (AT A al tab) w (by omega)
  by_cases hl:Ge al w=true
  ·rw [hl] at h2
   rw [bq ha hcl hsh.rl hl] at h3
   have hs:Fi A al tab w=CC A tab w:=by unfold Fi;rw [hv,hl];rfl
   rw [hs]
   by_cases hd:LZ A tab w=A w
   ·have hn:CC A tab w=none:=by unfold CC;rw [if_pos hd]
    rw [hn]
    rw [hd] at h3
    refine eG Tryz.func133 rfl (by kernel_rfl) rfl ?_;intro Γ hΓ
    (repeat' first|refine tA rfl ?_ |(refine s2 rfl fun _ _hb=>?_;try (simp only[Bool.not_true,Bool.not_false] at _hb;subst _hb)) |refine sP rfl (h1) rfl ?_|refine sP rfl (h2) rfl ?_|refine sP rfl (h3) rfl ?_|refine sP rfl (h4) rfl ?_ |refine aU rfl ?_ |refine Aa ?_ |refine rE (by kernel_rfl) ?_|(refine aC rfl ?_ ?_<;>rintro⟨⟩)|refine aK ?_|refine aE ?_|refine aB ?_|refine aR ⟨_,rfl,?_⟩)
    all_goals first
     | rfl
     | (exfalso;grind;done)
   ·obtain⟨R,hR⟩:∃R,R=CC A tab w:=⟨_,rfl⟩
    rw [←hR]
    have hR:R=splitAt A tab (A w) 0 (w.drop 0):=by rw [hR];unfold CC;rw [if_neg hd];rfl
    obtain⟨hon,hw4,_⟩:=OX hl
    have hrl:=hsh.rl
    have hr1:=hsh.r1
    refine eG Tryz.func133 rfl (by kernel_rfl) rfl ?_;intro Γ hΓ
    (repeat first|refine tA rfl ?_ |refine sP rfl (h1) rfl ?_|refine sP rfl (h2) rfl ?_|refine sP rfl (h3) rfl ?_|refine sP rfl (h4) rfl ?_ |refine aU rfl ?_ |refine Aa ?_)
    refine rG (IZ []) (by kernel_rfl) ?_
    (repeat first|refine tA rfl ?_ |(refine s2 rfl fun _ _hb=>?_;try (simp only[Bool.not_true,Bool.not_false] at _hb;subst _hb)) |refine sP rfl (h1) rfl ?_|refine sP rfl (h2) rfl ?_|refine sP rfl (h3) rfl ?_|refine sP rfl (h4) rfl ?_ |refine Aa ?_)
    refine Au.cond rfl (fun hb=>?_) (fun hb=>?_)<;>cases hb
    ·exfalso;exact hd (by simpa using _hb)
    refine aK ?_
    (repeat first|refine tA rfl ?_ |refine aU rfl ?_ |refine Aa ?_)
    have h0:0 < tab.rows.length:=hr1
    refine aB ?_
    refine aL (α:={k:Nat // k≤w.length∧R=splitAt A tab (A w) (runM A tab 0 (w.take k)) (w.drop k)∧A (tab.rows.getD (runM A tab 0 (w.take k)) []++w.drop k)=A w}) [2,3,4,8] [0] rfl rfl (fun ⟨k,hk,he,hA⟩=>[(10,eI .i64 (runM A tab 0 (w.take k):Nat)),(11,eI .i64 k)]) (fun ⟨k,hk,he,hA⟩=>[]) 1 (fun ⟨k,hk,he,hA⟩=>w.length - k) (⟨0,by omega,hR,by simp [hsh.r0,runM]⟩) hΓ rfl (by (simp[cX,zC,hΓ]<;>rfl)) ?_;rintro⟨k,hk,he,hA⟩;(try dsimp only[cA,cB])
    have hrn:=hcl.run (w.take k) 0 (JA hon k) h0
    by_cases hlt:k < w.length
    ·obtain⟨c,hc⟩:=get_some hlt
     have hc':w[((k:Nat):Int).toNat]? = some c:=by simpa using hc
     have hcm:=hon c (List.mem_of_getElem? hc)
     have hcn:=Ip hcm
     have hla:=Jv (TB:=TB) w k c hc'
     have hnl:(AT A al tab).nx.length=tab.rows.length:=by simp [AT]
     have hgo:=Jw (TB:=TB) (AT A al tab) hau (runM A tab 0 (w.take k)) (by omega) ((c.toNat:Int) - 97) hcn.1 hcn.2
     have hst:=MH (L:=A) (t:=tab) hc 0
     have hrn2:=hcl.run (w.take (k+1)) 0 (JA hon (k+1)) h0
     rw [KU (L:=A) (al:=al) (t:=tab) hrn hcm,←hst] at hgo
     have hsp:=Vr hc he
     rw [←hst] at hsp
     obtain⟨r1,hx1⟩:=get_some hrn
     have hx1':=get_map (g:=Ed) hx1
     obtain⟨r2,hx2⟩:=get_some hrn2
     have hx2':=get_map (g:=Ed) hx2
     have e1:tab.rows.getD (runM A tab 0 (w.take k)) []=r1:=by simp [hx1]
     have e2:tab.rows.getD (runM A tab 0 (w.take (k+1))) []=r2:=by simp [hx2]
     have hr1b:=hz.rb r1 (List.mem_of_getElem? hx1)
     have hr2b:=hz.rb r2 (List.mem_of_getElem? hx2)
     rw [e1] at hA
     rw [e2] at hsp
     have hq1:Pure Tryz.prog TB 175 [EC t,eT (r1++w.drop ((k:Nat):Int).toNat)] (eB (A w)):=by
      rw [Int.toNat_natCast,←hA]
      exact hT.ask _ (by simp;omega)
     have ek:(((k:Nat):Int)+1).toNat=k+1:=by omega
     have hq2:Pure Tryz.prog TB 175 [EC t,eT (r2++w.drop (((k:Nat):Int)+1).toNat)] (eB (A (r2++w.drop (k+1)))):=by
      rw [ek]
      exact hT.ask _ (by simp;omega)
     have hd1:(w.drop ((k:Nat):Int).toNat).length≤1048576:=by simp;omega
     have hd2:(w.drop (((k:Nat):Int)+1).toNat).length≤1048576:=by simp;omega
     (repeat first|refine tA rfl ?_ |refine s2 rfl fun _ _hb=>?_ |refine aU rfl ?_ |refine Aa ?_)
     refine Au.cond rfl (fun hb=>?_) (fun hb=>?_)<;>cases hb
     rotate_left
     ·exfalso;(simp only[oZ] at *;omega)
     (repeat' first|(refine sA rfl ?_ ?_;first|exact tI|omega) |(refine s4 rfl ‹_› rfl ?_ ?_;omega) |refine s2 rfl fun _ _hb=>?_ |refine sP rfl (hla) rfl ?_|refine sP rfl (hgo) rfl ?_|refine sP rfl (hq1) rfl ?_|refine sP rfl (hq2) rfl ?_|(refine Ai rfl ?_;refine gA rfl ?_;first| refine gS (fun _ _=>Tc rfl rfl (by omega) (by omega)) ?_) |refine aU rfl ?_ |refine Aa ?_ |refine rE (by kernel_rfl) ?_|(refine aC rfl ?_ ?_<;>rintro⟨⟩)|refine aK ?_|refine aE ?_|refine aB ?_|refine aR ⟨_,rfl,?_⟩)
     ·have hn:=hsp.1 (by intro h;rw [h] at _hb;simp at _hb)
      rw [hn]
      show E.t _=E.t _
      rw [ek]
     ·have hs2:=hsp.2 (by simpa using (by simpa using _hb:A w=A (r2++w.drop (k+1))).symm)
      have hA2:A (tab.rows.getD (runM A tab 0 (w.take (k+1))) []++w.drop (k+1))=A w:=by rw [e2];exact(by simpa using _hb:A w=A (r2++w.drop (k+1))).symm
      refine⟨⟨k+1,by omega,hs2,hA2⟩,by dsimp only;(omega),[0],?_⟩
      simp[cX,zC,hΓ]
    ·obtain rfl:k=w.length:=by omega
     rw [List.drop_length] at he
     have hn:R=none:=he
     rw [hn]
     (repeat first|refine tA rfl ?_ |refine s2 rfl fun _ _hb=>?_ |refine aU rfl ?_ |refine Aa ?_)
     refine Au.cond rfl (fun hb=>?_) (fun hb=>?_)<;>cases hb
     ·exfalso;(simp only[oZ] at *;omega)
     (repeat' first|refine tA rfl ?_ |refine aU rfl ?_ |refine Aa ?_|(refine aC rfl ?_ ?_<;>rintro⟨⟩)|refine aK ?_|refine aE ?_|refine aB ?_|refine aR ⟨_,rfl,?_⟩)
     rfl
  ·have hl:Ge al w=false:=by simpa using hl
   rw [hl] at h2
   have hs:Fi A al tab w=none:=by unfold Fi;rw [hl];simp
   rw [hs]
   refine eG Tryz.func133 rfl (by kernel_rfl) rfl ?_;intro Γ hΓ
   (repeat' first|refine tA rfl ?_ |(refine s2 rfl fun _ _hb=>?_;try (simp only[Bool.not_true,Bool.not_false] at _hb;subst _hb)) |refine sP rfl (h1) rfl ?_|refine sP rfl (h2) rfl ?_ |refine aU rfl ?_ |refine Aa ?_ |refine rE (by kernel_rfl) ?_|(refine aC rfl ?_ ?_<;>rintro⟨⟩)|refine aK ?_|refine aE ?_|refine aB ?_|refine aR ⟨_,rfl,?_⟩)
   all_goals first
    | rfl
    | (exfalso;grind;done)
 ·have hs:Fi A al tab w=none:=by unfold Fi;simp [hv]
  rw [if_neg hv] at h1
  rw [hs]
  refine eG Tryz.func133 rfl (by kernel_rfl) rfl ?_;intro Γ hΓ
  (repeat' first|refine tA rfl ?_ |(refine s2 rfl fun _ _hb=>?_;try (simp only[Bool.not_true,Bool.not_false] at _hb;subst _hb)) |refine sP rfl (h1) rfl ?_ |refine aU rfl ?_ |refine Aa ?_ |refine rE (by kernel_rfl) ?_|(refine aC rfl ?_ ?_<;>rintro⟨⟩)|refine aK ?_|refine aE ?_|refine aB ?_|refine aR ⟨_,rfl,?_⟩)
  all_goals first
   | rfl
   | (exfalso;grind;done)
noncomputable def Hr(te:Ew)(x:AW):Option AW:=if (CG te && AX (BV te) (AY te) x)=true then Bf (BV te) (AZ (AY te)) 13 x else none
noncomputable def SL(te:Ew):Option AW:=if CG te=true then Bf (BV te) (AZ (AY te)) 13 Bl else none
noncomputable def Sf(te:Ew)(x:AW):Option AU:=if (CG te && Bu (BV te) (AY te) x)=true then some (AT (BV te) (AY te) x) else none
section
variable {tabs:List (Nat×Obj)}[hTb:Df ⟨tabs,none⟩]{te:Ew}
include hTb
end
end Go.Am
