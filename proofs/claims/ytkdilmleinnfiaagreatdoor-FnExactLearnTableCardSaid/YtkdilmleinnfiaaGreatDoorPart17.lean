/-
  The reference's words.
-/
import Derived.Test.YtkdilmleinnfiaaGreatDoorPart14
import Derived.Test.YtkdilmleinnfiaaGreatDoorPart16
import Derived.Test.YtkdilmleinnfiaaGreatDoorPart12
set_option linter.constructorNameAsVariable false
set_option linter.unusedSectionVars false
set_option linter.unusedSimpArgs false
set_option linter.unusedVariables false
namespace Go.Am
open Go Go.Proofs
set_option maxHeartbeats 1000000
set_option maxRecDepth 4000
attribute [local irreducible] AV BX Lex Bf Av Spec
variable {TB:Be}
theorem Jf(w:W)(i:Nat)(c:UInt8)(hc:w[((i:Nat):Int).toNat]? = some c):Pure Tryz.prog TB 87 [eT w,eI .i64 i] (eI .i64 ((c.toNat:Int) - 97)):=by
 have hb:=c.toNat_lt
 refine eN Tryz.func87 rfl (by kernel_rfl) rfl ?_;intro Γ hΓ
 (repeat' first|(refine sA rfl ?_ ?_;first|exact tI|omega) |(refine s4 rfl ‹_› rfl ?_ ?_;omega) |refine aU rfl ?_ |refine Aa ?_|(refine aC rfl ?_ ?_<;>rintro⟨⟩)|refine aK ?_|refine aE ?_|refine aB ?_|refine aR ⟨_,rfl,?_⟩)
 rfl
theorem P4(n:Int)(h0:0≤n)(h1:n < 16):Pure Tryz.prog TB 231 [eI .i64 n] (eI .i64 ((2 ^ n.toNat:Nat):Int)):=by
 refine eN Tryz.func231 rfl (by kernel_rfl) rfl ?_;intro Γ hΓ
 (repeat' first|(refine sA rfl ?_ ?_;first|exact tI|omega)|(refine Ai rfl ?_;refine gA rfl ?_;first| refine gS (fun _ _=>Zx rfl rfl h0 (TV h0 h1)) ?_) |refine aU rfl ?_ |refine Aa ?_|(refine aC rfl ?_ ?_<;>rintro⟨⟩)|refine aK ?_|refine aE ?_|refine aB ?_|refine aR ⟨_,rfl,?_⟩)
 rfl
theorem G0{c:UInt8}:E6 c=decide (0≤(c.toNat:Int) - 97∧(c.toNat:Int) - 97 < 6):=by
 unfold E6
 rw [Bool.eq_iff_iff,decide_eq_true_eq,decide_eq_true_eq]
 omega
theorem Ph(w:W)(hl:w.length≤1099511627776):Pure Tryz.prog TB 253 [eT w] (eB (E4 w)):=by
 by_cases h5:w.length≤50000
 ·have hwk : E4 w=w.all E6:=by unfold E4;simp [h5]
  rw [hwk]
  refine eN Tryz.func253 rfl (by kernel_rfl) rfl ?_;intro Γ hΓ
  (repeat first|refine tA rfl ?_ |refine s2 rfl fun _ _hb=>?_ |refine aU rfl ?_ |refine Aa ?_)
  (refine aC rfl ?_ ?_<;>rintro⟨⟩)
  ·exfalso;(simp only[oZ] at *;omega)
  refine aK ?_
  (repeat first|refine tA rfl ?_ |refine aU rfl ?_ |refine Aa ?_)
  refine aB ?_
  refine aL (α:={k:Nat // k≤w.length∧(w.take k).all E6=true}) [0] [] rfl rfl (fun ⟨k,hk,ha⟩=>[(3,eI .i64 k)]) (fun ⟨k,hk,ha⟩=>[]) 0 (fun ⟨k,hk,ha⟩=>w.length - k) (⟨0,by omega,rfl⟩) hΓ rfl (by (simp[cX,zC,hΓ])) ?_;rintro⟨k,hk,ha⟩;(try dsimp only[cA,cB])
  by_cases hlt:k < w.length
  ·obtain⟨c,hc⟩:=get_some hlt
   have hc':w[((k:Nat):Int).toNat]? = some c:=by simpa using hc
   have hla:=Jf (TB:=TB) w k c hc'
   have hcn:=G0 (c:=c)
   by_cases hcc:E6 c=true
   ·have hst:=EM hc ha hcc
    rw [hcn] at hcc
    simp only [decide_eq_true_eq] at hcc
    (repeat first|refine tA rfl ?_ |refine s2 rfl fun _ _hb=>?_ |refine aU rfl ?_ |refine Aa ?_)
    (refine aC rfl ?_ ?_<;>rintro⟨⟩)
    ·(repeat' first|(refine sA rfl ?_ ?_;first|exact tI|omega) |refine s2 rfl fun _ _hb=>?_ |refine sP rfl (hla) rfl ?_ |refine s3 rfl ?_ ?_<;>rintro rfl |refine aU rfl ?_ |refine Aa ?_|(refine aC rfl ?_ ?_<;>rintro⟨⟩)|refine aK ?_|refine aE ?_|refine aB ?_|refine aR ⟨_,rfl,?_⟩)
     ·exfalso;(simp only[oZ] at *;omega)
     ·exfalso;(simp only[oZ] at *;omega)
     ·refine⟨⟨k+1,by omega,hst⟩,by dsimp only;(omega),[],?_⟩
      simp[cX,zC,hΓ]
    ·exfalso;(simp only[oZ] at *;omega)
   ·have hst:=Gg hc (f:=E6) (by simpa using hcc)
    rw [hcn] at hcc
    simp only [decide_eq_true_eq] at hcc
    (repeat first|refine tA rfl ?_ |refine s2 rfl fun _ _hb=>?_ |refine aU rfl ?_ |refine Aa ?_)
    (refine aC rfl ?_ ?_<;>rintro⟨⟩)
    ·(repeat' first|(refine sA rfl ?_ ?_;first|exact tI|omega) |refine s2 rfl fun _ _hb=>?_ |refine sP rfl (hla) rfl ?_ |refine s3 rfl ?_ ?_<;>rintro rfl |refine aU rfl ?_ |refine Aa ?_|(refine aC rfl ?_ ?_<;>rintro⟨⟩)|refine aK ?_|refine aE ?_|refine aB ?_|refine aR ⟨_,rfl,?_⟩)
     ·rw [hst]
     ·rw [hst]
     ·exfalso;(simp only[oZ] at *;omega)
    ·exfalso;(simp only[oZ] at *;omega)
  ·have hd:=EL ha (show w.length≤k by omega)
   (repeat first|refine tA rfl ?_ |refine s2 rfl fun _ _hb=>?_ |refine aU rfl ?_ |refine Aa ?_)
   (refine aC rfl ?_ ?_<;>rintro⟨⟩)
   ·exfalso;(simp only[oZ] at *;omega)
   ·(repeat' first|refine tA rfl ?_ |refine aU rfl ?_ |refine Aa ?_|(refine aC rfl ?_ ?_<;>rintro⟨⟩)|refine aK ?_|refine aE ?_|refine aB ?_|refine aR ⟨_,rfl,?_⟩)
    rw [hd]
 ·have hwk:E4 w=false:=by unfold E4;simp [h5]
  rw [hwk]
  refine eN Tryz.func253 rfl (by kernel_rfl) rfl ?_;intro Γ hΓ
  (repeat first|refine tA rfl ?_ |refine s2 rfl fun _ _hb=>?_ |refine aU rfl ?_ |refine Aa ?_)
  (refine aC rfl ?_ ?_<;>rintro⟨⟩)
  ·(repeat' first|refine tA rfl ?_ |refine aU rfl ?_ |refine Aa ?_|(refine aC rfl ?_ ?_<;>rintro⟨⟩)|refine aK ?_|refine aE ?_|refine aB ?_|refine aR ⟨_,rfl,?_⟩)
   rfl
  ·exfalso;(simp only[oZ] at *;omega)
abbrev fM(n:Int)(b:Bool):E:=.t [(false,[.d (iD n)]),(false,[.d (bD b)])]
theorem UZ{w:W}{k:Nat}{c:UInt8}(hc:w[k]? = some c):IM (w.take (k+1))=IM (w.take k) ||| 2 ^ (c.toNat - 97):=by
 unfold IM
 rw [List.take_add_one,hc];simp
theorem Nc(w:W)(hl:w.length≤1099511627776):Pure Tryz.prog TB 203 [eT w] (if E4 w then fM (IM w:Nat) true else fM 0 false):=by
 have hwv:=Ph (TB:=TB) w hl
 by_cases hok:E4 w=true
 ·have hok2:=hok
  unfold E4 at hok2
  simp only [Bool.and_eq_true,decide_eq_true_eq] at hok2
  rw [if_pos hok]
  refine eN Tryz.func203 rfl (by kernel_rfl) rfl ?_;intro Γ hΓ
  (repeat first|refine tA rfl ?_ |refine s2 rfl fun _ _hb=>?_ |(refine sC rfl (hwv) ?_;intro _ _hb) |refine aU rfl ?_ |refine Aa ?_)
  (refine aC rfl ?_ ?_<;>rintro⟨⟩)
  ·exfalso;simp at *;grind
  refine aK ?_
  (repeat first|refine tA rfl ?_ |refine aU rfl ?_ |refine Aa ?_)
  refine aB ?_
  refine aL (α:={k:Nat // k≤w.length}) [0] [] rfl rfl (fun ⟨k,hk⟩=>[(4,eI .i64 (IM (w.take k):Nat)),(5,eI .i64 k)]) (fun ⟨k,hk⟩=>[]) 0 (fun ⟨k,hk⟩=>w.length - k) (⟨0,by omega⟩) hΓ rfl (by (simp[cX,zC,hΓ]<;>rfl)) ?_;rintro⟨k,hk⟩;(try dsimp only[cA,cB])
  by_cases hlt:k < w.length
  ·obtain⟨c,hc⟩:=get_some hlt
   have hc':w[((k:Nat):Int).toNat]? = some c:=by simpa using hc
   have hla:=Jf (TB:=TB) w k c hc'
   have hcc:=(List.all_eq_true.1 hok2.2) c (List.mem_of_getElem? hc)
   rw [G0,decide_eq_true_eq] at hcc
   have hbt:=P4 (TB:=TB) ((c.toNat:Int) - 97) hcc.1 (by omega)
   have hst:=UZ hc
   have hs1:IM (w.take k) < 64:=O9 (by rw [List.all_eq_true];exact fun x hx=>(List.all_eq_true.1 hok2.2) x (List.mem_of_mem_take hx)) (by omega)
   have ht:((c.toNat:Int) - 97).toNat=c.toNat - 97:=by omega
   have h26:2 ^ (c.toNat - 97) < 2 ^ 6:=Nat.pow_lt_pow_right (by omega) (by omega)
   have hor:=(Yu hs1 h26).1
   rw [←hst] at hor
   rw [ht] at hbt
   (repeat first|refine tA rfl ?_ |refine s2 rfl fun _ _hb=>?_ |refine aU rfl ?_ |refine Aa ?_)
   (refine aC rfl ?_ ?_<;>rintro⟨⟩)
   ·(repeat' first|(refine sA rfl ?_ ?_;first|exact tI|omega) |refine sP rfl (hla) rfl ?_|refine sP rfl (hbt) rfl ?_ |refine aU rfl ?_ |refine Aa ?_|(refine aC rfl ?_ ?_<;>rintro⟨⟩)|refine aK ?_|refine aE ?_|refine aB ?_|refine aR ⟨_,rfl,?_⟩)
    rw [hor]
    refine⟨⟨k+1,by omega⟩,by dsimp only;(omega),[],?_⟩
    simp[cX,zC,hΓ]
   ·exfalso;(simp only[oZ] at *;omega)
  ·obtain rfl:k=w.length:=by omega
   rw [List.take_length]
   (repeat first|refine tA rfl ?_ |refine s2 rfl fun _ _hb=>?_ |refine aU rfl ?_ |refine Aa ?_)
   (refine aC rfl ?_ ?_<;>rintro⟨⟩)
   ·exfalso;(simp only[oZ] at *;omega)
   ·(repeat' first|refine tA rfl ?_ |refine aU rfl ?_ |refine Aa ?_|(refine aC rfl ?_ ?_<;>rintro⟨⟩)|refine aK ?_|refine aE ?_|refine aB ?_|refine aR ⟨_,rfl,?_⟩)
    rfl
 ·rw [if_neg hok]
  refine eN Tryz.func203 rfl (by kernel_rfl) rfl ?_;intro Γ hΓ
  (repeat first|refine tA rfl ?_ |refine s2 rfl fun _ _hb=>?_ |(refine sC rfl (hwv) ?_;intro _ _hb) |refine aU rfl ?_ |refine Aa ?_)
  (refine aC rfl ?_ ?_<;>rintro⟨⟩)
  ·(repeat' first|refine tA rfl ?_ |refine aU rfl ?_ |refine Aa ?_|(refine aC rfl ?_ ?_<;>rintro⟨⟩)|refine aK ?_|refine aE ?_|refine aB ?_|refine aR ⟨_,rfl,?_⟩)
   rfl
  ·exfalso;simp at *;grind
theorem C7(w:W)(al:Int)(hl:w.length≤1099511627776):Pure Tryz.prog TB 142 [eT w,eI .i64 al] (eB (within w al)):=by
 have h1:=Nc (TB:=TB) w hl
 have h2:=D0 (TB:=TB) al
 by_cases hok:E4 w=true
 ·rw [if_pos hok] at h1
  unfold E4 at hok
  simp only [Bool.and_eq_true,decide_eq_true_eq] at hok
  have hw:within w al=(Bb al && w.all (Iz al)):=by unfold within;simp [hok.1]
  rw [hw]
  refine eN Tryz.func142 rfl (by kernel_rfl) rfl ?_;intro Γ hΓ
  (repeat' first|refine tA rfl ?_ |refine s2 rfl fun _ _hb=>?_ |refine sP rfl (h1) rfl ?_|(refine sC rfl (h2) ?_;intro _ _hb) |refine s3 rfl ?_ ?_<;>rintro rfl |refine aU rfl ?_ |refine Aa ?_|(refine aC rfl ?_ ?_<;>rintro⟨⟩)|refine aK ?_|refine aE ?_|refine aB ?_|refine aR ⟨_,rfl,?_⟩)
  all_goals first
   | (show E.o _=E.o _;congr;grind)
   | (rename_i ha b;rw [Zb hok.2 ha] at _hb;show E.o _=E.o _;rw [ha,_hb];rfl)
 ·rw [if_neg hok] at h1
  have hw:within w al=false:=by
   rw [Bool.eq_false_iff]
   intro h
   unfold within at h
   simp only [Bool.and_eq_true,decide_eq_true_eq] at h
   exact hok (by unfold E4;simp [h.1,SC h.2.2])
  rw [hw]
  refine eN Tryz.func142 rfl (by kernel_rfl) rfl ?_;intro Γ hΓ
  (repeat' first|refine tA rfl ?_ |refine sP rfl (h1) rfl ?_|(refine sC rfl (h2) ?_;intro _ _hb) |refine aU rfl ?_ |refine Aa ?_|(refine aC rfl ?_ ?_<;>rintro⟨⟩)|refine aK ?_|refine aE ?_|refine aB ?_|refine aR ⟨_,rfl,?_⟩)
  all_goals rfl
theorem Dj{w:W}{al:Int}(h:within w al=true):AB (AO al) w:=by
 unfold within at h
 simp only [Bool.and_eq_true,decide_eq_true_eq] at h
 intro c hc
 have h1:=(List.all_eq_true.1 h.2.2) c hc
 unfold Iz E6 at h1
 simp only [Bool.and_eq_true,decide_eq_true_eq] at h1
 refine List.mem_map.2 ⟨((c.toNat - 97:Nat):Int),Fs.2 ⟨by omega,h1.2⟩,?_⟩
 unfold lb
 have e:97+((c.toNat - 97:Nat):Int).toNat=c.toNat:=by omega
 rw [e]
 simp
theorem DS{w:W}{al:Int}(h:AB (AO al) w)(hl:w.length≤50000)(ha:Bb al=true):within w al=true:=by
 unfold within
 simp only [Bool.and_eq_true,decide_eq_true_eq]
 refine⟨hl,ha,List.all_eq_true.2 fun c hc=>?_⟩
 obtain⟨l,hm,rfl⟩:=List.mem_map.1 (h c hc)
 have h1:=AS hm
 have h2:=OM h1.1 (by omega)
 unfold Iz E6
 simp only [Bool.and_eq_true,decide_eq_true_eq]
 have e:(lb l).toNat - 97=l.toNat:=by omega
 rw [e]
 exact⟨by omega,h1.2.2⟩
theorem Wx{p:Bn}(hp:AK p=true)(w:W)(hw:AB (AO p.al) w)(hl:w.length≤1099511627776):Pure Tryz.prog TB 213 [Da p,eI .i64 0,eT w] (eI .i64 (Cz p 0 w)):=by
 have hph:=Aj hp
 refine eN Tryz.func213 rfl (by kernel_rfl) rfl ?_;intro Γ hΓ
 (repeat first|refine tA rfl ?_ |refine aU rfl ?_ |refine Aa ?_)
 refine aB ?_
 refine aL (α:={k:Nat // k≤w.length}) [2,3] [] rfl rfl (fun ⟨k,hk⟩=>[(1,eI .i64 (Cz p 0 (w.take k))),(7,eI .i64 k)]) (fun ⟨k,hk⟩=>[]) 0 (fun ⟨k,hk⟩=>w.length - k) (⟨0,by omega⟩) hΓ rfl (by (simp[cX,zC,hΓ]<;>rfl)) ?_;rintro⟨k,hk⟩;(try dsimp only[cA,cB])
 have hr:=EA hp (w.take k) 0 (Gx hw k) (by omega)
 by_cases hlt:k < w.length
 ·obtain⟨c,hc⟩:=get_some hlt
  have hc':w[((k:Nat):Int).toNat]? = some c:=by simpa using hc
  have hcl:=Fc (hw c (List.mem_of_getElem? hc))
  have hla:=Jf (TB:=TB) w k c hc'
  have hgo:=HF (TB:=TB) p hp (Cz p 0 (w.take k)).toNat (by omega) ((c.toNat:Int) - 97) hcl.1 hcl.2
  have e:(((Cz p 0 (w.take k)).toNat:Nat):Int)=Cz p 0 (w.take k):=by omega
  rw [e] at hgo
  have hst:=Oh (p:=p) hc 0
  rw [←hst] at hgo
  (repeat first|refine tA rfl ?_ |refine s2 rfl fun _ _hb=>?_ |refine aU rfl ?_ |refine Aa ?_)
  (refine aC rfl ?_ ?_<;>rintro⟨⟩)
  ·(repeat' first|(refine sA rfl ?_ ?_;first|exact tI|omega) |refine sP rfl (hla) rfl ?_|refine sP rfl (hgo) rfl ?_ |refine aU rfl ?_ |refine Aa ?_ |refine rE (by kernel_rfl) ?_|(refine aC rfl ?_ ?_<;>rintro⟨⟩)|refine aK ?_|refine aE ?_|refine aB ?_|refine aR ⟨_,rfl,?_⟩)
   refine⟨⟨k+1,by omega⟩,by dsimp only;(omega),[],?_⟩
   simp[cX,zC,hΓ]
  ·exfalso;(simp only[oZ] at *;omega)
 ·obtain rfl:k=w.length:=by omega
  rw [List.take_length]
  (repeat first|refine tA rfl ?_ |refine s2 rfl fun _ _hb=>?_ |refine aU rfl ?_ |refine Aa ?_)
  (refine aC rfl ?_ ?_<;>rintro⟨⟩)
  ·exfalso;(simp only[oZ] at *;omega)
  ·(repeat' first|refine tA rfl ?_ |refine aU rfl ?_ |refine Aa ?_|(refine aC rfl ?_ ?_<;>rintro⟨⟩)|refine aK ?_|refine aE ?_|refine aB ?_|refine aR ⟨_,rfl,?_⟩)
   rfl
def EB(p:Bn)(w:W):Int:=if AK p && within w p.al then Cz p 0 w else -1
def GL(p:Bn)(w:W):Bool:=AK p && (within w p.al && LA p w)
theorem Nu(p:Bn)(w:W)(hl:w.length≤1099511627776):Pure Tryz.prog TB 154 [Da p,eT w] (eI .i64 (EB p w)):=by
 have h1:=Bs (TB:=TB) p
 have h2:=C7 (TB:=TB) w p.al hl
 by_cases hv:(AK p && within w p.al)=true
 ·have hs:EB p w=Cz p 0 w:=by unfold EB;rw [if_pos hv]
  rw [hs]
  rw [Bool.and_eq_true] at hv
  have h3:=Wx (TB:=TB) hv.1 w (Dj hv.2) hl
  refine eN Tryz.func154 rfl (by kernel_rfl) rfl ?_;intro Γ hΓ
  (repeat' first|refine tA rfl ?_ |refine s2 rfl fun _ _hb=>?_ |(refine sC rfl (h1) ?_;intro _ _hb)|(refine sC rfl (h2) ?_;intro _ _hb)|refine sP rfl (h3) rfl ?_ |refine s3 rfl ?_ ?_<;>rintro rfl |refine aU rfl ?_ |refine Aa ?_|(refine aC rfl ?_ ?_<;>rintro⟨⟩)|refine aK ?_|refine aE ?_|refine aB ?_|refine aR ⟨_,rfl,?_⟩)
  all_goals first
   | rfl
   | (exfalso;grind;done)
 ·have hs:EB p w = -1:=by unfold EB;rw [if_neg hv]
  rw [hs]
  refine eN Tryz.func154 rfl (by kernel_rfl) rfl ?_;intro Γ hΓ
  (repeat' first|refine tA rfl ?_ |refine s2 rfl fun _ _hb=>?_ |(refine sC rfl (h1) ?_;intro _ _hb)|(refine sC rfl (h2) ?_;intro _ _hb) |refine s3 rfl ?_ ?_<;>rintro rfl |refine aU rfl ?_ |refine Aa ?_|(refine aC rfl ?_ ?_<;>rintro⟨⟩)|refine aK ?_|refine aE ?_|refine aB ?_|refine aR ⟨_,rfl,?_⟩)
  all_goals first
   | rfl
   | (exfalso;grind;done)
theorem GW(p:Bn)(w:W)(hl:w.length≤1099511627776):Pure Tryz.prog TB 84 [Da p,eT w] (eB (GL p w)):=by
 have h1:=Nu (TB:=TB) p w hl
 by_cases hv:(AK p && within w p.al)=true
 ·have hs:EB p w=Cz p 0 w:=by unfold EB;rw [if_pos hv]
  rw [hs] at h1
  rw [Bool.and_eq_true] at hv
  have hph:=Aj hv.1
  have hr:=EA hv.1 w 0 (Dj hv.2) (by omega)
  obtain⟨b,hb⟩:=get_some (l:=p.ac) (k:=(Cz p 0 w).toNat) (by omega)
  have hb':(p.ac.map Gh)[(Cz p 0 w).toNat]? = some (Gh b):=by simp [hb]
  have ha:GL p w=b:=by unfold GL LA;simp [hv.1,hv.2,List.getD,hb]
  rw [ha]
  refine eN Tryz.func84 rfl (by kernel_rfl) rfl ?_;intro Γ hΓ
  (repeat' first|refine tA rfl ?_ |(refine s4 rfl ‹_› rfl ?_ ?_;omega) |refine s2 rfl fun _ _hb=>?_ |refine sP rfl (h1) rfl ?_ |refine s3 rfl ?_ ?_<;>rintro rfl |refine aU rfl ?_ |refine Aa ?_|(refine aC rfl ?_ ?_<;>rintro⟨⟩)|refine aK ?_|refine aE ?_|refine aB ?_|refine aR ⟨_,rfl,?_⟩)
  all_goals first
   | rfl
   | (exfalso;(simp only[oZ] at *;omega))
 ·have hs:EB p w = -1:=by unfold EB;rw [if_neg hv]
  rw [hs] at h1
  have ha:GL p w=false:=by unfold GL;grind
  rw [ha]
  refine eN Tryz.func84 rfl (by kernel_rfl) rfl ?_;intro Γ hΓ
  (repeat' first|refine tA rfl ?_ |refine s2 rfl fun _ _hb=>?_ |refine sP rfl (h1) rfl ?_ |refine s3 rfl ?_ ?_<;>rintro rfl |refine aU rfl ?_ |refine Aa ?_|(refine aC rfl ?_ ?_<;>rintro⟨⟩)|refine aK ?_|refine aE ?_|refine aB ?_|refine aR ⟨_,rfl,?_⟩)
  all_goals first
   | rfl
   | (exfalso;(simp only[oZ] at *;omega))
theorem P8(a b:Bn):Pure Tryz.prog TB 241 [Da a,Da b] (eB (Eu a b)):=by
 refine eN Tryz.func241 rfl (by kernel_rfl) rfl ?_;intro Γ hΓ
 (repeat' first|refine tA rfl ?_ |refine s2 rfl fun _ _hb=>?_ |(refine sC rfl (Bs a) ?_;intro _ _hb)|(refine sC rfl (Bs b) ?_;intro _ _hb) |refine s3 rfl ?_ ?_<;>rintro rfl |refine aU rfl ?_ |refine Aa ?_|(refine aC rfl ?_ ?_<;>rintro⟨⟩)|refine aK ?_|refine aE ?_|refine aB ?_|refine aR ⟨_,rfl,?_⟩)
 all_goals (show E.o _=E.o _;congr;unfold Eu;grind)
theorem Vn(a b:Bn):Pure Tryz.prog TB 192 [Da a,Da b] (PI (JY a b)):=by
 by_cases hv:Eu a b=true
 ·have hv2:=hv
  unfold Eu at hv2
  simp only [Bool.and_eq_true,decide_eq_true_eq] at hv2
  obtain⟨⟨ha,hb⟩,_⟩:=hv2
  obtain⟨hn,hk,hs⟩:=Tt (kd:=1) ha hb
  have hf:=RI (TB:=TB) hn hk hs (GY _)
  rw [XY] at hf
  have hd:JY a b=GX (Fw (Ds a b 1)):=by unfold JY;rw [if_pos hv]
  rw [hd]
  have hf':Pure Tryz.prog TB 236 [.a [.d (.l []),.d (Rq [a,b]),.d (Eg [0,0]),.d (iD a.al),.d (iD 1),.d (iD 0)]] (PI (GX (Fw (Ds a b 1)))):=hf
  refine eN Tryz.func192 rfl (by kernel_rfl) rfl ?_;intro Γ hΓ
  (repeat' first|refine tA rfl ?_ |refine s2 rfl fun _ _hb=>?_ |(refine sC rfl (P8 a b) ?_;intro _ _hb)|refine sP rfl (hf') rfl ?_|(refine Ai rfl ?_;refine gA rfl ?_;first| refine gS (fun _ _=>AJ rfl rfl (by rfl) (by rfl)) ?_) |refine aU rfl ?_ |refine Aa ?_|(refine aC rfl ?_ ?_<;>rintro⟨⟩)|refine aK ?_|refine aE ?_|refine aB ?_|refine aR ⟨_,rfl,?_⟩)
  all_goals first
   | rfl
   | (exfalso;grind;done)
 ·have hd:JY a b=none:=by unfold JY;rw [if_neg hv]
  rw [hd]
  refine eN Tryz.func192 rfl (by kernel_rfl) rfl ?_;intro Γ hΓ
  (repeat' first|refine tA rfl ?_ |refine s2 rfl fun _ _hb=>?_ |(refine sC rfl (P8 a b) ?_;intro _ _hb) |refine aU rfl ?_ |refine Aa ?_|(refine aC rfl ?_ ?_<;>rintro⟨⟩)|refine aK ?_|refine aE ?_|refine aB ?_|refine aR ⟨_,rfl,?_⟩)
  all_goals first
   | rfl
   | (exfalso;grind;done)
structure CL where
 kn:Bool
 p:Bn
 s:Sys
 q:Bn
 al:Int
abbrev Cj(t:CL):E:=dI t.kn t.p t.s t.q t.al
theorem K1(t:CL)(hk:t.kn=true):Pure Tryz.prog TB 93 [Cj t] (eI .i64 (if AK t.p then t.p.al else -1)):=by
 obtain⟨kn,p,s,q,al⟩:=t
 dsimp only at hk
 subst hk
 refine eN Tryz.func93 rfl (by kernel_rfl) rfl ?_;intro Γ hΓ
 (repeat' first|refine tA rfl ?_ |refine s2 rfl fun _ _hb=>?_ |(refine sC rfl (Bs p) ?_;intro _ _hb) |refine s3 rfl ?_ ?_<;>rintro rfl |refine aU rfl ?_ |refine Aa ?_|(refine aC rfl ?_ ?_<;>rintro⟨⟩)|refine aK ?_|refine aE ?_|refine aB ?_|refine aR ⟨_,rfl,?_⟩)
 all_goals first
  | (show E.o _=E.o _;congr;grind)
  | (exfalso;simp at *;done)
theorem Lu(t:CL)(hk:t.kn=true)(w:W)(hl:w.length≤1099511627776):Pure Tryz.prog TB 85 [Cj t,eT w] (eB (GL t.p w)):=by
 obtain⟨kn,p,s,q,al⟩:=t
 dsimp only at hk
 subst hk
 have h1:=GW (TB:=TB) p w hl
 refine eN Tryz.func85 rfl (by kernel_rfl) rfl ?_;intro Γ hΓ
 (repeat' first|refine tA rfl ?_ |refine sP rfl (h1) rfl ?_ |refine aU rfl ?_ |refine Aa ?_|(refine aC rfl ?_ ?_<;>rintro⟨⟩)|refine aK ?_|refine aE ?_|refine aB ?_|refine aR ⟨_,rfl,?_⟩)
 all_goals rfl
structure Ih (P:Program) (TB:Be) (gA gQ:FuncId) (t:CL) (al:Int) (A:W→Bool):Prop where
 alph:Pure P TB gA [Cj t] (eI .i64 al)
 ask:∀w:W,w.length≤1099511627776→Pure P TB gQ [Cj t,eT w] (eB (A w))
theorem eJ{t:CL}(hk:t.kn=true):Ih Tryz.prog TB 93 85 t (if AK t.p then t.p.al else -1) (GL t.p):=⟨K1 t hk,Lu t hk⟩
structure Na (t:AN):Prop where
 rl:t.rows.length≤4194304
 cl:t.cols.length≤4194304
 rb:∀w∈t.rows,w.length≤4194304
 cb:∀w∈t.cols,w.length≤4194304
theorem Hj(l:List W)(s:W)(hl:l.length≤1099511627776):Pure Tryz.prog TB 72 [Bl l,eT s] (eB (decide (s∈l))):=by
 refine eN Tryz.func72 rfl (by kernel_rfl) rfl ?_;intro Γ hΓ
 (repeat first|refine tA rfl ?_ |refine aU rfl ?_ |refine Aa ?_)
 refine aB ?_
 refine aL (α:={k:Nat // k≤l.length∧s∉l.take k}) [0,1] [] rfl rfl (fun ⟨k,hk,hn⟩=>[(5,eI .i64 k)]) (fun ⟨k,hk,hn⟩=>[]) 0 (fun ⟨k,hk,hn⟩=>l.length - k) (⟨0,by omega,by simp⟩) hΓ rfl (by (simp[cX,zC,hΓ])) ?_;rintro⟨k,hk,hn⟩;(try dsimp only[cA,cB])
 by_cases hlt:k < l.length
 ·obtain⟨x,hx⟩:=get_some hlt
  have hx':=get_map (g:=BD) hx
  by_cases hs:x=s
  ·have hm:s∈l:=hs ▸ List.mem_of_getElem? hx
   (repeat first|refine sN rfl ?_ |refine tA rfl ?_ |refine s2 rfl fun _ _hb=>?_ |refine aU rfl ?_ |refine Aa ?_)
   (refine aC rfl ?_ ?_<;>rintro⟨⟩)
   ·(repeat' first|(refine sA rfl ?_ ?_;first|exact tI|omega) |(refine s4 rfl ‹_› rfl ?_ ?_;omega) |refine s2 rfl fun _ _hb=>?_ |refine aU rfl ?_ |refine Aa ?_|(refine aC rfl ?_ ?_<;>rintro⟨⟩)|refine aK ?_|refine aE ?_|refine aB ?_|refine aR ⟨_,rfl,?_⟩)
    ·simp [hm]
    ·exfalso;simp [hs] at _hb
   ·exfalso;(simp only[oZ] at *;omega)
  ·have hn2:s∉l.take (k+1):=by
    rw [List.take_add_one,hx]
    intro h
    rcases List.mem_append.1 h with h|h
    ·exact hn h
    ·simp at h;exact hs h.symm
   (repeat first|refine sN rfl ?_ |refine tA rfl ?_ |refine s2 rfl fun _ _hb=>?_ |refine aU rfl ?_ |refine Aa ?_)
   (refine aC rfl ?_ ?_<;>rintro⟨⟩)
   ·(repeat' first|(refine sA rfl ?_ ?_;first|exact tI|omega) |(refine s4 rfl ‹_› rfl ?_ ?_;omega) |refine s2 rfl fun _ _hb=>?_ |refine aU rfl ?_ |refine Aa ?_|(refine aC rfl ?_ ?_<;>rintro⟨⟩)|refine aK ?_|refine aE ?_|refine aB ?_|refine aR ⟨_,rfl,?_⟩)
    ·exfalso;simp [hs] at _hb
    ·refine⟨⟨k+1,by omega,hn2⟩,by dsimp only;(omega),[],?_⟩
     simp[cX,zC,hΓ]
   ·exfalso;(simp only[oZ] at *;omega)
 ·rw [List.take_of_length_le (by omega)] at hn
  (repeat first|refine sN rfl ?_ |refine tA rfl ?_ |refine s2 rfl fun _ _hb=>?_ |refine aU rfl ?_ |refine Aa ?_)
  (refine aC rfl ?_ ?_<;>rintro⟨⟩)
  ·exfalso;(simp only[oZ] at *;omega)
  ·(repeat' first|refine tA rfl ?_ |refine aU rfl ?_ |refine Aa ?_|(refine aC rfl ?_ ?_<;>rintro⟨⟩)|refine aK ?_|refine aE ?_|refine aB ?_|refine aR ⟨_,rfl,?_⟩)
   simp [hn]
theorem RS{A:W→Bool}{cols:List W}{w c:W}{k:Nat}(hc:cols[k]? = some c):marks A (cols.take (k+1)) w=marks A (cols.take k) w++[OR (A (w++c))]:=by
 unfold marks
 rw [List.take_add_one,hc];simp
theorem UF{A:W→Bool}{cols:List W}{w:W}:(marks A cols w).length=cols.length:=by simp [marks]
theorem Kb{t:CL}{al:Int}{A:W→Bool}(hT:Ih Tryz.prog TB 93 85 t al A)(cols:List W)(w:W)(hl:cols.length≤4194304)(hw:w.length≤4194305)(hb:∀x∈cols,x.length≤4194304) :
 Pure Tryz.prog TB 97 [Cj t,Bl cols,eT w] (eT (marks A cols w)):=by
 refine eN Tryz.func97 rfl (by kernel_rfl) rfl ?_;intro Γ hΓ
 (repeat first|refine tA rfl ?_ |refine aU rfl ?_ |refine Aa ?_)
 refine aB ?_
 refine aL (α:={k:Nat // k≤cols.length}) [1,2,3] [] rfl rfl (fun ⟨k,hk⟩=>[(7,eT (marks A (cols.take k) w)),(8,eI .i64 k)]) (fun ⟨k,hk⟩=>[]) 0 (fun ⟨k,hk⟩=>cols.length - k) (⟨0,by omega⟩) hΓ rfl (by (simp[cX,zC,hΓ]<;>rfl)) ?_;rintro⟨k,hk⟩;(try dsimp only[cA,cB])
 have hml:(marks A (cols.take k) w).length≤4194304:=by rw [UF,List.length_take];omega
 by_cases hlt:k < cols.length
 ·obtain⟨x,hx⟩:=get_some hlt
  have hx':=get_map (g:=BD) hx
  have hxb:=hb x (List.mem_of_getElem? hx)
  have hq:=hT.ask (w++x) (by simp;omega)
  have hst:=RS (A:=A) (w:=w) hx
  (repeat first|refine sN rfl ?_ |refine tA rfl ?_ |refine s2 rfl fun _ _hb=>?_ |refine aU rfl ?_ |refine Aa ?_)
  (refine aC rfl ?_ ?_<;>rintro⟨⟩)
  ·refine aK ?_
   refine aS (aB ?_)
   (repeat first|(refine sA rfl ?_ ?_;first|exact tI|omega) |(refine s4 rfl ‹_› rfl ?_ ?_;omega) |(refine sC rfl (hq) ?_;intro _ _hb) |refine aU rfl ?_ |refine Aa ?_ |refine rE (by kernel_rfl) ?_)
   (refine aC rfl ?_ ?_<;>rintro⟨⟩)
   ·rw [_hb] at hst
    (repeat first|(refine sA rfl ?_ ?_;first|exact tI|omega|simp only[oZ] at *;omega) |refine aU rfl ?_ |refine Aa ?_)
    refine⟨⟨k+1,by omega⟩,by dsimp only;(omega),[],?_⟩
    simp[cX,zC,hΓ,hst,OR]
   ·rw [_hb] at hst
    (repeat first|(refine sA rfl ?_ ?_;first|exact tI|omega|simp only[oZ] at *;omega) |refine aU rfl ?_ |refine Aa ?_)
    refine⟨⟨k+1,by omega⟩,by dsimp only;(omega),[],?_⟩
    simp[cX,zC,hΓ,hst,OR]
  ·exfalso;(simp only[oZ] at *;omega)
 ·obtain rfl:k=cols.length:=by omega
  rw [List.take_length]
  (repeat first|refine sN rfl ?_ |refine tA rfl ?_ |refine s2 rfl fun _ _hb=>?_ |refine aU rfl ?_ |refine Aa ?_)
  (refine aC rfl ?_ ?_<;>rintro⟨⟩)
  ·exfalso;(simp only[oZ] at *;omega)
  ·(repeat' first|refine tA rfl ?_ |refine aU rfl ?_ |refine Aa ?_|(refine aC rfl ?_ ?_<;>rintro⟨⟩)|refine aK ?_|refine aE ?_|refine aB ?_|refine aR ⟨_,rfl,?_⟩)
   rfl
def JF:List W→Int→Int
 | [],left=>left
 | r::l,left=>if Ks r.length left < 0 then -1 else JF l (Ks r.length left)
def HQ(l:List W)(left:Int):Int:=if left - l.length < 0 then -1 else JF l (left - l.length)
theorem T7:∀(l:List W) {left:Int},0≤left→-1≤JF l left∧JF l left≤left∧(0≤JF l left→∀r∈l,(r.length:Int)≤left)
 | [],left,h=>⟨by simp [JF];omega,by simp [JF],fun _ r hr=>by cases hr⟩
 | r :: l,left,h=>by
  have h1:=IP (n:=r.length) h
  unfold JF
  split
  ·exact⟨by omega,by omega,fun h2=>by omega⟩
  ·have h2:=T7 l (left:=Ks r.length left) (by omega)
   refine⟨h2.1,by omega,fun h3 x hx=>?_⟩
   rcases List.mem_cons.1 hx with rfl|hx
   ·exact h1.2.2 (by omega)
   ·have:=h2.2.2 h3 x hx;omega
theorem Pd{l:List W}{left:Int}(h:0≤left) : -1≤HQ l left∧HQ l left≤left∧(0≤HQ l left→(l.length:Int)≤left∧∀r∈l,(r.length:Int)≤left):=by
 unfold HQ
 split
 ·omega
 ·have h2:=T7 l (left:=left - l.length) (by omega)
  exact⟨h2.1,by omega,fun h3=>⟨by omega,fun r hr=>by have:=h2.2.2 h3 r hr;omega⟩⟩
def On(x:AN)(left:Int):Int:=if HQ x.rows left < 0 then -1 else if HQ x.cols (HQ x.rows left) < 0 then -1 else HQ x.cols (HQ x.rows left)
theorem dE{x:AN}{left:Int}(h:0≤left)(h2:left≤1048576) : -1≤On x left∧On x left≤left∧(0≤On x left→Na x∧x.rows.length≤1048576∧x.cols.length≤1048576):=by
 have h1:=Pd (l:=x.rows) h
 unfold On
 split
 ·omega
 ·have h3:=Pd (l:=x.cols) (left:=HQ x.rows left) (by omega)
  split
  ·omega
  ·refine⟨h3.1,by omega,fun h4=>?_⟩
   have a:=h1.2.2 (by omega)
   have b:=h3.2.2 h4
   exact⟨⟨by omega,by omega,fun w hw=>by have:=a.2 w hw;omega,fun w hw=>by have:=b.2 w hw;omega⟩,by omega,by omega⟩
def QM(s:Sys)(q:Bn)(left:Int):Int:=if Ks s.es.length left < 0 then -1 else if Sp q (Ks s.es.length left) < 0 then -1 else Sp q (Ks s.es.length left)
def Oo(te:CL)(left:Int):Int:=if Sp te.p left < 0 then -1 else if QM te.s te.q (Sp te.p left) < 0 then -1 else QM te.s te.q (Sp te.p left)
structure Zp (te:CL):Prop where
 pn:te.p.nx.length≤1048576
 pa:te.p.ac.length≤1048576
 pr:∀r∈te.p.nx,r.length≤1048576
 es:te.s.es.length≤1048576
 qn:te.q.nx.length≤1048576
 qa:te.q.ac.length≤1048576
 qr:∀r∈te.q.nx,r.length≤1048576
theorem dF{te:CL}{left:Int}(h:0≤left)(h2:left≤1048576) : -1≤Oo te left∧Oo te left≤left∧(0≤Oo te left→Zp te):=by
 have h1:=Sq (a:=te.p) h
 unfold Oo QM
 split
 ·omega
 ·have h3:=IP (n:=te.s.es.length) (left:=Sp te.p left) (by omega)
  split
  ·omega
  ·split
   ·omega
   ·rename_i k1 k2 k3
    have k4:0≤Ks te.s.es.length (Sp te.p left):=by omega
    have h4:=Sq (a:=te.q) k4
    refine⟨h4.1,by omega,fun h5=>?_⟩
    obtain⟨a1,a2,a3⟩:=h1.2.2 (by omega)
    obtain⟨b1,b2,b3⟩:=h4.2.2 h5
    have c:=h3.2.2 k4
    exact⟨by omega,by omega,fun r hr=>by have:=a3 r hr;omega,by omega,by omega,by omega,fun r hr=>by have:=b3 r hr;omega⟩
end Go.Am
namespace Go.Am
open Go
set_option linter.unusedVariables false
def Bx(es:List Fk)(l:Int)(m:Nat):Nat:=es.foldl (fun a e=>if e.l=l∧m.testBit e.f.toNat=true then a ||| 2 ^ e.t.toNat else a) 0
theorem HD{α:Type}{p:α→Prop}[DecidablePred p]{g:α→Nat}{j:Nat}:∀(l:List α) (a:Nat),(l.foldl (fun a e=>if p e then a ||| g e else a) a).testBit j=true↔a.testBit j=true∨∃e∈l,p e∧(g e).testBit j=true
 | [],a=>by simp
 | x :: l,a=>by
  rw [List.foldl_cons,HD l]
  by_cases h:p x
  ·rw [if_pos h,Nat.testBit_or,Bool.or_eq_true]
   constructor
   ·rintro((h1|h1)|⟨e,h1,h2⟩)
    ·exact .inl h1
    ·exact .inr ⟨x,by simp,h,h1⟩
    ·exact .inr ⟨e,by simp [h1],h2⟩
   ·rintro(h1|⟨e,h1,h2,h3⟩)
    ·exact .inl (.inl h1)
    ·rcases List.mem_cons.1 h1 with rfl|h1
     ·exact .inl (.inr h3)
     ·exact .inr ⟨e,h1,h2,h3⟩
  ·rw [if_neg h]
   constructor
   ·rintro(h1|⟨e,h1,h2⟩)
    ·exact .inl h1
    ·exact .inr ⟨e,by simp [h1],h2⟩
   ·rintro(h1|⟨e,h1,h2,h3⟩)
    ·exact .inl h1
    ·rcases List.mem_cons.1 h1 with rfl|h1
     ·exact absurd h2 h
     ·exact .inr ⟨e,h1,h2,h3⟩
theorem DT{es:List Fk}{l:Int}{m j:Nat}:(Bx es l m).testBit j=true↔∃e∈es,(e.l=l∧m.testBit e.f.toNat=true)∧e.t.toNat=j:=by
 unfold Bx
 rw [HD]
 simp [Nat.testBit_two_pow]
structure B1 where
 s:Sys
 q:Bn
 al:Int
def A1(t:B1):Bool:=BC t.s && (AK t.q && Bb t.al)
def Cb(t:B1):List Int:=(Ac t.s.al).filter fun l=>!DN t.al l.toNat
def Cx(s:Sys)(l:Int)(m:Nat):Nat:=if DN s.al l.toNat then Bx s.es l m else m
abbrev PS:=Nat→Nat
def Tq(t:B1)(l:Int)(F:PS):PS:=fun p'=>(List.range t.q.nx.length).foldl (fun a p=>if B9 t.q p l=(p':Int) then a ||| Cx t.s l (F p) else a) 0
theorem Lh{t:B1}{l:Int}{F:PS}{p' j:Nat}:(Tq t l F p').testBit j=true↔∃p,p < t.q.nx.length∧B9 t.q p l=(p':Int)∧(Cx t.s l (F p)).testBit j=true:=by
 unfold Tq
 rw [HD]
 simp
inductive Pk (t:B1) (F0:PS):Nat→Nat→Prop
 | base {p j:Nat}:(F0 p).testBit j=true→Pk t F0 p j
 | step {p j:Nat} {e:Fk}:Pk t F0 p j→e∈t.s.es→e.l∈Cb t→e.f.toNat=j→Pk t F0 (B9 t.q p e.l).toNat e.t.toNat
open Classical in
noncomputable def QY(t:B1)(F0:PS):PS:=fun p=>(List.range 16).foldl (fun a j=>if Pk t F0 p j then a ||| 2 ^ j else a) 0
open Classical in
theorem OH{t:B1}{F0:PS}{p j:Nat}:(QY t F0 p).testBit j=true↔j < 16∧Pk t F0 p j:=by
 unfold QY
 rw [HD]
 simp only [Nat.zero_testBit,Bool.false_eq_true,false_or,List.mem_range,Nat.testBit_two_pow,decide_eq_true_eq]
 constructor
 ·rintro⟨e,h1,h2,rfl⟩;exact⟨h1,h2⟩
 ·rintro⟨h1,h2⟩;exact⟨j,h1,h2,rfl⟩
structure CB (t:B1) (F:PS):Prop where
 lt:∀p,F p < 65536
 z:∀p,t.q.nx.length≤p→F p=0
theorem HB{m:Nat}(h:∀j,m.testBit j=true→j < 16):m < 65536:=by
 have:m < 2 ^ 16:=Nat.lt_pow_two_of_testBit m fun i hi=>by
  cases hb:m.testBit i
  ·rfl
  ·have:=h i hb;omega
 omega
theorem Jh{m j:Nat}(h:m < 65536)(hb:m.testBit j=true):j < 16:=by
 rcases Nat.lt_or_ge j 16 with h1|h1
 ·exact h1
 ·have:m.testBit j=false:=Nat.testBit_lt_two_pow (Nat.lt_of_lt_of_le h (Nat.pow_le_pow_right (n:=2) (by omega) h1))
  rw [this] at hb;cases hb
theorem HC{m:Nat}(h:∀j,m.testBit j=false):m=0:=Nat.eq_of_testBit_eq fun j=>by rw [h j];simp
section
variable {t:B1}(ht:A1 t=true)
include ht set_option linter.unusedSectionVars false
theorem QR{e:Fk}(he:e∈t.s.es):0≤e.f∧e.f < 16∧0≤e.t∧e.t < 16∧0≤e.l∧e.l < 6:=by
 unfold A1 at ht
 simp only [Bool.and_eq_true] at ht
 have h1:=Di ht.1 he
 have h2:=Cm ht.1
 unfold Db at h1
 grind
theorem Cn:AK t.q=true:=by
 unfold A1 at ht
 simp only [Bool.and_eq_true] at ht
 exact ht.2.1
theorem Gq{l:Int}(h:l∈Cb t):0≤l∧l < 6∧DN t.s.al l.toNat=true:=by
 unfold Cb at h
 have h1:=AS (List.mem_filter.1 h).1
 exact⟨h1.1,by omega,h1.2.2⟩
theorem Ht{l:Int}{m:Nat}(hm:m < 65536):Cx t.s l m < 65536:=by
 unfold Cx
 split
 ·refine HB fun j hj=>?_
  obtain⟨e,h1,_,rfl⟩:=DT.1 hj
  have:=QR ht h1;omega
 ·exact hm
theorem Kg{l:Int}(hl:0≤l∧l < 6){F:PS}(h:CB t F):CB t (Tq t l F):=by
 refine⟨fun p=>HB fun j hj=>?_,fun p hp=>HC fun j=>?_⟩
 ·obtain⟨q,h1,h2,h3⟩:=Lh.1 hj
  exact Jh (Ht ht (h.lt q)) h3
 ·cases hb:(Tq t l F p).testBit j
  ·rfl
  ·obtain⟨q,h1,h2,h3⟩:=Lh.1 hb
   have:=Dc (Cn ht) h1 hl.1 hl.2
   omega
theorem Pk.lt{F0:PS}(h:CB t F0){p j:Nat}(hr:Pk t F0 p j):p < t.q.nx.length∧j < 16:=by
 induction hr with
 | @base p j hb=>
  refine⟨?_,Jh (h.lt p) hb⟩
  rcases Nat.lt_or_ge p t.q.nx.length with h1|h1
  ·exact h1
  ·rw [h.z p h1] at hb;simp at hb
 | @step p j e _ he hl _ ih=>
  have h1:=QR ht he
  have h2:=Dc (Cn ht) ih.1 h1.2.2.2.2.1 h1.2.2.2.2.2
  omega
theorem VN{F0:PS}(h:CB t F0):CB t (QY t F0):=by
 refine⟨fun p=>HB fun j hj=>(OH.1 hj).1,fun p hp=>HC fun j=>?_⟩
 cases hb:(QY t F0 p).testBit j
 ·rfl
 ·have:=((OH.1 hb).2.lt ht h).1
  omega
theorem VM{F0 G:PS}(h0:CB t F0)(hG:∀p,t.q.nx.length≤p→G p=0)(h1:∀p j,(F0 p).testBit j=true→(G p).testBit j=true)(h2:∀p j,(G p).testBit j=true→Pk t F0 p j)
 (h3:∀p l j,p < t.q.nx.length→l∈Cb t→(Bx t.s.es l (G p)).testBit j=true→(G (B9 t.q p l).toNat).testBit j=true):G=QY t F0:=by
 have key:∀ {p j:Nat},Pk t F0 p j→(G p).testBit j=true:=fun {p j} hr=>by
  induction hr with
  | base hb=>exact h1 _ _ hb
  | @step p j e hr he hl hf ih=>exact h3 p e.l _ (hr.lt ht h0).1 hl (DT.2 ⟨e,he,⟨rfl,by rw [hf];exact ih⟩,rfl⟩)
 funext p
 refine Nat.eq_of_testBit_eq fun j=>?_
 rw [Bool.eq_iff_iff,OH]
 exact⟨fun h=>⟨((h2 p j h).lt ht h0).2,h2 p j h⟩,fun h=>key h.2⟩
end
def JP:PS:=fun p=>if p=0 then 1 else 0
noncomputable def B6(t:B1):PS:=QY t JP
noncomputable def Ev(t:B1)(l:Int)(F:PS):PS:=QY t (Tq t l F)
def JU(t:B1)(F:PS):Bool:=(List.range t.q.nx.length).any fun p=>decide (F p≠0) && !(t.q.ac.getD p false)
noncomputable def Ic(t:B1):PS→W→Bool
 | F,[]=>!JU t F
 | F,c::w=>!JU t F && Ic t (Ev t ((c.toNat:Int) - 97) F) w
noncomputable def LS(t:B1)(w:W):Bool:=Ic t (B6 t) w
section
variable {t:B1}(ht:A1 t=true)
include ht
theorem MY:CB t JP:=by
 have h:=Aj (Cn ht)
 refine⟨fun p=>by unfold JP;split<;>omega,fun p hp=>by unfold JP;rw [if_neg (by omega)]⟩
theorem Kr:CB t (B6 t):=VN ht (MY ht)
theorem Mh{l:Int}(hl:0≤l∧l < 6){F:PS}(h:CB t F):CB t (Ev t l F):=VN ht (Kg ht hl h)
end
end Go.Am
namespace Go.Am
open Go Go.Proofs
set_option maxHeartbeats 1000000
set_option maxRecDepth 4000
attribute [local irreducible] AV BX Lex Bf Av Spec
variable {TB:Be}
theorem QA:∀ {l:List Int},l.Pairwise (· < ·)→(∀x∈l,0≤x)→∀j:Nat,(Br l).testBit j=true↔(j:Int)∈l
 | [],_,_,j=>by simp [Br]
 | x :: r,hp,h0,j=>by
  have hx:=h0 x (by simp)
  have hp2:=List.pairwise_cons.1 hp
  have ih:=QA hp2.2 (fun y hy=>h0 y (by simp [hy])) j
  obtain⟨m,h1,h2⟩:=Kq hp hx
  rw [h1,Nat.testBit_two_pow_mul]
  rw [h2,Nat.testBit_two_pow_mul] at ih
  rw [List.mem_cons,←ih]
  by_cases hj:j=x.toNat
  ·subst hj
   simp
   omega
  ·have hne:¬(j:Int)=x:=by omega
   have hb:x.toNat≤j→(2*m+1).testBit (j - x.toNat)=(2*m).testBit (j - x.toNat):=fun hle=>by
    obtain⟨i,hi⟩:∃i,j - x.toNat=i+1:=⟨j - x.toNat - 1,by omega⟩
    rw [hi,Nat.testBit_succ,Nat.testBit_succ]
    congr 1;omega
   by_cases hle:x.toNat≤j
   ·rw [hb hle];simp [hne]
   ·simp [hle,hne]
def Du(m k:Nat):List Int:=((List.range k).filter (m.testBit ·)).map Int.ofNat
theorem PC(m k:Nat):Du m (k+1)=Du m k++if m.testBit k then [(k:Int)] else []:=by
 unfold Du
 rw [List.range_succ,List.filter_append,List.map_append]
 cases h:m.testBit k<;>simp [h]
theorem Oi(m:Nat):∀k,Br (Du m k)=m % 2 ^ k
 | 0=>by simp [Du,Br,Nat.mod_one]
 | k+1=>by
  rw [PC,MG,Oi m k,Nat.pow_succ,Nat.mod_mul,Nat.testBit_eq_decide_div_mod_eq]
  by_cases h:m / 2 ^ k % 2=1
  ·rw [h];simp [Br]
  ·rw [show m / 2 ^ k % 2=0 by omega];simp [Br]
theorem Nd(m k:Nat):(Du m k).Pairwise (· < ·):=by
 unfold Du
 rw [List.pairwise_map]
 exact(List.pairwise_lt_range.filter _).imp fun h=>by simpa using h
theorem JV{m k:Nat}{x:Int}(h:x∈Du m k):0≤x∧x < k∧m.testBit x.toNat=true:=by
 unfold Du at h
 obtain⟨n,hn,rfl⟩:=List.mem_map.1 h
 obtain⟨h1,h2⟩:=List.mem_filter.1 hn
 have:=List.mem_range.1 h1
 exact⟨by simp,by simp;omega,by simpa using h2⟩
theorem OF{m:Nat}(h:m < 65536):m=Br (Du m 16):=by rw [Oi];omega
def Nr(es:List Fk)(l:Int)(xs:List Int):Nat:=xs.foldl (fun a x=>a ||| Br (MT es x.toNat l.toNat)) 0
theorem Mp{s:Sys}(hs:BC s=true){l:Int}{j:Nat}:∀ {xs:List Int} {a:Nat},(xs.foldl (fun a x=>a ||| Br (MT s.es x.toNat l.toNat)) a).testBit j=true↔a.testBit j=true∨∃x∈xs,(j:Int)∈MT s.es x.toNat l.toNat
 | [],a=>by simp
 | x::xs,a=>by
  rw [List.foldl_cons,Mp hs,Nat.testBit_or,Bool.or_eq_true]
  have h1:=E2 hs s.es.length x.toNat l.toNat
  rw [List.take_length] at h1
  have h2:=QA h1 (fun y hy=>(MU hs (k:=s.es.length) (by rw [List.take_length];exact hy)).1) j
  rw [h2]
  simp only [List.mem_cons,exists_eq_or_imp,or_assoc]
theorem YO{s:Sys}(hs:BC s=true){l:Int}(hl:0≤l){m:Nat}(hm:m < 65536):Nr s.es l (Du m 16)=Bx s.es l m:=by
 refine Nat.eq_of_testBit_eq fun j=>?_
 rw [Bool.eq_iff_iff]
 unfold Nr
 rw [Mp hs,DT]
 simp only [Nat.zero_testBit,Bool.false_eq_true,false_or]
 constructor
 ·rintro⟨x,hx,hj⟩
  obtain⟨h1,h2,h3⟩:=JV hx
  unfold MT at hj
  obtain⟨e,he,het⟩:=List.mem_map.1 hj
  obtain⟨he1,he2⟩:=List.mem_filter.1 he
  simp only [Bool.and_eq_true,decide_eq_true_eq] at he2
  exact⟨e,he1,⟨by omega,by rw [show e.f.toNat=x.toNat by omega];exact h3⟩,by omega⟩
 ·rintro⟨e,he,⟨h1,h2⟩,h3⟩
  have hb:=Di hs he
  unfold Db at hb
  simp only [Bool.and_eq_true,decide_eq_true_eq] at hb
  have hf:=Jh hm h2
  refine⟨e.f,?_,?_⟩
  ·unfold Du
   exact List.mem_map.2 ⟨e.f.toNat,List.mem_filter.2 ⟨List.mem_range.2 hf,h2⟩,by simp;omega⟩
  ·unfold MT
   refine List.mem_map.2 ⟨e,List.mem_filter.2 ⟨he,?_⟩,by omega⟩
   simp only [Bool.and_eq_true,decide_eq_true_eq]
   omega
theorem YP{s:Sys}(hs:BC s=true){l:Int}{xs:List Int}:Nr s.es l xs < 65536:=HB fun j hj=>by
 unfold Nr at hj
 rw [Mp hs] at hj
 simp only [Nat.zero_testBit,Bool.false_eq_true,false_or] at hj
 obtain⟨x,_,hx⟩:=hj
 have:=MU hs (k:=s.es.length) (by rw [List.take_length];exact hx)
 omega
theorem Le{a b:Nat}(ha:a < 2 ^ 62)(hb:b < 2 ^ 62):Wp .i64 (a:Nat) (b:Nat)=((a ||| b:Nat):Int):=by
 have h0:a ||| b < 2 ^ 62:=Nat.or_lt_two_pow ha hb
 unfold Wp
 have h1:(BitVec.ofInt IntKind.i64.bits (a:Int) ||| BitVec.ofInt IntKind.i64.bits (b:Int)).toNat=a ||| b:=by
  have e:IntKind.i64.bits=64:=rfl
  rw [e]
  simp only [BitVec.toNat_or,BitVec.ofInt_natCast,BitVec.toNat_ofNat]
  rw [Nat.mod_eq_of_lt (by omega),Nat.mod_eq_of_lt (by omega)]
 rw [h1]
 exact IntWalk.i64_in _ (by omega)
theorem Ze[Fo TB]{s:Sys}(hs:BC s=true){l:Int}(hl:0≤l∧l < 6){m:Nat}(hm:m < 65536):Pure Tryz.prog TB 294 [.o (.ip (EU s.es)),eI .i64 (m:Nat),eI .i64 l] (eI .i64 (Bx s.es l m:Nat)):=by
 rw [←YO hs hl.1 hm]
 rw [OF hm]
 have hb:∀x∈Du m 16,0≤x∧x < 16:=fun x hx=>⟨(JV hx).1,(JV hx).2.1⟩
 have hp:=Nd m 16
 rw [←OF hm]
 conv=>arg 4;rw [OF hm]
 generalize Du m 16=xs at *
 refine eG Tryz.func294 rfl (by kernel_rfl) rfl ?_;intro Γ hΓ
 (repeat first|refine tA rfl ?_ |refine aU rfl ?_ |refine Aa ?_)
 refine aB ?_
 refine aL (α:={k:Nat // k≤xs.length}) [0,2] [] rfl rfl (fun ⟨k,hk⟩=>[(1,eI .i64 (Br (xs.drop k):Nat)),(7,eI .i64 (Nr s.es l (xs.take k):Nat))]) (fun ⟨k,hk⟩=>[]) 0 (fun ⟨k,hk⟩=>xs.length - k) (⟨0,by omega⟩) hΓ rfl (by (simp[cX,zC,hΓ]<;>rfl)) ?_;rintro⟨k,hk⟩;(try dsimp only[cA,cB])
 by_cases hkl:k < xs.length
 ·obtain⟨x,hx⟩:=get_some hkl
  have hd:=BJ hx
  have hxb:=hb x (List.mem_of_getElem? hx)
  have hpd:(x::xs.drop (k+1)).Pairwise (· < ·):=by rw [←hd];exact hp.sublist (List.drop_sublist _ _)
  have hlt:Br (x::xs.drop (k+1)) < 2 ^ 16:=by
   refine Lp hpd fun y hy=>?_
   rw [←hd] at hy;exact hb y (List.mem_of_mem_drop hy)
  have hps:=MH (x:=x) (l:=xs.drop (k+1))
  have hct:=Xz hpd hxb.1 (by omega)
  have hia:=Uu hpd hxb.1 (by omega)
  rw [←hd] at hlt hps hct hia
  have htz:=dP (TB:=TB) (Br (xs.drop k)) (by omega) (by omega)
  rw [hct] at htz
  have ex:((x.toNat:Nat):Int)=x:=by omega
  rw [ex] at htz
  have hto:=E2 hs s.es.length x.toNat l.toNat
  rw [List.take_length] at hto
  have hs2:Br (MT s.es x.toNat l.toNat) < 65536:=Lp (t:=16) hto fun y hy=>MU hs (k:=s.es.length) (by rw [List.take_length];exact hy)
  have hs1:Nr s.es l (xs.take k) < 65536:=YP hs
  have hor:=Le (a:=Nr s.es l (xs.take k)) (b:=Br (MT s.es x.toNat l.toNat)) (by omega) (by omega)
  have hst:Nr s.es l (xs.take (k+1))=Nr s.es l (xs.take k) ||| Br (MT s.es x.toNat l.toNat):=by unfold Nr;rw [List.take_add_one,hx,List.foldl_append];rfl
  rw [←hst] at hor
  (repeat first|refine tA rfl ?_ |refine s2 rfl fun _ _hb=>?_ |refine aU rfl ?_ |refine Aa ?_)
  ((refine aC rfl ?_ ?_<;>rintro⟨⟩);all_goals try(exfalso;(simp only[oZ] at *;omega)))
  refine aK ?_
  refine aS (aB ?_)
  refine rG (J6 []) (by kernel_rfl) ?_
  (repeat first|(refine sA rfl ?_ ?_;first|exact tI|omega) |refine sP rfl (htz) rfl ?_|(refine Ai rfl ?_;refine gA rfl ?_;first| refine gS (fun _ _=>Dp rfl (ax hxb hl)) ?_) |refine aU rfl ?_ |refine Aa ?_)
  refine⟨⟨k+1,by omega⟩,by dsimp only;(omega),[],?_⟩
  simp[cX,zC,hΓ,hor,hia]
 ·obtain rfl:k=xs.length:=by omega
  rw [List.take_length]
  (repeat first|refine tA rfl ?_ |refine s2 rfl fun _ _hb=>?_ |refine aU rfl ?_ |refine Aa ?_)
  (refine aC rfl ?_ ?_<;>rintro⟨⟩)
  ·exfalso
   rw [List.drop_length] at _hb
   simp [Br] at _hb
  refine aE ?_
  (repeat first|refine tA rfl ?_ |refine aU rfl ?_ |refine Aa ?_)
  (subst_vars;exact aR ⟨_,rfl,rfl⟩)
end Go.Am
namespace Go.Am
open Go
set_option linter.unusedVariables false
section
variable {P:Program}{TB:Be}{Γ:Ctx}{d:Option Tmp}{ty:TypeId}{pos:String}{af:Array Edge}{g:Option (Nat×Bool)}{f:Env}{σ:Ab}{nx:Nat}
variable {K:E→Ab→Nat→Prop}
theorem O5{t e:TypeId}{k b:Nat}{z:List Value}[hl:B0 P t e k b][hz:BL P e z](hzk:z.length=k)(hok:z.all Nw=true):AV P TB Γ ⟨d,.buildSlice t 0 #[],ty,pos,af,g⟩ f σ nx .e:=
 Km fun V ρ h1 h2=>by
  obtain⟨cur,h3,h4,h5⟩:=GC (es:=[]) hl.out hz.out hzk hok h1 rfl rfl rfl rfl (by simp) (by simp)
  have hw:∀b,b < V.w.heap.size→(V.w.alloc (.cells cur e)).heap[b]? = V.w.heap[b]?:=fun b hb=>AX V.w _ b hb
  obtain⟨hi,he⟩:=R.Inv.grow h2 (w:=V.w.alloc (.cells cur e)) rfl rfl rfl (by simp) hw
  exact⟨_,{ V with w:=V.w.alloc (.cells cur e) },h3,he,hi,rfl,⟨_,rfl⟩⟩
theorem UI{t e:TypeId}{k b:Nat}{z:List Value}{s x:Operand}{news:List (List C)}{ex:E}[hl:B0 P t e k b][hz:BL P e z]
 (hs:ev f s=some .e) (hx:ev f x=some ex) (hsrc:JC σ k ex=some news) (hkk:∀r∈news,r.length=k) (hzk:z.length=k) (hb0:0 < b) (hb:news.length*b≤140737488355328)
 (hK0:news=[]→∀b,∃y,(∀V:View,A2 V y (.slice b 0 0))∧K y σ nx) (hK:news≠[]→K (.o (.arr nx k 0 news.length)) ((nx,.cells e k news)::σ) (nx+1)):BX P TB Γ ⟨d,.call ⟨.builtin .append,#[s,x],#[t,t]⟩,ty,pos,af,g⟩ f σ nx K:=
 C4 fun V ρ h1 h2 h3=>by
  subst h3
  obtain⟨i,hu,hi,hsz,hby⟩:=Fu hl.out
  have hz':=hz.out
  simp only [Vo,hi,Option.bind_some,Option.map_eq_some_iff] at hz'
  obtain⟨zv,hzv,hzz⟩:=hz'
  have hzc:zv.cells.size=k:=by rw [←hzk,←hzz];simp
  obtain⟨sb,hsv⟩:=h1.get (x:=s) (by simp [Op.operands,Call.operands]) hs
  have hxr:=TX h2 hsrc hkk (h1.get (x:=x) (by simp [Op.operands,Call.operands]) hx)
  have hexec:∀w,(execOp ρ ⟨d,.call ⟨.builtin .append,#[s,x],#[t,t]⟩,ty,pos,af,g⟩).run P w=((Builtin.append_ #[t,t] ty #[ρ s,ρ x]).run P w).andThen fun v w'=>.ok (.value v) w':=fun w=>by
   simp only [execOp,resolve,invoke,builtin,List.map_toArray,List.map_cons,List.map_nil,pure_bind,bind_pure_comp,Sem.run_map]
  have hmax:news.length≤maxLen:=by
   have:news.length≤news.length*b:=Nat.le_mul_of_pos_right _ hb0
   unfold maxLen;omega
  have hint:((news.length:Nat):Int)≤9223372036854775807:=by
   have:news.length≤news.length*b:=Nat.le_mul_of_pos_right _ hb0
   omega
  rw [hsv] at hexec
  generalize hvx:ρ x=vx at *
  have nothing0:=fun h=>hK0 h sb
  have nothing:news=[]→∀v,(Builtin.append_ #[t,t] ty #[.slice sb 0 0,vx]).run P V.w=.ok (.slice sb 0 0) V.w→v=Value.slice sb 0 0→
   ∃v V' xx σ',(execOp ρ ⟨d,.call ⟨.builtin .append,#[s,x],#[t,t]⟩,ty,pos,af,g⟩).run P V.w=.ok (.value v) V'.w∧Ext V V'∧Inv TB Γ V' σ'∧A2 V' xx v∧K xx σ' V'.nx:=fun hn v hr _=>
   let ⟨y,k1,k2⟩:=nothing0 hn
   ⟨.slice sb 0 0,V,y,σ,by rw [hexec,hr];rfl,Ext.refl _,h2,k1 V,k2⟩
  rcases hxr with ⟨rfl,hnil⟩|⟨xa,xc,xv,rfl,hxk,hxcell⟩
  ·exact nothing hnil _ (Es hu hi V.w sb 0 0 (Nat.le_refl _) ty) rfl
  ·have hnewsl:(Cv news.length k xv).length=news.length*i.size:=by rw [Ck,hsz]
   have hnewsc:∀j u,(Cv news.length k xv)[j]? = some u→V.w.cell? (xa.add j)=some u:=by
    intro q u hq
    obtain⟨a,b,rfl,ha,hb,rfl⟩:=J8 hq
    have hbl:b < news[a].length:=by rw [hxk _ (List.getElem_mem ha)];exact hb
    exact(hxcell a news[a] b news[a][b] (List.getElem?_eq_getElem ha) (List.getElem?_eq_getElem hbl)).1
   rcases Nat.eq_zero_or_pos news.length with hm0|hm0
   ·have hnn:news=[]:=List.length_eq_zero_iff.1 hm0
    refine nothing hnn _ ?_ rfl
    subst hnn
    cases sb<;>simp [Builtin.append_,run_underlying hu,sizeOf,typeInfo,hi,Builtin.lenOf,Builtin.firstCells,loadCells,loadCellsFrom,storeCells,go_sem]
   ·have hne:news≠[]:=fun h=>by subst h;simp at hm0
    have hrun:(Builtin.append_ #[t,t] ty #[.slice sb 0 0,.slice (some xa) news.length xc]).run P V.w=.ok (.slice (some ⟨V.w.heap.size,0,none⟩) news.length (grownCap V.w news.length 0 e))
     (V.w.drew.alloc (.cells ((Cv news.length k xv).toArray++Builtin.zeroCells zv.cells (grownCap V.w news.length 0 e - news.length)) e)):=by
     cases sb with
     | none=>
      have hr:=run_append_nil (P:=P) V.w t ty e i zv hu hi hzv xa news.length xc _ hnewsl hnewsc hm0 (by omega) (by rw [hby];omega)
      rw [hr]
     | some sa=>
      have hr:=run_append_grow (P:=P) V.w t ty e i zv hu hi hzv sa 0 0 [] (by simp) (fun j v hj=>by simp at hj) xa news.length xc _ hnewsl hnewsc (by omega) (by simpa using hint) (by rw [hby];exact growslice_fits (by omega) (by simpa using hb))
      simpa using hr
    have hcap:=grownCap_ge V.w news.length 0 e
    have hcm:=grownCap_le_maxLen V.w news.length 0 e hmax
    generalize grownCap V.w news.length 0 e=cap' at *
    let w':=V.w.drew.alloc (.cells ((Cv news.length k xv).toArray++Builtin.zeroCells zv.cells (cap' - news.length)) e)
    have ee:Ext V (Ak V V.w.heap.size cap' False w'):=DB (by simp [w']) fun b hb=>AX V.w.drew _ b (h2.iLt b hb)
    obtain⟨hi',he'⟩:=h2.alloc (c:=cap') (nl:=False) (w:=w') (ob:=.cells e k news) rfl rfl rfl rfl (by simp [w']) (fun b hb=>AX V.w.drew _ b hb) (by
     have hr:(Ak V V.w.heap.size cap' False w').ρ V.nx=V.w.heap.size:=by simp [Ak]
     have hc:(Ak V V.w.heap.size cap' False w').cap V.nx=cap':=by simp [Ak]
     refine .inr ⟨by simp [Ak],(Cv news.length k xv).toArray++Builtin.zeroCells zv.cells (cap' - news.length),?_,?_,?_,?_,hkk,?_⟩
     ·have:=BG V.w.drew (.cells ((Cv news.length k xv).toArray++Builtin.zeroCells zv.cells (cap' - news.length)) e)
      rw [hr];exact this
     ·rw [hc]
      simp only [Array.size_append,List.size_toArray,Ck,Builtin.zeroCells,Array.size_map,Array.size_range,hzc,←Nat.add_mul]
      congr 1;omega
     ·rw [hc];exact hcap
     ·rw [hc];exact hcm
     ·intro a r j c hi hj
      have hil:=(List.getElem?_eq_some_iff.1 hi).1
      have hjl:j < k:=by rw [←hxk r (List.mem_of_getElem? hi)];exact(List.getElem?_eq_some_iff.1 hj).1
      have h10:=J7 (vs:=xv) hil hjl
      refine⟨xv a j,?_,(hxcell a r j c hi hj).2.ext ee⟩
      have hlt:=(List.getElem?_eq_some_iff.1 h10).1
      rw [Array.getElem?_append_left (by simpa using hlt)]
      simpa using h10)
    refine⟨.slice (some ⟨V.w.heap.size,0,none⟩) news.length cap',_,_,(V.nx,.cells e k news)::σ,?_,he',hi',?_,hK hne⟩
    ·rw [hexec,hrun];rfl
    ·have:=@Ax.arr (Ak V V.w.heap.size cap' False w') V.nx k 0 news.length (by simp [Ak]) (by simp [Ak]) (by simp [Ak];exact hcap)
     have hr:(Ak V V.w.heap.size cap' False w').ρ V.nx=V.w.heap.size:=by simp [Ak]
     have hc:(Ak V V.w.heap.size cap' False w').cap V.nx=cap':=by simp [Ak]
     rw [hr,hc,Nat.zero_mul,Nat.sub_zero] at this
     exact this
theorem HI{t e:TypeId}{k b:Nat}{z:List Value}{s x:Operand}{news:List (List C)}{ex:E}[hl:B0 P t e k b][hz:BL P e z]
 (hs:ev f s=some .e) (hx:ev f x=some ex) (hsrc:JC σ k ex=some news) (hkk:∀r∈news,r.length=k) (hzk:z.length=k) (hb0:0 < b) (hb:news.length*b≤140737488355328)
 (hK0:news=[]→K .e σ nx) (hK:news≠[]→K (.o (.arr nx k 0 news.length)) ((nx,.cells e k news)::σ) (nx+1)):BX P TB Γ ⟨d,.call ⟨.builtin .append,#[s,x],#[t,t]⟩,ty,pos,af,g⟩ f σ nx K:=UI hs hx hsrc hkk hzk hb0 hb (fun h b=>⟨.e,fun V=>⟨b,rfl⟩,hK0 h⟩) hK
end
section
variable {P:Program}{TB:Be}{Γ:Ctx}{N:Nat}
theorem Av.Cs{c:Code}{Q:Exit→Env→Ab→Nat→Prop}{L0 Lk:List (Nat×E)}{σ Sk:Ab}{nx:Nat}(ks is:List Nat)(hk:LY L0 ks=some Lk)(hi:Th σ is=some Sk)(v:List (Nat×E))(s:Ab)(l:List Nat)
 (hl:(∀i,i < Γ.V.nx→l[i]? = some i)∧l.Nodup) (h0:CU (nm l nx) (look L0) (v++Lk)∧AQ (nm l nx) σ (s++Sk)) (h:Av P TB Γ N c Q (look (v++Lk)) (s++Sk) l.length):Av P TB Γ N c Q (look L0) σ nx:=
 Av.names l (v++Lk) (s++Sk) hl.1 hl.2 h0.1 h0.2 h
end
end Go.Am
