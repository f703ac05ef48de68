/-
  The reference's words.
-/
import Derived.Test.YtkkihplpglchjaaGreatDoorPart12
import Derived.Test.YtkkihplpglchjaaGreatDoorPart14
set_option linter.constructorNameAsVariable false
set_option linter.unusedSimpArgs false
set_option linter.unusedVariables false
namespace Go.Am
open Go Go.Proofs
set_option maxHeartbeats 1000000
attribute [local irreducible] A1 BZ Lex Bj Ai Spec
variable {TB:Bh}
theorem HQ(w:W)(i:Nat)(c:UInt8)(hc:w[((i:Nat):Int).toNat]? = some c):Pure Tryz.prog TB 103 [eT w,eI .i64 i] (eI .i64 ((c.toNat:Int) - 97)):=by
 have hb:=c.toNat_lt
 refine eN Tryz.func103 rfl (by kernel_rfl) rfl ?_;intro Γ hΓ
 (repeat' first|(refine sA rfl ?_ ?_;first|exact tI|omega) |(refine s4 rfl ‹_› rfl ?_ ?_;omega) |refine aU rfl ?_ |refine Aa ?_|(refine aC rfl ?_ ?_<;>rintro⟨⟩)|refine aK ?_|refine aE ?_|refine aB ?_|refine aR ⟨_,rfl,?_⟩)
 rfl
theorem Qb(n:Int)(h0:0≤n)(h1:n < 16):Pure Tryz.prog TB 153 [eI .i64 n] (eI .i64 ((2 ^ n.toNat:Nat):Int)):=by
 refine eN Tryz.func153 rfl (by kernel_rfl) rfl ?_;intro Γ hΓ
 (repeat' first|(refine sA rfl ?_ ?_;first|exact tI|omega)|(refine Af rfl ?_;refine gA rfl ?_;first| refine gS (fun _ _=>W8 rfl rfl h0 (TG h0 h1)) ?_) |refine aU rfl ?_ |refine Aa ?_|(refine aC rfl ?_ ?_<;>rintro⟨⟩)|refine aK ?_|refine aE ?_|refine aB ?_|refine aR ⟨_,rfl,?_⟩)
 rfl
theorem Hk{c:UInt8}:Fs c=decide (0≤(c.toNat:Int) - 97∧(c.toNat:Int) - 97 < 6):=by
 unfold Fs
 rw [Bool.eq_iff_iff,decide_eq_true_eq,decide_eq_true_eq]
 omega
theorem Po(w:W)(hl:w.length≤1099511627776):Pure Tryz.prog TB 176 [eT w] (eB (Fo w)):=by
 by_cases h5:w.length≤50000
 ·have hwk : Fo w=w.all Fs:=by unfold Fo;simp [h5]
  rw [hwk]
  refine eN Tryz.func176 rfl (by kernel_rfl) rfl ?_;intro Γ hΓ
  (repeat first|refine tA rfl ?_ |refine s2 rfl fun _ _hb=>?_ |refine aU rfl ?_ |refine Aa ?_)
  (refine aC rfl ?_ ?_<;>rintro⟨⟩)
  ·exfalso;(simp only[oZ] at *;omega)
  refine aK ?_
  (repeat first|refine tA rfl ?_ |refine aU rfl ?_ |refine Aa ?_)
  refine aB ?_
  refine aL (α:={k:Nat // k≤w.length∧(w.take k).all Fs=true}) [0] [] rfl rfl (fun ⟨k,hk,ha⟩=>[(3,eI .i64 k)]) (fun ⟨k,hk,ha⟩=>[]) 0 (fun ⟨k,hk,ha⟩=>w.length - k) (⟨0,by omega,rfl⟩) hΓ rfl (by (simp[cX,zC,hΓ])) ?_;rintro⟨k,hk,ha⟩;(try dsimp only[cA,cB])
  by_cases hlt:k < w.length
  ·obtain⟨c,hc⟩:=get_some hlt
   have hc':w[((k:Nat):Int).toNat]? = some c:=by simpa using hc
   have hla:=HQ (TB:=TB) w k c hc'
   have hcn:=Hk (c:=c)
   by_cases hcc:Fs c=true
   ·have hst:=E4 hc ha hcc
    rw [hcn] at hcc
    simp only [decide_eq_true_eq] at hcc
    (repeat first|refine tA rfl ?_ |refine s2 rfl fun _ _hb=>?_ |refine aU rfl ?_ |refine Aa ?_)
    (refine aC rfl ?_ ?_<;>rintro⟨⟩)
    ·(repeat' first|(refine sA rfl ?_ ?_;first|exact tI|omega) |refine s2 rfl fun _ _hb=>?_ |refine sP rfl (hla) rfl ?_ |refine s3 rfl ?_ ?_<;>rintro rfl |refine aU rfl ?_ |refine Aa ?_|(refine aC rfl ?_ ?_<;>rintro⟨⟩)|refine aK ?_|refine aE ?_|refine aB ?_|refine aR ⟨_,rfl,?_⟩)
     ·exfalso;(simp only[oZ] at *;omega)
     ·exfalso;(simp only[oZ] at *;omega)
     ·refine⟨⟨k+1,by omega,hst⟩,by dsimp only;(omega),[],?_⟩
      simp[cX,zC,hΓ]
    ·exfalso;(simp only[oZ] at *;omega)
   ·have hst:=Gx hc (f:=Fs) (by simpa using hcc)
    rw [hcn] at hcc
    simp only [decide_eq_true_eq] at hcc
    (repeat first|refine tA rfl ?_ |refine s2 rfl fun _ _hb=>?_ |refine aU rfl ?_ |refine Aa ?_)
    (refine aC rfl ?_ ?_<;>rintro⟨⟩)
    ·(repeat' first|(refine sA rfl ?_ ?_;first|exact tI|omega) |refine s2 rfl fun _ _hb=>?_ |refine sP rfl (hla) rfl ?_ |refine s3 rfl ?_ ?_<;>rintro rfl |refine aU rfl ?_ |refine Aa ?_|(refine aC rfl ?_ ?_<;>rintro⟨⟩)|refine aK ?_|refine aE ?_|refine aB ?_|refine aR ⟨_,rfl,?_⟩)
     ·rw [hst]
     ·rw [hst]
     ·exfalso;(simp only[oZ] at *;omega)
    ·exfalso;(simp only[oZ] at *;omega)
  ·have hd:=E3 ha (show w.length≤k by omega)
   (repeat first|refine tA rfl ?_ |refine s2 rfl fun _ _hb=>?_ |refine aU rfl ?_ |refine Aa ?_)
   (refine aC rfl ?_ ?_<;>rintro⟨⟩)
   ·exfalso;(simp only[oZ] at *;omega)
   ·(repeat' first|refine tA rfl ?_ |refine aU rfl ?_ |refine Aa ?_|(refine aC rfl ?_ ?_<;>rintro⟨⟩)|refine aK ?_|refine aE ?_|refine aB ?_|refine aR ⟨_,rfl,?_⟩)
    rw [hd]
 ·have hwk:Fo w=false:=by unfold Fo;simp [h5]
  rw [hwk]
  refine eN Tryz.func176 rfl (by kernel_rfl) rfl ?_;intro Γ hΓ
  (repeat first|refine tA rfl ?_ |refine s2 rfl fun _ _hb=>?_ |refine aU rfl ?_ |refine Aa ?_)
  (refine aC rfl ?_ ?_<;>rintro⟨⟩)
  ·(repeat' first|refine tA rfl ?_ |refine aU rfl ?_ |refine Aa ?_|(refine aC rfl ?_ ?_<;>rintro⟨⟩)|refine aK ?_|refine aE ?_|refine aB ?_|refine aR ⟨_,rfl,?_⟩)
   rfl
  ·exfalso;(simp only[oZ] at *;omega)
abbrev dE(n:Int)(b:Bool):E:=.t [(false,[.d (iD n)]),(false,[.d (bD b)])]
theorem UK{w:W}{k:Nat}{c:UInt8}(hc:w[k]? = some c):IV (w.take (k+1))=IV (w.take k) ||| 2 ^ (c.toNat - 97):=by
 unfold IV
 rw [List.take_add_one,hc];simp
theorem Nj(w:W)(hl:w.length≤1099511627776):Pure Tryz.prog TB 140 [eT w] (if Fo w then dE (IV w:Nat) true else dE 0 false):=by
 have hwv:=Po (TB:=TB) w hl
 by_cases hok:Fo w=true
 ·have hok2:=hok
  unfold Fo at hok2
  simp only [Bool.and_eq_true,decide_eq_true_eq] at hok2
  rw [if_pos hok]
  refine eN Tryz.func140 rfl (by kernel_rfl) rfl ?_;intro Γ hΓ
  (repeat first|refine tA rfl ?_ |refine s2 rfl fun _ _hb=>?_ |(refine sC rfl (hwv) ?_;intro _ _hb) |refine aU rfl ?_ |refine Aa ?_)
  (refine aC rfl ?_ ?_<;>rintro⟨⟩)
  ·exfalso;simp at *;grind
  refine aK ?_
  (repeat first|refine tA rfl ?_ |refine aU rfl ?_ |refine Aa ?_)
  refine aB ?_
  refine aL (α:={k:Nat // k≤w.length}) [0] [] rfl rfl (fun ⟨k,hk⟩=>[(4,eI .i64 (IV (w.take k):Nat)),(5,eI .i64 k)]) (fun ⟨k,hk⟩=>[]) 0 (fun ⟨k,hk⟩=>w.length - k) (⟨0,by omega⟩) hΓ rfl (by (simp[cX,zC,hΓ]<;>rfl)) ?_;rintro⟨k,hk⟩;(try dsimp only[cA,cB])
  by_cases hlt:k < w.length
  ·obtain⟨c,hc⟩:=get_some hlt
   have hc':w[((k:Nat):Int).toNat]? = some c:=by simpa using hc
   have hla:=HQ (TB:=TB) w k c hc'
   have hcc:=(List.all_eq_true.1 hok2.2) c (List.mem_of_getElem? hc)
   rw [Hk,decide_eq_true_eq] at hcc
   have hbt:=Qb (TB:=TB) ((c.toNat:Int) - 97) hcc.1 (by omega)
   have hst:=UK hc
   have hs1:IV (w.take k) < 64:=Ph (by rw [List.all_eq_true];exact fun x hx=>(List.all_eq_true.1 hok2.2) x (List.mem_of_mem_take hx)) (by omega)
   have ht:((c.toNat:Int) - 97).toNat=c.toNat - 97:=by omega
   have h26:2 ^ (c.toNat - 97) < 2 ^ 6:=Nat.pow_lt_pow_right (by omega) (by omega)
   have hor:=(XW hs1 h26).1
   rw [←hst] at hor
   rw [ht] at hbt
   (repeat first|refine tA rfl ?_ |refine s2 rfl fun _ _hb=>?_ |refine aU rfl ?_ |refine Aa ?_)
   (refine aC rfl ?_ ?_<;>rintro⟨⟩)
   ·(repeat' first|(refine sA rfl ?_ ?_;first|exact tI|omega) |refine sP rfl (hla) rfl ?_|refine sP rfl (hbt) rfl ?_ |refine aU rfl ?_ |refine Aa ?_|(refine aC rfl ?_ ?_<;>rintro⟨⟩)|refine aK ?_|refine aE ?_|refine aB ?_|refine aR ⟨_,rfl,?_⟩)
    rw [hor]
    refine⟨⟨k+1,by omega⟩,by dsimp only;(omega),[],?_⟩
    simp[cX,zC,hΓ]
   ·exfalso;(simp only[oZ] at *;omega)
  ·obtain rfl:k=w.length:=by omega
   rw [List.take_length]
   (repeat first|refine tA rfl ?_ |refine s2 rfl fun _ _hb=>?_ |refine aU rfl ?_ |refine Aa ?_)
   (refine aC rfl ?_ ?_<;>rintro⟨⟩)
   ·exfalso;(simp only[oZ] at *;omega)
   ·(repeat' first|refine tA rfl ?_ |refine aU rfl ?_ |refine Aa ?_|(refine aC rfl ?_ ?_<;>rintro⟨⟩)|refine aK ?_|refine aE ?_|refine aB ?_|refine aR ⟨_,rfl,?_⟩)
    rfl
 ·rw [if_neg hok]
  refine eN Tryz.func140 rfl (by kernel_rfl) rfl ?_;intro Γ hΓ
  (repeat first|refine tA rfl ?_ |refine s2 rfl fun _ _hb=>?_ |(refine sC rfl (hwv) ?_;intro _ _hb) |refine aU rfl ?_ |refine Aa ?_)
  (refine aC rfl ?_ ?_<;>rintro⟨⟩)
  ·(repeat' first|refine tA rfl ?_ |refine aU rfl ?_ |refine Aa ?_|(refine aC rfl ?_ ?_<;>rintro⟨⟩)|refine aK ?_|refine aE ?_|refine aB ?_|refine aR ⟨_,rfl,?_⟩)
   rfl
  ·exfalso;simp at *;grind
theorem DC(w:W)(al:Int)(hl:w.length≤1099511627776):Pure Tryz.prog TB 111 [eT w,eI .i64 al] (eB (within w al)):=by
 have h1:=Nj (TB:=TB) w hl
 have h2:=Dw (TB:=TB) al
 by_cases hok:Fo w=true
 ·rw [if_pos hok] at h1
  unfold Fo at hok
  simp only [Bool.and_eq_true,decide_eq_true_eq] at hok
  have hw:within w al=(Bo al && w.all (IH al)):=by unfold within;simp [hok.1]
  rw [hw]
  refine eN Tryz.func111 rfl (by kernel_rfl) rfl ?_;intro Γ hΓ
  (repeat' first|refine tA rfl ?_ |refine s2 rfl fun _ _hb=>?_ |refine sP rfl (h1) rfl ?_|(refine sC rfl (h2) ?_;intro _ _hb) |refine s3 rfl ?_ ?_<;>rintro rfl |refine aU rfl ?_ |refine Aa ?_|(refine aC rfl ?_ ?_<;>rintro⟨⟩)|refine aK ?_|refine aE ?_|refine aB ?_|refine aR ⟨_,rfl,?_⟩)
  all_goals first
   | (show E.o _=E.o _;congr;grind)
   | (rename_i ha b;rw [Yz hok.2 ha] at _hb;show E.o _=E.o _;rw [ha,_hb];rfl)
 ·rw [if_neg hok] at h1
  have hw:within w al=false:=by
   rw [Bool.eq_false_iff]
   intro h
   unfold within at h
   simp only [Bool.and_eq_true,decide_eq_true_eq] at h
   exact hok (by unfold Fo;simp [h.1,Sn h.2.2])
  rw [hw]
  refine eN Tryz.func111 rfl (by kernel_rfl) rfl ?_;intro Γ hΓ
  (repeat' first|refine tA rfl ?_ |refine sP rfl (h1) rfl ?_|(refine sC rfl (h2) ?_;intro _ _hb) |refine aU rfl ?_ |refine Aa ?_|(refine aC rfl ?_ ?_<;>rintro⟨⟩)|refine aK ?_|refine aE ?_|refine aB ?_|refine aR ⟨_,rfl,?_⟩)
  all_goals rfl
theorem Cw{w:W}{al:Int}(h:within w al=true):AN (AY al) w:=by
 unfold within at h
 simp only [Bool.and_eq_true,decide_eq_true_eq] at h
 intro c hc
 have h1:=(List.all_eq_true.1 h.2.2) c hc
 unfold IH Fs at h1
 simp only [Bool.and_eq_true,decide_eq_true_eq] at h1
 refine List.mem_map.2 ⟨((c.toNat - 97:Nat):Int),FM.2 ⟨by omega,h1.2⟩,?_⟩
 unfold lb
 have e:97+((c.toNat - 97:Nat):Int).toNat=c.toNat:=by omega
 rw [e]
 simp
theorem DF{w:W}{al:Int}(h:AN (AY al) w)(hl:w.length≤50000)(ha:Bo al=true):within w al=true:=by
 unfold within
 simp only [Bool.and_eq_true,decide_eq_true_eq]
 refine⟨hl,ha,List.all_eq_true.2 fun c hc=>?_⟩
 obtain⟨l,hm,rfl⟩:=List.mem_map.1 (h c hc)
 have h1:=A2 hm
 have h2:=OW h1.1 (by omega)
 unfold IH Fs
 simp only [Bool.and_eq_true,decide_eq_true_eq]
 have e:(lb l).toNat - 97=l.toNat:=by omega
 rw [e]
 exact⟨by omega,h1.2.2⟩
theorem Wi{p:BT}(hp:A5 p=true)(w:W)(hw:AN (AY p.al) w)(hl:w.length≤1099511627776):Pure Tryz.prog TB 171 [BL p,eI .i64 0,eT w] (eI .i64 (Cv p 0 w)):=by
 have hph:=AI hp
 refine eN Tryz.func171 rfl (by kernel_rfl) rfl ?_;intro Γ hΓ
 (repeat first|refine tA rfl ?_ |refine aU rfl ?_ |refine Aa ?_)
 refine aB ?_
 refine aL (α:={k:Nat // k≤w.length}) [2,3] [] rfl rfl (fun ⟨k,hk⟩=>[(1,eI .i64 (Cv p 0 (w.take k))),(7,eI .i64 k)]) (fun ⟨k,hk⟩=>[]) 0 (fun ⟨k,hk⟩=>w.length - k) (⟨0,by omega⟩) hΓ rfl (by (simp[cX,zC,hΓ]<;>rfl)) ?_;rintro⟨k,hk⟩;(try dsimp only[cA,cB])
 have hr:=Ea hp (w.take k) 0 (ES hw k) (by omega)
 by_cases hlt:k < w.length
 ·obtain⟨c,hc⟩:=get_some hlt
  have hc':w[((k:Nat):Int).toNat]? = some c:=by simpa using hc
  have hcl:=ER (hw c (List.mem_of_getElem? hc))
  have hla:=HQ (TB:=TB) w k c hc'
  have hgo:=HR (TB:=TB) p hp (Cv p 0 (w.take k)).toNat (by omega) ((c.toNat:Int) - 97) hcl.1 hcl.2
  have e:(((Cv p 0 (w.take k)).toNat:Nat):Int)=Cv p 0 (w.take k):=by omega
  rw [e] at hgo
  have hst:=Kx (p:=p) hc 0
  rw [←hst] at hgo
  (repeat first|refine tA rfl ?_ |refine s2 rfl fun _ _hb=>?_ |refine aU rfl ?_ |refine Aa ?_)
  (refine aC rfl ?_ ?_<;>rintro⟨⟩)
  ·(repeat' first|(refine sA rfl ?_ ?_;first|exact tI|omega) |refine sP rfl (hla) rfl ?_|refine sP rfl (hgo) rfl ?_ |refine aU rfl ?_ |refine Aa ?_ |refine rE (by kernel_rfl) ?_|(refine aC rfl ?_ ?_<;>rintro⟨⟩)|refine aK ?_|refine aE ?_|refine aB ?_|refine aR ⟨_,rfl,?_⟩)
   refine⟨⟨k+1,by omega⟩,by dsimp only;(omega),[],?_⟩
   simp[cX,zC,hΓ]
  ·exfalso;(simp only[oZ] at *;omega)
 ·obtain rfl:k=w.length:=by omega
  rw [List.take_length]
  (repeat first|refine tA rfl ?_ |refine s2 rfl fun _ _hb=>?_ |refine aU rfl ?_ |refine Aa ?_)
  (refine aC rfl ?_ ?_<;>rintro⟨⟩)
  ·exfalso;(simp only[oZ] at *;omega)
  ·(repeat' first|refine tA rfl ?_ |refine aU rfl ?_ |refine Aa ?_|(refine aC rfl ?_ ?_<;>rintro⟨⟩)|refine aK ?_|refine aE ?_|refine aB ?_|refine aR ⟨_,rfl,?_⟩)
   rfl
def BE(p:BT)(w:W):Int:=if A5 p && within w p.al then Cv p 0 w else -1
def FJ(p:BT)(w:W):Bool:=A5 p && (within w p.al && LA p w)
theorem NC(p:BT)(w:W)(hl:w.length≤1099511627776):Pure Tryz.prog TB 132 [BL p,eT w] (eI .i64 (BE p w)):=by
 have h1:=Bg (TB:=TB) p
 have h2:=DC (TB:=TB) w p.al hl
 by_cases hv:(A5 p && within w p.al)=true
 ·have hs:BE p w=Cv p 0 w:=by unfold BE;rw [if_pos hv]
  rw [hs]
  rw [Bool.and_eq_true] at hv
  have h3:=Wi (TB:=TB) hv.1 w (Cw hv.2) hl
  refine eN Tryz.func132 rfl (by kernel_rfl) rfl ?_;intro Γ hΓ
  (repeat' first|refine tA rfl ?_ |refine s2 rfl fun _ _hb=>?_ |(refine sC rfl (h1) ?_;intro _ _hb)|(refine sC rfl (h2) ?_;intro _ _hb)|refine sP rfl (h3) rfl ?_ |refine s3 rfl ?_ ?_<;>rintro rfl |refine aU rfl ?_ |refine Aa ?_|(refine aC rfl ?_ ?_<;>rintro⟨⟩)|refine aK ?_|refine aE ?_|refine aB ?_|refine aR ⟨_,rfl,?_⟩)
  all_goals first
   | rfl
   | (exfalso;grind;done)
 ·have hs:BE p w = -1:=by unfold BE;rw [if_neg hv]
  rw [hs]
  refine eN Tryz.func132 rfl (by kernel_rfl) rfl ?_;intro Γ hΓ
  (repeat' first|refine tA rfl ?_ |refine s2 rfl fun _ _hb=>?_ |(refine sC rfl (h1) ?_;intro _ _hb)|(refine sC rfl (h2) ?_;intro _ _hb) |refine s3 rfl ?_ ?_<;>rintro rfl |refine aU rfl ?_ |refine Aa ?_|(refine aC rfl ?_ ?_<;>rintro⟨⟩)|refine aK ?_|refine aE ?_|refine aB ?_|refine aR ⟨_,rfl,?_⟩)
  all_goals first
   | rfl
   | (exfalso;grind;done)
theorem Hi(p:BT)(w:W)(hl:w.length≤1099511627776):Pure Tryz.prog TB 100 [BL p,eT w] (eB (FJ p w)):=by
 have h1:=NC (TB:=TB) p w hl
 by_cases hv:(A5 p && within w p.al)=true
 ·have hs:BE p w=Cv p 0 w:=by unfold BE;rw [if_pos hv]
  rw [hs] at h1
  rw [Bool.and_eq_true] at hv
  have hph:=AI hv.1
  have hr:=Ea hv.1 w 0 (Cw hv.2) (by omega)
  obtain⟨b,hb⟩:=get_some (l:=p.ac) (k:=(Cv p 0 w).toNat) (by omega)
  have hb':(p.ac.map Ja)[(Cv p 0 w).toNat]? = some (Ja b):=by simp [hb]
  have ha:FJ p w=b:=by unfold FJ LA;simp [hv.1,hv.2,List.getD,hb]
  rw [ha]
  refine eN Tryz.func100 rfl (by kernel_rfl) rfl ?_;intro Γ hΓ
  (repeat' first|refine tA rfl ?_ |(refine s4 rfl ‹_› rfl ?_ ?_;omega) |refine s2 rfl fun _ _hb=>?_ |refine sP rfl (h1) rfl ?_ |refine s3 rfl ?_ ?_<;>rintro rfl |refine aU rfl ?_ |refine Aa ?_|(refine aC rfl ?_ ?_<;>rintro⟨⟩)|refine aK ?_|refine aE ?_|refine aB ?_|refine aR ⟨_,rfl,?_⟩)
  all_goals first
   | rfl
   | (exfalso;(simp only[oZ] at *;omega))
 ·have hs:BE p w = -1:=by unfold BE;rw [if_neg hv]
  rw [hs] at h1
  have ha:FJ p w=false:=by unfold FJ;grind
  rw [ha]
  refine eN Tryz.func100 rfl (by kernel_rfl) rfl ?_;intro Γ hΓ
  (repeat' first|refine tA rfl ?_ |refine s2 rfl fun _ _hb=>?_ |refine sP rfl (h1) rfl ?_ |refine s3 rfl ?_ ?_<;>rintro rfl |refine aU rfl ?_ |refine Aa ?_|(refine aC rfl ?_ ?_<;>rintro⟨⟩)|refine aK ?_|refine aE ?_|refine aB ?_|refine aR ⟨_,rfl,?_⟩)
  all_goals first
   | rfl
   | (exfalso;(simp only[oZ] at *;omega))
theorem Qg(a b:BT):Pure Tryz.prog TB 130 [BL a,BL b] (eB (HF a b)):=by
 refine eN Tryz.func130 rfl (by kernel_rfl) rfl ?_;intro Γ hΓ
 (repeat' first|refine tA rfl ?_ |refine s2 rfl fun _ _hb=>?_ |(refine sC rfl (Bg a) ?_;intro _ _hb)|(refine sC rfl (Bg b) ?_;intro _ _hb) |refine s3 rfl ?_ ?_<;>rintro rfl |refine aU rfl ?_ |refine Aa ?_|(refine aC rfl ?_ ?_<;>rintro⟨⟩)|refine aK ?_|refine aE ?_|refine aB ?_|refine aR ⟨_,rfl,?_⟩)
 all_goals (show E.o _=E.o _;congr;unfold HF;grind)
theorem K9(a b:BT):Pure Tryz.prog TB 98 [BL a,BL b] (Zh (OQ a b)):=by
 by_cases hv:HF a b=true
 ·have hv2:=hv
  unfold HF at hv2
  simp only [Bool.and_eq_true,decide_eq_true_eq] at hv2
  obtain⟨⟨ha,hb⟩,_⟩:=hv2
  obtain⟨hn,hk,hs⟩:=Tj (kd:=1) ha hb
  have hf:=RC (TB:=TB) hn hk hs (I8 _)
  rw [XK] at hf
  have hd:OQ a b=Lz (FP (DM a b 1)):=by unfold OQ;rw [if_pos hv]
  rw [hd]
  have hf':Pure Tryz.prog TB 131 [.a [.d (.l []),.d (Rh [a,b]),.d (Ez [0,0]),.d (iD a.al),.d (iD 1),.d (iD 0)]] (Zh (Lz (FP (DM a b 1)))):=hf
  refine eN Tryz.func98 rfl (by kernel_rfl) rfl ?_;intro Γ hΓ
  (repeat' first|refine tA rfl ?_ |refine s2 rfl fun _ _hb=>?_ |(refine sC rfl (Qg a b) ?_;intro _ _hb)|refine sP rfl (hf') rfl ?_|(refine Af rfl ?_;refine gA rfl ?_;first| refine gS (fun _ _=>Av rfl rfl (by rfl) (by rfl)) ?_) |refine aU rfl ?_ |refine Aa ?_|(refine aC rfl ?_ ?_<;>rintro⟨⟩)|refine aK ?_|refine aE ?_|refine aB ?_|refine aR ⟨_,rfl,?_⟩)
  all_goals first
   | rfl
   | (exfalso;grind;done)
 ·have hd:OQ a b=none:=by unfold OQ;rw [if_neg hv]
  rw [hd]
  refine eN Tryz.func98 rfl (by kernel_rfl) rfl ?_;intro Γ hΓ
  (repeat' first|refine tA rfl ?_ |refine s2 rfl fun _ _hb=>?_ |(refine sC rfl (Qg a b) ?_;intro _ _hb) |refine aU rfl ?_ |refine Aa ?_|(refine aC rfl ?_ ?_<;>rintro⟨⟩)|refine aK ?_|refine aE ?_|refine aB ?_|refine aR ⟨_,rfl,?_⟩)
  all_goals first
   | rfl
   | (exfalso;grind;done)
structure Cx where
 kn:Bool
 p:BT
 s:Sys
 q:BT
 al:Int
abbrev B8(t:Cx):E:=bY t.kn t.p t.s t.q t.al
theorem La(t:Cx)(hk:t.kn=true):Pure Tryz.prog TB 60 [B8 t] (eI .i64 (if A5 t.p then t.p.al else -1)):=by
 obtain⟨kn,p,s,q,al⟩:=t
 dsimp only at hk
 subst hk
 refine eN Tryz.func60 rfl (by kernel_rfl) rfl ?_;intro Γ hΓ
 (repeat' first|refine tA rfl ?_ |refine s2 rfl fun _ _hb=>?_ |(refine sC rfl (Bg p) ?_;intro _ _hb) |refine s3 rfl ?_ ?_<;>rintro rfl |refine aU rfl ?_ |refine Aa ?_|(refine aC rfl ?_ ?_<;>rintro⟨⟩)|refine aK ?_|refine aE ?_|refine aB ?_|refine aR ⟨_,rfl,?_⟩)
 all_goals first
  | (show E.o _=E.o _;congr;grind)
  | (exfalso;simp at *;done)
theorem LB(t:Cx)(hk:t.kn=true)(w:W)(hl:w.length≤1099511627776):Pure Tryz.prog TB 101 [B8 t,eT w] (eB (FJ t.p w)):=by
 obtain⟨kn,p,s,q,al⟩:=t
 dsimp only at hk
 subst hk
 have h1:=Hi (TB:=TB) p w hl
 refine eN Tryz.func101 rfl (by kernel_rfl) rfl ?_;intro Γ hΓ
 (repeat' first|refine tA rfl ?_ |refine sP rfl (h1) rfl ?_ |refine aU rfl ?_ |refine Aa ?_|(refine aC rfl ?_ ?_<;>rintro⟨⟩)|refine aK ?_|refine aE ?_|refine aB ?_|refine aR ⟨_,rfl,?_⟩)
 all_goals rfl
end Go.Am
namespace Go.Am
open Go
set_option linter.unusedVariables false
def BP(es:List Eb)(l:Int)(m:Nat):Nat:=es.foldl (fun a e=>if e.l=l∧m.testBit e.f.toNat=true then a ||| 2 ^ e.t.toNat else a) 0
theorem HO{α:Type}{p:α→Prop}[DecidablePred p]{g:α→Nat}{j:Nat}:∀(l:List α) (a:Nat),(l.foldl (fun a e=>if p e then a ||| g e else a) a).testBit j=true↔a.testBit j=true∨∃e∈l,p e∧(g e).testBit j=true
 | [],a=>by simp
 | x :: l,a=>by
  rw [List.foldl_cons,HO l]
  by_cases h:p x
  ·rw [if_pos h,Nat.testBit_or,Bool.or_eq_true]
   constructor
   ·rintro((h1|h1)|⟨e,h1,h2⟩)
    ·exact .inl h1
    ·exact .inr ⟨x,by simp,h,h1⟩
    ·exact .inr ⟨e,by simp [h1],h2⟩
   ·rintro(h1|⟨e,h1,h2,h3⟩)
    ·exact .inl (.inl h1)
    ·rcases List.mem_cons.1 h1 with rfl|h1
     ·exact .inl (.inr h3)
     ·exact .inr ⟨e,h1,h2,h3⟩
  ·rw [if_neg h]
   constructor
   ·rintro(h1|⟨e,h1,h2⟩)
    ·exact .inl h1
    ·exact .inr ⟨e,by simp [h1],h2⟩
   ·rintro(h1|⟨e,h1,h2,h3⟩)
    ·exact .inl h1
    ·rcases List.mem_cons.1 h1 with rfl|h1
     ·exact absurd h2 h
     ·exact .inr ⟨e,h1,h2,h3⟩
theorem El{es:List Eb}{l:Int}{m j:Nat}:(BP es l m).testBit j=true↔∃e∈es,(e.l=l∧m.testBit e.f.toNat=true)∧e.t.toNat=j:=by
 unfold BP
 rw [HO]
 simp [Nat.testBit_two_pow]
structure Cy where
 s:Sys
 q:BT
 al:Int
def A6(t:Cy):Bool:=Bw t.s && (A5 t.q && Bo t.al)
def CI(t:Cy):List Int:=(Ac t.s.al).filter fun l=>!Ei t.al l.toNat
def C6(s:Sys)(l:Int)(m:Nat):Nat:=if Ei s.al l.toNat then BP s.es l m else m
abbrev PS:=Nat→Nat
def Tg(t:Cy)(l:Int)(F:PS):PS:=fun p'=>(List.range t.q.nx.length).foldl (fun a p=>if CW t.q p l=(p':Int) then a ||| C6 t.s l (F p) else a) 0
theorem Lm{t:Cy}{l:Int}{F:PS}{p' j:Nat}:(Tg t l F p').testBit j=true↔∃p,p < t.q.nx.length∧CW t.q p l=(p':Int)∧(C6 t.s l (F p)).testBit j=true:=by
 unfold Tg
 rw [HO]
 simp
inductive Pp (t:Cy) (F0:PS):Nat→Nat→Prop
 | base {p j:Nat}:(F0 p).testBit j=true→Pp t F0 p j
 | step {p j:Nat} {e:Eb}:Pp t F0 p j→e∈t.s.es→e.l∈CI t→e.f.toNat=j→Pp t F0 (CW t.q p e.l).toNat e.t.toNat
open Classical in
noncomputable def Ra(t:Cy)(F0:PS):PS:=fun p=>(List.range 16).foldl (fun a j=>if Pp t F0 p j then a ||| 2 ^ j else a) 0
open Classical in
theorem OO{t:Cy}{F0:PS}{p j:Nat}:(Ra t F0 p).testBit j=true↔j < 16∧Pp t F0 p j:=by
 unfold Ra
 rw [HO]
 simp only [Nat.zero_testBit,Bool.false_eq_true,false_or,List.mem_range,Nat.testBit_two_pow,decide_eq_true_eq]
 constructor
 ·rintro⟨e,h1,h2,rfl⟩;exact⟨h1,h2⟩
 ·rintro⟨h1,h2⟩;exact⟨j,h1,h2,rfl⟩
structure Da (t:Cy) (F:PS):Prop where
 lt:∀p,F p < 65536
 z:∀p,t.q.nx.length≤p→F p=0
theorem HJ{m:Nat}(h:∀j,m.testBit j=true→j < 16):m < 65536:=by
 have:m < 2 ^ 16:=Nat.lt_pow_two_of_testBit m fun i hi=>by
  cases hb:m.testBit i
  ·rfl
  ·have:=h i hb;omega
 omega
theorem Jp{m j:Nat}(h:m < 65536)(hb:m.testBit j=true):j < 16:=by
 rcases Nat.lt_or_ge j 16 with h1|h1
 ·exact h1
 ·have:m.testBit j=false:=Nat.testBit_lt_two_pow (Nat.lt_of_lt_of_le h (Nat.pow_le_pow_right (n:=2) (by omega) h1))
  rw [this] at hb;cases hb
theorem HK{m:Nat}(h:∀j,m.testBit j=false):m=0:=Nat.eq_of_testBit_eq fun j=>by rw [h j];simp
section
variable {t:Cy}(ht:A6 t=true)
include ht set_option linter.unusedSectionVars false
theorem QV{e:Eb}(he:e∈t.s.es):0≤e.f∧e.f < 16∧0≤e.t∧e.t < 16∧0≤e.l∧e.l < 6:=by
 unfold A6 at ht
 simp only [Bool.and_eq_true] at ht
 have h1:=CQ ht.1 he
 have h2:=BY ht.1
 unfold Dc at h1
 grind
theorem CR:A5 t.q=true:=by
 unfold A6 at ht
 simp only [Bool.and_eq_true] at ht
 exact ht.2.1
theorem GH{l:Int}(h:l∈CI t):0≤l∧l < 6∧Ei t.s.al l.toNat=true:=by
 unfold CI at h
 have h1:=A2 (List.mem_filter.1 h).1
 exact⟨h1.1,by omega,h1.2.2⟩
theorem Hy{l:Int}{m:Nat}(hm:m < 65536):C6 t.s l m < 65536:=by
 unfold C6
 split
 ·refine HJ fun j hj=>?_
  obtain⟨e,h1,_,rfl⟩:=El.1 hj
  have:=QV ht h1;omega
 ·exact hm
theorem Kk{l:Int}(hl:0≤l∧l < 6){F:PS}(h:Da t F):Da t (Tg t l F):=by
 refine⟨fun p=>HJ fun j hj=>?_,fun p hp=>HK fun j=>?_⟩
 ·obtain⟨q,h1,h2,h3⟩:=Lm.1 hj
  exact Jp (Hy ht (h.lt q)) h3
 ·cases hb:(Tg t l F p).testBit j
  ·rfl
  ·obtain⟨q,h1,h2,h3⟩:=Lm.1 hb
   have:=Ej (CR ht) h1 hl.1 hl.2
   omega
theorem Pp.lt{F0:PS}(h:Da t F0){p j:Nat}(hr:Pp t F0 p j):p < t.q.nx.length∧j < 16:=by
 induction hr with
 | @base p j hb=>
  refine⟨?_,Jp (h.lt p) hb⟩
  rcases Nat.lt_or_ge p t.q.nx.length with h1|h1
  ·exact h1
  ·rw [h.z p h1] at hb;simp at hb
 | @step p j e _ he hl _ ih=>
  have h1:=QV ht he
  have h2:=Ej (CR ht) ih.1 h1.2.2.2.2.1 h1.2.2.2.2.2
  omega
theorem VG{F0:PS}(h:Da t F0):Da t (Ra t F0):=by
 refine⟨fun p=>HJ fun j hj=>(OO.1 hj).1,fun p hp=>HK fun j=>?_⟩
 cases hb:(Ra t F0 p).testBit j
 ·rfl
 ·have:=((OO.1 hb).2.lt ht h).1
  omega
theorem VF{F0 G:PS}(h0:Da t F0)(hG:∀p,t.q.nx.length≤p→G p=0)(h1:∀p j,(F0 p).testBit j=true→(G p).testBit j=true)(h2:∀p j,(G p).testBit j=true→Pp t F0 p j)
 (h3:∀p l j,p < t.q.nx.length→l∈CI t→(BP t.s.es l (G p)).testBit j=true→(G (CW t.q p l).toNat).testBit j=true):G=Ra t F0:=by
 have key:∀ {p j:Nat},Pp t F0 p j→(G p).testBit j=true:=fun {p j} hr=>by
  induction hr with
  | base hb=>exact h1 _ _ hb
  | @step p j e hr he hl hf ih=>exact h3 p e.l _ (hr.lt ht h0).1 hl (El.2 ⟨e,he,⟨rfl,by rw [hf];exact ih⟩,rfl⟩)
 funext p
 refine Nat.eq_of_testBit_eq fun j=>?_
 rw [Bool.eq_iff_iff,OO]
 exact⟨fun h=>⟨((h2 p j h).lt ht h0).2,h2 p j h⟩,fun h=>key h.2⟩
end
def JS:PS:=fun p=>if p=0 then 1 else 0
noncomputable def CD(t:Cy):PS:=Ra t JS
noncomputable def EM(t:Cy)(l:Int)(F:PS):PS:=Ra t (Tg t l F)
def JX(t:Cy)(F:PS):Bool:=(List.range t.q.nx.length).any fun p=>decide (F p≠0) && !(t.q.ac.getD p false)
noncomputable def Iu(t:Cy):PS→W→Bool
 | F,[]=>!JX t F
 | F,c::w=>!JX t F && Iu t (EM t ((c.toNat:Int) - 97) F) w
noncomputable def LS(t:Cy)(w:W):Bool:=Iu t (CD t) w
section
variable {t:Cy}(ht:A6 t=true)
include ht
theorem Nd:Da t JS:=by
 have h:=AI (CR ht)
 refine⟨fun p=>by unfold JS;split<;>omega,fun p hp=>by unfold JS;rw [if_neg (by omega)]⟩
theorem KA:Da t (CD t):=VG ht (Nd ht)
theorem Mp{l:Int}(hl:0≤l∧l < 6){F:PS}(h:Da t F):Da t (EM t l F):=VG ht (Kk ht hl h)
end
end Go.Am
namespace Go.Am
open Go Go.Proofs
set_option maxHeartbeats 1000000
attribute [local irreducible] A1 BZ Lex Bj Ai Spec
variable {TB:Bh}
theorem QM:∀ {l:List Int},l.Pairwise (· < ·)→(∀x∈l,0≤x)→∀j:Nat,(BG l).testBit j=true↔(j:Int)∈l
 | [],_,_,j=>by simp [BG]
 | x :: r,hp,h0,j=>by
  have hx:=h0 x (by simp)
  have hp2:=List.pairwise_cons.1 hp
  have ih:=QM hp2.2 (fun y hy=>h0 y (by simp [hy])) j
  obtain⟨m,h1,h2⟩:=Kz hp hx
  rw [h1,Nat.testBit_two_pow_mul]
  rw [h2,Nat.testBit_two_pow_mul] at ih
  rw [List.mem_cons,←ih]
  by_cases hj:j=x.toNat
  ·subst hj
   simp
   omega
  ·have hne:¬(j:Int)=x:=by omega
   have hb:x.toNat≤j→(2*m+1).testBit (j - x.toNat)=(2*m).testBit (j - x.toNat):=fun hle=>by
    obtain⟨i,hi⟩:∃i,j - x.toNat=i+1:=⟨j - x.toNat - 1,by omega⟩
    rw [hi,Nat.testBit_succ,Nat.testBit_succ]
    congr 1;omega
   by_cases hle:x.toNat≤j
   ·rw [hb hle];simp [hne]
   ·simp [hle,hne]
def DQ(m k:Nat):List Int:=((List.range k).filter (m.testBit ·)).map Int.ofNat
theorem PI(m k:Nat):DQ m (k+1)=DQ m k++if m.testBit k then [(k:Int)] else []:=by
 unfold DQ
 rw [List.range_succ,List.filter_append,List.map_append]
 cases h:m.testBit k<;>simp [h]
theorem Ou(m:Nat):∀k,BG (DQ m k)=m % 2 ^ k
 | 0=>by simp [DQ,BG,Nat.mod_one]
 | k+1=>by
  rw [PI,MN,Ou m k,Nat.pow_succ,Nat.mod_mul,Nat.testBit_eq_decide_div_mod_eq]
  by_cases h:m / 2 ^ k % 2=1
  ·rw [h];simp [BG]
  ·rw [show m / 2 ^ k % 2=0 by omega];simp [BG]
theorem Nl(m k:Nat):(DQ m k).Pairwise (· < ·):=by
 unfold DQ
 rw [List.pairwise_map]
 exact(List.pairwise_lt_range.filter _).imp fun h=>by simpa using h
theorem JY{m k:Nat}{x:Int}(h:x∈DQ m k):0≤x∧x < k∧m.testBit x.toNat=true:=by
 unfold DQ at h
 obtain⟨n,hn,rfl⟩:=List.mem_map.1 h
 obtain⟨h1,h2⟩:=List.mem_filter.1 hn
 have:=List.mem_range.1 h1
 exact⟨by simp,by simp;omega,by simpa using h2⟩
theorem ON{m:Nat}(h:m < 65536):m=BG (DQ m 16):=by rw [Ou];omega
def NB(es:List Eb)(l:Int)(xs:List Int):Nat:=xs.foldl (fun a x=>a ||| BG (MY es x.toNat l.toNat)) 0
theorem Mz{s:Sys}(hs:Bw s=true){l:Int}{j:Nat}:∀ {xs:List Int} {a:Nat},(xs.foldl (fun a x=>a ||| BG (MY s.es x.toNat l.toNat)) a).testBit j=true↔a.testBit j=true∨∃x∈xs,(j:Int)∈MY s.es x.toNat l.toNat
 | [],a=>by simp
 | x::xs,a=>by
  rw [List.foldl_cons,Mz hs,Nat.testBit_or,Bool.or_eq_true]
  have h1:=Fm hs s.es.length x.toNat l.toNat
  rw [List.take_length] at h1
  have h2:=QM h1 (fun y hy=>(MZ hs (k:=s.es.length) (by rw [List.take_length];exact hy)).1) j
  rw [h2]
  simp only [List.mem_cons,exists_eq_or_imp,or_assoc]
theorem Yj{s:Sys}(hs:Bw s=true){l:Int}(hl:0≤l){m:Nat}(hm:m < 65536):NB s.es l (DQ m 16)=BP s.es l m:=by
 refine Nat.eq_of_testBit_eq fun j=>?_
 rw [Bool.eq_iff_iff]
 unfold NB
 rw [Mz hs,El]
 simp only [Nat.zero_testBit,Bool.false_eq_true,false_or]
 constructor
 ·rintro⟨x,hx,hj⟩
  obtain⟨h1,h2,h3⟩:=JY hx
  unfold MY at hj
  obtain⟨e,he,het⟩:=List.mem_map.1 hj
  obtain⟨he1,he2⟩:=List.mem_filter.1 he
  simp only [Bool.and_eq_true,decide_eq_true_eq] at he2
  exact⟨e,he1,⟨by omega,by rw [show e.f.toNat=x.toNat by omega];exact h3⟩,by omega⟩
 ·rintro⟨e,he,⟨h1,h2⟩,h3⟩
  have hb:=CQ hs he
  unfold Dc at hb
  simp only [Bool.and_eq_true,decide_eq_true_eq] at hb
  have hf:=Jp hm h2
  refine⟨e.f,?_,?_⟩
  ·unfold DQ
   exact List.mem_map.2 ⟨e.f.toNat,List.mem_filter.2 ⟨List.mem_range.2 hf,h2⟩,by simp;omega⟩
  ·unfold MY
   refine List.mem_map.2 ⟨e,List.mem_filter.2 ⟨he,?_⟩,by omega⟩
   simp only [Bool.and_eq_true,decide_eq_true_eq]
   omega
theorem Yk{s:Sys}(hs:Bw s=true){l:Int}{xs:List Int}:NB s.es l xs < 65536:=HJ fun j hj=>by
 unfold NB at hj
 rw [Mz hs] at hj
 simp only [Nat.zero_testBit,Bool.false_eq_true,false_or] at hj
 obtain⟨x,_,hx⟩:=hj
 have:=MZ hs (k:=s.es.length) (by rw [List.take_length];exact hx)
 omega
theorem Lj{a b:Nat}(ha:a < 2 ^ 62)(hb:b < 2 ^ 62):Ud .i64 (a:Nat) (b:Nat)=((a ||| b:Nat):Int):=by
 have h0:a ||| b < 2 ^ 62:=Nat.or_lt_two_pow ha hb
 unfold Ud
 have h1:(BitVec.ofInt IntKind.i64.bits (a:Int) ||| BitVec.ofInt IntKind.i64.bits (b:Int)).toNat=a ||| b:=by
  have e:IntKind.i64.bits=64:=rfl
  rw [e]
  simp only [BitVec.toNat_or,BitVec.ofInt_natCast,BitVec.toNat_ofNat]
  rw [Nat.mod_eq_of_lt (by omega),Nat.mod_eq_of_lt (by omega)]
 rw [h1]
 exact IntWalk.i64_in _ (by omega)
theorem YE[Eh TB]{s:Sys}(hs:Bw s=true){l:Int}(hl:0≤l∧l < 6){m:Nat}(hm:m < 65536):Pure Tryz.prog TB 201 [.o (.ip (Fb s.es)),eI .i64 (m:Nat),eI .i64 l] (eI .i64 (BP s.es l m:Nat)):=by
 rw [←Yj hs hl.1 hm]
 rw [ON hm]
 have hb:∀x∈DQ m 16,0≤x∧x < 16:=fun x hx=>⟨(JY hx).1,(JY hx).2.1⟩
 have hp:=Nl m 16
 rw [←ON hm]
 conv=>arg 4;rw [ON hm]
 generalize DQ m 16=xs at *
 refine eG Tryz.func201 rfl (by kernel_rfl) rfl ?_;intro Γ hΓ
 (repeat first|refine tA rfl ?_ |refine aU rfl ?_ |refine Aa ?_)
 refine aB ?_
 refine aL (α:={k:Nat // k≤xs.length}) [0,2] [] rfl rfl (fun ⟨k,hk⟩=>[(1,eI .i64 (BG (xs.drop k):Nat)),(7,eI .i64 (NB s.es l (xs.take k):Nat))]) (fun ⟨k,hk⟩=>[]) 0 (fun ⟨k,hk⟩=>xs.length - k) (⟨0,by omega⟩) hΓ rfl (by (simp[cX,zC,hΓ]<;>rfl)) ?_;rintro⟨k,hk⟩;(try dsimp only[cA,cB])
 by_cases hkl:k < xs.length
 ·obtain⟨x,hx⟩:=get_some hkl
  have hd:=Cz hx
  have hxb:=hb x (List.mem_of_getElem? hx)
  have hpd:(x::xs.drop (k+1)).Pairwise (· < ·):=by rw [←hd];exact hp.sublist (List.drop_sublist _ _)
  have hlt:BG (x::xs.drop (k+1)) < 2 ^ 16:=by
   refine Lt hpd fun y hy=>?_
   rw [←hd] at hy;exact hb y (List.mem_of_mem_drop hy)
  have hps:=MO (x:=x) (l:=xs.drop (k+1))
  have hct:=Xp hpd hxb.1 (by omega)
  have hia:=Uc hpd hxb.1 (by omega)
  rw [←hd] at hlt hps hct hia
  have htz:=bZ (TB:=TB) (BG (xs.drop k)) (by omega) (by omega)
  rw [hct] at htz
  have ex:((x.toNat:Nat):Int)=x:=by omega
  rw [ex] at htz
  have hto:=Fm hs s.es.length x.toNat l.toNat
  rw [List.take_length] at hto
  have hs2:BG (MY s.es x.toNat l.toNat) < 65536:=Lt (t:=16) hto fun y hy=>MZ hs (k:=s.es.length) (by rw [List.take_length];exact hy)
  have hs1:NB s.es l (xs.take k) < 65536:=Yk hs
  have hor:=Lj (a:=NB s.es l (xs.take k)) (b:=BG (MY s.es x.toNat l.toNat)) (by omega) (by omega)
  have hst:NB s.es l (xs.take (k+1))=NB s.es l (xs.take k) ||| BG (MY s.es x.toNat l.toNat):=by unfold NB;rw [List.take_add_one,hx,List.foldl_append];rfl
  rw [←hst] at hor
  (repeat first|refine tA rfl ?_ |refine s2 rfl fun _ _hb=>?_ |refine aU rfl ?_ |refine Aa ?_)
  ((refine aC rfl ?_ ?_<;>rintro⟨⟩);all_goals try(exfalso;(simp only[oZ] at *;omega)))
  refine aK ?_
  refine aS (aB ?_)
  refine rG (HN []) (by kernel_rfl) ?_
  (repeat first|(refine sA rfl ?_ ?_;first|exact tI|omega) |refine sP rfl (htz) rfl ?_|(refine Af rfl ?_;refine gA rfl ?_;first| refine gS (fun _ _=>En rfl (Zx hxb hl)) ?_) |refine aU rfl ?_ |refine Aa ?_)
  refine⟨⟨k+1,by omega⟩,by dsimp only;(omega),[],?_⟩
  simp[cX,zC,hΓ,hor,hia]
 ·obtain rfl:k=xs.length:=by omega
  rw [List.take_length]
  (repeat first|refine tA rfl ?_ |refine s2 rfl fun _ _hb=>?_ |refine aU rfl ?_ |refine Aa ?_)
  (refine aC rfl ?_ ?_<;>rintro⟨⟩)
  ·exfalso
   rw [List.drop_length] at _hb
   simp [BG] at _hb
  refine aE ?_
  (repeat first|refine tA rfl ?_ |refine aU rfl ?_ |refine Aa ?_)
  (subst_vars;exact aR ⟨_,rfl,rfl⟩)
end Go.Am
namespace Go.Am
open Go
set_option linter.unusedVariables false
section
variable {P:Program}{TB:Bh}{Γ:Ctx}{d:Option Tmp}{ty:TypeId}{pos:String}{af:Array Edge}{g:Option (Nat×Bool)}{f:Env}{σ:Ab}{nx:Nat}
variable {K:E→Ab→Nat→Prop}
theorem Eu{t e:TypeId}{k b:Nat}{z:List Value}[hl:Cb P t e k b][hz:BO P e z](hzk:z.length=k)(hok:z.all Ng=true):A1 P TB Γ ⟨d,.buildSlice t 0 #[],ty,pos,af,g⟩ f σ nx .e:=
 Kt fun V ρ h1 h2=>by
  obtain⟨cur,h3,h4,h5⟩:=GQ (es:=[]) hl.out hz.out hzk hok h1 rfl rfl rfl rfl (by simp) (by simp)
  have hw:∀b,b < V.w.heap.size→(V.w.alloc (.cells cur e)).heap[b]? = V.w.heap[b]?:=fun b hb=>A7 V.w _ b hb
  obtain⟨hi,he⟩:=R.Inv.grow h2 (w:=V.w.alloc (.cells cur e)) rfl rfl rfl (by simp) hw
  exact⟨_,{ V with w:=V.w.alloc (.cells cur e) },h3,he,hi,rfl,⟨_,rfl⟩⟩
theorem Og{t e:TypeId}{k b:Nat}{z:List Value}{s x:Operand}{news:List (List C)}{ex:E}[hl:Cb P t e k b][hz:BO P e z]
 (hs:ev f s=some .e) (hx:ev f x=some ex) (hsrc:ET σ k ex=some news) (hkk:∀r∈news,r.length=k) (hzk:z.length=k) (hb0:0 < b) (hb:news.length*b≤140737488355328)
 (hK0:news=[]→∀b,∃y,(∀V:View,Bc V y (.slice b 0 0))∧K y σ nx) (hK:news≠[]→K (.o (.arr nx k 0 news.length)) ((nx,.cells e k news)::σ) (nx+1)):BZ P TB Γ ⟨d,.call ⟨.builtin .append,#[s,x],#[t,t]⟩,ty,pos,af,g⟩ f σ nx K:=
 Dy fun V ρ h1 h2 h3=>by
  subst h3
  obtain⟨i,hu,hi,hsz,hby⟩:=Fi hl.out
  have hz':=hz.out
  simp only [UZ,hi,Option.bind_some,Option.map_eq_some_iff] at hz'
  obtain⟨zv,hzv,hzz⟩:=hz'
  have hzc:zv.cells.size=k:=by rw [←hzk,←hzz];simp
  obtain⟨sb,hsv⟩:=h1.get (x:=s) (by simp [Op.operands,Call.operands]) hs
  have hxr:=TJ h2 hsrc hkk (h1.get (x:=x) (by simp [Op.operands,Call.operands]) hx)
  have hexec:∀w,(execOp ρ ⟨d,.call ⟨.builtin .append,#[s,x],#[t,t]⟩,ty,pos,af,g⟩).run P w=((Builtin.append_ #[t,t] ty #[ρ s,ρ x]).run P w).andThen fun v w'=>.ok (.value v) w':=fun w=>by
   simp only [execOp,resolve,invoke,builtin,List.map_toArray,List.map_cons,List.map_nil,pure_bind,bind_pure_comp,Sem.run_map]
  have hmax:news.length≤maxLen:=by
   have:news.length≤news.length*b:=Nat.le_mul_of_pos_right _ hb0
   unfold maxLen;omega
  have hint:((news.length:Nat):Int)≤9223372036854775807:=by
   have:news.length≤news.length*b:=Nat.le_mul_of_pos_right _ hb0
   omega
  rw [hsv] at hexec
  generalize hvx:ρ x=vx at *
  have nothing0:=fun h=>hK0 h sb
  have nothing:news=[]→∀v,(Builtin.append_ #[t,t] ty #[.slice sb 0 0,vx]).run P V.w=.ok (.slice sb 0 0) V.w→v=Value.slice sb 0 0→
   ∃v V' xx σ',(execOp ρ ⟨d,.call ⟨.builtin .append,#[s,x],#[t,t]⟩,ty,pos,af,g⟩).run P V.w=.ok (.value v) V'.w∧Ext V V'∧Inv TB Γ V' σ'∧Bc V' xx v∧K xx σ' V'.nx:=fun hn v hr _=>
   let ⟨y,k1,k2⟩:=nothing0 hn
   ⟨.slice sb 0 0,V,y,σ,by rw [hexec,hr];rfl,Ext.refl _,h2,k1 V,k2⟩
  rcases hxr with ⟨rfl,hnil⟩|⟨xa,xc,xv,rfl,hxk,hxcell⟩
  ·exact nothing hnil _ (EL hu hi V.w sb 0 0 (Nat.le_refl _) ty) rfl
  ·have hnewsl:(C3 news.length k xv).length=news.length*i.size:=by rw [CO,hsz]
   have hnewsc:∀j u,(C3 news.length k xv)[j]? = some u→V.w.cell? (xa.add j)=some u:=by
    intro q u hq
    obtain⟨a,b,rfl,ha,hb,rfl⟩:=J8 hq
    have hbl:b < news[a].length:=by rw [hxk _ (List.getElem_mem ha)];exact hb
    exact(hxcell a news[a] b news[a][b] (List.getElem?_eq_getElem ha) (List.getElem?_eq_getElem hbl)).1
   rcases Nat.eq_zero_or_pos news.length with hm0|hm0
   ·have hnn:news=[]:=List.length_eq_zero_iff.1 hm0
    refine nothing hnn _ ?_ rfl
    subst hnn
    cases sb<;>simp [Builtin.append_,run_underlying hu,sizeOf,typeInfo,hi,Builtin.lenOf,Builtin.firstCells,loadCells,loadCellsFrom,storeCells,go_sem]
   ·have hne:news≠[]:=fun h=>by subst h;simp at hm0
    have hrun:(Builtin.append_ #[t,t] ty #[.slice sb 0 0,.slice (some xa) news.length xc]).run P V.w=.ok (.slice (some ⟨V.w.heap.size,0,none⟩) news.length (grownCap V.w news.length 0 e))
     (V.w.drew.alloc (.cells ((C3 news.length k xv).toArray++Builtin.zeroCells zv.cells (grownCap V.w news.length 0 e - news.length)) e)):=by
     cases sb with
     | none=>
      have hr:=run_append_nil (P:=P) V.w t ty e i zv hu hi hzv xa news.length xc _ hnewsl hnewsc hm0 (by omega) (by rw [hby];omega)
      rw [hr]
     | some sa=>
      have hr:=run_append_grow (P:=P) V.w t ty e i zv hu hi hzv sa 0 0 [] (by simp) (fun j v hj=>by simp at hj) xa news.length xc _ hnewsl hnewsc (by omega) (by simpa using hint) (by rw [hby];exact growslice_fits (by omega) (by simpa using hb))
      simpa using hr
    have hcap:=grownCap_ge V.w news.length 0 e
    have hcm:=grownCap_le_maxLen V.w news.length 0 e hmax
    generalize grownCap V.w news.length 0 e=cap' at *
    let w':=V.w.drew.alloc (.cells ((C3 news.length k xv).toArray++Builtin.zeroCells zv.cells (cap' - news.length)) e)
    have ee:Ext V (Au V V.w.heap.size cap' False w'):=DY (by simp [w']) fun b hb=>A7 V.w.drew _ b (h2.iLt b hb)
    obtain⟨hi',he'⟩:=h2.alloc (c:=cap') (nl:=False) (w:=w') (ob:=.cells e k news) rfl rfl rfl rfl (by simp [w']) (fun b hb=>A7 V.w.drew _ b hb) (by
     have hr:(Au V V.w.heap.size cap' False w').ρ V.nx=V.w.heap.size:=by simp [Au]
     have hc:(Au V V.w.heap.size cap' False w').cap V.nx=cap':=by simp [Au]
     refine .inr ⟨by simp [Au],(C3 news.length k xv).toArray++Builtin.zeroCells zv.cells (cap' - news.length),?_,?_,?_,?_,hkk,?_⟩
     ·have:=B3 V.w.drew (.cells ((C3 news.length k xv).toArray++Builtin.zeroCells zv.cells (cap' - news.length)) e)
      rw [hr];exact this
     ·rw [hc]
      simp only [Array.size_append,List.size_toArray,CO,Builtin.zeroCells,Array.size_map,Array.size_range,hzc,←Nat.add_mul]
      congr 1;omega
     ·rw [hc];exact hcap
     ·rw [hc];exact hcm
     ·intro a r j c hi hj
      have hil:=(List.getElem?_eq_some_iff.1 hi).1
      have hjl:j < k:=by rw [←hxk r (List.mem_of_getElem? hi)];exact(List.getElem?_eq_some_iff.1 hj).1
      have h10:=J7 (vs:=xv) hil hjl
      refine⟨xv a j,?_,(hxcell a r j c hi hj).2.ext ee⟩
      have hlt:=(List.getElem?_eq_some_iff.1 h10).1
      rw [Array.getElem?_append_left (by simpa using hlt)]
      simpa using h10)
    refine⟨.slice (some ⟨V.w.heap.size,0,none⟩) news.length cap',_,_,(V.nx,.cells e k news)::σ,?_,he',hi',?_,hK hne⟩
    ·rw [hexec,hrun];rfl
    ·have:=@AE.arr (Au V V.w.heap.size cap' False w') V.nx k 0 news.length (by simp [Au]) (by simp [Au]) (by simp [Au];exact hcap)
     have hr:(Au V V.w.heap.size cap' False w').ρ V.nx=V.w.heap.size:=by simp [Au]
     have hc:(Au V V.w.heap.size cap' False w').cap V.nx=cap':=by simp [Au]
     rw [hr,hc,Nat.zero_mul,Nat.sub_zero] at this
     exact this
theorem CC{t e:TypeId}{k b:Nat}{z:List Value}{s x:Operand}{news:List (List C)}{ex:E}[hl:Cb P t e k b][hz:BO P e z]
 (hs:ev f s=some .e) (hx:ev f x=some ex) (hsrc:ET σ k ex=some news) (hkk:∀r∈news,r.length=k) (hzk:z.length=k) (hb0:0 < b) (hb:news.length*b≤140737488355328)
 (hK0:news=[]→K .e σ nx) (hK:news≠[]→K (.o (.arr nx k 0 news.length)) ((nx,.cells e k news)::σ) (nx+1)):BZ P TB Γ ⟨d,.call ⟨.builtin .append,#[s,x],#[t,t]⟩,ty,pos,af,g⟩ f σ nx K:=Og hs hx hsrc hkk hzk hb0 hb (fun h b=>⟨.e,fun V=>⟨b,rfl⟩,hK0 h⟩) hK
theorem Kl{t e:TypeId}{k b:Nat}{z:List Value}{s x:Operand}{news:List (List C)}{ex:E}[hl:Cb P t e k b][hz:BO P e z]
 (hs:ev f s=some .e) (hx:ev f x=some ex) (hsrc:ET σ k ex=some news) (hkk:∀r∈news,r.length=k) (hzk:z.length=k) (hb0:0 < b) (hb:news.length*b≤140737488355328)
 (hK0:news=[]→∀b,K (.o (.d (.v (.slice b 0 0)))) σ nx) (hK:news≠[]→K (.o (.arr nx k 0 news.length)) ((nx,.cells e k news)::σ) (nx+1)):BZ P TB Γ ⟨d,.call ⟨.builtin .append,#[s,x],#[t,t]⟩,ty,pos,af,g⟩ f σ nx K:=Og hs hx hsrc hkk hzk hb0 hb (fun h b=>⟨.o (.d (.v (.slice b 0 0))),fun V=>(show AE V (.d (.v (.slice b 0 0))) (.slice b 0 0) from .d (.v rfl)),hK0 h b⟩) hK
end
section
variable {P:Program}{TB:Bh}{Γ:Ctx}{N:Nat}
theorem Ai.Ar{c:Code}{Q:Exit→Env→Ab→Nat→Prop}{L0 Lk:List (Nat×E)}{σ Sk:Ab}{nx:Nat}(ks is:List Nat)(hk:Mg L0 ks=some Lk)(hi:SV σ is=some Sk)(v:List (Nat×E))(s:Ab)(l:List Nat)
 (hl:(∀i,i < Γ.V.nx→l[i]? = some i)∧l.Nodup) (h0:Dn (nm l nx) (look L0) (v++Lk)∧A0 (nm l nx) σ (s++Sk)) (h:Ai P TB Γ N c Q (look (v++Lk)) (s++Sk) l.length):Ai P TB Γ N c Q (look L0) σ nx:=
 Ai.names l (v++Lk) (s++Sk) hl.1 hl.2 h0.1 h0.2 h
end
end Go.Am
