/-
  What is drawn for AddColumn: walked.
-/
import Derived.Test.YtkkihplpglchjaaGreatDoorPart27
import Derived.Test.YtkkihplpglchjaaGreatDoorPart22
import Derived.Test.YtkkihplpglchjaaGreatDoorPart18
import Derived.Test.YtkkihplpglchjaaGreatDoorPart23
set_option linter.constructorNameAsVariable false
set_option linter.unusedSimpArgs false
set_option linter.unusedVariables false
namespace Go.Am
open Go Go.Proofs
set_option maxHeartbeats 1000000
attribute [local irreducible] AR BZ Lex Bm Aj Spec
variable {TB:Ba}
section
variable {tabs:List (Nat×Obj)} [hTb:DT ⟨tabs,none⟩] {te:Dx}
include hTb
end
end Go.Am
namespace Go.Am
open Go Go.Proofs
set_option maxHeartbeats 1000000
attribute [local irreducible] AR BZ Lex Bm Aj Spec
variable {tabs:List (Nat×Obj)}
end Go.Am
namespace Go.Am
open Go Go.Proofs
set_option maxHeartbeats 1000000
attribute [local irreducible] AR BZ Lex Bm Aj Spec
variable {TB:Ba}
section
variable {tabs:List (Nat×Obj)} [hTb:DT ⟨tabs,none⟩] {te:Dx}
include hTb
end
end Go.Am
namespace Go.Am
open Go Go.Proofs
set_option maxHeartbeats 1000000
attribute [local irreducible] AR BZ Lex Bm Aj Spec
theorem Z2 {TB:Ba} (s n:Int) (h0:0≤n) (h1:n < 64):Pure Tryz.prog TB 44 [eI .i64 s,eI .i64 n] (eB (DK s n.toNat)):=by
  refine eN Tryz.func44 rfl (by kernel_rfl) rfl ?_;intro Γ hΓ
  (repeat' first|(refine sA rfl ?_ ?_;first|exact tI|omega) |refine s2 rfl fun _ _hb=>?_ |refine aU rfl ?_ |refine Aa ?_|(refine aC rfl ?_ ?_<;>rintro ⟨⟩)|refine aK ?_|refine aE ?_|refine aB ?_|refine aR ⟨_,rfl,?_⟩)
  subst _hb;rfl
theorem Z0 {TB:Ba} (n:Int) (h0:0≤n) (h1:n < 128):Pure Tryz.prog TB 45 [eI .i64 n] (eT [lb n]):=by
  refine eN Tryz.func45 rfl (by kernel_rfl) rfl ?_;intro Γ hΓ
  (repeat first|(refine sA rfl ?_ ?_;first|exact tI|omega) |refine aU rfl ?_ |refine Aa ?_)
  (refine Ag rfl ?_;refine Di (fun _ _=>MY [UInt8.ofNat (97+n.toNat)] rfl (by
    have h2:(97+n.toNat) % 256=97+n.toNat:=Nat.mod_eq_of_lt (by omega)
    have h3:(97+n:Int)=((97+n.toNat:Nat):Int):=by omega
    simp [XN,h2,h3])) rfl ?_)
  (repeat first|refine tA rfl ?_ |refine Aa ?_)
  refine aR ⟨_,rfl,?_⟩
  rfl
theorem Z6 {te:Dx} {x:A3} {a:B6} (h:J0 te x=some a) {i:Nat} {r:W} (hi:x.rows[i]? = some r) {c:UInt8} (hc:c∈Bl (AM te)) :
    ∃(n:Nat) (s:W),x.rows[n]? = some s∧Bp a (r++[c])=n∧marks (CG te) x.cols (r++[c])=marks (CG te) x.cols s∧FP a (r++[c])=I9 te (r++[c])∧AV (Bl (AM te)) (r++[c])∧(r++[c]).length≤13:=by
  obtain ⟨hv,ho,hcl,rfl,hok,h1,h2,h3⟩:=VM h
  obtain ⟨a1,a2,a3,a4,a5⟩:=Ip hv
  have hm:=List.mem_of_getElem? hi
  have hw:=(a4.bd.onR r hm).1
  have hsh:=a4.short i r hi
  have hrl:=a4.rl
  have hlt:=(List.getElem?_eq_some_iff.1 hi).1
  have hon:AV (Bl (AM te)) (r++[c]):=Tq hw (fun d hd=>by simp at hd;subst hd;exact hc)
  have hln:(r++[c]).length≤13:=by simp;omega
  obtain ⟨s,hs,hms⟩:=hcl.idx hi hc
  have hru:runM (CG te) x 0 (r++[c])=DW (CG te) x (r++[c]):=by
    rw [Ou,hcl.at i r hi]
    show DW (CG te) x (x.rows.getD i []++[c])=_
    rw [List.getD_eq_getElem?_getD,hi];rfl
  refine ⟨DW (CG te) x (r++[c]),s,hs,?_,hms.symm,?_,hon,hln⟩
  · unfold Bp
    have hwi:within (r++[c]) (A1 (CG te) (AM te) x).al=true:=Fp hon (by omega) (Fc a1)
    rw [hok,hwi,Bool.true_and,if_pos rfl]
    exact (I0 hcl (r++[c]) 0 hon (by omega)).trans (by rw [hru])
  · rw [XE (Fc a1) hcl hrl (US (Fc a1) hon (by omega)),Ii a1 _ hon (by omega)]
    unfold Ux
    rw [hru,List.getD_eq_getElem?_getD,hs]
    have hc0:=hcl.c0
    have h9:=X4.1 hms [] (List.mem_of_getElem? hc0)
    rw [List.append_nil,List.append_nil] at h9
    exact h9
theorem Z5 {al:Int} {c:Nat} (hc:c < 6) (h:DK al c=true):lb c∈Bl al:=List.mem_map.2 ⟨(c:Int),EI.2 ⟨hc,h⟩,rfl⟩
theorem ZZ {tabs:List (Nat×Obj)} [DT ⟨tabs,none⟩] (b:List UInt8):Pure Tryz.prog ⟨tabs,none⟩ 9 [.o (.d (QR b))] (eB true):=by
  refine eG Tryz.func9 rfl (by kernel_rfl) rfl ?_;intro Γ hΓ
  (repeat first|refine sN rfl ?_ |refine tA rfl ?_ |refine s2 rfl fun _ _hb=>?_ |refine aU rfl ?_ |refine Aa ?_)
  (refine aC rfl ?_ ?_<;>rintro ⟨⟩)
  · (repeat first|refine tA rfl ?_ |refine aU rfl ?_ |refine Aa ?_)
    (subst_vars;exact aR ⟨_,rfl,rfl⟩)
  have hbl:b.length≤9223372036854775807:=by (simp only[oZ] at *;omega)
  refine aK ?_
  (repeat first|refine tA rfl ?_ |refine aU rfl ?_)
  (refine pW rfl ?_ rfl (by rfl);refine Ac [] rfl rfl (FG (TB:=⟨tabs,none⟩) b hbl) ⟨rfl,by decide,by decide⟩ rfl trivial ?_;rintro x0 σ1 nx1 ⟨te,x,hx,rfl,rfl,rfl⟩ _)
  have hz:=hx.sz (by omega) (by omega)
  have e1:=FJ (tabs:=tabs) (te:=te) x hz
  have e2:=Ih (Sh (TB:=⟨tabs,none⟩) te) x hz
  rw [Wl] at e2
  (repeat first|refine tA rfl ?_);refine Aa ?_;refine Aj.Az [0,1] [(3,.o (.ip (Jq te.kn te.p te.s te.q te.al))),(4,.o (.ip [AZ x.rows,AZ x.cols]))] ⟨⟨_,rfl,.inr (.o (.box rfl (ON.refl (Jq te.kn te.p te.s te.q te.al))))⟩,⟨_,rfl,.inr (.o (.box rfl (ON.refl [AZ x.rows,AZ x.cols])))⟩,trivial⟩ ?_
  cases hc:J0 te x with
  | none=>
    rw [hc] at e1 e2
    have ag:=GR (TB:=⟨tabs,none⟩) ⟨0,[],[]⟩ ⟨0,[],[]⟩
    rw [decide_eq_true ⟨rfl,rfl,rfl⟩] at ag
    (repeat first|refine tA rfl ?_ |refine sP rfl (e1) rfl ?_|refine sP rfl (e2) rfl ?_ |refine aU rfl ?_ |refine Aa ?_)
    (repeat' first|refine tA rfl ?_ |refine s2 rfl fun _ _hb=>?_ |refine sP rfl (e1) rfl ?_|refine sP rfl (e2) rfl ?_|refine sP rfl (ag) rfl ?_ |refine s3 rfl ?_ ?_<;>rintro rfl |refine aU rfl ?_ |refine Aa ?_|(refine aC rfl ?_ ?_<;>rintro ⟨⟩));all_goals try contradiction
    (subst_vars;exact aR ⟨_,rfl,rfl⟩)
  | some a =>
    obtain ⟨hv,ho,hcl,hae,hok,h1,h2,h3⟩:=VM hc
    obtain ⟨v1,v2,v3,hsh,v5⟩:=Ip hv
    have hrl:=hsh.rl
    have hsteps:=fun i r (hi:x.rows[i]? = some r) c hm=>Z6 hc hi (c:=c) hm
    rw [hc] at e1 e2
    have ag:=GR (TB:=⟨tabs,none⟩) a a
    rw [decide_eq_true ⟨rfl,rfl,rfl⟩] at ag
    (repeat first|refine tA rfl ?_ |refine sP rfl (e1) rfl ?_|refine sP rfl (e2) rfl ?_ |refine aU rfl ?_ |refine Aa ?_)
    (repeat' first|refine tA rfl ?_ |refine s2 rfl fun _ _hb=>?_ |refine sP rfl (e1) rfl ?_|refine sP rfl (e2) rfl ?_|refine sP rfl (ag) rfl ?_ |refine s3 rfl ?_ ?_<;>rintro rfl |refine aU rfl ?_ |refine Aa ?_|(refine aC rfl ?_ ?_<;>rintro ⟨⟩));all_goals try contradiction
    refine aK ?_
    (repeat first|refine tA rfl ?_ |refine aU rfl ?_ |refine Aa ?_)
    refine Aj.Az [2,3] [(3,.o (.ip (Jq te.kn te.p te.s te.q te.al))),(4,.o (.ip [AZ x.rows,AZ x.cols])),(5,.o (.ip [iD a.al,C1 a.nx,Ew a.ac])),(9,eI .i64 0)] ⟨⟨_,rfl,.inl rfl⟩,⟨_,rfl,.inl rfl⟩,⟨_,rfl,.inr (.o (.box rfl (ON.refl [iD a.al,C1 a.nx,Ew a.ac])))⟩,⟨_,rfl,.inl rfl⟩,trivial⟩ ?_
    refine aB ?_
    refine aL (α:={i:Nat // i≤x.rows.length}) [3,4,5] [] rfl rfl (fun ⟨i,hi⟩=>[(9,eI .i64 i)]) (fun ⟨i,hi⟩=>[]) 0 (fun ⟨i,hi⟩=>x.rows.length - i) (⟨0,by omega⟩) hΓ rfl (by (simp[cX,zC,hΓ])) ?_;rintro ⟨i,hi⟩;(try dsimp only[cA,cB])
    by_cases hlt:i < x.rows.length
    · obtain ⟨r,hr⟩:=get_some (l:=x.rows) (k:=i) hlt
      have hr':=get_map (g:=BH) hr
      have hrs:=hsh.short i r hr
      (repeat first|refine sN rfl ?_ |refine tA rfl ?_ |refine s2 rfl fun _ _hb=>?_ |refine aU rfl ?_ |refine Aa ?_)
      ((refine aC rfl ?_ ?_<;>rintro ⟨⟩);all_goals try(exfalso;(simp only[oZ] at *;omega)))
      refine aK ?_
      refine aS (aB ?_)
      (repeat first|refine tA rfl ?_ |refine aU rfl ?_ |refine Aa ?_)
      refine aB ?_
      refine aL (α:={c:Nat // c≤6}) [3,4,5,9] [] rfl rfl (fun ⟨c,hc6⟩=>[(10,eI .i64 c)]) (fun ⟨c,hc6⟩=>[]) 0 (fun ⟨c,hc6⟩=>6 - c) (⟨0,by omega⟩) hΓ rfl (by (simp[cX,zC,hΓ])) ?_;rintro ⟨c,hc6⟩;(try dsimp only[cA,cB])
      by_cases hlt6:c < 6
      · have eh:=Z2 (TB:=⟨tabs,none⟩) a.al c (by omega) (by omega)
        have el:=Z0 (TB:=⟨tabs,none⟩) c (by omega) (by omega)
        rw [Int.toNat_natCast] at eh
        by_cases hbt:DK a.al c=true
        · rw [hbt] at eh
          rw [h1] at hbt
          obtain ⟨n,s,hn,hst,hms,hac,hon,hln⟩:=hsteps i r hr (lb c) (Z5 hlt6 hbt)
          have hn':=get_map (g:=BH) hn
          have hnl:=(List.getElem?_eq_some_iff.1 hn).1
          have hss:=hsh.short n s hn
          have e6:=Gm (TB:=⟨tabs,none⟩) a (r++[lb c]) (by omega)
          rw [hst] at e6
          have e7:=UP (tabs:=tabs) (te:=te) x hz (r++[lb c]) (by omega)
          rw [Vv hv hon (by omega),hms] at e7
          have e8:=UP (tabs:=tabs) (te:=te) x hz s (by omega)
          rw [YD hv (List.mem_of_getElem? hn)] at e8
          have e9:=Jw (TB:=⟨tabs,none⟩) a (r++[lb c]) (by omega)
          rw [hac] at e9
          have e10:=HJ (tabs:=tabs) (te:=te) (r++[lb c]) (by omega)
          generalize marks (CG te) x.cols s=mm at *
          generalize I9 te (r++[lb c])=bb at *
          (repeat first|refine tA rfl ?_ |refine s2 rfl fun _ _hb=>?_ |refine aU rfl ?_ |refine Aa ?_)
          ((refine aC rfl ?_ ?_<;>rintro ⟨⟩);all_goals try(exfalso;(simp only[oZ] at *;omega)))
          refine aK ?_
          refine aS (aB ?_)
          (repeat first|refine tA rfl ?_ |refine s2 rfl fun _ _hb=>?_ |refine sP rfl (eh) rfl ?_ |refine aU rfl ?_ |refine Aa ?_)
          ((refine aC rfl ?_ ?_<;>rintro ⟨⟩);all_goals try (simp at _hb;done))
          refine aK ?_
          (repeat first|refine aU rfl ?_)
          refine rG (Hf []) (by kernel_rfl) ?_
          (repeat first|(refine sA rfl ?_ ?_;first|exact tI|simp only[oZ] at *;omega) |(refine s4 rfl ‹_› rfl ?_ ?_;omega) |refine sP rfl (el) rfl ?_ |refine aU rfl ?_ |refine Aa ?_)
          (repeat first|refine tA rfl ?_ |refine sP rfl (e6) rfl ?_ |refine aU rfl ?_ |refine Aa ?_)
          refine rG (Hf []) (by kernel_rfl) ?_
          (repeat' first|refine tA rfl ?_ |(refine s4 rfl ‹_› rfl ?_ ?_;omega) |refine s2 rfl fun _ _hb=>?_ |refine sP rfl (e7) rfl ?_|refine sP rfl (e8) rfl ?_|refine sP rfl (e9) rfl ?_|refine sP rfl (e10) rfl ?_ |refine s3 rfl ?_ ?_<;>rintro rfl |refine aU rfl ?_ |refine Aa ?_|(refine aC rfl ?_ ?_<;>rintro ⟨⟩));all_goals try contradiction
          all_goals try (exfalso;simp at *;done)
          all_goals
            refine aK ?_
            (repeat first|(refine sA rfl ?_ ?_;first|exact tI|omega) |refine aU rfl ?_ |refine Aa ?_)
            refine ⟨⟨c+1,by omega⟩,by dsimp only;(omega),[],?_⟩
            simp[cX,zC,hΓ]
        · rw [Bool.not_eq_true] at hbt
          rw [hbt] at eh
          (repeat first|refine tA rfl ?_ |refine s2 rfl fun _ _hb=>?_ |refine aU rfl ?_ |refine Aa ?_)
          ((refine aC rfl ?_ ?_<;>rintro ⟨⟩);all_goals try(exfalso;(simp only[oZ] at *;omega)))
          refine aK ?_
          refine aS (aB ?_)
          (repeat first|refine tA rfl ?_ |refine s2 rfl fun _ _hb=>?_ |refine sP rfl (eh) rfl ?_ |refine aU rfl ?_ |refine Aa ?_)
          ((refine aC rfl ?_ ?_<;>rintro ⟨⟩);all_goals try (simp at _hb;done))
          refine aE ?_
          (repeat first|(refine sA rfl ?_ ?_;first|exact tI|omega) |refine aU rfl ?_ |refine Aa ?_)
          refine ⟨⟨c+1,by omega⟩,by dsimp only;(omega),[],?_⟩
          simp[cX,zC,hΓ]
      · obtain rfl:c=6:=by omega
        (repeat first|refine tA rfl ?_ |refine s2 rfl fun _ _hb=>?_ |refine aU rfl ?_ |refine Aa ?_)
        ((refine aC rfl ?_ ?_<;>rintro ⟨⟩);all_goals try(exfalso;(simp only[oZ] at *;omega)))
        refine aE ?_
        (repeat first|(refine sA rfl ?_ ?_;first|exact tI|omega) |refine aU rfl ?_ |refine Aa ?_)
        refine ⟨⟨i+1,by omega⟩,by dsimp only;(omega),[],?_⟩
        simp[cX,zC,hΓ]
    · obtain rfl:i=x.rows.length:=by omega
      (repeat first|refine sN rfl ?_ |refine tA rfl ?_ |refine s2 rfl fun _ _hb=>?_ |refine aU rfl ?_ |refine Aa ?_)
      ((refine aC rfl ?_ ?_<;>rintro ⟨⟩);all_goals try(exfalso;(simp only[oZ] at *;omega)))
      refine aE ?_
      (repeat first|refine tA rfl ?_ |refine aU rfl ?_ |refine Aa ?_)
      (subst_vars;exact aR ⟨_,rfl,rfl⟩)
end Go.Am
