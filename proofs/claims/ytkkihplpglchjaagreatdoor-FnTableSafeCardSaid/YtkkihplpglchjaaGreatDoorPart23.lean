/-
  The law that rows of tables lead to themselves: walked.
-/
import Derived.Test.YtkkihplpglchjaaGreatDoorPart18
import Derived.Test.YtkkihplpglchjaaGreatDoorPart22
import Derived.Test.YtkkihplpglchjaaGreatDoorPart16
import Derived.Test.YtkkihplpglchjaaGreatDoorRows
import Derived.JoinedCond
import Derived.KernelRfl
set_option linter.constructorNameAsVariable false
set_option linter.unusedSimpArgs false
set_option linter.unusedVariables false
namespace Go.Am
open Go Go.Proofs
set_option maxHeartbeats 1000000
attribute [local irreducible] AR BZ Lex Bm Aj Spec
variable {tabs:List (Nat×Obj)}
theorem Wl (te:Dx) (x:A3):(if BU (I9 te) (Ij te) x then some (A1 (I9 te) (Ij te) x) else none)=J0 te x:=by
  rw [CR]
  cases hv:AL (I9 te) (Ij te) x
  · rw [Bool.false_and,if_neg Bool.false_ne_true]
    unfold J0
    rw [CR,←Bool.and_assoc,K9,hv];rfl
  · obtain ⟨h1,h2,h3,h4,h5⟩:=Ip hv
    rw [h2,Rv (Ii h1) h4.bd (by omega),Sm (Ii h1) h4.bd (by omega),Bool.true_and]
    unfold J0
    rw [CR,h1,h3,Bool.true_and,Bool.true_and]
theorem OX (te:Dx) (x:A3):(DH te && BU (CG te) (AM te) x)=(J0 te x).isSome:=by
  unfold J0
  cases DH te && BU (CG te) (AM te) x<;>rfl
theorem VM {te:Dx} {x:A3} {a:B6} (h:J0 te x=some a):AL (I9 te) (Ij te) x=true∧A9 (CG te) (Bl (AM te)) x=none∧CJ (CG te) (Bl (AM te)) x∧a=A1 (CG te) (AM te) x∧A6 a=true∧a.al=AM te∧a.nx.length=x.rows.length∧a.ac=x.rows.map (CG te):=by
  unfold J0 at h
  by_cases hc:(DH te && BU (CG te) (AM te) x)=true
  · rw [if_pos hc] at h
    injection h with h
    subst h
    rw [Bool.and_eq_true] at hc
    obtain ⟨c1,c2,c3⟩:=LK hc.2
    have hv:AL (I9 te) (Ij te) x=true:=by rw [←K9,hc.1,c1];rfl
    exact ⟨hv,c2,c3,rfl,P4 (Fc hc.1) c3 (BG c1).1.rl,rfl,by simp [A1],rfl⟩
  · rw [if_neg hc] at h;cases h
theorem UG {te:Dx} {x:A3} {a:B6} (h:J0 te x=some a) {i:Nat} {w:W} (hi:x.rows[i]? = some w):Bp a w=i∧CG te w=I9 te w:=by
  obtain ⟨hv,ho,hcl,rfl,hok,h1,h2,h3⟩:=VM h
  obtain ⟨a1,a2,a3,a4,a5⟩:=Ip hv
  have hm:=List.mem_of_getElem? hi
  have hw:=a4.bd.onR w hm
  have hsh:=a4.short i w hi
  have hrl:=a4.rl
  have hlt:=(List.getElem?_eq_some_iff.1 hi).1
  refine ⟨?_,(Ii a1 w hw.1 (by omega)).symm⟩
  unfold Bp
  have hwi:within w (A1 (CG te) (AM te) x).al=true:=Fp hw.1 (by omega) (Fc a1)
  rw [hok,hwi,Bool.true_and,if_pos rfl]
  exact (I0 hcl w 0 hw.1 (by omega)).trans (by rw [hcl.at i w hi])
theorem NY [DT ⟨tabs,none⟩] (b:List UInt8):Pure Tryz.prog ⟨tabs,none⟩ 8 [.o (.d (QR b))] (eB true):=by
  refine eG Tryz.func8 rfl (by kernel_rfl) rfl ?_;intro Γ hΓ
  (repeat first|refine sN rfl ?_ |refine tA rfl ?_ |refine s2 rfl fun _ _hb=>?_ |refine aU rfl ?_ |refine Aa ?_)
  (refine aC rfl ?_ ?_<;>rintro ⟨⟩)
  · (repeat first|refine tA rfl ?_ |refine aU rfl ?_ |refine Aa ?_)
    (subst_vars;exact aR ⟨_,rfl,rfl⟩)
  have hbl:b.length≤9223372036854775807:=by (simp only[oZ] at *;omega)
  refine aK ?_
  (repeat first|refine tA rfl ?_ |refine aU rfl ?_)
  (refine pW rfl ?_ rfl (by rfl);refine Ac [] rfl rfl (FG (TB:=⟨tabs,none⟩) b hbl) ⟨rfl,by decide,by decide⟩ rfl trivial ?_;rintro x0 σ1 nx1 ⟨te,x,hx,rfl,rfl,rfl⟩ _)
  have hz:=hx.sz (by omega) (by omega)
  have e1:=FJ (tabs:=tabs) (te:=te) x hz
  have e2:=Ih (Sh (TB:=⟨tabs,none⟩) te) x hz
  rw [Wl] at e2
  have e3:=Hh (tabs:=tabs) (te:=te) x hz
  rw [OX] at e3
  (repeat first|refine tA rfl ?_);refine Aa ?_;refine Aj.Az [0,1] [(3,.o (.ip (Jq te.kn te.p te.s te.q te.al))),(4,.o (.ip [AZ x.rows,AZ x.cols]))] ⟨⟨_,rfl,.inr (.o (.box rfl (ON.refl (Jq te.kn te.p te.s te.q te.al))))⟩,⟨_,rfl,.inr (.o (.box rfl (ON.refl [AZ x.rows,AZ x.cols])))⟩,trivial⟩ ?_
  cases hc:J0 te x with
  | none=>
    rw [hc] at e1 e2 e3
    have ag:=GR (TB:=⟨tabs,none⟩) ⟨0,[],[]⟩ ⟨0,[],[]⟩
    rw [decide_eq_true ⟨rfl,rfl,rfl⟩] at ag
    replace e3:Pure Tryz.prog ⟨tabs,none⟩ 42 [Cg te,Cn x] (eB false):=e3
    (repeat first|refine tA rfl ?_ |refine sP rfl (e1) rfl ?_|refine sP rfl (e2) rfl ?_ |refine aU rfl ?_ |refine Aa ?_)
    (repeat' first|refine tA rfl ?_ |refine s2 rfl fun _ _hb=>?_ |refine sP rfl (e1) rfl ?_|refine sP rfl (e2) rfl ?_|refine sP rfl (ag) rfl ?_|refine sP rfl (e3) rfl ?_ |refine s3 rfl ?_ ?_<;>rintro rfl |refine aU rfl ?_ |refine Aa ?_|(refine aC rfl ?_ ?_<;>rintro ⟨⟩));all_goals try contradiction
    (subst_vars;exact aR ⟨_,rfl,rfl⟩)
  | some a=>
    obtain ⟨hv,ho,hcl,hae,hok,h1,h2,h3⟩:=VM hc
    have hrow:=fun i w (hi:x.rows[i]? = some w)=>UG hc hi
    obtain ⟨v1,v2,v3,hsh,v5⟩:=Ip hv
    have hrl:=hsh.rl
    rw [hc] at e1 e2 e3
    replace e3:Pure Tryz.prog ⟨tabs,none⟩ 42 [Cg te,Cn x] (eB true):=e3
    have ag:=GR (TB:=⟨tabs,none⟩) a a
    rw [decide_eq_true ⟨rfl,rfl,rfl⟩] at ag
    have e4:=BP (TB:=⟨tabs,none⟩) a
    rw [hok] at e4
    have e5:=Ki (TB:=⟨tabs,none⟩) te
    rw [v2,←h1] at e5
    (repeat first|refine tA rfl ?_ |refine sP rfl (e1) rfl ?_|refine sP rfl (e2) rfl ?_ |refine aU rfl ?_ |refine Aa ?_)
    (repeat' first|refine tA rfl ?_ |refine s2 rfl fun _ _hb=>?_ |refine sP rfl (e1) rfl ?_|refine sP rfl (e2) rfl ?_|refine sP rfl (ag) rfl ?_|refine sP rfl (e3) rfl ?_ |refine s3 rfl ?_ ?_<;>rintro rfl |refine aU rfl ?_ |refine Aa ?_|(refine aC rfl ?_ ?_<;>rintro ⟨⟩));all_goals try contradiction
    refine aK ?_
    (repeat first|refine tA rfl ?_ |refine aU rfl ?_ |refine Aa ?_)
    refine Aj.Az [2,3] [(3,.o (.ip (Jq te.kn te.p te.s te.q te.al))),(4,.o (.ip [AZ x.rows,AZ x.cols])),(5,.o (.ip [iD a.al,C1 a.nx,Ew a.ac])),(9,eI .i64 0)] ⟨⟨_,rfl,.inl rfl⟩,⟨_,rfl,.inl rfl⟩,⟨_,rfl,.inr (.o (.box rfl (ON.refl [iD a.al,C1 a.nx,Ew a.ac])))⟩,⟨_,rfl,.inl rfl⟩,trivial⟩ ?_
    refine aB ?_
    refine aL (α:={i:Nat // i≤x.rows.length}) [3,4,5] [] rfl rfl (fun ⟨i,hi⟩=>[(9,eI .i64 i)]) (fun ⟨i,hi⟩=>[]) 0 (fun ⟨i,hi⟩=>x.rows.length - i) (⟨0,by omega⟩) hΓ rfl (by (simp[cX,zC,hΓ])) ?_;rintro ⟨i,hi⟩;(try dsimp only[cA,cB])
    by_cases hlt:i < x.rows.length
    · obtain ⟨w,hw⟩:=get_some (l:=x.rows) (k:=i) hlt
      have hw':=get_map (g:=BH) hw
      have hws:=hsh.short i w hw
      obtain ⟨r1,r2⟩:=hrow i w hw
      have e6:=Gm (TB:=⟨tabs,none⟩) a w (by omega)
      rw [r1] at e6
      have e7:=HJ (tabs:=tabs) (te:=te) w (by omega)
      rw [←r2] at e7
      have hac:a.ac[i]? = some (CG te w):=by rw [h3];simp [hw]
      have hac':=get_map (g:=HB) hac
      generalize CG te w=bb at *
      (repeat first|refine sN rfl ?_ |refine tA rfl ?_ |refine s2 rfl fun _ _hb=>?_ |refine aU rfl ?_ |refine Aa ?_)
      ((refine aC rfl ?_ ?_<;>rintro ⟨⟩);all_goals try(exfalso;(simp only[oZ] at *;omega)))
      refine aK ?_
      refine aS (aB ?_)
      (repeat first|refine aU rfl ?_)
      refine rG (Hf []) (by kernel_rfl) ?_
      (repeat' first|refine tA rfl ?_ |(refine s4 rfl ‹_› rfl ?_ ?_;omega) |refine s2 rfl fun _ _hb=>?_ |refine sP rfl (e6) rfl ?_|refine sP rfl (e7) rfl ?_ |refine s3 rfl ?_ ?_<;>rintro rfl |refine aU rfl ?_ |refine Aa ?_|(refine aC rfl ?_ ?_<;>rintro ⟨⟩));all_goals try contradiction
      all_goals try (exfalso;simp at *;done)
      refine aK ?_
      (repeat first|(refine sA rfl ?_ ?_;first|exact tI|omega) |refine aU rfl ?_ |refine Aa ?_)
      refine ⟨⟨i+1,by omega⟩,by dsimp only;(omega),[],?_⟩
      simp[cX,zC,hΓ]
    · obtain rfl:i=x.rows.length:=by omega
      (repeat first|refine sN rfl ?_ |refine tA rfl ?_ |refine s2 rfl fun _ _hb=>?_ |refine aU rfl ?_ |refine Aa ?_)
      ((refine aC rfl ?_ ?_<;>rintro ⟨⟩);all_goals try(exfalso;(simp only[oZ] at *;omega)))
      refine aE ?_
      (repeat first|refine aU rfl ?_)
      refine rG (Hf []) (by kernel_rfl) ?_
      (repeat' first|refine sN rfl ?_ |refine tA rfl ?_ |refine s2 rfl fun _ _hb=>?_ |refine sP rfl (e4) rfl ?_|refine sP rfl (e5) rfl ?_ |refine s3 rfl ?_ ?_<;>rintro rfl |refine Aa ?_|(refine aC rfl ?_ ?_<;>rintro ⟨⟩));all_goals try contradiction
      all_goals first| (exfalso;(simp only[oZ] at *;omega);done)|(refine aR ⟨_,rfl,?_⟩;subst_vars;simp [h2])
end Go.Am
namespace Go.Proofs.YtkkihplpglchjaaGreatDoor
open Go
theorem Uq:mapsRowed Tryz.prog=true:=by kernel_rfl
theorem Xp:(Tryz.prog.stops == [])=true:=by kernel_rfl
theorem Xn:(Tryz.prog.stopKnobs == [])=true:=by kernel_rfl
theorem Xm:Tryz.prog.stopsHeard=true:=by kernel_rfl
theorem Ur:(false == Tryz.prog.plainKeys)=true:=by kernel_rfl
end Go.Proofs.YtkkihplpglchjaaGreatDoor
