/-
  The reference's marks of a word for both kinds of teachers.
-/
import Derived.Test.YtkkihplpglchjaaGreatDoorPart27
import Derived.Test.YtkkihplpglchjaaGreatDoorPart18
import Derived.Test.YtkkihplpglchjaaGreatDoorPart23
import Derived.Test.YtkkihplpglchjaaGreatDoorPart17
import Derived.Test.YtkkihplpglchjaaGreatDoorPart12
import Derived.Test.YtkkihplpglchjaaGreatDoorPart13
import Derived.Test.YtkkihplpglchjaaGreatDoorPart11
import Derived.Test.YtkkihplpglchjaaGreatDoorPart14
set_option linter.constructorNameAsVariable false
set_option linter.unusedSimpArgs false
set_option linter.unusedVariables false
namespace Go.Am
open Go Go.Proofs
set_option maxHeartbeats 1000000
attribute [local irreducible] AU B3 Lex Br Ai Spec
variable {TB:Bc}
theorem aW {t:Da} {al:Int} {A:W→Bool} (hT:Hn Tryz.prog TB 60 101 t al A) (tab:AZ) (hz:NJ tab) (w:W) (hw:w.length≤4194304):Pure Tryz.prog TB 36 [BR t,BX tab,eT w] (eT (if (AG A al tab && Ga al w)=true then marks A tab.cols w else [])):=by
  have h1:=C7 hT tab hz
  have h2:=Ky hT w (by omega)
  have h3:=IT hT tab.cols w hz.cl (by omega) hz.cb
  generalize hv:AG A al tab=v at h1
  generalize hl:Ga al w=l at h2
  cases v <;> cases l<;>(
    refine eG Tryz.func36 rfl (by kernel_rfl) rfl ?_;intro Γ hΓ
    (repeat first|refine tA rfl ?_ |refine s2 rfl fun _ _hb=>?_ |refine sP rfl (h1) rfl ?_|refine sP rfl (h2) rfl ?_|refine sP rfl (h3) rfl ?_ |refine s3 rfl ?_ ?_<;>rintro rfl |refine aU rfl ?_ |refine Aa ?_)
    (repeat' first|refine tA rfl ?_ |refine s2 rfl fun _ _hb=>?_ |refine sP rfl (h1) rfl ?_|refine sP rfl (h2) rfl ?_|refine sP rfl (h3) rfl ?_ |refine aU rfl ?_ |refine Aa ?_|(refine aC rfl ?_ ?_<;>rintro ⟨⟩));all_goals try contradiction
    all_goals first
      | ((subst_vars;exact aR ⟨_,rfl,rfl⟩);done)
      | (refine aK ?_
         (repeat first|refine tA rfl ?_ |refine sP rfl (h3) rfl ?_ |refine aU rfl ?_ |refine Aa ?_)
         (subst_vars;exact aR ⟨_,rfl,rfl⟩)
         done))
theorem bh (te:Da) (x:AZ) (w:W):(if (AG (HH te) (Gb te) x && Ga (Gb te) w)=true then marks (HH te) x.cols w else [])=Up te x w:=by
  unfold Up
  rw [Ln]
  cases hv:AG (HH te) (Gb te) x
  · rw [Bool.false_and,Bool.false_and,if_neg Bool.false_ne_true,if_neg Bool.false_ne_true]
  · obtain ⟨h1,h2,h3,h4,h5⟩:=Ha hv
    rw [h2,Bool.true_and]
    cases hl:Ga (AF te) w
    · rw [if_neg Bool.false_ne_true,if_neg Bool.false_ne_true]
    · rw [if_pos rfl,if_pos rfl]
      unfold Ga at hl
      rw [Bool.and_eq_true,decide_eq_true_eq] at hl
      exact Mq (Le h1) (Cq hl.1) fun c hc=>⟨(h4.cw c hc).2,by have:=(h4.cw c hc).1;omega⟩
end Go.Am
namespace Go.Am
open Go Go.Proofs
set_option maxHeartbeats 1000000
attribute [local irreducible] AU B3 Lex Br Ai Spec
variable {tabs:List (Nat×Obj)}
theorem aX {te:Da} {x:AZ} {w:W} (h:Up te x w≠[]):AG (HH te) (Gb te) x=true∧Ga (Gb te) w=true∧Up te x w=marks (HH te) x.cols w:=by
  have h0:=bh te x w
  cases hv:AG (HH te) (Gb te) x
  · rw [hv,Bool.false_and,if_neg Bool.false_ne_true] at h0;exact absurd h0.symm h
  · cases hl:Ga (Gb te) w
    · rw [hl,Bool.and_false,if_neg Bool.false_ne_true] at h0;exact absurd h0.symm h
    · rw [hv,hl,Bool.true_and,if_pos rfl] at h0
      exact ⟨rfl,rfl,h0.symm⟩
end Go.Am
namespace Go.Am
open Go Go.Proofs
set_option maxHeartbeats 1000000
attribute [local irreducible] AU B3 Lex Br Ai Spec
variable {TB:Bc}
def aV (a:Ci) (st:Int):Gr:=⟨a.nx.length,fun x l=>[Dj a x.toNat l],fun x=>decide (x=st),Af a.al,0⟩
theorem bf {a:Ci} (ha:Bh a=true) (st:Int):NR (aV a st):=by
  have hh:=AX ha
  refine ⟨⟨Int.le_refl _,by show (0:Int) < ((a.nx.length:Nat):Int);omega⟩,fun x hx l hl y hy=>?_,KE _ _⟩
  have hl:=Bj (show l∈AB a.al 6 from hl)
  have hx:0≤x∧x < ((a.nx.length:Nat):Int):=hx
  have hy:y=Dj a x.toNat l:=by simpa [aV] using hy
  subst hy
  exact Gp ha (by omega) hl.1 (by omega)
theorem aN {a:Ci} (ha:Bh a=true) {st:Int}:∀ {w:List Int} {i x:Int},(∀l∈w,l∈Af a.al)→(0≤i∧i < a.nx.length)→(reach (aV a st) w i x↔x=CW a i (MI w))
  | [],i,x,_,_=>⟨fun h=>h.symm,fun h=>h.symm⟩
  | l :: w,i,x,hw,hi=>by
    have hl:=Bj (hw l (by simp))
    have h3:=Gp ha (q:=i.toNat) (by omega) hl.1 (by omega)
    have ih:=aN ha (st:=st) (w:=w) (x:=x) (fun m hm=>hw m (by simp [hm])) h3
    have e:CW a i (MI (l::w))=CW a (Dj a i.toNat l) (MI w):=by
      show CW a (Dj a i.toNat (((lb l).toNat:Int) - 97)) (MI w)=_
      rw [Px hl.1 (by omega)]
    rw [e,←ih]
    simp only [reach,aV,List.mem_singleton,exists_eq_left]
noncomputable def aY (a:Ci) (st:Int):Option (List Int):=if Bh a=true then X4 (aV a st) else none
theorem bj {a:Ci} (ha:Bh a=true) {w:W} (hw:AW (A6 a.al) w):∃v,aY a (CW a 0 w)=some v∧AW (A6 a.al) (MI v)∧CW a 0 (MI v)=CW a 0 w∧(MI v).length≤12:=by
  have hh:=AX ha
  have hg:=bf ha (CW a 0 w)
  have hi:=X5 (aV a (CW a 0 w))
  unfold aY
  rw [if_pos ha]
  cases hr:X4 (aV a (CW a 0 w)) with
  | none=>
    exfalso
    rw [hr] at hi
    obtain ⟨u,hu,rfl⟩:=ZM hw
    exact hi u hu ⟨CW a 0 (MI u),(aN ha (i:=0) hu ⟨by omega,by omega⟩).2 rfl,by simp [aV]⟩
  | some v=>
    rw [hr] at hi
    have hs:=hi.short hg
    obtain ⟨h1,⟨x,hx,hgx⟩,_⟩:=hi
    have h4:=(aN ha (i:=0) h1 ⟨by omega,by omega⟩).1 hx
    have h5:x=CW a 0 w:=by simpa [aV] using hgx
    have hs:v.length < a.nx.length:=hs
    exact ⟨v,rfl,Z0 h1,by rw [←h4,h5],by simp [MI];omega⟩
theorem aQ (st n:Int):Pure Tryz.prog TB 86 [eI .i64 n,.o (.ip [iD st])] (eB (decide (n=st))):=by
  refine eN Tryz.func86 rfl (by kernel_rfl) rfl ?_;intro Γ hΓ
  (repeat first|refine tA rfl ?_ |refine s2 rfl fun _ _hb=>?_ |refine aU rfl ?_ |refine Aa ?_)
  subst_vars
  refine aR ⟨_,rfl,rfl⟩
theorem ba {a:Ci} (ha:Bh a=true) {st:Int}:Wv Tryz.prog TB 3 (aV a st) 124 [.ip [.l (LN a)]]:=by
  intro node l outs hn hl hol
  have hl:=Bj (show l∈AB a.al 6 from hl)
  have hah:=AX ha
  have hn:0≤node∧node < ((a.nx.length:Nat):Int):=hn
  have hga:=Gp ha (q:=node.toNat) (by omega) hl.1 (by omega)
  have ta:=NC (a:=a) (q:=node.toNat) (by omega)
  have el:((l.toNat:Nat):Int)=l:=by omega
  have ra:=K0 (h:=fun l=>Dj a node.toNat l) hl.1 (by omega)
  simp only [el] at ra
  have hs:(aV a st).succ node l=[Dj a node.toNat l]:=rfl
  rw [hs]
  refine eN Tryz.func124 rfl (by kernel_rfl) rfl ?_;intro Γ hΓ
  (repeat first|(refine sA rfl ?_ ?_;first|exact tI|omega) |(refine s4 rfl ‹_› rfl ?_ ?_;omega)|(refine Ag rfl ?_;refine gA rfl ?_;first| refine gS (fun _ _=>Fj rfl ra) ?_) |refine aU rfl ?_ |refine Aa ?_)
  (refine pW rfl ?_ rfl (by rfl);refine Av rfl rfl rfl (by first| (simp;done)|(simp;(omega))) rfl (by intro r hr;simp at hr;subst hr;rfl) (by rfl) (Nat.le_of_ble_eq_true rfl) (by simp;omega) ?_)
  (repeat first|refine tA rfl ?_ |refine Aa ?_)
  refine aR ⟨_,rfl,by simp,rfl,by simp [kill]⟩
theorem aP {a:Ci} (ha:Bh a=true) (st:Int):Pure Tryz.prog TB 85 [BH a,.o (.fn 86 [.ip [iD st]])] (ZC (X4 (aV a st))):=by
  have hah:=AX ha
  have hta:=HG (TB:=TB) a ha
  have hlo:=Dp (TB:=TB) a.al
  have hfp:Pure Tryz.prog TB 123 [eI .i64 a.nx.length,A7 [0],A7 (Af a.al),.o (.fn 124 [.ip [.l (LN a)]]),.o (.fn 86 [.ip [iD st]])] (ZC (X4 (aV a st))):=
    U9 (bf ha st) (show a.nx.length≤1048576 by omega) (fun x hx=>by have:=Bj hx;omega) (AM _ 6) (fun node l hn hl=>by show 1≤a.nx.length;omega) (ba ha) (fun n hn=>aQ st n) rfl (fun r=>rfl) (fun r=>rfl) (X5 _)
  refine eN Tryz.func85 rfl (by kernel_rfl) rfl ?_;intro Γ hΓ
  (repeat first|refine tA rfl ?_ |refine sP rfl (hta) rfl ?_ |refine aU rfl ?_ |refine Aa ?_)
  have hlr:(List.range a.nx.length).length=a.nx.length:=List.length_range
  rw [←hlr] at hfp
  refine Ai.AD [0] [(1,.o (.fn 86 [.ip [iD st]])),(2,.o (.ip (BQ a))),(6,.o (.ip [.l (LN a)]))] ⟨⟨_,rfl,.inl rfl⟩,⟨_,rfl,.inl rfl⟩,⟨_,rfl,.inr (.o (.box rfl (Sh.refl [.l (LN a)])))⟩,trivial⟩ ?_
  refine rG (Jr []) (by kernel_rfl) ?_
  (repeat first|refine sN rfl ?_ |refine tA rfl ?_ |refine sP rfl (hlo) rfl ?_|refine sP rfl (hfp) rfl ?_ |refine Aa ?_)
  refine aR ⟨_,rfl,rfl⟩
theorem aM (a:Ci) (st:Int):Pure Tryz.prog TB 38 [BH a,eI .i64 st] (ZC (aY a st)):=by
  have h1:=Cu (TB:=TB) a
  unfold aY
  by_cases ha:Bh a=true
  · rw [if_pos ha]
    rw [ha] at h1
    have h2:=aP (TB:=TB) ha st
    refine eN Tryz.func38 rfl (by kernel_rfl) rfl ?_;intro Γ hΓ
    (repeat first|refine tA rfl ?_ |refine s2 rfl fun _ _hb=>?_ |refine sP rfl (h1) rfl ?_|refine sP rfl (h2) rfl ?_ |refine aU rfl ?_ |refine Aa ?_)
    (repeat' first|refine tA rfl ?_ |refine sP rfl (h1) rfl ?_|refine sP rfl (h2) rfl ?_ |refine aU rfl ?_ |refine Aa ?_|(refine aC rfl ?_ ?_<;>rintro ⟨⟩));all_goals try contradiction
    refine aK ?_
    (repeat first|refine tA rfl ?_ |refine sP rfl (h2) rfl ?_ |refine aU rfl ?_ |refine Aa ?_)
    refine aR ⟨_,rfl,rfl⟩
  · rw [if_neg ha]
    rw [Bool.not_eq_true] at ha
    rw [ha] at h1
    refine eN Tryz.func38 rfl (by kernel_rfl) rfl ?_;intro Γ hΓ
    (repeat first|refine tA rfl ?_ |refine s2 rfl fun _ _hb=>?_ |refine sP rfl (h1) rfl ?_ |refine aU rfl ?_ |refine Aa ?_)
    (repeat' first|refine tA rfl ?_ |refine sP rfl (h1) rfl ?_ |refine aU rfl ?_ |refine Aa ?_|(refine aC rfl ?_ ?_<;>rintro ⟨⟩));all_goals try contradiction
    refine aR ⟨_,rfl,rfl⟩
end Go.Am
namespace Go.Am
open Go Go.Proofs
set_option maxHeartbeats 1000000
attribute [local irreducible] AU B3 Lex Br Ai Spec
variable {tabs:List (Nat×Obj)}
theorem bk {te:Da} {x:AZ} {w:W} (hk:te.kn=true) (hv:AG (HH te) (Gb te) x=true) (hl:Ga (Gb te) w=true) :
    ∃v,aY te.p (BF te.p w)=some v∧(MI v).length≤12∧Up te x (MI v)=Up te x w:=by
  obtain ⟨h1,h2,h3,h4,h5⟩:=Ha hv
  rw [h2] at hl
  have hp:Bh te.p=true:=by unfold CP at h1;rw [if_pos hk] at h1;exact h1
  have hal:AF te=te.p.al:=by unfold AF;rw [if_pos hk]
  have hL:∀u,Cn te u=LA te.p u:=fun u=>by unfold Cn;rw [if_pos hk]
  unfold Ga at hl
  rw [Bool.and_eq_true,decide_eq_true_eq] at hl
  have hon:=Cq hl.1
  have hs:BF te.p w=CW te.p 0 w:=by
    unfold BF
    rw [hp,←hal,hl.1];rfl
  rw [hs]
  rw [hal] at hon
  obtain ⟨v,e1,e2,e3,e4⟩:=bj hp hon
  refine ⟨v,e1,e4,?_⟩
  rw [VP hv (by rw [hal];exact e2) (by omega),VP hv (by rw [hal];exact hon) hl.2]
  refine Yv.2 fun c hc=>?_
  rw [hL,hL]
  unfold LA
  rw [OP,OP,e3]
theorem aO [DZ ⟨tabs,none⟩] (b:List UInt8):Pure Tryz.prog ⟨tabs,none⟩ 7 [.o (.d (Lm b))] (eB true):=by
  refine eG Tryz.func7 rfl (by kernel_rfl) rfl ?_;intro Γ hΓ
  (repeat first|refine sN rfl ?_ |refine tA rfl ?_ |refine s2 rfl fun _ _hb=>?_ |refine aU rfl ?_ |refine Aa ?_)
  (refine aC rfl ?_ ?_<;>rintro ⟨⟩)
  · (repeat first|refine tA rfl ?_ |refine aU rfl ?_ |refine Aa ?_)
    (subst_vars;exact aR ⟨_,rfl,rfl⟩)
  have hbl:b.length≤9223372036854775807:=by (simp only[oZ] at *;omega)
  refine aK ?_
  (repeat first|refine tA rfl ?_ |refine aU rfl ?_)
  (refine pW rfl ?_ rfl (by rfl);refine Ac [] rfl rfl (UL (TB:=⟨tabs,none⟩) b hbl) ⟨rfl,by decide,by decide⟩ rfl trivial ?_;rintro x0 σ1 nx1 ⟨te,x,w,hx,hw,rfl,rfl,rfl⟩ _)
  have hz:=hx.sz (by omega) (by omega)
  have e1:=Vo (tabs:=tabs) (te:=te) x hz w (by omega)
  have e2:=aW (SE (TB:=⟨tabs,none⟩) te) x hz w (by omega)
  rw [bh] at e2
  (repeat first|refine tA rfl ?_);refine Aa ?_;refine Ai.AD [0,1] [(3,.o (.ip (MH te.kn te.p te.s te.q te.al))),(4,.o (.ip [AQ x.rows,AQ x.cols])),(5,eT w)] ⟨⟨_,rfl,.inr (.o (.box rfl (Sh.refl (MH te.kn te.p te.s te.q te.al))))⟩,⟨_,rfl,.inr (.o (.box rfl (Sh.refl [AQ x.rows,AQ x.cols])))⟩,⟨_,rfl,.inl rfl⟩,trivial⟩ ?_
  by_cases hr:Up te x w=[]
  · rw [hr] at e1 e2
    (repeat first|refine tA rfl ?_ |refine s2 rfl fun _ _hb=>?_ |refine sP rfl (e1) rfl ?_|refine sP rfl (e2) rfl ?_ |refine s3 rfl ?_ ?_<;>rintro rfl |refine aU rfl ?_ |refine Aa ?_)
    (repeat' first|refine tA rfl ?_ |refine s2 rfl fun _ _hb=>?_ |refine sP rfl (e1) rfl ?_|refine sP rfl (e2) rfl ?_ |refine s3 rfl ?_ ?_<;>rintro rfl |refine aU rfl ?_ |refine Aa ?_|(refine aC rfl ?_ ?_<;>rintro ⟨⟩));all_goals try contradiction
    all_goals try (exfalso;simp at *;done)
    all_goals (subst_vars;exact aR ⟨_,rfl,by simp⟩)
  · obtain ⟨hv,hl,_⟩:=aX hr
    have hnx:=bk (w:=w) (x:=x) (te:=te)
    have hro:=fun u hu=>Vo (tabs:=tabs) (te:=te) x hz u hu
    have e3:=La (TB:=⟨tabs,none⟩) te.p w (by omega)
    have e4:=aM (TB:=⟨tabs,none⟩) te.p (BF te.p w)
    obtain ⟨kn,p,sy,pq,al⟩:=te
    cases kn
    · generalize Up ⟨false,p,sy,pq,al⟩ x w=mm at *
      (repeat first|refine tA rfl ?_ |refine s2 rfl fun _ _hb=>?_ |refine sP rfl (e1) rfl ?_|refine sP rfl (e2) rfl ?_ |refine s3 rfl ?_ ?_<;>rintro rfl |refine aU rfl ?_ |refine Aa ?_)
      (repeat' first|refine tA rfl ?_ |refine s2 rfl fun _ _hb=>?_ |refine sP rfl (e1) rfl ?_|refine sP rfl (e2) rfl ?_ |refine s3 rfl ?_ ?_<;>rintro rfl |refine aU rfl ?_ |refine Aa ?_|(refine aC rfl ?_ ?_<;>rintro ⟨⟩));all_goals try contradiction
      all_goals try (exfalso;simp at *;done)
      all_goals (subst_vars;exact aR ⟨_,rfl,by simp⟩)
    · obtain ⟨v,f1,f2,f3⟩:=hnx rfl hv hl
      have e5:=hro (MI v) (by omega)
      rw [f3] at e5
      simp only at f1 e3 e4
      rw [f1] at e4
      generalize Up ⟨true,p,sy,pq,al⟩ x w=mm at *
      (repeat first|refine tA rfl ?_ |refine s2 rfl fun _ _hb=>?_ |refine sP rfl (e1) rfl ?_|refine sP rfl (e2) rfl ?_ |refine s3 rfl ?_ ?_<;>rintro rfl |refine aU rfl ?_ |refine Aa ?_)
      (repeat' first|refine tA rfl ?_ |refine s2 rfl fun _ _hb=>?_ |refine sP rfl (e1) rfl ?_|refine sP rfl (e2) rfl ?_ |refine s3 rfl ?_ ?_<;>rintro rfl |refine aU rfl ?_ |refine Aa ?_|(refine aC rfl ?_ ?_<;>rintro ⟨⟩));all_goals try contradiction
      all_goals try (exfalso;simp at *;done)
      all_goals try (subst_vars;exact aR ⟨_,rfl,by simp⟩)
      refine aK ?_
      (repeat first|refine tA rfl ?_ |refine sP rfl (e3) rfl ?_|refine sP rfl (e4) rfl ?_ |refine aU rfl ?_ |refine Aa ?_)
      (repeat' first|refine tA rfl ?_ |refine s2 rfl fun _ _hb=>?_ |refine sP rfl (e5) rfl ?_ |refine Aa ?_|(refine aC rfl ?_ ?_<;>rintro ⟨⟩));all_goals try contradiction
      refine aR ⟨_,rfl,?_⟩
      subst_vars;simp
end Go.Am
