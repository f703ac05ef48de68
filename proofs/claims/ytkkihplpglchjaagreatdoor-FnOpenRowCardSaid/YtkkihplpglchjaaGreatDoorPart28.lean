/-
  The law that open words have new marks: walked.
-/
import Derived.Test.YtkkihplpglchjaaGreatDoorPart27
import Derived.Test.YtkkihplpglchjaaGreatDoorPart18
import Derived.Test.YtkkihplpglchjaaGreatDoorPart23
set_option linter.constructorNameAsVariable false
set_option linter.unusedSimpArgs false
set_option linter.unusedVariables false
namespace Go.Am
open Go Go.Proofs
set_option maxHeartbeats 1000000
attribute [local irreducible] AU B3 Lex Br Ai Spec
variable {tabs:List (Nat×Obj)}
theorem aO {te:Da} {x:AZ} {w:W} (hv:AG (HH te) (Gb te) x=true) (ho:QF te x=some w):AW (A6 (AF te)) w∧w.length≤13∧w≠[]∧w.dropLast∈x.rows∧∀u∈x.rows,marks (Cn te) x.cols u≠marks (Cn te) x.cols w:=by
  obtain ⟨h1,h2,h3,h4,h5⟩:=Ha hv
  unfold QF at ho
  rw [h1,h3,Bool.true_and,if_pos rfl] at ho
  obtain ⟨⟨r,hr,l,hl,rfl⟩,hm⟩:=FG ho
  refine ⟨fun c hc=>?_,?_,by simp,by simpa using hr,fun u hu he=>hm ?_⟩
  · rcases List.mem_append.1 hc with h|h
    · exact (h4.rw r hr).2 c h
    · simp at h;subst h;exact hl
  · obtain ⟨i,hi,he⟩:=List.getElem_of_mem hr
    have:=h4.short i r (by rw [List.getElem?_eq_getElem hi,he])
    have:=h4.rl
    simp;omega
  · rw [←he]
    unfold AA
    exact List.mem_map_of_mem hu
theorem aM {te:Da} {x:AZ} {w:W} (ho:QF te x=some w):AG (HH te) (Gb te) x=true:=by
  cases h:AG (HH te) (Gb te) x
  · unfold QF at ho
    rw [Ln,h] at ho
    cases ho
  · rfl
end Go.Am
namespace Go.Am
open Go Go.Proofs
set_option maxHeartbeats 1000000
attribute [local irreducible] AU B3 Lex Br Ai Spec
variable {tabs:List (Nat×Obj)}
theorem aQ {te:Da} {x:AZ} {n:Nat} (h:AG (HH te) (Gb te) x=true) (h1:1≤n):AG (HH te) (Gb te) ⟨x.rows.take n,x.cols⟩=true:=by
  obtain ⟨a1,a2,a3,a4,a5⟩:=Ha h
  rw [←Ln,a1,Bool.true_and]
  have k:=PY a3
  have hrl:=a4.rl
  refine XT (Fq a1) a4.pos ⟨by rw [List.getElem?_take_of_lt (by omega)];exact k.r0,k.c0,fun i w hi hp=>?_,fun w hw=>k.onR w (List.mem_of_mem_take hw),k.onC,?_,k.ndC⟩ (by simp;omega) a4.cl (fun w hw=>(a4.rw w (List.mem_of_mem_take hw)).1) (fun w hw=>(a4.cw w hw).1)
  · have hin:i < n:=by have:=(List.getElem?_eq_some_iff.1 hi).1;simp at this;omega
    rw [List.getElem?_take_of_lt hin] at hi
    obtain ⟨q1,j,q2,q3⟩:=k.pre i w hi hp
    exact ⟨q1,j,q2,by rw [List.getElem?_take_of_lt (by omega)];exact q3⟩
  · unfold AA at a5 ⊢
    rw [List.map_take]
    exact a5.sublist (List.take_sublist _ _)
theorem aP {te:Da} {x:AZ} {w:W} (ho:QF te x=some w) (hl:x.rows.length≠12):AG (HH te) (Gb te) ⟨x.rows++[w],x.cols⟩=true:=by
  have h:=aM ho
  obtain ⟨f1,f2,f3,f4,f5⟩:=aO h ho
  obtain ⟨a1,a2,a3,a4,a5⟩:=Ha h
  rw [←Ln,a1,Bool.true_and]
  have hrl:=a4.rl
  unfold QF at ho
  rw [a1,a3,Bool.true_and,if_pos rfl] at ho
  refine XT (Fq a1) a4.pos ((PY a3).push ho) (by simp;omega) a4.cl (fun u hu=>?_) (fun u hu=>(a4.cw u hu).1)
  rcases List.mem_append.1 hu with hu|hu
  · exact (a4.rw u hu).1
  · simp at hu;subst hu;omega
theorem aV [DZ ⟨tabs,none⟩] (b:List UInt8):Pure Tryz.prog ⟨tabs,none⟩ 3 [.o (.d (Lm b))] (eB true):=by
  refine eG Tryz.func3 rfl (by kernel_rfl) rfl ?_;intro Γ hΓ
  (repeat first|refine sN rfl ?_ |refine tA rfl ?_ |refine s2 rfl fun _ _hb=>?_ |refine aU rfl ?_ |refine Aa ?_)
  (refine aC rfl ?_ ?_<;>rintro ⟨⟩)
  · (repeat first|refine tA rfl ?_ |refine aU rfl ?_ |refine Aa ?_)
    (subst_vars;exact aR ⟨_,rfl,rfl⟩)
  have hbl:b.length≤9223372036854775807:=by (simp only[oZ] at *;omega)
  refine aK ?_
  (repeat first|refine tA rfl ?_ |refine aU rfl ?_)
  (refine pW rfl ?_ rfl (by rfl);refine Ac [] rfl rfl (P6 (TB:=⟨tabs,none⟩) b hbl) ⟨rfl,by decide,by decide⟩ rfl trivial ?_;rintro x0 σ1 nx1 ⟨te,x,hx,rfl,rfl,rfl⟩ _)
  have hz:=hx.sz (by omega) (by omega)
  have e1:=Qq (tabs:=tabs) (te:=te) x hz
  have e2:=C7 (SE (TB:=⟨tabs,none⟩) te) x hz
  rw [Ln] at e1
  (repeat first|refine tA rfl ?_);refine Aa ?_;refine Ai.AD [0,1] [(3,.o (.ip (MH te.kn te.p te.s te.q te.al))),(4,.o (.ip [AQ x.rows,AQ x.cols]))] ⟨⟨_,rfl,.inr (.o (.box rfl (Sh.refl (MH te.kn te.p te.s te.q te.al))))⟩,⟨_,rfl,.inr (.o (.box rfl (Sh.refl [AQ x.rows,AQ x.cols])))⟩,trivial⟩ ?_
  by_cases hv:AG (HH te) (Gb te) x=true
  · rw [hv] at e1 e2
    obtain ⟨hok,hI,hv2,hsh,hnd⟩:=Ha hv
    have hrl:=hsh.rl
    have hcl:=hsh.cl
    have hr1:=hsh.r1
    have hc1:=hsh.c1
    (repeat first|refine tA rfl ?_ |refine s2 rfl fun _ _hb=>?_ |refine sP rfl (e1) rfl ?_|refine sP rfl (e2) rfl ?_ |refine s3 rfl ?_ ?_<;>rintro rfl |refine aU rfl ?_ |refine Aa ?_)
    (repeat' first|refine sN rfl ?_ |refine tA rfl ?_ |refine s2 rfl fun _ _hb=>?_ |refine sP rfl (e1) rfl ?_|refine sP rfl (e2) rfl ?_ |refine s3 rfl ?_ ?_<;>rintro rfl |refine aU rfl ?_ |refine Aa ?_|(refine aC rfl ?_ ?_<;>rintro ⟨⟩));all_goals try contradiction
    · (subst_vars;exact aR ⟨_,rfl,rfl⟩)
    have h2:2≤x.rows.length:=by (simp only[oZ] at *;omega)
    have hv3:=aQ (n:=x.rows.length - 1) hv (by omega)
    have e3:=Qq (tabs:=tabs) (te:=te) _ (Zb hv3)
    have hrsl:(x.rows.take (x.rows.length - 1)).length≤12:=by simp;omega
    rw [Ln,hv3] at e3
    refine aK ?_
    (repeat first|refine aU rfl ?_)
    refine R.RQ [(0,2),(1,2),(2,2),(3,2),(4,2),(5,2),(6,2),(7,2),(9,2),(10,2),(11,2),(14,3),(8,1),(12,1),(13,2),(15,5)] mixed (by kernel_rfl) rfl (by kernel_rfl) ?_
    (repeat ((refine R.Ag rfl ?_;first|(refine R.yQ (md:=false) rfl rfl rfl ?_ ?_;first|exact tI|simp only[oZ] at *;omega) |refine R.yP rfl rfl rfl rfl ?_|refine R.CU (fun _ _ _=>DF (by rfl) (by rfl)) rfl rfl ?_|refine R.CU (fun _ _ _=>GW rfl rfl (by simp) (by (simp only[oZ] at *;omega)) (by omega)) rfl rfl ?_ )))
    have htk:(x.rows.map BI).take ((((x.rows.map BI).length:Nat):Int) - 1).toNat=(x.rows.take (x.rows.length - 1)).map BI:=by
      rw [List.map_take,List.length_map];congr 1;omega
    rw [htk]
    have hnn:1≤(x.rows.take (x.rows.length - 1)).length:=by simp;omega
    generalize x.rows.take (x.rows.length - 1)=rs at *
    (refine R.Ag rfl ?_;refine R.He (fun _=>?_) rfl rfl;refine Ce rfl rfl rfl (by intro r hr;simp at hr;obtain ⟨_,_,rfl⟩:=hr;rfl) (by rfl) (Nat.le_of_ble_eq_true rfl) (by simp;omega) (fun h=>?_) (fun _=>?_))
    · exfalso;simp at h;rw [h] at hnn;simp at hnn
    (repeat ((refine R.Ag rfl ?_;first| refine R.CU (fun _ _ _=>DF (by rfl) (by rfl)) rfl rfl ?_ )))
    (refine R.Ag rfl ?_;refine R.He (fun _=>?_) rfl rfl;refine Ce rfl rfl rfl (by intro r hr;simp at hr;obtain ⟨_,_,rfl⟩:=hr;rfl) (by rfl) (Nat.le_of_ble_eq_true rfl) (by simp;omega) (fun h=>?_) (fun _=>?_))
    · exfalso;simp at h;rw [h] at hc1;simp at hc1
    (repeat ((refine R.Ag rfl ?_;first|refine R.yA rfl rfl rfl rfl ?_|refine R.CU (fun _ _ _=>Au rfl rfl (by rfl) (by rfl)) rfl rfl ?_ )))
    refine R.LB ?_
    refine aS ?_
    refine Ai.Ak [3] [] rfl rfl [(6,.o (.ptr 0 2 0 0))] [(0,.cells 36 2 [[.arr 1 1 0 rs.length,.arr 2 1 0 x.cols.length]]),(1,.cells 9 1 (rs.map AH)),(2,.cells 9 1 (x.cols.map AH))] [4,2,3] (rl hΓ rfl) (by (simp[cX,zC,hΓ,cN,Ae,BK,eC,Function.comp_def])) ?_;(try dsimp only[cA,cB])
    refine Ai.AD [0,1,2] [(3,.o (.ip (MH te.kn te.p te.s te.q te.al))),(6,.o (.ip [AQ rs,AQ x.cols]))] ⟨⟨_,rfl,.inl rfl⟩,⟨_,rfl,.inr (.o (.box rfl (.cons (.full rfl (by simp [Function.comp_def]) (by simp)) (.cons (.full rfl (by simp [Function.comp_def]) (by simp)) .nil))))⟩,trivial⟩ ?_
    (repeat first|refine tA rfl ?_ |refine sP rfl (e3) rfl ?_ |refine aU rfl ?_ |refine Aa ?_)
    (subst_vars;exact aR ⟨_,rfl,rfl⟩)
  · rw [Bool.not_eq_true] at hv
    rw [hv] at e1 e2
    (repeat first|refine tA rfl ?_ |refine s2 rfl fun _ _hb=>?_ |refine sP rfl (e1) rfl ?_|refine sP rfl (e2) rfl ?_ |refine s3 rfl ?_ ?_<;>rintro rfl |refine aU rfl ?_ |refine Aa ?_)
    (repeat' first|refine sN rfl ?_ |refine tA rfl ?_ |refine s2 rfl fun _ _hb=>?_ |refine sP rfl (e1) rfl ?_|refine sP rfl (e2) rfl ?_ |refine s3 rfl ?_ ?_<;>rintro rfl |refine aU rfl ?_ |refine Aa ?_|(refine aC rfl ?_ ?_<;>rintro ⟨⟩));all_goals try contradiction
    (subst_vars;exact aR ⟨_,rfl,rfl⟩)
theorem aN [DZ ⟨tabs,none⟩] (b:List UInt8):Pure Tryz.prog ⟨tabs,none⟩ 4 [.o (.d (Lm b))] (eB true):=by
  refine eG Tryz.func4 rfl (by kernel_rfl) rfl ?_;intro Γ hΓ
  (repeat first|refine sN rfl ?_ |refine tA rfl ?_ |refine s2 rfl fun _ _hb=>?_ |refine aU rfl ?_ |refine Aa ?_)
  (refine aC rfl ?_ ?_<;>rintro ⟨⟩)
  · (repeat first|refine tA rfl ?_ |refine aU rfl ?_ |refine Aa ?_)
    (subst_vars;exact aR ⟨_,rfl,rfl⟩)
  have hbl:b.length≤9223372036854775807:=by (simp only[oZ] at *;omega)
  refine aK ?_
  (repeat first|refine tA rfl ?_ |refine aU rfl ?_)
  (refine pW rfl ?_ rfl (by rfl);refine Ac [] rfl rfl (Rg (TB:=⟨tabs,none⟩) b hbl) ⟨rfl,by decide,by decide⟩ rfl trivial ?_;rintro x0 σ1 nx1 ⟨te,x,hx,rfl,rfl,rfl⟩ _)
  have hz:=hx.sz (by omega) (by omega)
  have e1:=Rz (tabs:=tabs) (te:=te) x hz
  have e2:=Hi (SE (TB:=⟨tabs,none⟩) te) x hz
  rw [Zn] at e2
  (repeat first|refine tA rfl ?_);refine Aa ?_;refine Ai.AD [0,1] [(3,.o (.ip (MH te.kn te.p te.s te.q te.al))),(4,.o (.ip [AQ x.rows,AQ x.cols]))] ⟨⟨_,rfl,.inr (.o (.box rfl (Sh.refl (MH te.kn te.p te.s te.q te.al))))⟩,⟨_,rfl,.inr (.o (.box rfl (Sh.refl [AQ x.rows,AQ x.cols])))⟩,trivial⟩ ?_
  cases hc:QF te x with
  | none=>
    rw [hc] at e1 e2
    (repeat first|refine tA rfl ?_ |refine s2 rfl fun _ _hb=>?_ |refine sP rfl (e1) rfl ?_|refine sP rfl (e2) rfl ?_ |refine s3 rfl ?_ ?_<;>rintro rfl |refine aU rfl ?_ |refine Aa ?_)
    (repeat' first|refine sN rfl ?_ |refine tA rfl ?_ |refine s2 rfl fun _ _hb=>?_ |refine sP rfl (e1) rfl ?_|refine sP rfl (e2) rfl ?_ |refine s3 rfl ?_ ?_<;>rintro rfl |refine aU rfl ?_ |refine Aa ?_|(refine aC rfl ?_ ?_<;>rintro ⟨⟩));all_goals try contradiction
    all_goals try (exfalso;simp at *;done)
    (subst_vars;exact aR ⟨_,rfl,rfl⟩)
  | some w=>
    have hv:=aM hc
    obtain ⟨h1,h2,h3,hsh,h5⟩:=Ha hv
    have hrl:=hsh.rl
    have hcl:=hsh.cl
    have hr1:=hsh.r1
    have hc1:=hsh.c1
    have hpu:=aP hc
    rw [hc] at e1 e2
    (repeat first|refine tA rfl ?_ |refine s2 rfl fun _ _hb=>?_ |refine sP rfl (e1) rfl ?_|refine sP rfl (e2) rfl ?_ |refine s3 rfl ?_ ?_<;>rintro rfl |refine aU rfl ?_ |refine Aa ?_)
    (repeat' first|refine sN rfl ?_ |refine tA rfl ?_ |refine s2 rfl fun _ _hb=>?_ |refine sP rfl (e1) rfl ?_|refine sP rfl (e2) rfl ?_ |refine s3 rfl ?_ ?_<;>rintro rfl |refine aU rfl ?_ |refine Aa ?_|(refine aC rfl ?_ ?_<;>rintro ⟨⟩));all_goals try contradiction
    all_goals try (exfalso;simp at *;done)
    · (subst_vars;exact aR ⟨_,rfl,rfl⟩)
    have hne:x.rows.length≠12:=by (simp only[oZ] at *;omega)
    have hv3:=hpu hne
    have e3:=Qq (tabs:=tabs) (te:=te) _ (Zb hv3)
    rw [Ln,hv3] at e3
    refine aK ?_
    (repeat first|refine aU rfl ?_)
    refine R.RQ [(0,2),(1,2),(2,2),(4,2),(5,2),(7,2),(8,2),(9,2),(12,3),(3,1),(6,1),(10,1),(11,2),(13,5)] mixed (by kernel_rfl) rfl (by kernel_rfl) ?_
    (repeat ((refine R.Ag rfl ?_;first|(refine R.yQ (md:=false) rfl rfl rfl ?_ ?_;exact tI) |refine R.yP rfl rfl rfl rfl ?_|refine R.CU (fun _ _ _=>DF (by rfl) (by rfl)) rfl rfl ?_|refine R.CU (fun _ _ _=>Gy rfl rfl rfl rfl rfl (by rfl) (by rfl) (by rfl) (by rfl) (by rfl)) rfl rfl ?_ )))
    (refine R.Ag rfl ?_;refine R.He (fun _=>?_) rfl rfl;refine Ce rfl rfl rfl (by intro r hr;simp at hr;obtain ⟨_,_,rfl⟩:=hr;rfl) (by rfl) (Nat.le_of_ble_eq_true rfl) (by simp;omega) (fun h=>?_) (fun _=>?_))
    · exfalso;simp at h;rw [h] at hr1;simp at hr1
    (refine R.Ag rfl ?_;refine R.He (fun _=>?_) rfl rfl;refine Av rfl rfl rfl (by simp) rfl (by intro r hr;simp at hr;subst hr;rfl) (by rfl) (Nat.le_of_ble_eq_true rfl) (by simp;omega) ?_)
    (repeat ((refine R.Ag rfl ?_;first| refine R.CU (fun _ _ _=>DF (by rfl) (by rfl)) rfl rfl ?_ )))
    (refine R.Ag rfl ?_;refine R.He (fun _=>?_) rfl rfl;refine Ce rfl rfl rfl (by intro r hr;simp at hr;obtain ⟨_,_,rfl⟩:=hr;rfl) (by rfl) (Nat.le_of_ble_eq_true rfl) (by simp;omega) (fun h=>?_) (fun _=>?_))
    · exfalso;simp at h;rw [h] at hc1;simp at hc1
    (repeat ((refine R.Ag rfl ?_;first|refine R.yA rfl rfl rfl rfl ?_|refine R.CU (fun _ _ _=>Au rfl rfl (by rfl) (by rfl)) rfl rfl ?_ )))
    refine R.LB ?_
    refine aS ?_
    refine Ai.Ak [3] [] rfl rfl [(9,.o (.ptr 0 2 0 0))] [(0,.cells 36 2 [[.arr 1 1 0 (x.rows++[w]).length,.arr 2 1 0 x.cols.length]]),(1,.cells 9 1 ((x.rows++[w]).map AH)),(2,.cells 9 1 (x.cols.map AH))] [5,3,4] (rl hΓ rfl) (by (simp[cX,zC,hΓ,cN,Ae,BK,eC,Function.comp_def])) ?_;(try dsimp only[cA,cB])
    refine Ai.AD [0,1,2] [(3,.o (.ip (MH te.kn te.p te.s te.q te.al))),(9,.o (.ip [AQ (x.rows++[w]),AQ x.cols]))] ⟨⟨_,rfl,.inl rfl⟩,⟨_,rfl,.inr (.o (.box rfl (.cons (.full rfl (by simp [Function.comp_def]) (by simp)) (.cons (.full rfl (by simp [Function.comp_def]) (by simp)) .nil))))⟩,trivial⟩ ?_
    (repeat first|refine tA rfl ?_ |refine sP rfl (e3) rfl ?_ |refine aU rfl ?_ |refine Aa ?_)
    (subst_vars;exact aR ⟨_,rfl,rfl⟩)
end Go.Am
