/-
  An automaton as a text, walked: any text that is not too long will do.
-/
import Derived.Test.YtainaphkaklkmaaGreatDoorPart14
import Derived.Test.YtainaphkaklkmaaGreatDoorPart10
import Derived.Test.YtainaphkaklkmaaGreatDoorPart8
set_option linter.constructorNameAsVariable false
set_option linter.unusedSimpArgs false
set_option linter.unusedVariables false
namespace Go.Am
open Go Go.Proofs
set_option maxHeartbeats 1000000
attribute [local irreducible] QOp AOp Lex LexO AWp Spec
variable {TB:List (Nat×Obj)}
theorem FormatAutomaton_ok (a:Aut):Spec Tryz.prog TB 88 [] 0 [eAut a] (AnyPost (fun r:W=>r.length≤1000) eT):=by
  refine SpecK.toSpec (SpecK.ren (SpecK.ofG (Nat.le_refl _) Tryz.func88 rfl (by kernel_rfl) (Nat.le_of_ble_eq_true rfl) ?_));intro Γ hΓ
  (repeat first|refine sN rfl ?_|((first|refine sA rfl ?_ ?_|refine s4 rfl ‹_› rfl ?_ ?_);first|exact tI|omega|(simp only[oZ] at *;omega))|(refine s2 rfl ?_;intro _ _hb) |(refine sC rfl (specAutomatonValid_ok a) ?_;intro _ _hb)|(refine s3 rfl ?_ ?_<;>intro hb<;>subst hb)|refine aS ?_|refine reg (by kernel_rfl) ?_|refine lexE ?_)
  (refine aC rfl ?_ ?_<;>intro hb<;>cases hb)
  · (repeat first|refine sN rfl ?_|((first|refine sA rfl ?_ ?_|refine s4 rfl ‹_› rfl ?_ ?_);first|exact tI|omega|(simp only[oZ] at *;omega))|(refine s2 rfl ?_;intro _ _hb)|(refine s3 rfl ?_ ?_<;>intro hb<;>subst hb)|refine aS ?_|refine reg (by kernel_rfl) ?_|refine lexE ?_)
    exact AWp.ret ⟨_,rfl,[],eT [],[],⟨fun i hi=>absurd hi (Nat.not_lt_zero i),List.nodup_nil⟩,rfl,trivial,[],Nat.zero_le _,rfl,rfl,rfl⟩
  have hok:autOk a=true:=by (simp at _hb;subst _hb;assumption)
  obtain ⟨_,hn1,hn2,hac⟩:=autOk_head hok
  have hla:(letters a.al).length≤6:=lettersTo_len a.al 6
  refine AWp.skip ?_
  (repeat first|refine sN rfl ?_|((first|refine sA rfl ?_ ?_|refine s4 rfl ‹_› rfl ?_ ?_);first|exact tI|omega|(simp only[oZ] at *;omega))|(refine s2 rfl ?_;intro _ _hb)|(refine s3 rfl ?_ ?_<;>intro hb<;>subst hb)|refine aS ?_|refine reg (by kernel_rfl) ?_|refine lexE ?_)
  (refine popO rfl ?_;refine popW ?_ rfl (by rfl);refine n_call [] rfl rfl (FormatAlphabet_ok (TB:=TB) a.al) ⟨rfl,by decide,by decide⟩ rfl trivial ?_;rintro x0 σ1 nx1 ⟨w0,hw0,rfl,rfl,rfl⟩ _)
  (repeat first|refine sN rfl ?_|((first|refine sA rfl ?_ ?_|refine s4 rfl ‹_› rfl ?_ ?_);first|exact tI|omega|(simp only[oZ] at *;omega))|(refine s2 rfl ?_;intro _ _hb)|(refine s3 rfl ?_ ?_<;>intro hb<;>subst hb)|refine aS ?_|refine reg (by kernel_rfl) ?_|refine lexE ?_)
  refine aB ?_
  refine AWp.loopV (α:={z:Nat×W // z.1≤a.nx.length∧z.2.length≤6+30*z.1}) [1] [] rfl rfl (fun s=>[(3,eT s.1.2),(4,eI .i64 s.1.1)]) (fun s=>[]) 0 (fun s=>a.nx.length - s.1.1) (⟨⟨0,w0⟩,by simp;omega⟩) (List.range 0) (by first|(simp [hΓ];done)|(rw [hΓ];decide)) (by (repeat' (first|exact trivial|rfl|refine And.intro ?_ ?_))<;>(simp [EnvSub,StoreSub,look_cons,nm,nmo,E.ren,C.ren,C.renL,O.ren,Store.ren,killc,kill0,killL,kill,fillC,spliceC,eC,Function.comp_def,argsFrom,zC,hΓ]<;>rfl)) ?_;rintro ⟨⟨k,w⟩,hk,hw⟩;(try dsimp only [List.cons_append,List.nil_append])
  have hk:k≤a.nx.length:=hk
  have hw:w.length≤6+30*k:=hw
  (repeat first|refine sN rfl ?_|((first|refine sA rfl ?_ ?_|refine s4 rfl ‹_› rfl ?_ ?_);first|exact tI|omega|(simp only[oZ] at *;omega))|(refine s2 rfl ?_;intro _ _hb)|(refine s3 rfl ?_ ?_<;>intro hb<;>subst hb)|refine aS ?_|refine reg (by kernel_rfl) ?_|refine lexE ?_)
  ((refine aC rfl ?_ ?_<;>intro hb<;>cases hb);all_goals try (simp at _hb;done))
  · have hlt:k < a.nx.length:=by first|omega|(simp only [oZ] at *;omega)
    obtain ⟨row,hrow,hrl,hrv⟩:=autOk_row hok hlt
    have hrow':=get_map (g:=fun r:List Int=>[iList r]) hrow
    obtain ⟨b,hb⟩:=get_some (l:=a.ac) (k:=k) (by omega)
    have hb':=get_map (g:=bRow) hb
    refine AWp.skip ?_
    refine AWp.seq (AWp.block ?_)
    (repeat first|refine sN rfl ?_|((first|refine sA rfl ?_ ?_|refine s4 rfl ‹_› rfl ?_ ?_);first|exact tI|omega|(simp only[oZ] at *;omega))|(refine s2 rfl ?_;intro _ _hb)|(refine s3 rfl ?_ ?_<;>intro hb<;>subst hb)|refine aS ?_|refine reg (by kernel_rfl) ?_|refine lexE ?_)
    (refine aC rfl ?_ ?_<;>intro hb<;>cases hb)
    · (repeat first|refine sN rfl ?_|((first|refine sA rfl ?_ ?_|refine s4 rfl ‹_› rfl ?_ ?_);first|exact tI|omega|(simp only[oZ] at *;omega))|(refine s2 rfl ?_;intro _ _hb)|(refine s3 rfl ?_ ?_<;>intro hb<;>subst hb)|refine aS ?_|refine reg (by kernel_rfl) ?_|refine lexE ?_)
      refine aB ?_
      refine AWp.loopV (α:={z:Nat×W // z.1≤row.length∧z.2.length≤8+30*k+4*z.1}) [1,4] [] rfl rfl (fun s=>[(3,eT s.1.2),(6,eI .i64 s.1.1)]) (fun s=>[]) 0 (fun s=>row.length - s.1.1) (⟨⟨0,w++[32,43]⟩,by dsimp only;omega,by simp;omega⟩) (List.range 0) (by first|(simp [hΓ];done)|(rw [hΓ];decide)) (by (repeat' (first|exact trivial|rfl|refine And.intro ?_ ?_))<;>(simp [EnvSub,StoreSub,look_cons,nm,nmo,E.ren,C.ren,C.renL,O.ren,Store.ren,killc,kill0,killL,kill,fillC,spliceC,eC,Function.comp_def,argsFrom,zC,hΓ]<;>rfl)) ?_;rintro ⟨⟨j,v⟩,hj,hv⟩;(try dsimp only [List.cons_append,List.nil_append])
      have hj:j≤row.length:=hj
      have hv:v.length≤8+30*k+4*j:=hv
      (repeat first|refine sN rfl ?_|((first|refine sA rfl ?_ ?_|refine s4 rfl ‹_› rfl ?_ ?_);first|exact tI|omega|(simp only[oZ] at *;omega))|(refine s2 rfl ?_;intro _ _hb)|(refine s3 rfl ?_ ?_<;>intro hb<;>subst hb)|refine aS ?_|refine reg (by kernel_rfl) ?_|refine lexE ?_)
      ((refine aC rfl ?_ ?_<;>intro hb<;>cases hb);all_goals try (simp at _hb;done))
      · have hjl:j < row.length:=by first|omega|(simp only [oZ] at *;omega)
        obtain ⟨x,hx⟩:=get_some (l:=row) (k:=j) hjl
        have hx':=get_map (g:=iRow) hx
        have hxv:=hrv j x hx
        have hdec:=l19Dec_ok (TB:=TB) x (by omega)
        refine AWp.skip ?_
        refine AWp.seq (AWp.block ?_)
        (repeat first|refine sN rfl ?_|((first|refine sA rfl ?_ ?_|refine s4 rfl ‹_› rfl ?_ ?_);first|exact tI|omega|(simp only[oZ] at *;omega))|(refine s2 rfl ?_;intro _ _hb)|(refine s3 rfl ?_ ?_<;>intro hb<;>subst hb)|refine aS ?_|refine reg (by kernel_rfl) ?_|refine lexE ?_)
        (refine aC rfl ?_ ?_<;>intro hb<;>cases hb)
        · (repeat first|refine sN rfl ?_|((first|refine sA rfl ?_ ?_|refine s4 rfl ‹_› rfl ?_ ?_);first|exact tI|omega|(simp only[oZ] at *;omega))|(refine s2 rfl ?_;intro _ _hb)|(refine s3 rfl ?_ ?_<;>intro hb<;>subst hb)|refine aS ?_|refine reg (by kernel_rfl) ?_|refine lexE ?_)
          (refine popO rfl ?_;refine popW ?_ rfl (by rfl);refine n_call [] rfl rfl (hdec) ⟨rfl,by decide,by decide⟩ rfl trivial ?_;rintro x0 σ1 nx1 ⟨d,hd,rfl,rfl,rfl⟩ _)
          (repeat first|refine sN rfl ?_|((first|refine sA rfl ?_ ?_|refine s4 rfl ‹_› rfl ?_ ?_);first|exact tI|omega|(simp only[oZ] at *;omega))|(refine s2 rfl ?_;intro _ _hb)|(refine s3 rfl ?_ ?_<;>intro hb<;>subst hb)|refine aS ?_|refine reg (by kernel_rfl) ?_|refine lexE ?_)
          refine ⟨⟨⟨j+1,v++[44]++d⟩,by dsimp only;omega,by simp;omega⟩,by dsimp only;(first|omega|(simp only [oZ] at *;omega)),[],?_⟩
          (simp [EnvSub,StoreSub,look_cons,nm,nmo,E.ren,C.ren,C.renL,O.ren,Store.ren,killc,kill0,killL,kill,fillC,spliceC,eC,Function.comp_def,argsFrom,zC,hΓ,rawR_ren,cond_eq_ite,Nat.beq_eq]<;>rfl)
        · refine AWp.skip ?_
          (repeat first|refine sN rfl ?_|((first|refine sA rfl ?_ ?_|refine s4 rfl ‹_› rfl ?_ ?_);first|exact tI|omega|(simp only[oZ] at *;omega))|(refine s2 rfl ?_;intro _ _hb)|(refine s3 rfl ?_ ?_<;>intro hb<;>subst hb)|refine aS ?_|refine reg (by kernel_rfl) ?_|refine lexE ?_)
          (refine popO rfl ?_;refine popW ?_ rfl (by rfl);refine n_call [] rfl rfl (hdec) ⟨rfl,by decide,by decide⟩ rfl trivial ?_;rintro x0 σ1 nx1 ⟨d,hd,rfl,rfl,rfl⟩ _)
          (repeat first|refine sN rfl ?_|((first|refine sA rfl ?_ ?_|refine s4 rfl ‹_› rfl ?_ ?_);first|exact tI|omega|(simp only[oZ] at *;omega))|(refine s2 rfl ?_;intro _ _hb)|(refine s3 rfl ?_ ?_<;>intro hb<;>subst hb)|refine aS ?_|refine reg (by kernel_rfl) ?_|refine lexE ?_)
          refine ⟨⟨⟨j+1,v++d⟩,by dsimp only;omega,by simp;omega⟩,by dsimp only;(first|omega|(simp only [oZ] at *;omega)),[],?_⟩
          (simp [EnvSub,StoreSub,look_cons,nm,nmo,E.ren,C.ren,C.renL,O.ren,Store.ren,killc,kill0,killL,kill,fillC,spliceC,eC,Function.comp_def,argsFrom,zC,hΓ,rawR_ren,cond_eq_ite,Nat.beq_eq]<;>rfl)
      · refine AWp.exit ?_
        (repeat first|refine sN rfl ?_|((first|refine sA rfl ?_ ?_|refine s4 rfl ‹_› rfl ?_ ?_);first|exact tI|omega|(simp only[oZ] at *;omega))|(refine s2 rfl ?_;intro _ _hb)|(refine s3 rfl ?_ ?_<;>intro hb<;>subst hb)|refine aS ?_|refine reg (by kernel_rfl) ?_|refine lexE ?_)
        refine ⟨⟨⟨k+1,v⟩,by dsimp only;omega,by dsimp only;omega⟩,by dsimp only;(first|omega|(simp only [oZ] at *;omega)),[],?_⟩
        (simp [EnvSub,StoreSub,look_cons,nm,nmo,E.ren,C.ren,C.renL,O.ren,Store.ren,killc,kill0,killL,kill,fillC,spliceC,eC,Function.comp_def,argsFrom,zC,hΓ,rawR_ren,cond_eq_ite,Nat.beq_eq]<;>rfl)
    · refine AWp.skip ?_
      (repeat first|refine sN rfl ?_|((first|refine sA rfl ?_ ?_|refine s4 rfl ‹_› rfl ?_ ?_);first|exact tI|omega|(simp only[oZ] at *;omega))|(refine s2 rfl ?_;intro _ _hb)|(refine s3 rfl ?_ ?_<;>intro hb<;>subst hb)|refine aS ?_|refine reg (by kernel_rfl) ?_|refine lexE ?_)
      refine aB ?_
      refine AWp.loopV (α:={z:Nat×W // z.1≤row.length∧z.2.length≤8+30*k+4*z.1}) [1,4] [] rfl rfl (fun s=>[(3,eT s.1.2),(6,eI .i64 s.1.1)]) (fun s=>[]) 0 (fun s=>row.length - s.1.1) (⟨⟨0,w++[32,45]⟩,by dsimp only;omega,by simp;omega⟩) (List.range 0) (by first|(simp [hΓ];done)|(rw [hΓ];decide)) (by (repeat' (first|exact trivial|rfl|refine And.intro ?_ ?_))<;>(simp [EnvSub,StoreSub,look_cons,nm,nmo,E.ren,C.ren,C.renL,O.ren,Store.ren,killc,kill0,killL,kill,fillC,spliceC,eC,Function.comp_def,argsFrom,zC,hΓ]<;>rfl)) ?_;rintro ⟨⟨j,v⟩,hj,hv⟩;(try dsimp only [List.cons_append,List.nil_append])
      have hj:j≤row.length:=hj
      have hv:v.length≤8+30*k+4*j:=hv
      (repeat first|refine sN rfl ?_|((first|refine sA rfl ?_ ?_|refine s4 rfl ‹_› rfl ?_ ?_);first|exact tI|omega|(simp only[oZ] at *;omega))|(refine s2 rfl ?_;intro _ _hb)|(refine s3 rfl ?_ ?_<;>intro hb<;>subst hb)|refine aS ?_|refine reg (by kernel_rfl) ?_|refine lexE ?_)
      ((refine aC rfl ?_ ?_<;>intro hb<;>cases hb);all_goals try (simp at _hb;done))
      · have hjl:j < row.length:=by first|omega|(simp only [oZ] at *;omega)
        obtain ⟨x,hx⟩:=get_some (l:=row) (k:=j) hjl
        have hx':=get_map (g:=iRow) hx
        have hxv:=hrv j x hx
        have hdec:=l19Dec_ok (TB:=TB) x (by omega)
        refine AWp.skip ?_
        refine AWp.seq (AWp.block ?_)
        (repeat first|refine sN rfl ?_|((first|refine sA rfl ?_ ?_|refine s4 rfl ‹_› rfl ?_ ?_);first|exact tI|omega|(simp only[oZ] at *;omega))|(refine s2 rfl ?_;intro _ _hb)|(refine s3 rfl ?_ ?_<;>intro hb<;>subst hb)|refine aS ?_|refine reg (by kernel_rfl) ?_|refine lexE ?_)
        (refine aC rfl ?_ ?_<;>intro hb<;>cases hb)
        · (repeat first|refine sN rfl ?_|((first|refine sA rfl ?_ ?_|refine s4 rfl ‹_› rfl ?_ ?_);first|exact tI|omega|(simp only[oZ] at *;omega))|(refine s2 rfl ?_;intro _ _hb)|(refine s3 rfl ?_ ?_<;>intro hb<;>subst hb)|refine aS ?_|refine reg (by kernel_rfl) ?_|refine lexE ?_)
          (refine popO rfl ?_;refine popW ?_ rfl (by rfl);refine n_call [] rfl rfl (hdec) ⟨rfl,by decide,by decide⟩ rfl trivial ?_;rintro x0 σ1 nx1 ⟨d,hd,rfl,rfl,rfl⟩ _)
          (repeat first|refine sN rfl ?_|((first|refine sA rfl ?_ ?_|refine s4 rfl ‹_› rfl ?_ ?_);first|exact tI|omega|(simp only[oZ] at *;omega))|(refine s2 rfl ?_;intro _ _hb)|(refine s3 rfl ?_ ?_<;>intro hb<;>subst hb)|refine aS ?_|refine reg (by kernel_rfl) ?_|refine lexE ?_)
          refine ⟨⟨⟨j+1,v++[44]++d⟩,by dsimp only;omega,by simp;omega⟩,by dsimp only;(first|omega|(simp only [oZ] at *;omega)),[],?_⟩
          (simp [EnvSub,StoreSub,look_cons,nm,nmo,E.ren,C.ren,C.renL,O.ren,Store.ren,killc,kill0,killL,kill,fillC,spliceC,eC,Function.comp_def,argsFrom,zC,hΓ,rawR_ren,cond_eq_ite,Nat.beq_eq]<;>rfl)
        · refine AWp.skip ?_
          (repeat first|refine sN rfl ?_|((first|refine sA rfl ?_ ?_|refine s4 rfl ‹_› rfl ?_ ?_);first|exact tI|omega|(simp only[oZ] at *;omega))|(refine s2 rfl ?_;intro _ _hb)|(refine s3 rfl ?_ ?_<;>intro hb<;>subst hb)|refine aS ?_|refine reg (by kernel_rfl) ?_|refine lexE ?_)
          (refine popO rfl ?_;refine popW ?_ rfl (by rfl);refine n_call [] rfl rfl (hdec) ⟨rfl,by decide,by decide⟩ rfl trivial ?_;rintro x0 σ1 nx1 ⟨d,hd,rfl,rfl,rfl⟩ _)
          (repeat first|refine sN rfl ?_|((first|refine sA rfl ?_ ?_|refine s4 rfl ‹_› rfl ?_ ?_);first|exact tI|omega|(simp only[oZ] at *;omega))|(refine s2 rfl ?_;intro _ _hb)|(refine s3 rfl ?_ ?_<;>intro hb<;>subst hb)|refine aS ?_|refine reg (by kernel_rfl) ?_|refine lexE ?_)
          refine ⟨⟨⟨j+1,v++d⟩,by dsimp only;omega,by simp;omega⟩,by dsimp only;(first|omega|(simp only [oZ] at *;omega)),[],?_⟩
          (simp [EnvSub,StoreSub,look_cons,nm,nmo,E.ren,C.ren,C.renL,O.ren,Store.ren,killc,kill0,killL,kill,fillC,spliceC,eC,Function.comp_def,argsFrom,zC,hΓ,rawR_ren,cond_eq_ite,Nat.beq_eq]<;>rfl)
      · refine AWp.exit ?_
        (repeat first|refine sN rfl ?_|((first|refine sA rfl ?_ ?_|refine s4 rfl ‹_› rfl ?_ ?_);first|exact tI|omega|(simp only[oZ] at *;omega))|(refine s2 rfl ?_;intro _ _hb)|(refine s3 rfl ?_ ?_<;>intro hb<;>subst hb)|refine aS ?_|refine reg (by kernel_rfl) ?_|refine lexE ?_)
        refine ⟨⟨⟨k+1,v⟩,by dsimp only;omega,by dsimp only;omega⟩,by dsimp only;(first|omega|(simp only [oZ] at *;omega)),[],?_⟩
        (simp [EnvSub,StoreSub,look_cons,nm,nmo,E.ren,C.ren,C.renL,O.ren,Store.ren,killc,kill0,killL,kill,fillC,spliceC,eC,Function.comp_def,argsFrom,zC,hΓ,rawR_ren,cond_eq_ite,Nat.beq_eq]<;>rfl)
  · refine AWp.exit ?_
    (repeat first|refine sN rfl ?_|((first|refine sA rfl ?_ ?_|refine s4 rfl ‹_› rfl ?_ ?_);first|exact tI|omega|(simp only[oZ] at *;omega))|(refine s2 rfl ?_;intro _ _hb)|(refine s3 rfl ?_ ?_<;>intro hb<;>subst hb)|refine aS ?_|refine reg (by kernel_rfl) ?_|refine lexE ?_)
    exact AWp.ret ⟨_,rfl,[],eT w,[],⟨fun i hi=>absurd hi (Nat.not_lt_zero i),List.nodup_nil⟩,rfl,trivial,w,by show w.length≤_;omega,rfl,rfl,rfl⟩
end Go.Am
namespace Go.Am
open Go Go.Proofs
set_option maxHeartbeats 1000000
attribute [local irreducible] QOp AOp Lex LexO AWp Spec
variable {TB:List (Nat×Obj)}
abbrev eAB (r:Aut×Bool):E:=.t [(true,[.d (iD r.1.al),.d (iiList r.1.nx),.d (bList r.1.ac)]),(false,[.d (bD r.2)])]
def rowsS (n:Int):List (List Int)→List Bool→Store
  | [],_=>[(1,.cells 26 3 [[.d (iD n),.d (.v (.slice none 0 0)),.d (.v (.slice none 0 0))]])]
  | r::l,ac=>[(1,.cells 26 3 [[.d (iD n),.arr 2 1 0 (l.length+1),.arr 3 1 0 ac.length]]),(2,.cells 61 1 ((r::l).map iiRowC)),(3,.cells 4 1 (ac.map bRowC))]
theorem ParseAutomaton_ok (w0:W) (hs:w0.length≤10000):Spec Tryz.prog TB 53 [] 0 [eT w0] (AnyPost (fun r:Aut×Bool=>ABd (w0.length+1) r.1) eAB):=by
  have hb0:ABd (w0.length+1) ⟨0,[],[]⟩:=⟨Nat.zero_le _,Nat.zero_le _,fun r hr=>by cases hr⟩
  refine SpecK.toSpec (SpecK.ren (SpecK.ofG (Nat.le_refl _) Tryz.func53 rfl (by kernel_rfl) (Nat.le_of_ble_eq_true rfl) ?_));intro Γ hΓ
  (repeat first|refine sN rfl ?_|((first|refine sA rfl ?_ ?_|refine s4 rfl ‹_› rfl ?_ ?_);first|exact tI|omega|(simp only[oZ] at *;omega))|(refine s2 rfl ?_;intro _ _hb)|(refine s3 rfl ?_ ?_<;>intro hb<;>subst hb)|refine aS ?_|refine reg (by kernel_rfl) ?_|refine lexE ?_)
  (refine popO rfl ?_;refine popW ?_ rfl (by rfl);refine n_call [] rfl rfl (l19Cut_ok (TB:=TB) w0 (by omega) 32) ⟨rfl,by decide,by decide⟩ rfl trivial ?_;rintro x0 σ1 nx1 ⟨ps,⟨hp1,hp2,hp3⟩,rfl,rfl,rfl⟩ _)
  obtain ⟨p0,h0⟩:=get_some (l:=ps) (k:=(0:Int).toNat) (by simp;omega)
  have h0':=get_map (g:=tRow) h0
  (repeat first|refine sN rfl ?_|((first|refine sA rfl ?_ ?_|refine s4 rfl ‹_› rfl ?_ ?_);first|exact tI|omega|(simp only[oZ] at *;omega))|(refine s2 rfl ?_;intro _ _hb)|(refine s3 rfl ?_ ?_<;>intro hb<;>subst hb)|refine aS ?_|refine reg (by kernel_rfl) ?_|refine lexE ?_)
  (refine popO rfl ?_;refine popW ?_ rfl (by rfl);refine n_call [] rfl rfl (ParseAlphabet_ok (TB:=TB) p0) ⟨rfl,by decide,by decide⟩ rfl trivial ?_;rintro x0 σ1 nx1 ⟨⟨n,ok⟩,_,rfl,rfl,rfl⟩ _)
  (repeat first|refine sN rfl ?_|((first|refine sA rfl ?_ ?_|refine s4 rfl ‹_› rfl ?_ ?_);first|exact tI|omega|(simp only[oZ] at *;omega))|(refine s2 rfl ?_;intro _ _hb)|(refine s3 rfl ?_ ?_<;>intro hb<;>subst hb)|refine aS ?_|refine reg (by kernel_rfl) ?_|refine lexE ?_)
  (refine aC rfl ?_ ?_<;>intro hb<;>cases hb)
  · (repeat first|refine sN rfl ?_|((first|refine sA rfl ?_ ?_|refine s4 rfl ‹_› rfl ?_ ?_);first|exact tI|omega|(simp only[oZ] at *;omega))|(refine s2 rfl ?_;intro _ _hb)|(refine popO rfl ?_;refine gA rfl ?_;first|refine gS (fun _ _=>q_build rfl rfl (by rfl) (by rfl)) ?_)|(refine s3 rfl ?_ ?_<;>intro hb<;>subst hb)|refine aS ?_|refine reg (by kernel_rfl) ?_|refine lexE ?_)
    exact AWp.ret ⟨_,rfl,[],eAB (⟨0,[],[]⟩,false),[],⟨fun i hi=>absurd hi (Nat.not_lt_zero i),List.nodup_nil⟩,rfl,trivial,(⟨0,[],[]⟩,false),hb0,rfl,rfl,rfl⟩
  refine AWp.skip ?_
  by_cases hp9:ps.length=1
  · (repeat first|refine sN rfl ?_|((first|refine sA rfl ?_ ?_|refine s4 rfl ‹_› rfl ?_ ?_);first|exact tI|omega|(simp only[oZ] at *;omega))|(refine s2 rfl ?_;intro _ _hb)|(refine popO rfl ?_;refine gA rfl ?_;first|refine gS (fun _ _=>q_build rfl rfl (by rfl) (by rfl)) ?_)|(refine s3 rfl ?_ ?_<;>intro hb<;>subst hb)|refine aS ?_|refine reg (by kernel_rfl) ?_|refine lexE ?_)
    refine aB ?_
    refine AWp.loopV (α:={k:Nat // k=1}) [0,3] [] rfl rfl (fun s=>[(2,.o (.ptr 0 3 0 0)),(4,eTexts ps),(7,.o (.ptr 1 3 0 0)),(8,eI .i64 s.1)]) (fun s=>[(0,.cells 26 3 [[.d (iD 0),.d (.l []),.d (.l [])]]),(1,.cells 26 3 [[.d (iD n),.d (.l []),.d (.l [])]])]) 2 (fun s=>0) (⟨1,rfl⟩) (List.range 2) (by first|(simp [hΓ];done)|(rw [hΓ];decide)) (by (repeat' (first|exact trivial|rfl|refine And.intro ?_ ?_))<;>(simp [EnvSub,StoreSub,look_cons,nm,nmo,E.ren,C.ren,C.renL,O.ren,Store.ren,killc,kill0,killL,kill,fillC,spliceC,eC,Function.comp_def,argsFrom,zC,hΓ,rawR_ren,cond_eq_ite,Nat.beq_eq]<;>rfl)) ?_;rintro ⟨k,hk⟩;(try dsimp only [List.cons_append,List.nil_append])
    (repeat first|refine sN rfl ?_|((first|refine sA rfl ?_ ?_|refine s4 rfl ‹_› rfl ?_ ?_);first|exact tI|omega|(simp only[oZ] at *;omega))|(refine s2 rfl ?_;intro _ _hb)|(refine s3 rfl ?_ ?_<;>intro hb<;>subst hb)|refine aS ?_|refine reg (by kernel_rfl) ?_|refine lexE ?_)
    ((refine aC rfl ?_ ?_<;>intro hb<;>cases hb);all_goals try (simp at _hb;done))
    · exfalso;first|omega|(simp only [oZ] at *;omega)
    refine AWp.exit ?_
    (repeat first|refine sN rfl ?_|((first|refine sA rfl ?_ ?_|refine s4 rfl ‹_› rfl ?_ ?_);first|exact tI|omega|(simp only[oZ] at *;omega))|(refine s2 rfl ?_;intro _ _hb)|(refine s3 rfl ?_ ?_<;>intro hb<;>subst hb)|refine aS ?_|refine reg (by kernel_rfl) ?_|refine lexE ?_)
    (refine popO rfl ?_;refine popW ?_ rfl (by rfl);refine n_call [] rfl rfl (FormatAutomaton_ok (TB:=TB) ⟨n,[],[]⟩) ⟨rfl,by decide,by decide⟩ rfl trivial ?_;rintro x0 σ1 nx1 ⟨w9,hw9,rfl,rfl,rfl⟩ _)
    (repeat first|refine sN rfl ?_|((first|refine sA rfl ?_ ?_|refine s4 rfl ‹_› rfl ?_ ?_);first|exact tI|omega|(simp only[oZ] at *;omega))|(refine s2 rfl ?_;intro _ _hb)|(refine s3 rfl ?_ ?_<;>intro hb<;>subst hb)|refine aS ?_|refine reg (by kernel_rfl) ?_|refine lexE ?_)
    (refine aC rfl ?_ ?_<;>intro hb<;>cases hb)
    · (repeat first|refine sN rfl ?_|((first|refine sA rfl ?_ ?_|refine s4 rfl ‹_› rfl ?_ ?_);first|exact tI|omega|(simp only[oZ] at *;omega))|(refine s2 rfl ?_;intro _ _hb)|(refine popO rfl ?_;refine gA rfl ?_;first|refine gS (fun _ _=>q_build rfl rfl (by rfl) (by rfl)) ?_)|(refine s3 rfl ?_ ?_<;>intro hb<;>subst hb)|refine aS ?_|refine reg (by kernel_rfl) ?_|refine lexE ?_)
      exact AWp.ret ⟨_,rfl,[],eAB (⟨0,[],[]⟩,false),[],⟨fun i hi=>absurd hi (Nat.not_lt_zero i),List.nodup_nil⟩,rfl,trivial,(⟨0,[],[]⟩,false),hb0,rfl,rfl,rfl⟩
    refine AWp.skip ?_
    (repeat first|refine sN rfl ?_|((first|refine sA rfl ?_ ?_|refine s4 rfl ‹_› rfl ?_ ?_);first|exact tI|omega|(simp only[oZ] at *;omega))|(refine s2 rfl ?_;intro _ _hb)|(refine s3 rfl ?_ ?_<;>intro hb<;>subst hb)|refine aS ?_|refine reg (by kernel_rfl) ?_|refine lexE ?_)
    exact AWp.ret ⟨_,rfl,[],eAB (⟨n,[],[]⟩,true),[],⟨fun i hi=>absurd hi (Nat.not_lt_zero i),List.nodup_nil⟩,rfl,trivial,(⟨n,[],[]⟩,true),⟨Nat.zero_le _,Nat.zero_le _,fun r hr=>by cases hr⟩,rfl,rfl,rfl⟩
  (repeat first|refine sN rfl ?_|((first|refine sA rfl ?_ ?_|refine s4 rfl ‹_› rfl ?_ ?_);first|exact tI|omega|(simp only[oZ] at *;omega))|(refine s2 rfl ?_;intro _ _hb)|(refine popO rfl ?_;refine gA rfl ?_;first|refine gS (fun _ _=>q_buildV rfl rfl (by rfl) (by rfl)) ?_)|(refine s3 rfl ?_ ?_<;>intro hb<;>subst hb)|refine aS ?_|refine reg (by kernel_rfl) ?_|refine lexE ?_)
  refine aB ?_
  refine AWp.loopV (α:={z:Nat×List (List Int)×List Bool // (1≤z.1∧z.1≤ps.length)∧z.2.1.length+1=z.1∧z.2.2.length+1=z.1∧∀r∈z.2.1,r.length≤w0.length+1}) [0,3] [] rfl rfl (fun s=>[(2,.o (.ptr 0 3 0 0)),(4,eTexts ps),(7,.o (.ptr 1 3 0 0)),(8,eI .i64 s.1.1)]) (fun s=>((0,.cells 26 3 [[.d (iD 0),.d (.l []),.d (.l [])]])::rowsS n s.1.2.1 s.1.2.2)) 4 (fun s=>ps.length - s.1.1) (⟨⟨1,[],[]⟩,by simp;omega⟩) (List.range 4) (by first|(simp [hΓ];done)|(rw [hΓ];decide)) (by (repeat' (first|exact trivial|rfl|refine And.intro ?_ ?_))<;>(simp [EnvSub,StoreSub,look_cons,nm,nmo,E.ren,C.ren,C.renL,O.ren,Store.ren,killc,kill0,killL,kill,fillC,spliceC,eC,Function.comp_def,argsFrom,zC,hΓ,rowsS,rawR_ren,cond_eq_ite,Nat.beq_eq]<;>rfl)) ?_;rintro ⟨⟨k,l,ac⟩,hk,hl,hac,hr⟩;(try dsimp only [List.cons_append,List.nil_append])
  have hk:1≤k∧k≤ps.length:=hk
  have hl:l.length+1=k:=hl
  have hac:ac.length+1=k:=hac
  (repeat first|refine sN rfl ?_|((first|refine sA rfl ?_ ?_|refine s4 rfl ‹_› rfl ?_ ?_);first|exact tI|omega|(simp only[oZ] at *;omega))|(refine s2 rfl ?_;intro _ _hb)|(refine s3 rfl ?_ ?_<;>intro hb<;>subst hb)|refine aS ?_|refine reg (by kernel_rfl) ?_|refine lexE ?_)
  ((refine aC rfl ?_ ?_<;>intro hb<;>cases hb);all_goals try (simp at _hb;done))
  · have hlt:k < ps.length:=by first|omega|(simp only [oZ] at *;omega)
    obtain ⟨w,hw⟩:=get_some (l:=ps) (k:=k) hlt
    have hw':=get_map (g:=tRow) hw
    have hwl:=hp3 w (List.mem_of_getElem? hw)
    refine AWp.skip ?_
    refine AWp.seq (AWp.block ?_)
    (repeat first|refine sN rfl ?_|((first|refine sA rfl ?_ ?_|refine s4 rfl ‹_› rfl ?_ ?_);first|exact tI|omega|(simp only[oZ] at *;omega))|(refine s2 rfl ?_;intro _ _hb)|(refine s3 rfl ?_ ?_<;>intro hb<;>subst hb)|refine aS ?_|refine reg (by kernel_rfl) ?_|refine lexE ?_)
    (refine aC rfl ?_ ?_<;>intro hb<;>cases hb)
    · (repeat first|refine sN rfl ?_|((first|refine sA rfl ?_ ?_|refine s4 rfl ‹_› rfl ?_ ?_);first|exact tI|omega|(simp only[oZ] at *;omega))|(refine s2 rfl ?_;intro _ _hb)|(refine popO rfl ?_;refine gA rfl ?_;first|refine gS (fun _ _=>q_build rfl rfl (by rfl) (by rfl)) ?_)|(refine s3 rfl ?_ ?_<;>intro hb<;>subst hb)|refine aS ?_|refine reg (by kernel_rfl) ?_|refine lexE ?_)
      exact AWp.ret ⟨_,rfl,[],eAB (⟨0,[],[]⟩,false),[],⟨fun i hi=>absurd hi (Nat.not_lt_zero i),List.nodup_nil⟩,rfl,trivial,(⟨0,[],[]⟩,false),hb0,rfl,rfl,rfl⟩
    have hwp:0 < w.length:=by (simp at _hb;exact List.length_pos_iff.2 _hb)
    obtain ⟨e,he⟩:=get_some (l:=w) (k:=(0:Int).toNat) (by simp;omega)
    refine AWp.skip ?_
    (repeat first|refine sN rfl ?_|((first|refine sA rfl ?_ ?_|refine s4 rfl ‹_› rfl ?_ ?_);first|exact tI|omega|(simp only[oZ] at *;omega))|(refine s2 rfl ?_;intro _ _hb)|(refine popO rfl ?_;refine gA rfl ?_;first|refine gS (fun _ _=>q_dropT rfl rfl (by omega) (by omega)) ?_)|(refine s3 rfl ?_ ?_<;>intro hb<;>subst hb)|refine aS ?_|refine reg (by kernel_rfl) ?_|refine lexE ?_)
    (refine popO rfl ?_;refine popW ?_ rfl (by rfl);refine n_call [] rfl rfl (l3Parse_ok (TB:=TB) (w.drop (Int.toNat 1)) (by simp;omega)) ⟨rfl,by decide,by decide⟩ rfl trivial ?_;rintro x0 σ1 nx1 ⟨⟨r,ok2⟩,hrl,rfl,rfl,rfl⟩ _)
    have hrl:r.length≤w0.length+1:=Nat.le_trans hrl (by simp;omega)
    (repeat first|refine sN rfl ?_|((first|refine sA rfl ?_ ?_|refine s4 rfl ‹_› rfl ?_ ?_);first|exact tI|omega|(simp only[oZ] at *;omega))|(refine s2 rfl ?_;intro _ _hb)|(refine s3 rfl ?_ ?_<;>intro hb<;>subst hb)|refine aS ?_|refine reg (by kernel_rfl) ?_|refine lexE ?_)
    (refine aC rfl ?_ ?_<;>intro hb<;>cases hb)
    · (repeat first|refine sN rfl ?_|((first|refine sA rfl ?_ ?_|refine s4 rfl ‹_› rfl ?_ ?_);first|exact tI|omega|(simp only[oZ] at *;omega))|(refine s2 rfl ?_;intro _ _hb)|(refine popO rfl ?_;refine gA rfl ?_;first|refine gS (fun _ _=>q_build rfl rfl (by rfl) (by rfl)) ?_)|(refine s3 rfl ?_ ?_<;>intro hb<;>subst hb)|refine aS ?_|refine reg (by kernel_rfl) ?_|refine lexE ?_)
      exact AWp.ret ⟨_,rfl,[],eAB (⟨0,[],[]⟩,false),[],⟨fun i hi=>absurd hi (Nat.not_lt_zero i),List.nodup_nil⟩,rfl,trivial,(⟨0,[],[]⟩,false),hb0,rfl,rfl,rfl⟩
    refine AWp.skip ?_
    have hr2:∀x∈l++[r],x.length≤w0.length+1:=fun x hx=>by
      rcases List.mem_append.1 hx with hx|hx
      · exact hr x hx
      · simp at hx;subst hx;exact hrl
    cases l with
    | nil=>
      obtain rfl:ac=[]:=List.length_eq_zero_iff.1 (by simp at hl;omega)
      (repeat first|refine sN rfl ?_|((first|refine sA rfl ?_ ?_|refine s4 rfl ‹_› rfl ?_ ?_);first|exact tI|omega|(simp only[oZ] at *;omega))|(refine s2 rfl ?_;intro _ _hb)|(refine s3 rfl ?_ ?_<;>intro hb<;>subst hb)|refine aS ?_|refine reg (by kernel_rfl) ?_|refine lexE ?_)
      (refine popO rfl ?_;refine popW ?_ rfl (by rfl);refine n_asE 50 rfl ?_;refine n_appendE rfl rfl rfl (by intro r hr;simp at hr;subst hr;rfl) (by rfl) (Nat.le_of_ble_eq_true rfl) (by simp) (fun h=>?_) (fun _=>?_))
      · exact absurd h (by simp)
      (repeat first|refine sN rfl ?_|((first|refine sA rfl ?_ ?_|refine s4 rfl ‹_› rfl ?_ ?_);first|exact tI|omega|(simp only[oZ] at *;omega))|(refine s2 rfl ?_;intro _ _hb)|(refine s3 rfl ?_ ?_<;>intro hb<;>subst hb))
      refine lexE ?_
      refine regD (flN [9,11]) mixed (by kernel_rfl) (by kernel_rfl) ?_
      (repeat first|refine sN rfl ?_|((first|refine sA rfl ?_ ?_|refine s4 rfl ‹_› rfl ?_ ?_);first|exact tI|omega|(simp only[oZ] at *;omega))|(refine s2 rfl ?_;intro _ _hb)|(refine s3 rfl ?_ ?_<;>intro hb<;>subst hb)|refine aS ?_|refine reg (by kernel_rfl) ?_|refine lexE ?_)
      (refine popO rfl ?_;refine popW ?_ rfl (by rfl);refine n_asE 56 rfl ?_;refine n_appendE rfl rfl rfl (by intro r hr;simp at hr;subst hr;rfl) (by rfl) (Nat.le_of_ble_eq_true rfl) (by simp) (fun h=>?_) (fun _=>?_))
      · exact absurd h (by simp)
      (repeat first|refine sN rfl ?_|((first|refine sA rfl ?_ ?_|refine s4 rfl ‹_› rfl ?_ ?_);first|exact tI|omega|(simp only[oZ] at *;omega))|(refine s2 rfl ?_;intro _ _hb)|(refine s3 rfl ?_ ?_<;>intro hb<;>subst hb)|refine aS ?_|refine reg (by kernel_rfl) ?_|refine lexE ?_)
      subst _hb
      refine ⟨⟨⟨k+1,[r],[decide ((e.toNat:Int)=43)]⟩,⟨by dsimp only;omega,by dsimp only;omega⟩,by simp at hl;simp;omega,by simp at hl;simp;omega,hr2⟩,by dsimp only;(first|omega|(simp only [oZ] at *;omega)),[0,1,4,5],?_⟩
      (simp [EnvSub,StoreSub,look_cons,nm,nmo,E.ren,C.ren,C.renL,O.ren,Store.ren,killc,kill0,killL,kill,fillC,spliceC,eC,Function.comp_def,argsFrom,zC,hΓ,rawR_ren,cond_eq_ite,Nat.beq_eq,rowsS,spliceC,eC]<;>rfl)
    | cons r0 l=>
      (repeat first|refine sN rfl ?_|((first|refine sA rfl ?_ ?_|refine s4 rfl ‹_› rfl ?_ ?_);first|exact tI|omega|(simp only[oZ] at *;omega))|(refine s2 rfl ?_;intro _ _hb)|(refine s3 rfl ?_ ?_<;>intro hb<;>subst hb)|refine aS ?_|refine reg (by kernel_rfl) ?_|refine lexE ?_)
      (refine popO rfl ?_;refine popW ?_ rfl (by rfl);refine n_append rfl rfl rfl (by first|(simp;done)|(simp;(first|omega|(simp only [oZ] at *;omega)))) rfl (by intro r hr;simp at hr;subst hr;rfl) (by rfl) (Nat.le_of_ble_eq_true rfl) (by simp at hl ⊢;omega) ?_)
      (repeat first|refine sN rfl ?_|((first|refine sA rfl ?_ ?_|refine s4 rfl ‹_› rfl ?_ ?_);first|exact tI|omega|(simp only[oZ] at *;omega))|(refine s2 rfl ?_;intro _ _hb)|(refine s3 rfl ?_ ?_<;>intro hb<;>subst hb))
      refine lexE ?_
      refine AWp.namesV [0,3,8] [] rfl rfl [(2,.o (.ptr 0 3 0 0)),(4,eTexts ps),(7,.o (.ptr 1 3 0 0))] [(0,.cells 26 3 [[.d (iD 0),.d (.l []),.d (.l [])]]),(1,.cells 26 3 [[.d (iD n),.arr 2 1 0 (l.length+1+1),.arr 3 1 0 ac.length]]),(2,.cells 61 1 ((r0::(l++[r])).map iiRowC)),(3,.cells 4 1 (ac.map bRowC))] [0,1,4,3] (by first|(simp [hΓ];done)|(rw [hΓ];decide)) (by (repeat' (first|exact trivial|rfl|refine And.intro ?_ ?_))<;>(simp [EnvSub,StoreSub,look_cons,nm,nmo,E.ren,C.ren,C.renL,O.ren,Store.ren,killc,kill0,killL,kill,fillC,spliceC,eC,Function.comp_def,argsFrom,zC,hΓ,rawR_ren,cond_eq_ite,Nat.beq_eq,rowsS,spliceC,eC]<;>rfl)) ?_;(try dsimp only [List.cons_append,List.nil_append])
      refine regD (flN [9,11]) mixed (by kernel_rfl) (by kernel_rfl) ?_
      (repeat first|refine sN rfl ?_|((first|refine sA rfl ?_ ?_|refine s4 rfl ‹_› rfl ?_ ?_);first|exact tI|omega|(simp only[oZ] at *;omega))|(refine s2 rfl ?_;intro _ _hb)|(refine s3 rfl ?_ ?_<;>intro hb<;>subst hb)|refine aS ?_|refine reg (by kernel_rfl) ?_|refine lexE ?_)
      (refine popO rfl ?_;refine popW ?_ rfl (by rfl);refine n_append rfl rfl rfl (by first|(simp;done)|(simp;(first|omega|(simp only [oZ] at *;omega)))) rfl (by intro r hr;simp at hr;subst hr;rfl) (by rfl) (Nat.le_of_ble_eq_true rfl) (by simp at hl ⊢;omega) ?_)
      (repeat first|refine sN rfl ?_|((first|refine sA rfl ?_ ?_|refine s4 rfl ‹_› rfl ?_ ?_);first|exact tI|omega|(simp only[oZ] at *;omega))|(refine s2 rfl ?_;intro _ _hb)|(refine s3 rfl ?_ ?_<;>intro hb<;>subst hb)|refine aS ?_|refine reg (by kernel_rfl) ?_|refine lexE ?_)
      subst _hb
      refine ⟨⟨⟨k+1,r0::(l++[r]),ac++[decide ((e.toNat:Int)=43)]⟩,⟨by dsimp only;omega,by dsimp only;omega⟩,by simp at hl ⊢;omega,by simp;omega,hr2⟩,by dsimp only;(first|omega|(simp only [oZ] at *;omega)),[0,1,2,4],?_⟩
      (simp [EnvSub,StoreSub,look_cons,nm,nmo,E.ren,C.ren,C.renL,O.ren,Store.ren,killc,kill0,killL,kill,fillC,spliceC,eC,Function.comp_def,argsFrom,zC,hΓ,rawR_ren,cond_eq_ite,Nat.beq_eq,rowsS,spliceC,eC]<;>rfl)
  refine AWp.exit ?_
  have hkn:k=ps.length:=by first|omega|(simp only [oZ] at *;omega)
  cases l with
  | nil=>exfalso;simp at hl;omega
  | cons r0 l=>
    refine AWp.freezeZ [1,2,3] [(0,eT w0),(2,.o (.ptr 0 3 0 0)),(3,eB false),(7,.o (.ip (auRow ⟨n,r0::l,ac⟩)))] ⟨⟨_,rfl,.inl rfl⟩,⟨_,rfl,.inl rfl⟩,⟨_,rfl,.inl rfl⟩,⟨_,rfl,.inr (.o (.box rfl (.cons .d (.cons (.full rfl (by simp [Function.comp_def]) (by simp)) (.cons (.full rfl (by simp [Function.comp_def]) (by simp)) .nil)))))⟩,trivial⟩ ?_
    (repeat first|refine sN rfl ?_|((first|refine sA rfl ?_ ?_|refine s4 rfl ‹_› rfl ?_ ?_);first|exact tI|omega|(simp only[oZ] at *;omega))|(refine s2 rfl ?_;intro _ _hb)|(refine s3 rfl ?_ ?_<;>intro hb<;>subst hb)|refine aS ?_|refine reg (by kernel_rfl) ?_|refine lexE ?_)
    (refine popO rfl ?_;refine popW ?_ rfl (by rfl);refine n_call [] rfl rfl (FormatAutomaton_ok (TB:=TB) ⟨n,r0::l,ac⟩) ⟨rfl,by decide,by decide⟩ rfl trivial ?_;rintro x0 σ1 nx1 ⟨w9,hw9,rfl,rfl,rfl⟩ _)
    (repeat first|refine sN rfl ?_|((first|refine sA rfl ?_ ?_|refine s4 rfl ‹_› rfl ?_ ?_);first|exact tI|omega|(simp only[oZ] at *;omega))|(refine s2 rfl ?_;intro _ _hb)|(refine s3 rfl ?_ ?_<;>intro hb<;>subst hb)|refine aS ?_|refine reg (by kernel_rfl) ?_|refine lexE ?_)
    (refine aC rfl ?_ ?_<;>intro hb<;>cases hb)
    · (repeat first|refine sN rfl ?_|((first|refine sA rfl ?_ ?_|refine s4 rfl ‹_› rfl ?_ ?_);first|exact tI|omega|(simp only[oZ] at *;omega))|(refine s2 rfl ?_;intro _ _hb)|(refine popO rfl ?_;refine gA rfl ?_;first|refine gS (fun _ _=>q_build rfl rfl (by rfl) (by rfl)) ?_)|(refine s3 rfl ?_ ?_<;>intro hb<;>subst hb)|refine aS ?_|refine reg (by kernel_rfl) ?_|refine lexE ?_)
      exact AWp.ret ⟨_,rfl,[],eAB (⟨0,[],[]⟩,false),[],⟨fun i hi=>absurd hi (Nat.not_lt_zero i),List.nodup_nil⟩,rfl,trivial,(⟨0,[],[]⟩,false),hb0,rfl,rfl,rfl⟩
    refine AWp.skip ?_
    (repeat first|refine sN rfl ?_|((first|refine sA rfl ?_ ?_|refine s4 rfl ‹_› rfl ?_ ?_);first|exact tI|omega|(simp only[oZ] at *;omega))|(refine s2 rfl ?_;intro _ _hb)|(refine s3 rfl ?_ ?_<;>intro hb<;>subst hb)|refine aS ?_|refine reg (by kernel_rfl) ?_|refine lexE ?_)
    exact AWp.ret ⟨_,rfl,[],eAB (⟨n,r0::l,ac⟩,true),[],⟨fun i hi=>absurd hi (Nat.not_lt_zero i),List.nodup_nil⟩,rfl,trivial,(⟨n,r0::l,ac⟩,true),⟨by show (r0::l).length≤_;omega,by show ac.length≤_;omega,hr⟩,rfl,rfl,rfl⟩
end Go.Am
namespace Go.Am
open Go Go.Proofs
set_option maxHeartbeats 1000000
attribute [local irreducible] QOp AOp Lex LexO AWp Spec
variable {TB:List (Nat×Obj)}
def texts3:List W:=[[97,98,32,43,49,44,48,32,45,49,44,49],[97,98,32,43,48,44,49,32,43,50,44,49,32,45,50,44,50],[97,99,32,43,49,44,50,32,43,49,44,50,32,45,50,44,50],[98,32,43,49,32,45,49],[97,98,99,32,43,49,44,48,44,50,32,43,50,44,48,44,49,32,45,50,44,50,44,50],[45,32,43],[45,32,45],[97,32,43,49,32,45,48],[97,98,32,43,48,44,49,32,45,48,44,49],[98,99,32,43,49,44,50,32,43,50,44,48,32,45,50,44,50],[97,98,32,43,49,44,50,32,45,49,44,51,32,43,52,44,50,32,45,49,44,51,32,43,52,44,50],[97,98,99,32,43,48,44,49,44,48,32,43,48,44,49,44,50,32,45,50,44,50,44,50]]
theorem texts3_bd:∀w∈texts3,w.length≤40:=by decide
theorem l3Texts_ok:Pure Tryz.prog TB 118 [] (eTexts texts3):=by
  refine eN Tryz.func118 rfl (by kernel_rfl) rfl ?_;intro Γ hΓ
  (repeat first|refine sN rfl ?_|((first|refine sA rfl ?_ ?_|refine s4 rfl ‹_› rfl ?_ ?_);first|exact tI|omega|(simp only[oZ] at *;omega))|(refine s2 rfl ?_;intro _ _hb)|(refine s3 rfl ?_ ?_<;>intro hb<;>subst hb)|refine aS ?_|refine reg (by kernel_rfl) ?_|refine lexE ?_)
  refine AWp.ret ⟨_,rfl,rfl⟩
theorem l3Draw_ok (b:List UInt8) (hb:b.length≤2000) (p:Int) (h0:0≤p∧p < 700000000):Spec Tryz.prog TB 89 [(0,rdO b p)] 1 [.o (.ptr 0 2 0 0)] (DrawPost b p 60 (fun a=>ABd 41 a)):=by
  obtain ⟨c,c1,c2,hp⟩:=pick_ok (TB:=TB) b hb p 3 (by omega)
  obtain ⟨w,hw,ho⟩:=of_ok (TB:=TB) b hb (p+1) (by omega) texts3 (by decide) (by decide)
  have hwl:=texts3_bd w hw
  have hpa:=ParseAutomaton_ok (TB:=TB) w (by omega)
  refine SpecK.toSpec (SpecK.ren (SpecK.ofG (Nat.le_refl _) Tryz.func89 rfl (by kernel_rfl) (Nat.le_of_ble_eq_true rfl) ?_));intro Γ hΓ
  (repeat first|refine sN rfl ?_|((first|refine sA rfl ?_ ?_|refine s4 rfl ‹_› rfl ?_ ?_);first|exact tI|omega|(simp only[oZ] at *;omega))|(refine s2 rfl ?_;intro _ _hb)|(refine s3 rfl ?_ ?_<;>intro hb<;>subst hb)|refine aS ?_|refine reg (by kernel_rfl) ?_|refine lexE ?_)
  (refine popO rfl ?_;refine popW ?_ rfl (by rfl);refine n_call [0] rfl rfl (hp) ⟨rfl,by decide,by decide⟩ rfl (by simp [EnvSub,StoreSub,look_cons,nm,nmo,E.ren,C.ren,C.renL,O.ren,Store.ren,killc,kill0,killL,kill,fillC,spliceC,eC,Function.comp_def,argsFrom,zC,hΓ,rawR_ren,cond_eq_ite,Nat.beq_eq]) ?_;rintro x0 σ1 nx1 ⟨rfl,rfl,rfl⟩ _)
  (repeat first|refine sN rfl ?_|((first|refine sA rfl ?_ ?_|refine s4 rfl ‹_› rfl ?_ ?_);first|exact tI|omega|(simp only[oZ] at *;omega))|(refine s2 rfl ?_;intro _ _hb)|(refine s3 rfl ?_ ?_<;>intro hb<;>subst hb)|refine aS ?_|refine reg (by kernel_rfl) ?_|refine lexE ?_)
  (refine aC rfl ?_ ?_<;>intro hb<;>cases hb)
  · (repeat first|refine sN rfl ?_|((first|refine sA rfl ?_ ?_|refine s4 rfl ‹_› rfl ?_ ?_);first|exact tI|omega|(simp only[oZ] at *;omega))|(refine s2 rfl ?_;intro _ _hb) |refine sP rfl (l3Texts_ok) rfl ?_|(refine s3 rfl ?_ ?_<;>intro hb<;>subst hb)|refine aS ?_|refine reg (by kernel_rfl) ?_|refine lexE ?_)
    (refine popO rfl ?_;refine popW ?_ rfl (by rfl);refine n_call [0] rfl rfl (ho) ⟨rfl,by decide,by decide⟩ rfl (by simp [EnvSub,StoreSub,look_cons,nm,nmo,E.ren,C.ren,C.renL,O.ren,Store.ren,killc,kill0,killL,kill,fillC,spliceC,eC,Function.comp_def,argsFrom,zC,hΓ,rawR_ren,cond_eq_ite,Nat.beq_eq]) ?_;rintro x0 σ1 nx1 ⟨rfl,rfl,rfl⟩ _)
    (repeat first|refine sN rfl ?_|((first|refine sA rfl ?_ ?_|refine s4 rfl ‹_› rfl ?_ ?_);first|exact tI|omega|(simp only[oZ] at *;omega))|(refine s2 rfl ?_;intro _ _hb)|(refine s3 rfl ?_ ?_<;>intro hb<;>subst hb)|refine aS ?_|refine reg (by kernel_rfl) ?_|refine lexE ?_)
    (refine popO rfl ?_;refine popW ?_ rfl (by rfl);refine n_call [] rfl rfl (hpa) ⟨rfl,by decide,by decide⟩ rfl trivial ?_;rintro x0 σ1 nx1 ⟨⟨a,ok⟩,ha,rfl,rfl,rfl⟩ _)
    have hA:ABd (w.length+1) a:=ha
    (repeat first|refine sN rfl ?_|((first|refine sA rfl ?_ ?_|refine s4 rfl ‹_› rfl ?_ ?_);first|exact tI|omega|(simp only[oZ] at *;omega))|(refine s2 rfl ?_;intro _ _hb)|(refine s3 rfl ?_ ?_<;>intro hb<;>subst hb)|refine aS ?_|refine reg (by kernel_rfl) ?_|refine lexE ?_)
    (refine aC rfl ?_ ?_<;>intro hb<;>cases hb)
    · (repeat first|refine sN rfl ?_|((first|refine sA rfl ?_ ?_|refine s4 rfl ‹_› rfl ?_ ?_);first|exact tI|omega|(simp only[oZ] at *;omega))|(refine s2 rfl ?_;intro _ _hb)|(refine s3 rfl ?_ ?_<;>intro hb<;>subst hb)|refine aS ?_|refine reg (by kernel_rfl) ?_|refine lexE ?_)
      exact AWp.ret ⟨_,rfl,[0],eAut a,[(0,rdO b (p+1+1))],⟨by intro i hi;match i with|0=>rfl,by decide⟩,rfl,by (repeat' (first|exact trivial|rfl|refine And.intro ?_ ?_))<;>(simp [EnvSub,StoreSub,look_cons,nm,nmo,E.ren,C.ren,C.renL,O.ren,Store.ren,killc,kill0,killL,kill,fillC,spliceC,eC,Function.comp_def,argsFrom,zC,hΓ,rawR_ren,cond_eq_ite,Nat.beq_eq]<;>rfl),p+1+1,a,by omega,⟨by have:=hA.nx;omega,by have:=hA.ac;omega,fun r hr=>by have:=hA.row r hr;omega⟩,rfl,rfl,rfl⟩
    refine AWp.skip ?_
    obtain ⟨n1,m1,k1⟩:=num_ok (TB:=TB) b hb (p+1+1) (by omega) [3,6,7,5,1,0,2] (by decide) (by decide)
    have f1:=l3Over_ok (TB:=TB) b hb (p+1+1+1) (by omega) n1
    (repeat first|refine sN rfl ?_|((first|refine sA rfl ?_ ?_|refine s4 rfl ‹_› rfl ?_ ?_);first|exact tI|omega|(simp only[oZ] at *;omega))|(refine s2 rfl ?_;intro _ _hb)|(refine s3 rfl ?_ ?_<;>intro hb<;>subst hb)|refine aS ?_|refine reg (by kernel_rfl) ?_|refine lexE ?_)
    (refine popO rfl ?_;refine popW ?_ rfl (by rfl);refine n_call [0] rfl rfl (k1) ⟨rfl,by decide,by decide⟩ rfl (by simp [EnvSub,StoreSub,look_cons,nm,nmo,E.ren,C.ren,C.renL,O.ren,Store.ren,killc,kill0,killL,kill,fillC,spliceC,eC,Function.comp_def,argsFrom,zC,hΓ,rawR_ren,cond_eq_ite,Nat.beq_eq]) ?_;rintro x0 σ1 nx1 ⟨rfl,rfl,rfl⟩ _)
    (repeat first|refine sN rfl ?_|((first|refine sA rfl ?_ ?_|refine s4 rfl ‹_› rfl ?_ ?_);first|exact tI|omega|(simp only[oZ] at *;omega))|(refine s2 rfl ?_;intro _ _hb)|(refine s3 rfl ?_ ?_<;>intro hb<;>subst hb)|refine aS ?_|refine reg (by kernel_rfl) ?_|refine lexE ?_)
    (refine popO rfl ?_;refine popW ?_ rfl (by rfl);refine n_call [0] rfl rfl (f1) ⟨rfl,by decide,by decide⟩ rfl (by simp [EnvSub,StoreSub,look_cons,nm,nmo,E.ren,C.ren,C.renL,O.ren,Store.ren,killc,kill0,killL,kill,fillC,spliceC,eC,Function.comp_def,argsFrom,zC,hΓ,rawR_ren,cond_eq_ite,Nat.beq_eq]) ?_;rintro x0 σ1 nx1 ⟨q,a2,hq,⟨_,ha2⟩,rfl,rfl,rfl⟩ _)
    (repeat first|refine sN rfl ?_|((first|refine sA rfl ?_ ?_|refine s4 rfl ‹_› rfl ?_ ?_);first|exact tI|omega|(simp only[oZ] at *;omega))|(refine s2 rfl ?_;intro _ _hb)|(refine s3 rfl ?_ ?_<;>intro hb<;>subst hb)|refine aS ?_|refine reg (by kernel_rfl) ?_|refine lexE ?_)
    exact AWp.ret ⟨_,rfl,[0],eAut a2,[(0,rdO b (q))],⟨by intro i hi;match i with|0=>rfl,by decide⟩,rfl,by (repeat' (first|exact trivial|rfl|refine And.intro ?_ ?_))<;>(simp [EnvSub,StoreSub,look_cons,nm,nmo,E.ren,C.ren,C.renL,O.ren,Store.ren,killc,kill0,killL,kill,fillC,spliceC,eC,Function.comp_def,argsFrom,zC,hΓ,rawR_ren,cond_eq_ite,Nat.beq_eq]<;>rfl),q,a2,by omega,⟨by have:=ha2.nx;omega,by have:=ha2.ac;omega,fun r hr=>by have:=ha2.row r hr;omega⟩,rfl,rfl,rfl⟩
  refine AWp.skip ?_
  obtain ⟨n1,m1,k1⟩:=num_ok (TB:=TB) b hb (p+1) (by omega) [3,6,7,5,1,0,2] (by decide) (by decide)
  have f1:=l3Over_ok (TB:=TB) b hb (p+1+1) (by omega) n1
  (repeat first|refine sN rfl ?_|((first|refine sA rfl ?_ ?_|refine s4 rfl ‹_› rfl ?_ ?_);first|exact tI|omega|(simp only[oZ] at *;omega))|(refine s2 rfl ?_;intro _ _hb)|(refine s3 rfl ?_ ?_<;>intro hb<;>subst hb)|refine aS ?_|refine reg (by kernel_rfl) ?_|refine lexE ?_)
  (refine popO rfl ?_;refine popW ?_ rfl (by rfl);refine n_call [0] rfl rfl (k1) ⟨rfl,by decide,by decide⟩ rfl (by simp [EnvSub,StoreSub,look_cons,nm,nmo,E.ren,C.ren,C.renL,O.ren,Store.ren,killc,kill0,killL,kill,fillC,spliceC,eC,Function.comp_def,argsFrom,zC,hΓ,rawR_ren,cond_eq_ite,Nat.beq_eq]) ?_;rintro x0 σ1 nx1 ⟨rfl,rfl,rfl⟩ _)
  (repeat first|refine sN rfl ?_|((first|refine sA rfl ?_ ?_|refine s4 rfl ‹_› rfl ?_ ?_);first|exact tI|omega|(simp only[oZ] at *;omega))|(refine s2 rfl ?_;intro _ _hb)|(refine s3 rfl ?_ ?_<;>intro hb<;>subst hb)|refine aS ?_|refine reg (by kernel_rfl) ?_|refine lexE ?_)
  (refine popO rfl ?_;refine popW ?_ rfl (by rfl);refine n_call [0] rfl rfl (f1) ⟨rfl,by decide,by decide⟩ rfl (by simp [EnvSub,StoreSub,look_cons,nm,nmo,E.ren,C.ren,C.renL,O.ren,Store.ren,killc,kill0,killL,kill,fillC,spliceC,eC,Function.comp_def,argsFrom,zC,hΓ,rawR_ren,cond_eq_ite,Nat.beq_eq]) ?_;rintro x0 σ1 nx1 ⟨q,a2,hq,⟨_,ha2⟩,rfl,rfl,rfl⟩ _)
  (repeat first|refine sN rfl ?_|((first|refine sA rfl ?_ ?_|refine s4 rfl ‹_› rfl ?_ ?_);first|exact tI|omega|(simp only[oZ] at *;omega))|(refine s2 rfl ?_;intro _ _hb)|(refine s3 rfl ?_ ?_<;>intro hb<;>subst hb)|refine aS ?_|refine reg (by kernel_rfl) ?_|refine lexE ?_)
  exact AWp.ret ⟨_,rfl,[0],eAut a2,[(0,rdO b (q))],⟨by intro i hi;match i with|0=>rfl,by decide⟩,rfl,by (repeat' (first|exact trivial|rfl|refine And.intro ?_ ?_))<;>(simp [EnvSub,StoreSub,look_cons,nm,nmo,E.ren,C.ren,C.renL,O.ren,Store.ren,killc,kill0,killL,kill,fillC,spliceC,eC,Function.comp_def,argsFrom,zC,hΓ,rawR_ren,cond_eq_ite,Nat.beq_eq]<;>rfl),q,a2,by omega,⟨by have:=ha2.nx;omega,by have:=ha2.ac;omega,fun r hr=>by have:=ha2.row r hr;omega⟩,rfl,rfl,rfl⟩
end Go.Am
namespace Go.Am
open Go Go.Proofs
set_option maxHeartbeats 1000000
attribute [local irreducible] QOp AOp Lex LexO AWp Spec
variable {TB:List (Nat×Obj)}
theorem ABd.mono {m n:Nat} {a:Aut} (h:ABd m a) (hm:m≤n):ABd n a:=⟨Nat.le_trans h.nx hm,Nat.le_trans h.ac hm,fun r hr=>Nat.le_trans (h.row r hr) hm⟩
abbrev auRowC (a:Aut):List C:=[.d (iD a.al),.d (iiList a.nx),.d (bList a.ac)]
end Go.Am
namespace Go.Am
open Go Go.Proofs
set_option maxHeartbeats 1000000
attribute [local irreducible] QOp AOp Lex LexO AWp Spec
variable {TB:List (Nat×Obj)}
end Go.Am
namespace Go.Am
open Go Go.Proofs
set_option maxHeartbeats 1000000
attribute [local irreducible] QOp AOp Lex LexO AWp Spec
variable {TB:List (Nat×Obj)}
end Go.Am
namespace Go.Am
open Go Go.Proofs
set_option maxHeartbeats 1000000
attribute [local irreducible] QOp AOp Lex LexO AWp Spec
variable {TB:List (Nat×Obj)}
end Go.Am
namespace Go.Am
open Go Go.Proofs
set_option maxHeartbeats 1000000
attribute [local irreducible] QOp AOp Lex LexO AWp Spec
variable {TB:List (Nat×Obj)}
end Go.Am
namespace Go.Am
open Go Go.Proofs
set_option maxHeartbeats 1000000
attribute [local irreducible] QOp AOp Lex LexO AWp Spec
variable {TB:List (Nat×Obj)}
end Go.Am
namespace Go.Am
open Go Go.Proofs
set_option maxHeartbeats 1000000
attribute [local irreducible] QOp AOp Lex LexO AWp Spec
variable {TB:List (Nat×Obj)}
abbrev taRow (t:Tab):List D:=[tList t.rows,tList t.cols]
abbrev eTab (t:Tab):E:=.a [.d (tList t.rows),.d (tList t.cols)]
abbrev eOra (al:Int) (c:C):E:=.a [.d (iD al),c]
mutual
theorem ren_pur:∀(c:C),c.pur=true→∀r,c.ren r=c
  | .d x,_,r=>rfl
  | .fn g cap,h,r=>by
    simp only [C.pur] at h
    simp only [C.ren,renL_pur cap h r]
  | .arr ..,h,_=>by cases h
  | .ptr ..,h,_=>by cases h
  | .mp ..,h,_=>by cases h
theorem renL_pur:∀(l:List C),C.purL l=true→∀r,C.renL r l=l
  | [],_,r=>rfl
  | c::l,h,r=>by
    simp only [C.purL,Bool.and_eq_true] at h
    simp only [C.renL,ren_pur c h.1 r,renL_pur l h.2 r]
end
structure AskV (P:Program) (TB:List (Nat×Obj)) (c:C) (L:W→Bool) (ok:W→Prop):Prop where
  pur:c.pur=true
  ask:∀ {Γ:Ctx} {d:Option Tmp} {ty:TypeId} {pos:String} {af:Array Edge} {g:Option (Nat×Bool)} {f:Env} {σ:Store} {nx:Nat} {x a:Operand} {tys:Array TypeId} {w:W},
    ev f x=some (.o c)→ev f a=some (eT w)→ok w→QOp P TB Γ ⟨d,.call ⟨.value x,#[a],tys⟩,ty,pos,af,g⟩ f σ nx (eB (L w))
theorem AskV.of {P:Program} {g:FuncId} {cap:List C} {L:W→Bool} {ok:W→Prop} (hc:C.purL cap=true) (h:∀w,ok w→Pure P TB g ([eT w]++cap.map .o) (eB (L w))):AskV P TB (.fn g cap) L ok:=
  ⟨hc,fun hx ha hw=>q_call (es:=[eT _]) hx (by simp [evs,ha]) (by simp [E.pur,C.pur,hc]) (h _ hw) rfl⟩
def mkH (L:W→Bool) (cols:List W) (w:W) (k:Nat) (i:Nat):UInt8:=if i < k then mkB (L (w++cols.getD i [])) else 0
theorem marks_rows (L:W→Bool) (cols:List W) (w:W):(rowsF cols.length fun i=>byC (mkH L cols w cols.length i))=(marks L cols w).map byC:=by
  apply List.ext_getElem?
  intro i
  by_cases h:i < cols.length
  · rw [rowsF_get h]
    simp [marks,mkH,h]
  · rw [List.getElem?_eq_none (by simp [rowsF];omega),List.getElem?_eq_none (by simp [marks];omega)]
theorem byC0:byC 0=[C.d (D.v (Value.int IntKind.u8 0))]:=rfl
theorem mkH_0 (L:W→Bool) (cols:List W) (w:W) (n:Nat):(rowsF n fun i=>byC (mkH L cols w 0 i))=List.replicate n (byC 0):=by
  apply List.ext_getElem?
  intro i
  by_cases h:i < n
  · rw [rowsF_get h];simp [mkH,h]
  · rw [List.getElem?_eq_none (by simp [rowsF];omega),List.getElem?_eq_none (by simp;omega)]
theorem mkH_step {L:W→Bool} {cols:List W} {w x:W} {k:Nat} (hx:cols[k]? = some x):(rowsF cols.length fun i=>byC (if i=k then mkB (L (w++x)) else mkH L cols w k i))=rowsF cols.length fun i=>byC (mkH L cols w (k+1) i):=by
  refine rowsF_congr fun i _=>?_
  congr 1
  unfold mkH
  by_cases h:i=k
  · subst h
    rw [if_pos rfl,if_pos (by omega)]
    simp [hx]
  · rw [if_neg h]
    by_cases h2:i < k
    · rw [if_pos h2,if_pos (by omega)]
    · rw [if_neg h2,if_neg (by omega)]
theorem marks_ok {c:C} {L:W→Bool} {ok:W→Prop} (hc:AskV Tryz.prog TB c L ok) (al:Int) (t:Tab) (w:W) (hl:t.cols.length≤1048576) (hk:∀x∈t.cols,ok (w++x)) (hb:∀x∈t.cols,w.length+x.length≤1048576) :
    Pure Tryz.prog TB 83 [eOra al c,eTab t,eT w] (eT (marks L t.cols w)):=by
  have hr:=ren_pur c hc.pur
  refine eN Tryz.func83 rfl (by kernel_rfl) rfl ?_;intro Γ hΓ
  (repeat first|refine sN rfl ?_|((first|refine sM rfl ?_ ?_|refine s4 rfl ‹_› rfl ?_ ?_);first|exact tI|omega|(simp only[oZ] at *;omega))|(refine s2 rfl ?_;intro _ _hb)|(refine s3 rfl ?_ ?_<;>intro hb<;>subst hb)|refine aS ?_|refine reg (by kernel_rfl) ?_|refine lexE ?_|refine rD (by kernel_rfl) (by kernel_rfl) ?_)
  (refine popO rfl ?_;refine popW ?_ rfl (by rfl);refine n_box rfl rfl ?_)
  (refine popO rfl ?_;refine popS (fun _ _=>q_boxI rfl rfl rfl) rfl ?_)
  (repeat first|refine sN rfl ?_|((first|refine sM rfl ?_ ?_|refine s4 rfl ‹_› rfl ?_ ?_);first|exact tI|omega|(simp only[oZ] at *;omega))|(refine s2 rfl ?_;intro _ _hb)|(refine s3 rfl ?_ ?_<;>intro hb<;>subst hb)|refine aS ?_|refine reg (by kernel_rfl) ?_|refine lexE ?_|refine rD (by kernel_rfl) (by kernel_rfl) ?_)
  (refine popO rfl ?_;refine popW ?_ rfl (by rfl);refine n_make rfl rfl (by rfl) (by rfl) (Nat.le_of_ble_eq_true rfl) (by omega) (by omega) (by omega) ?_)
  (repeat first|refine sN rfl ?_|((first|refine sM rfl ?_ ?_|refine s4 rfl ‹_› rfl ?_ ?_);first|exact tI|omega|(simp only[oZ] at *;omega))|(refine s2 rfl ?_;intro _ _hb)|(refine s3 rfl ?_ ?_<;>intro hb<;>subst hb)|refine aS ?_|refine reg (by kernel_rfl) ?_|refine lexE ?_|refine rD (by kernel_rfl) (by kernel_rfl) ?_)
  refine AWp.block ?_
  refine AWp.loopL (α:={k:Nat // k≤t.cols.length}) (fun ⟨k,hkl⟩=>[(2,eT w),(3,.o (.ptr 0 2 0 0)),(7,.o (.arr 1 1 0 t.cols.length)),(15,.o (.d (tList t.cols))),(16,eI .i64 t.cols.length),(17,eI .i64 k)]) (fun ⟨k,hkl⟩=>[(1,.cells 5 1 (rowsF t.cols.length fun i=>byC (mkH L t.cols w k i))),(0,.cells 77 2 [[.d (iD al),c]])]) 2 (fun ⟨k,hkl⟩=>t.cols.length - k) (⟨0,by omega⟩) [0,1] (by first|(simp [hΓ];done)|(rw [hΓ];decide)) (by (repeat' (first|exact trivial|rfl|refine And.intro ?_ ?_))<;>simp [EnvSub,StoreSub,look_cons,nm,E.ren,C.ren,C.renL,O.ren,killc,kill0,Function.comp_def,argsFrom,zC,hΓ,ren_by,hr,mkH_0,eC,renL_byC,byC0]) ?_;rintro ⟨k,hkl⟩;(try dsimp only)
  (repeat first|refine sN rfl ?_|((first|refine sM rfl ?_ ?_|refine s4 rfl ‹_› rfl ?_ ?_);first|exact tI|omega|(simp only[oZ] at *;omega))|(refine s2 rfl ?_;intro _ _hb)|(refine s3 rfl ?_ ?_<;>intro hb<;>subst hb)|refine aS ?_|refine reg (by kernel_rfl) ?_|refine lexE ?_|refine rD (by kernel_rfl) (by kernel_rfl) ?_)
  (refine aC rfl ?_ ?_<;>intro hb<;>cases hb)
  · have hlt:k < t.cols.length:=by first|omega|(simp only [oZ] at *;omega)
    obtain ⟨x,hx⟩:=get_some (l:=t.cols) (k:=k) hlt
    have hx':=get_map (g:=tRow) hx
    have hxm:=List.mem_of_getElem? hx
    have hxb:=hb x hxm
    have hok:=hk x hxm
    have hg:=getA_by (H:=mkH L t.cols w k) (q:=k) (n:=t.cols.length) hlt
    have hs1:(rowsF t.cols.length fun i=>byC (mkH L t.cols w k i)).set (0+((k:Nat):Int).toNat) (spliceC (byC (mkH L t.cols w k k)) 0 (eC (eI .u8 45)))=rowsF t.cols.length fun i=>byC (if i=k then 45 else mkH L t.cols w k i):=setA_by (c:=45)
    have hg2:=getA_by (H:=fun i=>if i=k then 45 else mkH L t.cols w k i) (q:=k) (n:=t.cols.length) hlt
    rw [←hs1] at hg2
    have hs2:(rowsF t.cols.length fun i=>byC (if i=k then 45 else mkH L t.cols w k i)).set (0+((k:Nat):Int).toNat) (spliceC (byC (if k=k then 45 else mkH L t.cols w k k)) 0 (eC (eI .u8 43)))=rowsF t.cols.length fun i=>byC (if i=k then 43 else mkH L t.cols w k i):=by
      refine (setA_by (H:=fun i=>if i=k then 45 else mkH L t.cols w k i) (c:=43)).trans ?_
      refine rowsF_congr fun i _=>?_
      by_cases h:i=k<;>simp [h]
    have hst:=mkH_step (L:=L) (w:=w) hx
    refine AWp.skip ?_
    refine AWp.seq (AWp.block ?_)
    (repeat first|refine sN rfl ?_|((first|refine sM rfl ?_ ?_|refine s4 rfl ‹_› rfl ?_ ?_);first|exact tI|omega|(simp only[oZ] at *;omega))|(refine s2 rfl ?_;intro _ _hb)|(refine popO rfl ?_;refine gA rfl ?_;first|(refine gB (fun _ _=>hc.ask rfl rfl hok) ?_;intro _ _hb))|(refine s3 rfl ?_ ?_<;>intro hb<;>subst hb)|refine aS ?_|refine reg (by kernel_rfl) ?_|refine lexE ?_|refine rD (by kernel_rfl) (by kernel_rfl) ?_)
    (refine aC rfl ?_ ?_<;>intro hb<;>cases hb)
    · (repeat first|refine sN rfl ?_|((first|refine sM rfl ?_ ?_|refine s4 rfl ‹_› rfl ?_ ?_);first|exact tI|omega|(simp only[oZ] at *;omega))|(refine s2 rfl ?_;intro _ _hb)|(refine s3 rfl ?_ ?_<;>intro hb<;>subst hb)|refine aS ?_|refine reg (by kernel_rfl) ?_|refine lexE ?_|refine rD (by kernel_rfl) (by kernel_rfl) ?_)
      refine ⟨⟨k+1,by first|omega|(simp only [oZ] at *;omega)⟩,by dsimp only;(first|omega|(simp only [oZ] at *;omega)),[0,1],?_⟩
      rw [hs1,hs2]
      rw [_hb] at hst
      have e43:mkB true=43:=rfl
      have e45:mkB false=45:=rfl
      simp only [e43,e45] at hst
      simp [EnvSub,StoreSub,look_cons,nm,E.ren,C.ren,C.renL,O.ren,killc,kill0,Function.comp_def,argsFrom,zC,hΓ,ren_by,hr,hst]
    · refine AWp.skip ?_
      (repeat first|refine sN rfl ?_|((first|refine sM rfl ?_ ?_|refine s4 rfl ‹_› rfl ?_ ?_);first|exact tI|omega|(simp only[oZ] at *;omega))|(refine s2 rfl ?_;intro _ _hb)|(refine s3 rfl ?_ ?_<;>intro hb<;>subst hb)|refine aS ?_|refine reg (by kernel_rfl) ?_|refine lexE ?_|refine rD (by kernel_rfl) (by kernel_rfl) ?_)
      refine ⟨⟨k+1,by first|omega|(simp only [oZ] at *;omega)⟩,by dsimp only;(first|omega|(simp only [oZ] at *;omega)),[0,1],?_⟩
      rw [hs1]
      rw [_hb] at hst
      have e43:mkB true=43:=rfl
      have e45:mkB false=45:=rfl
      simp only [e43,e45] at hst
      simp [EnvSub,StoreSub,look_cons,nm,E.ren,C.ren,C.renL,O.ren,killc,kill0,Function.comp_def,argsFrom,zC,hΓ,ren_by,hr,hst]
  · obtain rfl:k=t.cols.length:=by first|omega|(simp only [oZ] at *;omega)
    rw [marks_rows]
    refine AWp.exit ?_
    (repeat first|refine sN rfl ?_|((first|refine sM rfl ?_ ?_|refine s4 rfl ‹_› rfl ?_ ?_);first|exact tI|omega|(simp only[oZ] at *;omega))|(refine s2 rfl ?_;intro _ _hb)|(refine popO rfl ?_;refine gA rfl ?_;first|refine gQ (q_textA (marks L t.cols w) rfl rfl (by simp [marks]) (by rw [List.drop_zero,List.take_of_length_le (by simp [marks])])) (by rfl) ?_)|(refine s3 rfl ?_ ?_<;>intro hb<;>subst hb)|refine aS ?_|refine reg (by kernel_rfl) ?_|refine lexE ?_|refine rD (by kernel_rfl) (by kernel_rfl) ?_)
    refine AWp.ret ⟨_,rfl,rfl⟩
end Go.Am
namespace Go.Am
open Go Go.Proofs
set_option maxHeartbeats 1000000
attribute [local irreducible] QOp AOp Lex LexO AWp Spec
variable {TB:List (Nat×Obj)}
def numsTo (L:W→Bool) (t:Tab):Nat→List (W×Int)
  | 0=>[]
  | k+1=>if (findT (numsTo L t k) (marks L t.cols (t.rows.getD k []))).isSome then numsTo L t k else numsTo L t k++[(marks L t.cols (t.rows.getD k []),(k:Int))]
structure AskOk (ok:W→Prop) (t:Tab):Prop where
  ok:∀w∈t.rows,∀x∈t.cols,ok (w++x)
  rb:∀w∈t.rows,w.length≤65536
  cb:∀x∈t.cols,x.length≤65536
  rl:t.rows.length≤4096
  cl:t.cols.length≤4096
theorem rowNumbers_ok {c:C} {L:W→Bool} {ok:W→Prop} (hc:AskV Tryz.prog TB c L ok) (al:Int) (t:Tab) (ht:AskOk ok t) :
    Spec Tryz.prog TB 81 [] 0 [eOra al c,eTab t] (fun x σ nx=>x=.o (.mp 0)∧nx=1∧σ=[(0,.mp (mapT (numsTo L t t.rows.length)))]):=by
  have hr:=ren_pur c hc.pur
  have hrl:=ht.rl
  refine eN Tryz.func81 rfl (by kernel_rfl) rfl ?_;intro Γ hΓ
  (repeat first|refine sN rfl ?_|((first|refine sM rfl ?_ ?_|refine s4 rfl ‹_› rfl ?_ ?_);first|exact tI|omega|(simp only[oZ] at *;omega))|(refine s2 rfl ?_;intro _ _hb)|(refine s3 rfl ?_ ?_<;>intro hb<;>subst hb)|refine aS ?_|refine reg (by kernel_rfl) ?_|refine lexE ?_|refine rD (by kernel_rfl) (by kernel_rfl) ?_)
  (refine popO rfl ?_;refine popW ?_ rfl (by rfl);refine n_box rfl rfl ?_)
  (refine popO rfl ?_;refine popS (fun _ _=>q_boxI rfl rfl rfl) rfl ?_)
  (repeat first|refine sN rfl ?_|((first|refine sM rfl ?_ ?_|refine s4 rfl ‹_› rfl ?_ ?_);first|exact tI|omega|(simp only[oZ] at *;omega))|(refine s2 rfl ?_;intro _ _hb)|(refine s3 rfl ?_ ?_<;>intro hb<;>subst hb)|refine aS ?_|refine reg (by kernel_rfl) ?_|refine lexE ?_|refine rD (by kernel_rfl) (by kernel_rfl) ?_)
  (refine popO rfl ?_;refine popW ?_ rfl (by rfl);refine n_makeMap ?_)
  (repeat first|refine sN rfl ?_|((first|refine sM rfl ?_ ?_|refine s4 rfl ‹_› rfl ?_ ?_);first|exact tI|omega|(simp only[oZ] at *;omega))|(refine s2 rfl ?_;intro _ _hb)|(refine s3 rfl ?_ ?_<;>intro hb<;>subst hb)|refine aS ?_|refine reg (by kernel_rfl) ?_|refine lexE ?_|refine rD (by kernel_rfl) (by kernel_rfl) ?_)
  refine AWp.block ?_
  refine AWp.loopL (α:={k:Nat // k≤t.rows.length}) (fun ⟨k,hkl⟩=>[(2,.o (.ptr 0 2 0 0)),(3,.o (.ip (taRow t))),(5,.o (.mp 1)),(13,.o (.d (tList t.rows))),(14,eI .i64 t.rows.length),(15,eI .i64 k)]) (fun ⟨k,hkl⟩=>[(1,.mp (mapT (numsTo L t k))),(0,.cells 77 2 [[.d (iD al),c]])]) 2 (fun ⟨k,hkl⟩=>t.rows.length - k) (⟨0,by omega⟩) [0,1] (by first|(simp [hΓ];done)|(rw [hΓ];decide)) (by (repeat' (first|exact trivial|rfl|refine And.intro ?_ ?_))<;>simp [EnvSub,StoreSub,look_cons,nm,E.ren,C.ren,C.renL,O.ren,killc,kill0,Function.comp_def,argsFrom,zC,hΓ,hr,eC,numsTo,mapT]) ?_;rintro ⟨k,hkl⟩;(try dsimp only)
  (repeat first|refine sN rfl ?_|((first|refine sM rfl ?_ ?_|refine s4 rfl ‹_› rfl ?_ ?_);first|exact tI|omega|(simp only[oZ] at *;omega))|(refine s2 rfl ?_;intro _ _hb)|(refine s3 rfl ?_ ?_<;>intro hb<;>subst hb)|refine aS ?_|refine reg (by kernel_rfl) ?_|refine lexE ?_|refine rD (by kernel_rfl) (by kernel_rfl) ?_)
  (refine aC rfl ?_ ?_<;>intro hb<;>cases hb)
  · have hlt:k < t.rows.length:=by first|omega|(simp only [oZ] at *;omega)
    obtain ⟨x,hx⟩:=get_some (l:=t.rows) (k:=k) hlt
    have hx':=get_map (g:=tRow) hx
    have hxm:=List.mem_of_getElem? hx
    have hxb:=ht.rb x hxm
    have hm:=marks_ok hc al t x (by have:=ht.cl;omega) (ht.ok x hxm) (fun y hy=>by have:=ht.cb y hy;omega)
    have hgd:t.rows.getD k []=x:=by simp [hx]
    have hstep:numsTo L t (k+1)=if (findT (numsTo L t k) (marks L t.cols x)).isSome then numsTo L t k else numsTo L t k++[(marks L t.cols x,(k:Int))]:=by
      rw [numsTo,hgd]
    refine AWp.skip ?_
    refine AWp.seq (AWp.block ?_)
    (repeat first|refine sN rfl ?_|((first|refine sM rfl ?_ ?_|refine s4 rfl ‹_› rfl ?_ ?_);first|exact tI|omega|(simp only[oZ] at *;omega))|(refine s2 rfl ?_;intro _ _hb)|(refine popO rfl ?_;refine gA rfl ?_;first|refine gS (fun _ _=>q_call rfl rfl (by simp [E.pur,C.purL,C.pur,hc.pur]) hm rfl) ?_|refine gQ (q_look rfl rfl rfl) (by rfl) ?_)|(refine s3 rfl ?_ ?_<;>intro hb<;>subst hb)|refine aS ?_|refine reg (by kernel_rfl) ?_|refine lexE ?_|refine rD (by kernel_rfl) (by kernel_rfl) ?_)
    (refine aC rfl ?_ ?_<;>intro hb<;>cases hb)
    · have hn:findT (numsTo L t k) (marks L t.cols x)=none:=by simpa using _hb
      rw [hn] at hstep
      (repeat first|refine sN rfl ?_|((first|refine sM rfl ?_ ?_|refine s4 rfl ‹_› rfl ?_ ?_);first|exact tI|omega|(simp only[oZ] at *;omega))|(refine s2 rfl ?_;intro _ _hb)|(refine s3 rfl ?_ ?_<;>intro hb<;>subst hb)|refine aS ?_|refine reg (by kernel_rfl) ?_|refine lexE ?_|refine rD (by kernel_rfl) (by kernel_rfl) ?_)
      (refine popO rfl ?_;refine popW0 ?_ rfl (by rfl);refine n_put rfl rfl rfl rfl hn ?_)
      (repeat first|refine sN rfl ?_|((first|refine sM rfl ?_ ?_|refine s4 rfl ‹_› rfl ?_ ?_);first|exact tI|omega|(simp only[oZ] at *;omega))|(refine s2 rfl ?_;intro _ _hb)|(refine s3 rfl ?_ ?_<;>intro hb<;>subst hb)|refine aS ?_|refine reg (by kernel_rfl) ?_|refine lexE ?_|refine rD (by kernel_rfl) (by kernel_rfl) ?_)
      refine ⟨⟨k+1,by first|omega|(simp only [oZ] at *;omega)⟩,by dsimp only;(first|omega|(simp only [oZ] at *;omega)),[0,1],?_⟩
      simp [EnvSub,StoreSub,look_cons,nm,E.ren,C.ren,C.renL,O.ren,killc,kill0,Function.comp_def,argsFrom,zC,hΓ,hr,hstep]
    · have hn:(findT (numsTo L t k) (marks L t.cols x)).isSome=true:=by simpa using _hb
      rw [if_pos hn] at hstep
      refine AWp.skip ?_
      (repeat first|refine sN rfl ?_|((first|refine sM rfl ?_ ?_|refine s4 rfl ‹_› rfl ?_ ?_);first|exact tI|omega|(simp only[oZ] at *;omega))|(refine s2 rfl ?_;intro _ _hb)|(refine s3 rfl ?_ ?_<;>intro hb<;>subst hb)|refine aS ?_|refine reg (by kernel_rfl) ?_|refine lexE ?_|refine rD (by kernel_rfl) (by kernel_rfl) ?_)
      refine ⟨⟨k+1,by first|omega|(simp only [oZ] at *;omega)⟩,by dsimp only;(first|omega|(simp only [oZ] at *;omega)),[0,1],?_⟩
      simp [EnvSub,StoreSub,look_cons,nm,E.ren,C.ren,C.renL,O.ren,killc,kill0,Function.comp_def,argsFrom,zC,hΓ,hr,hstep]
  · obtain rfl:k=t.rows.length:=by first|omega|(simp only [oZ] at *;omega)
    refine AWp.exit ?_
    (repeat first|refine sN rfl ?_|((first|refine sM rfl ?_ ?_|refine s4 rfl ‹_› rfl ?_ ?_);first|exact tI|omega|(simp only[oZ] at *;omega))|(refine s2 rfl ?_;intro _ _hb)|(refine s3 rfl ?_ ?_<;>intro hb<;>subst hb)|refine aS ?_|refine reg (by kernel_rfl) ?_|refine lexE ?_|refine rD (by kernel_rfl) (by kernel_rfl) ?_)
    refine AWp.names [1] [(4,.o (.mp 0))] [(0,.mp (mapT (numsTo L t t.rows.length)))] (by intro i hi;rw [hΓ] at hi;omega) (by simp) (by simp [EnvSub,StoreSub,look_cons,nm,E.ren,C.ren,C.renL,O.ren,killc,kill0,Function.comp_def,argsFrom,zC,hΓ]) (by simp [EnvSub,StoreSub,look_cons,nm,E.ren,C.ren,C.renL,O.ren,killc,kill0,Function.comp_def,argsFrom,zC,hΓ]) ?_
    refine AWp.ret ⟨_,rfl,rfl,rfl,rfl⟩
end Go.Am
namespace Go.Am
open Go Go.Proofs
set_option maxHeartbeats 1000000
attribute [local irreducible] QOp AOp Lex LexO AWp Spec
variable {TB:List (Nat×Obj)}
theorem findT_app (l:List (W×Int)) (p:W×Int) (s:W):findT (l++[p]) s=(findT l s).or (if p.1=s then some p.2 else none):=by
  unfold findT
  rw [List.find?_append]
  cases h:l.find? (fun p=>decide (p.1=s)) with
  | some q=>simp
  | none=>by_cases hp:p.1=s<;>simp [hp]
theorem rowsM_getD {L:W→Bool} {t:Tab} {k:Nat} (h:k < t.rows.length):(rowsM L t)[k]? = some (marks L t.cols (t.rows.getD k [])):=by
  simp [rowsM,h]
theorem nums_find (L:W→Bool) (t:Tab):∀k,k≤t.rows.length→∀s,findT (numsTo L t k) s=if s∈(rowsM L t).take k then some (((rowsM L t).idxOf s:Nat):Int) else none
  | 0,_,s=>by simp [numsTo,findT]
  | k+1,hk,s=>by
    have ih:=nums_find L t k (by omega)
    have hx:=rowsM_getD (L:=L) (t:=t) (k:=k) (by omega)
    generalize marks L t.cols (t.rows.getD k [])=x at *
    have hst:numsTo L t (k+1)=if (findT (numsTo L t k) x).isSome then numsTo L t k else numsTo L t k++[(x,(k:Int))]:=by
      have hx2:=rowsM_getD (L:=L) (t:=t) (k:=k) (by omega)
      rw [hx] at hx2
      injection hx2 with hx2
      rw [numsTo,←hx2]
    have htk:∀s,s∈(rowsM L t).take (k+1)↔s∈(rowsM L t).take k∨s=x:=fun s=>by
      rw [List.take_add_one,hx];simp
    rw [hst]
    by_cases hm:x∈(rowsM L t).take k
    · rw [if_pos (by rw [ih x,if_pos hm];rfl),ih s]
      by_cases hs:s∈(rowsM L t).take k
      · rw [if_pos hs,if_pos ((htk s).2 (.inl hs))]
      · rw [if_neg hs,if_neg]
        intro h
        rcases (htk s).1 h with h|h
        · exact hs h
        · subst h;exact hs hm
    · rw [if_neg (by rw [ih x,if_neg hm];simp),findT_app,ih s]
      by_cases hs:s∈(rowsM L t).take k
      · rw [if_pos hs,if_pos ((htk s).2 (.inl hs))];rfl
      · rw [if_neg hs]
        by_cases he:x=s
        · subst he
          rw [if_pos ((htk x).2 (.inr rfl))]
          have hix:(rowsM L t).idxOf x=k:=by
            have hl:k < (rowsM L t).length:=(List.getElem?_eq_some_iff.1 hx).1
            have e:rowsM L t=(rowsM L t).take k++x::(rowsM L t).drop (k+1):=by
              rw [←drop_some hx,List.take_append_drop]
            rw [e,List.idxOf_append,if_neg hm,List.idxOf_cons_self]
            simp;omega
          simp [hix]
        · have hns:s∉(rowsM L t).take (k+1):=fun h=>by
            rcases (htk s).1 h with h|h
            · exact hs h
            · exact he h.symm
          rw [if_neg hns]
          simp [he]
theorem nums_all {L:W→Bool} {t:Tab} {s:W}:findT (numsTo L t t.rows.length) s=if s∈rowsM L t then some (((rowsM L t).idxOf s:Nat):Int) else none:=by
  have h:=nums_find L t t.rows.length (Nat.le_refl _) s
  have e:(rowsM L t).take t.rows.length=rowsM L t:=List.take_of_length_le (by simp [rowsM])
  rwa [e] at h
theorem open_at {L:W→Bool} {ls:List UInt8} {t:Tab} {k j:Nat} {r:W} {l:UInt8} (hr:t.rows[k]? = some r) (hl:ls[j]? = some l) (h1:∀w∈nextsB ls (t.rows.take k),marks L t.cols w∈rowsM L t) (h2:∀x∈ls.take j,marks L t.cols (r++[x])∈rowsM L t)
    (h3:marks L t.cols (r++[l])∉rowsM L t):openW L ls t=some (r++[l]):=by
  have e1:t.rows=t.rows.take k++r::t.rows.drop (k+1):=by
    rw [←drop_some hr,List.take_append_drop]
  have e2:ls=ls.take j++l::ls.drop (j+1):=by
    rw [←drop_some hl,List.take_append_drop]
  have e3:nextsB ls t.rows=nextsB ls (t.rows.take k)++((ls.take j).map (fun x=>r++[x])++(r++[l])::((ls.drop (j+1)).map (fun x=>r++[x])++nextsB ls (t.rows.drop (k+1)))):=by
    have h4:nextsB ls t.rows=nextsB ls (t.rows.take k++r::t.rows.drop (k+1)):=congrArg _ e1
    rw [h4]
    unfold nextsB
    rw [List.flatMap_append,List.flatMap_cons]
    have h5:ls.map (fun x=>r++[x])=(ls.take j++l::ls.drop (j+1)).map (fun x=>r++[x]):=congrArg _ e2
    rw [h5]
    simp
  unfold openW
  rw [e3,List.find?_append,List.find?_append]
  have n1:(nextsB ls (t.rows.take k)).find? (fun w=>!(rowsM L t).contains (marks L t.cols w))=none:=List.find?_eq_none.2 fun w hw=>by simpa using h1 w hw
  have n2:((ls.take j).map (fun x=>r++[x])).find? (fun w=>!(rowsM L t).contains (marks L t.cols w))=none:=List.find?_eq_none.2 fun w hw=>by
    obtain ⟨x,hx,rfl⟩:=List.mem_map.1 hw
    simpa using h2 x hx
  rw [n1,n2]
  simp [h3]
def lb (l:Int):UInt8:=UInt8.ofNat (97+l.toNat)
def lsB (al:Int):List UInt8:=(letters al).map lb
def eOpt (o:Option W):E:=match o with
  | some w=>.t [(false,[.d (tD w)]),(false,[.d (bD true)])]
  | none=>.t [(false,[.d (tD [])]),(false,[.d (bD false)])]
end Go.Am
namespace Go.Am
open Go Go.Proofs
set_option maxHeartbeats 1000000
attribute [local irreducible] QOp AOp Lex LexO AWp Spec
variable {TB:List (Nat×Obj)}
theorem lb_of {l:Int} (h0:0≤l):UInt8.ofNat (97+l).toNat=lb l:=by
  unfold lb
  congr 1
  omega
theorem find_mem {L:W→Bool} {t:Tab} {s:W}:(findT (numsTo L t t.rows.length) s).isSome=true↔s∈rowsM L t:=by
  rw [nums_all]
  by_cases h:s∈rowsM L t<;>simp [h]
theorem nexts_take {ls:List UInt8} {t:Tab} {k:Nat} {r:W} (h:t.rows[k]? = some r):nextsB ls (t.rows.take (k+1))=nextsB ls (t.rows.take k)++ls.map fun l=>r++[l]:=by
  unfold nextsB
  rw [List.take_add_one,h]
  simp
theorem firstOpen_ok {c:C} {L:W→Bool} {ok:W→Prop} (hc:AskV Tryz.prog TB c L ok) (al:Int) (t:Tab) (ht:AskOk ok t) (hn:∀w∈t.rows,∀l∈lsB al,∀x∈t.cols,ok (w++[l]++x)) :
    Pure Tryz.prog TB 82 [eOra al c,eTab t] (eOpt (openW L (lsB al) t)):=by
  have hr:=ren_pur c hc.pur
  have hrl:=ht.rl
  have hla:(letters al).length≤6:=lettersTo_len al 6
  refine eN Tryz.func82 rfl (by kernel_rfl) rfl ?_;intro Γ hΓ
  (repeat first|refine sN rfl ?_|((first|refine sM rfl ?_ ?_|refine s4 rfl ‹_› rfl ?_ ?_);first|exact tI|omega|(simp only[oZ] at *;omega))|(refine s2 rfl ?_;intro _ _hb)|(refine s3 rfl ?_ ?_<;>intro hb<;>subst hb)|refine aS ?_|refine reg (by kernel_rfl) ?_|refine lexE ?_|refine rD (by kernel_rfl) (by kernel_rfl) ?_)
  (refine popO rfl ?_;refine popW ?_ rfl (by rfl);refine n_box rfl rfl ?_)
  (refine popO rfl ?_;refine popS (fun _ _=>q_boxI rfl rfl rfl) rfl ?_)
  (repeat first|refine sN rfl ?_|((first|refine sM rfl ?_ ?_|refine s4 rfl ‹_› rfl ?_ ?_);first|exact tI|omega|(simp only[oZ] at *;omega))|(refine s2 rfl ?_;intro _ _hb)|(refine s3 rfl ?_ ?_<;>intro hb<;>subst hb)|refine aS ?_|refine reg (by kernel_rfl) ?_|refine lexE ?_|refine rD (by kernel_rfl) (by kernel_rfl) ?_)
  (refine popO rfl ?_;refine popW ?_ rfl (by rfl);refine n_call [] rfl rfl (rowNumbers_ok hc al t ht) ⟨rfl,by simp,by simp⟩ (by simp [renEs,E.ren,C.renL,C.ren,hr,eC]) trivial ?_;rintro x0 σ1 nx1 ⟨rfl,rfl,rfl⟩ _)
  (repeat first|refine sN rfl ?_|((first|refine sM rfl ?_ ?_|refine s4 rfl ‹_› rfl ?_ ?_);first|exact tI|omega|(simp only[oZ] at *;omega))|(refine s2 rfl ?_;intro _ _hb)|(refine s3 rfl ?_ ?_<;>intro hb<;>subst hb)|refine aS ?_|refine reg (by kernel_rfl) ?_|refine lexE ?_|refine rD (by kernel_rfl) (by kernel_rfl) ?_)
  refine AWp.block ?_
  refine AWp.loopL (α:={k:Nat // k≤t.rows.length∧∀w∈nextsB (lsB al) (t.rows.take k),marks L t.cols w∈rowsM L t}) (fun ⟨k,hkl,hkd⟩=>[(2,.o (.ptr 0 2 0 0)),(3,.o (.ip (taRow t))),(6,.o (.mp 1)),(18,.o (.d (tList t.rows))),(19,eI .i64 t.rows.length),(20,eI .i64 k)]) (fun ⟨k,hkl,hkd⟩=>[(1,.mp (mapT (numsTo L t t.rows.length))),(0,.cells 77 2 [[.d (iD al),c]])]) 2 (fun ⟨k,hkl,hkd⟩=>t.rows.length - k) (⟨0,by omega,by simp [nextsB]⟩) [0,1] (by first|(simp [hΓ];done)|(rw [hΓ];decide)) (by (repeat' (first|exact trivial|rfl|refine And.intro ?_ ?_))<;>simp [EnvSub,StoreSub,look_cons,nm,E.ren,C.ren,C.renL,O.ren,killc,kill0,Function.comp_def,argsFrom,zC,hΓ,hr,eC,Store.ren,killL,nmo]) ?_;rintro ⟨k,hkl,hkd⟩;(try dsimp only)
  (repeat first|refine sN rfl ?_|((first|refine sM rfl ?_ ?_|refine s4 rfl ‹_› rfl ?_ ?_);first|exact tI|omega|(simp only[oZ] at *;omega))|(refine s2 rfl ?_;intro _ _hb)|(refine s3 rfl ?_ ?_<;>intro hb<;>subst hb)|refine aS ?_|refine reg (by kernel_rfl) ?_|refine lexE ?_|refine rD (by kernel_rfl) (by kernel_rfl) ?_)
  (refine aC rfl ?_ ?_<;>intro hb<;>cases hb)
  · have hlt:k < t.rows.length:=by first|omega|(simp only [oZ] at *;omega)
    obtain ⟨r,hx⟩:=get_some (l:=t.rows) (k:=k) hlt
    have hx':=get_map (g:=tRow) hx
    have hxm:=List.mem_of_getElem? hx
    have hxb:=ht.rb r hxm
    refine AWp.skip ?_
    refine AWp.seq (AWp.block ?_)
    (repeat first|refine sN rfl ?_|((first|refine sM rfl ?_ ?_|refine s4 rfl ‹_› rfl ?_ ?_);first|exact tI|omega|(simp only[oZ] at *;omega))|(refine s2 rfl ?_;intro _ _hb) |refine sP rfl (lettersOf_ok al) rfl ?_|(refine s3 rfl ?_ ?_<;>intro hb<;>subst hb)|refine aS ?_|refine reg (by kernel_rfl) ?_|refine lexE ?_|refine rD (by kernel_rfl) (by kernel_rfl) ?_)
    refine AWp.block ?_
    refine AWp.loopL (α:={j:Nat // j≤(letters al).length∧∀x∈(lsB al).take j,marks L t.cols (r++[x])∈rowsM L t}) (fun ⟨j,hjl,hjd⟩=>[(2,.o (.ptr 0 2 0 0)),(3,.o (.ip (taRow t))),(6,.o (.mp 1)),(18,.o (.d (tList t.rows))),(19,eI .i64 t.rows.length),(20,eI .i64 k),(8,eT r),(26,eInts (letters al)),(27,eI .i64 (letters al).length),(28,eI .i64 j)]) (fun ⟨j,hjl,hjd⟩=>[(1,.mp (mapT (numsTo L t t.rows.length))),(0,.cells 77 2 [[.d (iD al),c]])]) 2 (fun ⟨j,hjl,hjd⟩=>(letters al).length - j) (⟨0,by omega,by simp⟩) [0,1] (by first|(simp [hΓ];done)|(rw [hΓ];decide)) (by (repeat' (first|exact trivial|rfl|refine And.intro ?_ ?_))<;>simp [EnvSub,StoreSub,look_cons,nm,E.ren,C.ren,C.renL,O.ren,killc,kill0,Function.comp_def,argsFrom,zC,hΓ,hr]) ?_;rintro ⟨j,hjl,hjd⟩;(try dsimp only)
    (repeat first|refine sN rfl ?_|((first|refine sM rfl ?_ ?_|refine s4 rfl ‹_› rfl ?_ ?_);first|exact tI|omega|(simp only[oZ] at *;omega))|(refine s2 rfl ?_;intro _ _hb)|(refine s3 rfl ?_ ?_<;>intro hb<;>subst hb)|refine aS ?_|refine reg (by kernel_rfl) ?_|refine lexE ?_|refine rD (by kernel_rfl) (by kernel_rfl) ?_)
    (refine aC rfl ?_ ?_<;>intro hb<;>cases hb)
    · have hjlt:j < (letters al).length:=by first|omega|(simp only [oZ] at *;omega)
      obtain ⟨l,hl⟩:=get_some (l:=letters al) (k:=j) hjlt
      have hl':=get_map (g:=iRow) hl
      have hlb:=lettersTo_in (List.mem_of_getElem? hl)
      have hll:(lsB al)[j]? = some (lb l):=by simp [lsB,hl]
      have hlm:=List.mem_of_getElem? hll
      have hm:=marks_ok hc al t (r++[lb l]) (by have:=ht.cl;omega) (fun x hx=>hn r hxm _ hlm x hx) (fun y hy=>by have:=ht.cb y hy;simp;omega)
      refine AWp.skip ?_
      refine AWp.seq (AWp.block ?_)
      (repeat first|refine sN rfl ?_|((first|refine sM rfl ?_ ?_|refine s4 rfl ‹_› rfl ?_ ?_);first|exact tI|omega|(simp only[oZ] at *;omega))|(refine s2 rfl ?_;intro _ _hb) |refine sP rfl (letterByte_ok l hlb.1 (by omega)) rfl ?_|(refine popO rfl ?_;refine gA rfl ?_;first|refine gS (fun _ _=>q_rune rfl (by omega) (by omega)) ?_)|(refine s3 rfl ?_ ?_<;>intro hb<;>subst hb)|refine aS ?_|refine reg (by kernel_rfl) ?_|refine lexE ?_|refine rD (by kernel_rfl) (by kernel_rfl) ?_)
      rw [lb_of hlb.1]
      (repeat first|refine sN rfl ?_|((first|refine sM rfl ?_ ?_|refine s4 rfl ‹_› rfl ?_ ?_);first|exact tI|omega|(simp only[oZ] at *;omega))|(refine s2 rfl ?_;intro _ _hb)|(refine popO rfl ?_;refine gA rfl ?_;first|refine gS (fun _ _=>q_call rfl rfl (by simp [E.pur,C.purL,C.pur,hc.pur]) hm rfl) ?_|refine gQ (q_look rfl rfl rfl) (by rfl) ?_)|(refine s3 rfl ?_ ?_<;>intro hb<;>subst hb)|refine aS ?_|refine reg (by kernel_rfl) ?_|refine lexE ?_|refine rD (by kernel_rfl) (by kernel_rfl) ?_)
      (refine aC rfl ?_ ?_<;>intro hb<;>cases hb)
      · have hno:marks L t.cols (r++[lb l])∉rowsM L t:=fun h=>by
          rw [find_mem.2 h] at _hb
          cases _hb
        (repeat first|refine sN rfl ?_|((first|refine sM rfl ?_ ?_|refine s4 rfl ‹_› rfl ?_ ?_);first|exact tI|omega|(simp only[oZ] at *;omega))|(refine s2 rfl ?_;intro _ _hb)|(refine s3 rfl ?_ ?_<;>intro hb<;>subst hb)|refine aS ?_|refine reg (by kernel_rfl) ?_|refine lexE ?_|refine rD (by kernel_rfl) (by kernel_rfl) ?_)
        refine AWp.ret ⟨_,rfl,?_⟩
        rw [open_at hx hll hkd hjd hno]
        rfl
      · have hyes:marks L t.cols (r++[lb l])∈rowsM L t:=find_mem.1 (by simpa using _hb)
        have hjd2:∀x∈(lsB al).take (j+1),marks L t.cols (r++[x])∈rowsM L t:=fun x hx=>by
          rw [List.take_add_one,hll] at hx
          rcases List.mem_append.1 hx with hx|hx
          · exact hjd x hx
          · simp at hx;subst hx;exact hyes
        refine AWp.skip ?_
        (repeat first|refine sN rfl ?_|((first|refine sM rfl ?_ ?_|refine s4 rfl ‹_› rfl ?_ ?_);first|exact tI|omega|(simp only[oZ] at *;omega))|(refine s2 rfl ?_;intro _ _hb)|(refine s3 rfl ?_ ?_<;>intro hb<;>subst hb)|refine aS ?_|refine reg (by kernel_rfl) ?_|refine lexE ?_|refine rD (by kernel_rfl) (by kernel_rfl) ?_)
        refine ⟨⟨j+1,by first|omega|(simp only [oZ] at *;omega),hjd2⟩,by dsimp only;(first|omega|(simp only [oZ] at *;omega)),[0,1],?_⟩
        simp [EnvSub,StoreSub,look_cons,nm,E.ren,C.ren,C.renL,O.ren,killc,kill0,Function.comp_def,argsFrom,zC,hΓ,hr]
    · obtain rfl:j=(letters al).length:=by first|omega|(simp only [oZ] at *;omega)
      have hkd2:∀w∈nextsB (lsB al) (t.rows.take (k+1)),marks L t.cols w∈rowsM L t:=fun w hw=>by
        rw [nexts_take hx] at hw
        rcases List.mem_append.1 hw with hw|hw
        · exact hkd w hw
        · obtain ⟨x,hx2,rfl⟩:=List.mem_map.1 hw
          exact hjd x (by rw [List.take_of_length_le (by simp [lsB])];exact hx2)
      refine AWp.exit ?_
      (repeat first|refine sN rfl ?_|((first|refine sM rfl ?_ ?_|refine s4 rfl ‹_› rfl ?_ ?_);first|exact tI|omega|(simp only[oZ] at *;omega))|(refine s2 rfl ?_;intro _ _hb)|(refine s3 rfl ?_ ?_<;>intro hb<;>subst hb)|refine aS ?_|refine reg (by kernel_rfl) ?_|refine lexE ?_|refine rD (by kernel_rfl) (by kernel_rfl) ?_)
      refine ⟨⟨k+1,by first|omega|(simp only [oZ] at *;omega),hkd2⟩,by dsimp only;(first|omega|(simp only [oZ] at *;omega)),[0,1],?_⟩
      simp [EnvSub,StoreSub,look_cons,nm,E.ren,C.ren,C.renL,O.ren,killc,kill0,Function.comp_def,argsFrom,zC,hΓ,hr]
  · obtain rfl:k=t.rows.length:=by first|omega|(simp only [oZ] at *;omega)
    have hno:openW L (lsB al) t=none:=List.find?_eq_none.2 fun w hw=>by
      have:=hkd w (by rw [List.take_length];exact hw)
      simpa using this
    refine AWp.exit ?_
    (repeat first|refine sN rfl ?_|((first|refine sM rfl ?_ ?_|refine s4 rfl ‹_› rfl ?_ ?_);first|exact tI|omega|(simp only[oZ] at *;omega))|(refine s2 rfl ?_;intro _ _hb)|(refine s3 rfl ?_ ?_<;>intro hb<;>subst hb)|refine aS ?_|refine reg (by kernel_rfl) ?_|refine lexE ?_|refine rD (by kernel_rfl) (by kernel_rfl) ?_)
    refine AWp.ret ⟨_,rfl,?_⟩
    rw [hno]
    rfl
end Go.Am
