/-
  The automaton of a closed table, walked.
-/
import Derived.Test.YtainaphkaklkmaaGreatDoorPart16
import Derived.Test.YtainaphkaklkmaaGreatDoorPart8
import Derived.Test.YtainaphkaklkmaaGreatDoorPart7
import Derived.Test.YtainaphkaklkmaaGreatDoorPart14
set_option linter.constructorNameAsVariable false
set_option linter.unusedSimpArgs false
set_option linter.unusedVariables false
namespace Go.Am
open Go Go.Proofs
set_option maxHeartbeats 1000000
attribute [local irreducible] QOp AOp Lex LexO AWp Spec
variable {TB:List (Nat×Obj)}
theorem automaton_ok {c:C} {L:W→Bool} {ok:W→Prop} (hc:AskV Tryz.prog TB c L ok) (al:Int) (t:Tab) (hf:OkFits ok al) (ht:TBd al 20012 t) (ho:openW L (lsB al) t=none) :
    Pure Tryz.prog TB 51 [eOra al c,eTab t] (eAut (autM L al t)):=by
  have hr:=ren_pur c hc.pur
  have hrl:=ht.rl
  have hcl:=ht.cl
  have hla:(letters al).length≤6:=lettersTo_len al 6
  have hask:=ht.ask hf (by omega)
  have hnl:(autM L al t).nx.length=t.rows.length:=by simp [autM]
  have hal:(autM L al t).ac.length=t.rows.length:=by simp [autM]
  refine SpecK.toSpec (SpecK.ofM 3 (Nat.le_refl _) Tryz.func51 rfl rfl (by kernel_rfl) (Nat.le_of_ble_eq_true rfl) ?_);intro Γ hΓ
  (repeat first|refine sN rfl ?_|((first|refine sM rfl ?_ ?_|refine s4 rfl ‹_› rfl ?_ ?_);first|exact tI|omega|(simp only[oZ] at *;omega))|(refine s2 rfl ?_;intro _ _hb)|(refine s3 rfl ?_ ?_<;>intro hb<;>subst hb)|refine aS ?_|refine reg (by kernel_rfl) ?_|refine lexE ?_|refine rD (by kernel_rfl) (by kernel_rfl) ?_)
  (refine popO rfl ?_;refine popW ?_ rfl (by rfl);refine n_box rfl rfl ?_)
  (refine popO rfl ?_;refine popS (fun _ _=>q_boxI rfl rfl rfl) rfl ?_)
  (repeat first|refine sN rfl ?_|((first|refine sA rfl ?_ ?_|refine s4 rfl ‹_› rfl ?_ ?_);first|exact tI|omega|(simp only[oZ] at *;omega))|(refine s2 rfl ?_;intro _ _hb)|(refine s3 rfl ?_ ?_<;>intro hb<;>subst hb)|refine aS ?_|refine reg (by kernel_rfl) ?_|refine lexE ?_)
  (refine popO rfl ?_;refine popW ?_ rfl (by rfl);refine n_call [] rfl rfl (rowNumbers_ok hc al t hask.1) ⟨rfl,by simp,by simp⟩ (by simp [renEs,E.ren,C.renL,C.ren,hr,eC]) trivial ?_;rintro x0 σ1 nx1 ⟨rfl,rfl,rfl⟩ _)
  (repeat first|refine sN rfl ?_|((first|refine sA rfl ?_ ?_|refine s4 rfl ‹_› rfl ?_ ?_);first|exact tI|omega|(simp only[oZ] at *;omega))|(refine s2 rfl ?_;intro _ _hb)|(refine s3 rfl ?_ ?_<;>intro hb<;>subst hb)|refine aS ?_|refine reg (by kernel_rfl) ?_|refine lexE ?_)
  (refine popO rfl ?_;refine popW ?_ rfl (by rfl);refine n_buildN2 1 1 61 2 1 4 rfl rfl (by decide) rfl rfl (by rfl) (by rfl) ?_)
  (repeat first|refine sN rfl ?_|((first|refine sA rfl ?_ ?_|refine s4 rfl ‹_› rfl ?_ ?_);first|exact tI|omega|(simp only[oZ] at *;omega))|(refine s2 rfl ?_;intro _ _hb)|(refine s3 rfl ?_ ?_<;>intro hb<;>subst hb)|refine aS ?_|refine reg (by kernel_rfl) ?_|refine lexE ?_)
  refine AWp.block ?_
  refine AWp.loopL (α:={k:Nat // k≤t.rows.length}) (fun ⟨k,hkl⟩=>[(2,.o (.ptr 0 2 0 0)),(3,.o (.ip (taRow t))),(4,.o (.ptr 1 3 0 0)),(5,.o (.mp 2)),(6,.o (.ptr 3 3 0 0)),(19,.o (.d (tList t.rows))),(20,eI .i64 t.rows.length),(21,eI .i64 k)]) (fun ⟨k,hkl⟩=>[(0,.cells 77 2 [[.d (iD al),c]]),(1,.cells 26 3 [[.d (iD 0),.d (.l []),.d (.l [])]]),(2,.mp (mapT (numsTo L t t.rows.length))),(3,.cells 26 3 [[.d (iD al),.arr 4 1 0 k,.arr 5 1 0 k]]),(4,.cells 61 1 (((autM L al t).nx.take k).map fun r=>[.d (iList r)])),(5,.cells 4 1 (((autM L al t).ac.take k).map fun b=>[.d (bD b)]))]) 6 (fun ⟨k,hkl⟩=>t.rows.length - k) (⟨0,by omega⟩) [0,1,2,5,3,4] (by first|(simp [hΓ];done)|(rw [hΓ];decide)) (by (repeat' (first|exact trivial|rfl|refine And.intro ?_ ?_))<;>simp [EnvSub,StoreSub,look_cons,nm,E.ren,C.ren,C.renL,O.ren,killc,kill0,Function.comp_def,argsFrom,zC,hΓ,hr,eC,Store.ren,killL,nmo,fillC,spliceC]) ?_;rintro ⟨k,hkl⟩;(try dsimp only)
  (repeat first|refine sN rfl ?_|((first|refine sM rfl ?_ ?_|refine s4 rfl ‹_› rfl ?_ ?_);first|exact tI|omega|(simp only[oZ] at *;omega))|(refine s2 rfl ?_;intro _ _hb)|(refine s3 rfl ?_ ?_<;>intro hb<;>subst hb)|refine aS ?_|refine reg (by kernel_rfl) ?_|refine lexE ?_|refine rD (by kernel_rfl) (by kernel_rfl) ?_)
  (refine aC rfl ?_ ?_<;>intro hb<;>cases hb)
  · have hlt:k < t.rows.length:=by first|omega|(simp only [oZ] at *;omega)
    obtain ⟨r,hx⟩:=get_some (l:=t.rows) (k:=k) hlt
    have hx':=get_map (g:=tRow) hx
    have hxm:=List.mem_of_getElem? hx
    refine AWp.skip ?_
    refine AWp.seq (AWp.block ?_)
    (repeat first|refine sN rfl ?_|((first|refine sM rfl ?_ ?_|refine s4 rfl ‹_› rfl ?_ ?_);first|exact tI|omega|(simp only[oZ] at *;omega))|(refine s2 rfl ?_;intro _ _hb)|(refine s3 rfl ?_ ?_<;>intro hb<;>subst hb)|refine aS ?_|refine reg (by kernel_rfl) ?_|refine lexE ?_|refine rD (by kernel_rfl) (by kernel_rfl) ?_)
    (refine popO rfl ?_;refine popW ?_ rfl (by rfl);refine n_nil 1 3 ?_)
    (repeat first|refine sN rfl ?_|((first|refine sM rfl ?_ ?_|refine s4 rfl ‹_› rfl ?_ ?_);first|exact tI|omega|(simp only[oZ] at *;omega))|(refine s2 rfl ?_;intro _ _hb) |refine sP rfl (lettersOf_ok al) rfl ?_|(refine s3 rfl ?_ ?_<;>intro hb<;>subst hb)|refine aS ?_|refine reg (by kernel_rfl) ?_|refine lexE ?_|refine rD (by kernel_rfl) (by kernel_rfl) ?_)
    refine AWp.block ?_
    refine AWp.loopL (α:={j:Nat // j≤(letters al).length}) (fun ⟨j,hjl⟩=>[(2,.o (.ptr 0 2 0 0)),(3,.o (.ip (taRow t))),(4,.o (.ptr 1 3 0 0)),(5,.o (.mp 2)),(6,.o (.ptr 3 3 0 0)),(19,.o (.d (tList t.rows))),(20,eI .i64 t.rows.length),(21,eI .i64 k),(8,eT r),(9,.o (.arr 6 1 0 j)),(27,eInts (letters al)),(28,eI .i64 (letters al).length),(29,eI .i64 j)]) (fun ⟨j,hjl⟩=>[(0,.cells 77 2 [[.d (iD al),c]]),(1,.cells 26 3 [[.d (iD 0),.d (.l []),.d (.l [])]]),(2,.mp (mapT (numsTo L t t.rows.length))),(3,.cells 26 3 [[.d (iD al),.arr 4 1 0 k,.arr 5 1 0 k]]),(4,.cells 61 1 (((autM L al t).nx.take k).map fun r=>[.d (iList r)])),(5,.cells 4 1 (((autM L al t).ac.take k).map fun b=>[.d (bD b)])),(6,.cells 3 1 (((letters al).take j).map fun l=>[.d (iD ((idxM L t (r++[lb l]):Nat):Int))]))]) 7 (fun ⟨j,hjl⟩=>(letters al).length - j) (⟨0,by omega⟩) [0,1,2,3,4,5,6] (by first|(simp [hΓ];done)|(rw [hΓ];decide)) (by (repeat' (first|exact trivial|rfl|refine And.intro ?_ ?_))<;>simp [EnvSub,StoreSub,look_cons,nm,E.ren,C.ren,C.renL,O.ren,killc,kill0,Function.comp_def,argsFrom,zC,hΓ,hr,eC,Store.ren,killL,nmo]) ?_;rintro ⟨j,hjl⟩;(try dsimp only)
    (repeat first|refine sN rfl ?_|((first|refine sM rfl ?_ ?_|refine s4 rfl ‹_› rfl ?_ ?_);first|exact tI|omega|(simp only[oZ] at *;omega))|(refine s2 rfl ?_;intro _ _hb)|(refine s3 rfl ?_ ?_<;>intro hb<;>subst hb)|refine aS ?_|refine reg (by kernel_rfl) ?_|refine lexE ?_|refine rD (by kernel_rfl) (by kernel_rfl) ?_)
    (refine aC rfl ?_ ?_<;>intro hb<;>cases hb)
    · have hjlt:j < (letters al).length:=by first|omega|(simp only [oZ] at *;omega)
      obtain ⟨l,hl⟩:=get_some (l:=letters al) (k:=j) hjlt
      have hl':=get_map (g:=iRow) hl
      have hlm:=List.mem_of_getElem? hl
      have hlb:=lettersTo_in hlm
      have hrb:=ht.onR r hxm
      have hm:=marks_ok (TB:=TB) hc al t (r++[lb l]) (by omega) (fun x hx=>hask.2 r hxm _ (List.mem_map.2 ⟨l,hlm,rfl⟩) x hx) (fun y hy=>by have:=(ht.onC y hy).2;simp;omega)
      have hlk:=look_idx ho hxm hlm
      refine AWp.skip ?_
      refine AWp.seq (AWp.block ?_)
      (repeat first|refine sN rfl ?_|((first|refine sA rfl ?_ ?_|refine s4 rfl ‹_› rfl ?_ ?_);first|exact tI|omega|(simp only[oZ] at *;omega))|(refine s2 rfl ?_;intro _ _hb)|(refine s3 rfl ?_ ?_<;>intro hb<;>subst hb)|refine aS ?_|refine reg (by kernel_rfl) ?_|refine lexE ?_)
      refine regD (flN [13]) mixed (by kernel_rfl) (by kernel_rfl) ?_
      (repeat first|refine sN rfl ?_|((first|refine sA rfl ?_ ?_|refine s4 rfl ‹_› rfl ?_ ?_);first|exact tI|omega|(simp only[oZ] at *;omega))|(refine s2 rfl ?_;intro _ _hb) |refine sP rfl (letterByte_ok l hlb.1 (by omega)) rfl ?_|(refine popO rfl ?_;refine gA rfl ?_;first|refine gS (fun _ _=>q_rune rfl (by omega) (by omega)) ?_)|(refine s3 rfl ?_ ?_<;>intro hb<;>subst hb)|refine aS ?_|refine reg (by kernel_rfl) ?_|refine lexE ?_)
      rw [lb_of hlb.1]
      (repeat first|refine sN rfl ?_|((first|refine sM rfl ?_ ?_|refine s4 rfl ‹_› rfl ?_ ?_);first|exact tI|omega|(simp only[oZ] at *;omega))|(refine s2 rfl ?_;intro _ _hb)|(refine popO rfl ?_;refine gA rfl ?_;first|refine gS (fun _ _=>q_call rfl rfl (by simp [E.pur,C.purL,C.pur,hc.pur]) hm rfl) ?_|refine gQ (q_look0 rfl rfl rfl) (by rfl) ?_)|(refine s3 rfl ?_ ?_<;>intro hb<;>subst hb)|refine aS ?_|refine reg (by kernel_rfl) ?_|refine lexE ?_|refine rD (by kernel_rfl) (by kernel_rfl) ?_)
      (repeat first|refine sN rfl ?_|((first|refine sA rfl ?_ ?_|refine s4 rfl ‹_› rfl ?_ ?_);first|exact tI|omega|(simp only[oZ] at *;omega))|(refine s2 rfl ?_;intro _ _hb)|(refine s3 rfl ?_ ?_<;>intro hb<;>subst hb)|refine aS ?_|refine reg (by kernel_rfl) ?_|refine lexE ?_)
      (refine popO rfl ?_;refine popW ?_ rfl (by rfl);refine n_append rfl rfl rfl (by first|(simp;done)|(simp;(first|omega|(simp only [oZ] at *;omega)))) rfl (by intro r hr;simp at hr;subst hr;rfl) (by rfl) (Nat.le_of_ble_eq_true rfl) (by simp;omega) ?_)
      (repeat first|refine sN rfl ?_|((first|refine sA rfl ?_ ?_|refine s4 rfl ‹_› rfl ?_ ?_);first|exact tI|omega|(simp only[oZ] at *;omega))|(refine s2 rfl ?_;intro _ _hb)|(refine s3 rfl ?_ ?_<;>intro hb<;>subst hb)|refine aS ?_|refine reg (by kernel_rfl) ?_|refine lexE ?_)
      rw [hlk]
      refine ⟨⟨j+1,by first|omega|(simp only [oZ] at *;omega)⟩,by dsimp only;(first|omega|(simp only [oZ] at *;omega)),[0,1,2,3,4,5,7],?_⟩
      simp [EnvSub,StoreSub,look_cons,nm,E.ren,C.ren,C.renL,O.ren,killc,kill0,Function.comp_def,argsFrom,zC,hΓ,hr,List.take_add_one,hl]
    · obtain rfl:j=(letters al).length:=by first|omega|(simp only [oZ] at *;omega)
      have hok:=hf r (ht.onR r hxm).1 (by have:=(ht.onR r hxm).2;omega)
      have hnx:(autM L al t).nx.take (k+1)=(autM L al t).nx.take k++[(letters al).map fun l=>((idxM L t (r++[lb l]):Nat):Int)]:=by
        rw [List.take_add_one];simp [autM,hx]
      have hac:(autM L al t).ac.take (k+1)=(autM L al t).ac.take k++[L r]:=by
        rw [List.take_add_one];simp [autM,hx]
      refine AWp.exit ?_
      rw [List.take_length]
      refine AWp.freezeV [6] [2,3,4,5,6,8,19,20,21] rfl [(9,eInts ((letters al).map fun l=>((idxM L t (r++[lb l]):Nat):Int)))] ⟨⟨_,rfl,.o (.full (by simp) rfl (by simp [Function.comp_def]) (by simp))⟩,trivial⟩ ?_;(try dsimp only [List.cons_append,List.nil_append])
      (repeat first|refine sN rfl ?_|((first|refine sA rfl ?_ ?_|refine s4 rfl ‹_› rfl ?_ ?_);first|exact tI|omega|(simp only[oZ] at *;omega))|(refine s2 rfl ?_;intro _ _hb)|(refine s3 rfl ?_ ?_<;>intro hb<;>subst hb)|refine aS ?_|refine reg (by kernel_rfl) ?_|refine lexE ?_)
      (refine popO rfl ?_;refine popW ?_ rfl (by rfl);refine n_append rfl rfl rfl (by first|(simp;done)|(simp;(first|omega|(simp only [oZ] at *;omega)))) rfl (by intro r hr;simp at hr;subst hr;rfl) (by rfl) (Nat.le_of_ble_eq_true rfl) (by simp;omega) ?_)
      (repeat first|refine sN rfl ?_|((first|refine sA rfl ?_ ?_|refine s4 rfl ‹_› rfl ?_ ?_);first|exact tI|omega|(simp only[oZ] at *;omega))|(refine s2 rfl ?_;intro _ _hb)|(refine s3 rfl ?_ ?_<;>intro hb<;>subst hb)|refine aS ?_|refine reg (by kernel_rfl) ?_|refine lexE ?_)
      refine regD (flN [7,9]) mixed (by kernel_rfl) (by kernel_rfl) ?_
      (repeat first|refine sN rfl ?_|((first|refine sA rfl ?_ ?_|refine s4 rfl ‹_› rfl ?_ ?_);first|exact tI|omega|(simp only[oZ] at *;omega))|(refine s2 rfl ?_;intro _ _hb)|(refine popO rfl ?_;refine gA rfl ?_;first|refine gS (fun _ _=>hc.ask rfl rfl hok) ?_)|(refine s3 rfl ?_ ?_<;>intro hb<;>subst hb)|refine aS ?_|refine reg (by kernel_rfl) ?_|refine lexE ?_)
      (refine popO rfl ?_;refine popW ?_ rfl (by rfl);refine n_append rfl rfl rfl (by first|(simp;done)|(simp;(first|omega|(simp only [oZ] at *;omega)))) rfl (by intro r hr;simp at hr;subst hr;rfl) (by rfl) (Nat.le_of_ble_eq_true rfl) (by simp;omega) ?_)
      (repeat first|refine sN rfl ?_|((first|refine sA rfl ?_ ?_|refine s4 rfl ‹_› rfl ?_ ?_);first|exact tI|omega|(simp only[oZ] at *;omega))|(refine s2 rfl ?_;intro _ _hb)|(refine s3 rfl ?_ ?_<;>intro hb<;>subst hb)|refine aS ?_|refine reg (by kernel_rfl) ?_|refine lexE ?_)
      refine ⟨⟨k+1,by first|omega|(simp only [oZ] at *;omega)⟩,by dsimp only;(first|omega|(simp only [oZ] at *;omega)),[0,1,2,3,7,8],?_⟩
      simp [EnvSub,StoreSub,look_cons,nm,E.ren,C.ren,C.renL,O.ren,killc,kill0,Function.comp_def,argsFrom,zC,hΓ,hr,eC,Store.ren,killL,nmo,fillC,spliceC,hnx,hac]
  · obtain rfl:k=t.rows.length:=by first|omega|(simp only [oZ] at *;omega)
    have ht1:(autM L al t).nx.take t.rows.length=(autM L al t).nx:=List.take_of_length_le (by simp [autM])
    have ht2:(autM L al t).ac.take t.rows.length=(autM L al t).ac:=List.take_of_length_le (by simp [autM])
    rw [ht1,ht2]
    refine AWp.exit ?_
    (repeat first|refine sN rfl ?_|((first|refine sM rfl ?_ ?_|refine s4 rfl ‹_› rfl ?_ ?_);first|exact tI|omega|(simp only[oZ] at *;omega))|(refine s2 rfl ?_;intro _ _hb)|(refine s3 rfl ?_ ?_<;>intro hb<;>subst hb)|refine aS ?_|refine reg (by kernel_rfl) ?_|refine lexE ?_|refine rD (by kernel_rfl) (by kernel_rfl) ?_)
    refine AWp.settle [(4,.o (.ip [iD al,iiList (autM L al t).nx,bList (autM L al t).ac]))] ⟨⟨_,rfl,.o (.box rfl (.cons .d (.cons (.full rfl (by simp [Function.comp_def]) (by simp [autM])) (.cons (.full rfl (by simp [Function.comp_def]) (by simp [autM])) .nil))))⟩,trivial⟩ ?_
    refine AWp.ret ⟨_,rfl,rfl⟩
end Go.Am
namespace Go.Am
open Go Go.Proofs
set_option maxHeartbeats 1000000
attribute [local irreducible] QOp AOp Lex LexO AWp Spec
variable {TB:List (Nat×Obj)}
theorem letterAt_ok (w:W) (i:Nat) (c:UInt8) (hc:w[((i:Nat):Int).toNat]? = some c) (hl:0≤(c.toNat:Int) - 97∧(c.toNat:Int) - 97 < 6):Pure Tryz.prog TB 40 [eT w,eI .i64 i] (eI .i64 ((c.toNat:Int) - 97)):=by
  refine eN Tryz.func40 rfl (by kernel_rfl) rfl ?_;intro Γ hΓ
  (repeat' first|refine sN rfl ?_|((first|refine sA rfl ?_ ?_|refine s4 rfl ‹_› rfl ?_ ?_);first|exact tI|omega|(simp only[oZ] at *;omega))|(refine s2 rfl ?_;intro _ _hb)|(refine s3 rfl ?_ ?_<;>intro hb<;>subst hb)|refine aS ?_|refine reg (by kernel_rfl) ?_|refine lexE ?_|refine rD (by kernel_rfl) (by kernel_rfl) ?_|(refine aC rfl ?_ ?_<;>intro hb<;>cases hb)|refine aK ?_|refine aE ?_|refine aB ?_|refine AWp.ret ⟨_,rfl,?_⟩)
  all_goals first
    | rfl
    | (exfalso;grind)
abbrev teRow (kn:Bool) (p:Aut) (s:Sys) (q:Aut) (al:Int):List D:=[bD kn,iD p.al,iiList p.nx,bList p.ac,iD s.al,iD s.st,edList s.es,iD q.al,iiList q.nx,bList q.ac,iD al]
theorem on_take {ls:List UInt8} {w:W} (h:wordOn ls w) (k:Nat):wordOn ls (w.take k):=fun c hc=>h c (List.mem_of_mem_take hc)
theorem on_drop {ls:List UInt8} {w:W} (h:wordOn ls w) (k:Nat):wordOn ls (w.drop k):=fun c hc=>h c (List.mem_of_mem_drop hc)
theorem runA_step {p:Aut} {w:W} {k:Nat} {c:UInt8} (hc:w[k]? = some c) (q:Int):runA p q (w.take (k+1))=goA p (runA p q (w.take k)).toNat ((c.toNat:Int) - 97):=by
  rw [List.take_add_one,hc,runA_app];rfl
theorem runM_step {L:W→Bool} {t:Tab} {w:W} {k:Nat} {c:UInt8} (hc:w[k]? = some c) (q:Nat):runM L t q (w.take (k+1))=idxM L t (t.rows.getD (runM L t q (w.take k)) []++[c]):=by
  rw [List.take_add_one,hc,runM_app];rfl
theorem ask1_ok {p:Aut} (hp:autOk p=true) (s:Sys) (q:Aut) (al:Int) (kn:Bool) (w:W) (hw:wordOn (lsB p.al) w) (hl:w.length≤1048576) :
    Pure Tryz.prog TB 76 [eT w,.o (.ip [.l (tblD p)]),.o (.ip (teRow kn p s q al))] (eB (LA p w)):=by
  have hph:=autOk_head hp
  refine eN Tryz.func76 rfl (by kernel_rfl) rfl ?_;intro Γ hΓ
  (repeat first|refine sN rfl ?_|((first|refine sA rfl ?_ ?_|refine s4 rfl ‹_› rfl ?_ ?_);first|exact tI|omega|(simp only[oZ] at *;omega))|(refine s2 rfl ?_;intro _ _hb)|(refine s3 rfl ?_ ?_<;>intro hb<;>subst hb)|refine aS ?_|refine reg (by kernel_rfl) ?_|refine lexE ?_)
  refine AWp.block ?_
  refine AWp.loopV (α:={k:Nat // k≤w.length}) [0,1,2,8] [] rfl rfl (fun ⟨k,hk⟩=>[(5,eI .i64 (runA p 0 (w.take k))),(9,eI .i64 k)]) (fun ⟨k,hk⟩=>[]) 0 (fun ⟨k,hk⟩=>w.length - k) (⟨0,by omega⟩) (List.range 0) (by first|(simp [hΓ];done)|(rw [hΓ];decide)) (by (repeat' (first|exact trivial|rfl|refine And.intro ?_ ?_))<;>(simp [EnvSub,StoreSub,look_cons,nm,nmo,E.ren,C.ren,C.renL,O.ren,Store.ren,killc,kill0,killL,kill,fillC,spliceC,eC,Function.comp_def,argsFrom,zC,hΓ]<;>rfl)) ?_;rintro ⟨k,hk⟩;(try dsimp only [List.cons_append,List.nil_append])
  have hr:=runA_in hp (w.take k) 0 (on_take hw k) (by omega)
  by_cases hlt:k < w.length
  · obtain ⟨c,hc⟩:=get_some hlt
    have hc':w[((k:Nat):Int).toNat]? = some c:=by simpa using hc
    have hcl:=lsB_num (hw c (List.mem_of_getElem? hc))
    have hla:=letterAt_ok (TB:=TB) w k c hc' hcl
    have ta:=tbl_get (a:=p) (q:=(runA p 0 (w.take k)).toNat) (by omega)
    have el:((((c.toNat:Int) - 97).toNat:Nat):Int)=(c.toNat:Int) - 97:=by omega
    have ra:=rowD_get (h:=fun l=>goA p (runA p 0 (w.take k)).toNat l) hcl.1 (by omega)
    simp only [el] at ra
    have hst:=runA_step (p:=p) hc 0
    (repeat first|refine sN rfl ?_|((first|refine sA rfl ?_ ?_|refine s4 rfl ‹_› rfl ?_ ?_);first|exact tI|omega|(simp only[oZ] at *;omega))|(refine s2 rfl ?_;intro _ _hb)|(refine s3 rfl ?_ ?_<;>intro hb<;>subst hb)|refine aS ?_|refine reg (by kernel_rfl) ?_|refine lexE ?_)
    (refine aC rfl ?_ ?_<;>intro hb<;>cases hb)
    · (repeat' first|refine sN rfl ?_|((first|refine sA rfl ?_ ?_|refine s4 rfl ‹_› rfl ?_ ?_);first|exact tI|omega|(simp only[oZ] at *;omega))|(refine s2 rfl ?_;intro _ _hb) |refine sP rfl (hla) rfl ?_|(refine popO rfl ?_;refine gA rfl ?_;first|refine gS (fun _ _=>q_loadIp0 rfl ra) ?_)|(refine s3 rfl ?_ ?_<;>intro hb<;>subst hb)|refine aS ?_|refine reg (by kernel_rfl) ?_|refine lexE ?_|refine rD (by kernel_rfl) (by kernel_rfl) ?_|(refine aC rfl ?_ ?_<;>intro hb<;>cases hb)|refine aK ?_|refine aE ?_|refine aB ?_|refine AWp.ret ⟨_,rfl,?_⟩)
      refine ⟨⟨k+1,by first|omega|(simp only [oZ] at *;omega)⟩,by dsimp only;(first|omega|(simp only [oZ] at *;omega)),[],?_⟩
      simp [EnvSub,StoreSub,look_cons,nm,nmo,E.ren,C.ren,C.renL,O.ren,Store.ren,killc,kill0,killL,kill,fillC,spliceC,eC,Function.comp_def,argsFrom,zC,hΓ,hst]
    · exfalso;first|omega|(simp only [oZ] at *;omega)
  · obtain rfl:k=w.length:=by omega
    rw [List.take_length] at *
    obtain ⟨b,hb⟩:=get_some (l:=p.ac) (k:=(runA p 0 w).toNat) (by omega)
    have hb':(p.ac.map bRow)[(runA p 0 w).toNat]? = some (bRow b):=by simp [hb]
    have hbl:LA p w=b:=by unfold LA;simp [List.getD,hb]
    rw [hbl]
    (repeat first|refine sN rfl ?_|((first|refine sA rfl ?_ ?_|refine s4 rfl ‹_› rfl ?_ ?_);first|exact tI|omega|(simp only[oZ] at *;omega))|(refine s2 rfl ?_;intro _ _hb)|(refine s3 rfl ?_ ?_<;>intro hb<;>subst hb)|refine aS ?_|refine reg (by kernel_rfl) ?_|refine lexE ?_)
    (refine aC rfl ?_ ?_<;>intro hb<;>cases hb)
    · exfalso;first|omega|(simp only [oZ] at *;omega)
    · (repeat' first|refine sN rfl ?_|((first|refine sA rfl ?_ ?_|refine s4 rfl ‹_› rfl ?_ ?_);first|exact tI|omega|(simp only[oZ] at *;omega))|(refine s2 rfl ?_;intro _ _hb)|(refine s3 rfl ?_ ?_<;>intro hb<;>subst hb)|refine aS ?_|refine reg (by kernel_rfl) ?_|refine lexE ?_|refine rD (by kernel_rfl) (by kernel_rfl) ?_|(refine aC rfl ?_ ?_<;>intro hb<;>cases hb)|refine aK ?_|refine aE ?_|refine aB ?_|refine AWp.ret ⟨_,rfl,?_⟩)
      rfl
def splitO (L:W→Bool) (t:Tab) (w:W):Option W:=if accM L t w=L w then none else splitAt L t (L w) 0 w
theorem splitAt_step {L:W→Bool} {t:Tab} {b:Bool} {w:W} {k q:Nat} {c:UInt8} (hc:w[k]? = some c):splitAt L t b q (w.drop k)=if L (t.rows.getD (idxM L t (t.rows.getD q []++[c])) []++w.drop (k+1))≠b then some (w.drop (k+1)) else splitAt L t b (idxM L t (t.rows.getD q []++[c])) (w.drop (k+1)):=by
  rw [drop_some hc,splitAt]
theorem splitWord_ok {c:C} {L:W→Bool} {ok:W→Prop} (hc:AskV Tryz.prog TB c L ok) (al:Int) (t:Tab) (hf:OkFits ok al) (ht:TBd al 20012 t) (hal:alphB al=true) (hcl:Closed L (lsB al) t) (ho:openW L (lsB al) t=none) (w:W) (hw:wordOn (lsB al) w) (hwl:w.length≤20000) :
    Pure Tryz.prog TB 94 [eOra al c,eTab t,eT w] (eOpt (splitO L t w)):=by
  have hr:=ren_pur c hc.pur
  have hrl:=ht.rl
  have hau:=automaton_ok (TB:=TB) hc al t hf ht ho
  have haok:=autM_ok hal hcl hrl
  have hta:=tableOf_ok (TB:=TB) (autM L al t) haok
  have hnl:(autM L al t).nx.length=t.rows.length:=by simp [autM]
  have h0:0 < t.rows.length:=(List.getElem?_eq_some_iff.1 hcl.r0).1
  have hokw:=hf w hw (by omega)
  have hpu:([eOra al c,eTab t].all E.pur && C.purL [])=true:=by simp [E.pur,C.purL,C.pur,hc.pur]
  refine eN Tryz.func94 rfl (by kernel_rfl) rfl ?_;intro Γ hΓ
  (repeat first|refine sN rfl ?_|((first|refine sA rfl ?_ ?_|refine s4 rfl ‹_› rfl ?_ ?_);first|exact tI|omega|(simp only[oZ] at *;omega))|(refine s2 rfl ?_;intro _ _hb)|(refine s3 rfl ?_ ?_<;>intro hb<;>subst hb)|refine aS ?_|refine reg (by kernel_rfl) ?_|refine lexE ?_)
  (refine popO rfl ?_;refine popW ?_ rfl (by rfl);refine n_box rfl rfl ?_)
  (refine popO rfl ?_;refine popS (fun _ _=>q_boxI rfl rfl rfl) rfl ?_)
  (repeat first|refine sN rfl ?_|((first|refine sA rfl ?_ ?_|refine s4 rfl ‹_› rfl ?_ ?_);first|exact tI|omega|(simp only[oZ] at *;omega))|(refine s2 rfl ?_;intro _ _hb)|(refine s3 rfl ?_ ?_<;>intro hb<;>subst hb)|refine aS ?_|refine reg (by kernel_rfl) ?_|refine lexE ?_)
  (repeat first|refine sN rfl ?_|((first|refine sA rfl ?_ ?_|refine s4 rfl ‹_› rfl ?_ ?_);first|exact tI|omega|(simp only[oZ] at *;omega))|(refine s2 rfl ?_;intro _ _hb)|(refine popO rfl ?_;refine gA rfl ?_;first|refine gS (fun _ _=>q_call rfl rfl hpu hau rfl) ?_)|(refine s3 rfl ?_ ?_<;>intro hb<;>subst hb)|refine aS ?_|refine reg (by kernel_rfl) ?_|refine lexE ?_)
  (repeat first|refine sN rfl ?_|((first|refine sA rfl ?_ ?_|refine s4 rfl ‹_› rfl ?_ ?_);first|exact tI|omega|(simp only[oZ] at *;omega))|(refine s2 rfl ?_;intro _ _hb) |refine sP rfl (hta) rfl ?_|(refine s3 rfl ?_ ?_<;>intro hb<;>subst hb)|refine aS ?_|refine reg (by kernel_rfl) ?_|refine lexE ?_)
  refine AWp.block ?_
  refine AWp.loopV (α:={k:Nat // k≤w.length}) [2,3,4,8,9,20] [0,1] rfl rfl (fun ⟨k,hk⟩=>[(10,eI .i64 (runM L t 0 (w.take k):Nat)),(21,eI .i64 k)]) (fun ⟨k,hk⟩=>[]) 2 (fun ⟨k,hk⟩=>w.length - k) (⟨0,by omega⟩) (List.range 2) (by first|(simp [hΓ];done)|(rw [hΓ];decide)) (by (repeat' (first|exact trivial|rfl|refine And.intro ?_ ?_))<;>(simp [EnvSub,StoreSub,look_cons,nm,nmo,E.ren,C.ren,C.renL,O.ren,Store.ren,killc,kill0,killL,kill,fillC,spliceC,eC,Function.comp_def,argsFrom,zC,hΓ,hr]<;>rfl)) ?_;rintro ⟨k,hk⟩;(try dsimp only [List.cons_append,List.nil_append])
  have hrn:=hcl.run (w.take k) 0 (on_take hw k) h0
  by_cases hlt:k < w.length
  · obtain ⟨c2,hc2⟩:=get_some hlt
    have hc':w[((k:Nat):Int).toNat]? = some c2:=by simpa using hc2
    have hcm:=hw c2 (List.mem_of_getElem? hc2)
    have hcn:=lsB_num hcm
    have hla:=letterAt_ok (TB:=TB) w k c2 hc' hcn
    have ta:=tbl_get (a:=autM L al t) (q:=(((runM L t 0 (w.take k):Nat):Int)).toNat) (by omega)
    have el:((((c2.toNat:Int) - 97).toNat:Nat):Int)=(c2.toNat:Int) - 97:=by omega
    have ra:=rowD_get (h:=fun l=>goA (autM L al t) (((runM L t 0 (w.take k):Nat):Int)).toNat l) hcn.1 (by omega)
    simp only [el] at ra
    have hga:=goA_autM (L:=L) (al:=al) (t:=t) (q:=runM L t 0 (w.take k)) hrn hcm
    have hst:=runM_step (L:=L) (t:=t) hc2 0
    rw [←hst] at hga
    rw [Int.toNat_natCast,hga] at ra
    (repeat first|refine sN rfl ?_|((first|refine sA rfl ?_ ?_|refine s4 rfl ‹_› rfl ?_ ?_);first|exact tI|omega|(simp only[oZ] at *;omega))|(refine s2 rfl ?_;intro _ _hb)|(refine s3 rfl ?_ ?_<;>intro hb<;>subst hb)|refine aS ?_|refine reg (by kernel_rfl) ?_|refine lexE ?_)
    (refine aC rfl ?_ ?_<;>intro hb<;>cases hb)
    · (repeat' first|refine sN rfl ?_|((first|refine sA rfl ?_ ?_|refine s4 rfl ‹_› rfl ?_ ?_);first|exact tI|omega|(simp only[oZ] at *;omega))|(refine s2 rfl ?_;intro _ _hb) |refine sP rfl (hla) rfl ?_|(refine popO rfl ?_;refine gA rfl ?_;first|refine gS (fun _ _=>q_loadIp0 rfl ra) ?_)|(refine s3 rfl ?_ ?_<;>intro hb<;>subst hb)|refine aS ?_|refine reg (by kernel_rfl) ?_|refine lexE ?_|refine rD (by kernel_rfl) (by kernel_rfl) ?_|(refine aC rfl ?_ ?_<;>intro hb<;>cases hb)|refine aK ?_|refine aE ?_|refine aB ?_|refine AWp.ret ⟨_,rfl,?_⟩)
      refine ⟨⟨k+1,by first|omega|(simp only [oZ] at *;omega)⟩,by dsimp only;(first|omega|(simp only [oZ] at *;omega)),[0,1],?_⟩
      simp [EnvSub,StoreSub,look_cons,nm,nmo,E.ren,C.ren,C.renL,O.ren,Store.ren,killc,kill0,killL,kill,fillC,spliceC,eC,Function.comp_def,argsFrom,zC,hΓ,hr]
    · exfalso;first|omega|(simp only [oZ] at *;omega)
  · obtain rfl:k=w.length:=by omega
    rw [List.take_length] at *
    (repeat first|refine sN rfl ?_|((first|refine sA rfl ?_ ?_|refine s4 rfl ‹_› rfl ?_ ?_);first|exact tI|omega|(simp only[oZ] at *;omega))|(refine s2 rfl ?_;intro _ _hb)|(refine s3 rfl ?_ ?_<;>intro hb<;>subst hb)|refine aS ?_|refine reg (by kernel_rfl) ?_|refine lexE ?_)
    (refine aC rfl ?_ ?_<;>intro hb<;>cases hb)
    · exfalso;first|omega|(simp only [oZ] at *;omega)
    · refine AWp.exit ?_
      have hacx:((autM L al t).ac.map bRow)[(((runM L t 0 w:Nat):Int)).toNat]? = some (bRow (accM L t w)):=by
        unfold accM
        simp [autM,List.getD,hrn]
      (repeat first|refine sN rfl ?_|((first|refine sA rfl ?_ ?_|refine s4 rfl ‹_› rfl ?_ ?_);first|exact tI|omega|(simp only[oZ] at *;omega))|(refine s2 rfl ?_;intro _ _hb)|(refine popO rfl ?_;refine gA rfl ?_;first|refine gS (fun _ _=>hc.ask rfl rfl hokw) ?_)|(refine s3 rfl ?_ ?_<;>intro hb<;>subst hb)|refine aS ?_|refine reg (by kernel_rfl) ?_|refine lexE ?_)
      (refine aC rfl ?_ ?_<;>intro hb<;>cases hb)
      · have hn:splitO L t w=none:=by unfold splitO;rw [if_pos (by simpa using _hb)]
        (repeat first|refine sN rfl ?_|((first|refine sA rfl ?_ ?_|refine s4 rfl ‹_› rfl ?_ ?_);first|exact tI|omega|(simp only[oZ] at *;omega))|(refine s2 rfl ?_;intro _ _hb)|(refine s3 rfl ?_ ?_<;>intro hb<;>subst hb)|refine aS ?_|refine reg (by kernel_rfl) ?_|refine lexE ?_)
        refine AWp.ret ⟨_,rfl,?_⟩
        rw [hn];rfl
      · have hso:splitO L t w=splitAt L t (L w) 0 w:=by unfold splitO;rw [if_neg (by simpa using _hb)]
        rw [hso]
        refine AWp.skip ?_
        (repeat first|refine sN rfl ?_|((first|refine sA rfl ?_ ?_|refine s4 rfl ‹_› rfl ?_ ?_);first|exact tI|omega|(simp only[oZ] at *;omega))|(refine s2 rfl ?_;intro _ _hb)|(refine s3 rfl ?_ ?_<;>intro hb<;>subst hb)|refine aS ?_|refine reg (by kernel_rfl) ?_|refine lexE ?_)
        refine AWp.block ?_
        refine AWp.loopV (α:={k:Nat // k≤w.length∧splitAt L t (L w) 0 w=splitAt L t (L w) (runM L t 0 (w.take k)) (w.drop k)}) [2,3,4,9,12,45] [0] rfl rfl (fun ⟨k,hk,he⟩=>[(10,eI .i64 (runM L t 0 (w.take k):Nat)),(46,eI .i64 k)]) (fun ⟨k,hk,he⟩=>[]) 1 (fun ⟨k,hk,he⟩=>w.length - k) (⟨0,by omega,rfl⟩) (List.range 1) (by first|(simp [hΓ];done)|(rw [hΓ];decide)) (by (repeat' (first|exact trivial|rfl|refine And.intro ?_ ?_))<;>(simp [EnvSub,StoreSub,look_cons,nm,nmo,E.ren,C.ren,C.renL,O.ren,Store.ren,killc,kill0,killL,kill,fillC,spliceC,eC,Function.comp_def,argsFrom,zC,hΓ,hr]<;>rfl)) ?_;rintro ⟨k,hk,he⟩;(try dsimp only [List.cons_append,List.nil_append])
        have hrn:=hcl.run (w.take k) 0 (on_take hw k) h0
        by_cases hlt:k < w.length
        · obtain ⟨c2,hc2⟩:=get_some hlt
          have hc':w[((k:Nat):Int).toNat]? = some c2:=by simpa using hc2
          have hcm:=hw c2 (List.mem_of_getElem? hc2)
          have hcn:=lsB_num hcm
          have hla:=letterAt_ok (TB:=TB) w k c2 hc' hcn
          have ta:=tbl_get (a:=autM L al t) (q:=(((runM L t 0 (w.take k):Nat):Int)).toNat) (by omega)
          have el:((((c2.toNat:Int) - 97).toNat:Nat):Int)=(c2.toNat:Int) - 97:=by omega
          have ra:=rowD_get (h:=fun l=>goA (autM L al t) (((runM L t 0 (w.take k):Nat):Int)).toNat l) hcn.1 (by omega)
          simp only [el] at ra
          have hga:=goA_autM (L:=L) (al:=al) (t:=t) (q:=runM L t 0 (w.take k)) hrn hcm
          have hst:=runM_step (L:=L) (t:=t) hc2 0
          have hrn2:=hcl.run (w.take (k+1)) 0 (on_take hw (k+1)) h0
          rw [splitAt_step hc2,←hst] at he
          rw [←hst] at hga
          rw [Int.toNat_natCast,hga] at ra
          generalize hq2:runM L t 0 (w.take (k+1))=q2 at *
          obtain ⟨r2,hr2⟩:=get_some (l:=t.rows) (k:=q2) hrn2
          have hr2':=get_map (g:=tRow) hr2
          have hgd:t.rows.getD q2 []=r2:=by simp [List.getD,hr2]
          rw [hgd] at he
          have hrb:=ht.onR r2 (List.mem_of_getElem? hr2)
          have hdl:(w.drop (k+1)).length=w.length - (k+1):=List.length_drop
          have hokv:=hf (r2++w.drop (k+1)) (fun c hc=>by
            rcases List.mem_append.1 hc with hc|hc
            · exact hrb.1 c hc
            · exact on_drop hw _ c hc) (by simp;omega)
          have hk1:(((k:Nat):Int)+1).toNat=k+1:=by omega
          (repeat first|refine sN rfl ?_|((first|refine sA rfl ?_ ?_|refine s4 rfl ‹_› rfl ?_ ?_);first|exact tI|omega|(simp only[oZ] at *;omega))|(refine s2 rfl ?_;intro _ _hb)|(refine s3 rfl ?_ ?_<;>intro hb<;>subst hb)|refine aS ?_|refine reg (by kernel_rfl) ?_|refine lexE ?_)
          (refine aC rfl ?_ ?_<;>intro hb<;>cases hb)
          · refine AWp.skip ?_
            refine AWp.seq (AWp.block ?_)
            (repeat first|refine sN rfl ?_|((first|refine sA rfl ?_ ?_|refine s4 rfl ‹_› rfl ?_ ?_);first|exact tI|omega|(simp only[oZ] at *;omega))|(refine s2 rfl ?_;intro _ _hb) |refine sP rfl (hla) rfl ?_|(refine popO rfl ?_;refine gA rfl ?_;first|refine gS (fun _ _=>q_loadIp0 rfl ra) ?_)|(refine s3 rfl ?_ ?_<;>intro hb<;>subst hb)|refine aS ?_|refine reg (by kernel_rfl) ?_|refine lexE ?_|refine rD (by kernel_rfl) (by kernel_rfl) ?_)
            (repeat first|refine sN rfl ?_|((first|refine sA rfl ?_ ?_|refine s4 rfl ‹_› rfl ?_ ?_);first|exact tI|omega|(simp only[oZ] at *;omega))|(refine s2 rfl ?_;intro _ _hb)|(refine popO rfl ?_;refine gA rfl ?_;first|refine gS (fun _ _=>q_dropT rfl rfl (by omega) (by omega)) ?_)|(refine s3 rfl ?_ ?_<;>intro hb<;>subst hb)|refine aS ?_|refine reg (by kernel_rfl) ?_|refine lexE ?_|refine rD (by kernel_rfl) (by kernel_rfl) ?_)
            rw [hk1]
            (repeat first|refine sN rfl ?_|((first|refine sA rfl ?_ ?_|refine s4 rfl ‹_› rfl ?_ ?_);first|exact tI|omega|(simp only[oZ] at *;omega))|(refine s2 rfl ?_;intro _ _hb)|(refine popO rfl ?_;refine gA rfl ?_;first|refine gS (fun _ _=>hc.ask rfl rfl hokv) ?_)|(refine s3 rfl ?_ ?_<;>intro hb<;>subst hb)|refine aS ?_|refine reg (by kernel_rfl) ?_|refine lexE ?_|refine rD (by kernel_rfl) (by kernel_rfl) ?_)
            (refine aC rfl ?_ ?_<;>intro hb<;>cases hb)
            · rw [if_pos (by simpa using _hb)] at he
              (repeat first|refine sN rfl ?_|((first|refine sA rfl ?_ ?_|refine s4 rfl ‹_› rfl ?_ ?_);first|exact tI|omega|(simp only[oZ] at *;omega))|(refine s2 rfl ?_;intro _ _hb)|(refine popO rfl ?_;refine gA rfl ?_;first|refine gS (fun _ _=>q_dropT rfl rfl (by omega) (by omega)) ?_)|(refine s3 rfl ?_ ?_<;>intro hb<;>subst hb)|refine aS ?_|refine reg (by kernel_rfl) ?_|refine lexE ?_|refine rD (by kernel_rfl) (by kernel_rfl) ?_)
              refine AWp.ret ⟨_,rfl,?_⟩
              rw [hk1,he];rfl
            · rw [if_neg (by simpa using _hb)] at he
              refine AWp.skip ?_
              (repeat first|refine sN rfl ?_|((first|refine sA rfl ?_ ?_|refine s4 rfl ‹_› rfl ?_ ?_);first|exact tI|omega|(simp only[oZ] at *;omega))|(refine s2 rfl ?_;intro _ _hb)|(refine s3 rfl ?_ ?_<;>intro hb<;>subst hb)|refine aS ?_|refine reg (by kernel_rfl) ?_|refine lexE ?_|refine rD (by kernel_rfl) (by kernel_rfl) ?_)
              subst hq2
              refine ⟨⟨k+1,by first|omega|(simp only [oZ] at *;omega),he⟩,by dsimp only;(first|omega|(simp only [oZ] at *;omega)),[0],?_⟩
              simp [EnvSub,StoreSub,look_cons,nm,nmo,E.ren,C.ren,C.renL,O.ren,Store.ren,killc,kill0,killL,kill,fillC,spliceC,eC,Function.comp_def,argsFrom,zC,hΓ,hr]
          · exfalso;first|omega|(simp only [oZ] at *;omega)
        · obtain rfl:k=w.length:=by omega
          rw [List.drop_length] at he
          (repeat first|refine sN rfl ?_|((first|refine sA rfl ?_ ?_|refine s4 rfl ‹_› rfl ?_ ?_);first|exact tI|omega|(simp only[oZ] at *;omega))|(refine s2 rfl ?_;intro _ _hb)|(refine s3 rfl ?_ ?_<;>intro hb<;>subst hb)|refine aS ?_|refine reg (by kernel_rfl) ?_|refine lexE ?_)
          (refine aC rfl ?_ ?_<;>intro hb<;>cases hb)
          · exfalso;first|omega|(simp only [oZ] at *;omega)
          · refine AWp.exit ?_
            (repeat first|refine sN rfl ?_|((first|refine sA rfl ?_ ?_|refine s4 rfl ‹_› rfl ?_ ?_);first|exact tI|omega|(simp only[oZ] at *;omega))|(refine s2 rfl ?_;intro _ _hb)|(refine s3 rfl ?_ ?_<;>intro hb<;>subst hb)|refine aS ?_|refine reg (by kernel_rfl) ?_|refine lexE ?_)
            refine AWp.ret ⟨_,rfl,?_⟩
            rw [he];rfl
end Go.Am
namespace Go.Am
open Go Go.Proofs
set_option maxHeartbeats 1000000
attribute [local irreducible] QOp AOp Lex LexO AWp Spec
variable {TB:List (Nat×Obj)}
def stepO (L:W→Bool) (ls:List UInt8) (t:Tab) (w:W):Option Tab:=(splitO L t w).bind fun v=>(addC t v).bind fun u=>closeN L ls 13 u
theorem splitAt_suf {L:W→Bool} {t:Tab} {b:Bool}:∀ {w:W} {q:Nat} {v:W},splitAt L t b q w=some v→∃p,p≠[]∧w=p++v
  | [],q,v,h=>by simp [splitAt] at h
  | c::w,q,v,h=>by
    unfold splitAt at h
    split at h
    · injection h with h;subst h;exact ⟨[c],by simp,rfl⟩
    · obtain ⟨p,_,h2⟩:=splitAt_suf h;exact ⟨c::p,by simp,by rw [h2];rfl⟩
theorem splitO_suf {L:W→Bool} {t:Tab} {w v:W} (h:splitO L t w=some v):∃p,p≠[]∧w=p++v:=by
  unfold splitO at h
  split at h
  · cases h
  · exact splitAt_suf h
theorem TBd.mono {al:Int} {b b':Nat} {t:Tab} (h:TBd al b t) (hb:b≤b'):TBd al b' t:=⟨fun w hw=>⟨(h.onR w hw).1,Nat.le_trans (h.onR w hw).2 hb⟩,h.onC,h.rl,h.cl⟩
theorem addC_bd {al:Int} {b:Nat} {t u:Tab} {v:W} (h:TBd al b t) (hv:wordOn (lsB al) v) (hl:v.length≤20000) (ha:addC t v=some u):TBd al b u:=by
  unfold addC at ha
  split at ha
  · cases ha
  · rename_i hn
    injection ha with ha
    subst ha
    refine ⟨h.onR,fun x hx=>?_,h.rl,?_⟩
    · rcases List.mem_append.1 hx with hx|hx
      · exact h.onC x hx
      · simp at hx;subst hx;exact ⟨hv,hl⟩
    · have:=h.cl
      have h2:t.cols.length≠20:=fun e=>hn (.inl e)
      simp;omega
theorem learnStep_ok {c:C} {L:W→Bool} {ok:W→Prop} (hc:AskV Tryz.prog TB c L ok) (al:Int) (t:Tab) (hf:OkFits ok al) (ht:TBd al 20000 t) (hal:alphB al=true) (hcl:Closed L (lsB al) t) (ho:openW L (lsB al) t=none) (w:W) (hw:wordOn (lsB al) w) (hwl:w.length≤20000) :
    Pure Tryz.prog TB 57 [eOra al c,eTab t,eT w] (eTabO (stepO L (lsB al) t w)):=by
  have hr:=ren_pur c hc.pur
  have hpu1:([eOra al c,eTab t,eT w].all E.pur && C.purL [])=true:=by simp [E.pur,C.purL,C.pur,hc.pur]
  have hsp:=splitWord_ok (TB:=TB) hc al t hf (ht.mono (by omega)) hal hcl ho w hw hwl
  have hrl:=ht.rl
  have hcl2:=ht.cl
  rcases hs:splitO L t w with _|v
  · have hn:stepO L (lsB al) t w=none:=by unfold stepO;rw [hs];rfl
    rw [hn]
    rw [hs] at hsp
    refine SpecK.toSpec (SpecK.ofM 2 (Nat.le_refl _) Tryz.func57 rfl rfl (by kernel_rfl) (Nat.le_of_ble_eq_true rfl) ?_);intro Γ hΓ
    (repeat first|refine sN rfl ?_|((first|refine sA rfl ?_ ?_|refine s4 rfl ‹_› rfl ?_ ?_);first|exact tI|omega|(simp only[oZ] at *;omega))|(refine s2 rfl ?_;intro _ _hb)|(refine s3 rfl ?_ ?_<;>intro hb<;>subst hb)|refine aS ?_|refine reg (by kernel_rfl) ?_|refine lexE ?_)
    (refine popO rfl ?_;refine popW ?_ rfl (by rfl);refine n_box rfl rfl ?_)
    (refine popO rfl ?_;refine popW ?_ rfl (by rfl);refine n_box rfl rfl ?_)
    (repeat first|refine sN rfl ?_|((first|refine sA rfl ?_ ?_|refine s4 rfl ‹_› rfl ?_ ?_);first|exact tI|omega|(simp only[oZ] at *;omega))|(refine s2 rfl ?_;intro _ _hb)|(refine s3 rfl ?_ ?_<;>intro hb<;>subst hb)|refine aS ?_|refine reg (by kernel_rfl) ?_|refine lexE ?_)
    (repeat first|refine sN rfl ?_|((first|refine sA rfl ?_ ?_|refine s4 rfl ‹_› rfl ?_ ?_);first|exact tI|omega|(simp only[oZ] at *;omega))|(refine s2 rfl ?_;intro _ _hb)|(refine popO rfl ?_;refine gA rfl ?_;first|refine gS (fun _ _=>q_call rfl rfl hpu1 hsp rfl) ?_)|(refine s3 rfl ?_ ?_<;>intro hb<;>subst hb)|refine aS ?_|refine reg (by kernel_rfl) ?_|refine lexE ?_)
    ((refine aC rfl ?_ ?_<;>intro hb<;>cases hb);all_goals try (simp at _hb;done))
    (repeat first|refine sN rfl ?_|((first|refine sA rfl ?_ ?_|refine s4 rfl ‹_› rfl ?_ ?_);first|exact tI|omega|(simp only[oZ] at *;omega))|(refine s2 rfl ?_;intro _ _hb)|(refine popO rfl ?_;refine gA rfl ?_;first|refine gS (fun _ _=>q_build rfl rfl (by rfl) (by rfl)) ?_)|(refine s3 rfl ?_ ?_<;>intro hb<;>subst hb)|refine aS ?_|refine reg (by kernel_rfl) ?_|refine lexE ?_)
    refine AWp.settle [(6,.o (.ip [.l [],.l []])),(7,eB false)] ⟨⟨_,rfl,.o (.box rfl (.cons .d (.cons .d .nil)))⟩,⟨_,rfl,.o .d⟩,trivial⟩ ?_
    refine AWp.ret ⟨_,rfl,rfl⟩
  · have hsuf:=splitO_suf hs
    have hvw:wordOn (lsB al) v∧v.length≤20000:=by
      obtain ⟨p,_,rfl⟩:=hsuf
      exact ⟨fun c hc=>hw c (by simp [hc]),by simp at hwl;omega⟩
    have hac:=addColumn_ok (TB:=TB) t v (by omega) (by omega)
    rw [hs] at hsp
    rcases ha:addC t v with _|u
    · have hn:stepO L (lsB al) t w=none:=by unfold stepO;rw [hs];simp [ha]
      rw [hn]
      rw [ha] at hac
      refine SpecK.toSpec (SpecK.ofM 2 (Nat.le_refl _) Tryz.func57 rfl rfl (by kernel_rfl) (Nat.le_of_ble_eq_true rfl) ?_);intro Γ hΓ
      (repeat first|refine sN rfl ?_|((first|refine sA rfl ?_ ?_|refine s4 rfl ‹_› rfl ?_ ?_);first|exact tI|omega|(simp only[oZ] at *;omega))|(refine s2 rfl ?_;intro _ _hb)|(refine s3 rfl ?_ ?_<;>intro hb<;>subst hb)|refine aS ?_|refine reg (by kernel_rfl) ?_|refine lexE ?_)
      (refine popO rfl ?_;refine popW ?_ rfl (by rfl);refine n_box rfl rfl ?_)
      (refine popO rfl ?_;refine popW ?_ rfl (by rfl);refine n_box rfl rfl ?_)
      (repeat first|refine sN rfl ?_|((first|refine sA rfl ?_ ?_|refine s4 rfl ‹_› rfl ?_ ?_);first|exact tI|omega|(simp only[oZ] at *;omega))|(refine s2 rfl ?_;intro _ _hb)|(refine s3 rfl ?_ ?_<;>intro hb<;>subst hb)|refine aS ?_|refine reg (by kernel_rfl) ?_|refine lexE ?_)
      (repeat first|refine sN rfl ?_|((first|refine sA rfl ?_ ?_|refine s4 rfl ‹_› rfl ?_ ?_);first|exact tI|omega|(simp only[oZ] at *;omega))|(refine s2 rfl ?_;intro _ _hb)|(refine popO rfl ?_;refine gA rfl ?_;first|refine gS (fun _ _=>q_call rfl rfl hpu1 hsp rfl) ?_)|(refine s3 rfl ?_ ?_<;>intro hb<;>subst hb)|refine aS ?_|refine reg (by kernel_rfl) ?_|refine lexE ?_)
      ((refine aC rfl ?_ ?_<;>intro hb<;>cases hb);all_goals try (simp at _hb;done))
      refine AWp.skip ?_
      (repeat first|refine sN rfl ?_|((first|refine sA rfl ?_ ?_|refine s4 rfl ‹_› rfl ?_ ?_);first|exact tI|omega|(simp only[oZ] at *;omega))|(refine s2 rfl ?_;intro _ _hb) |refine sP rfl (hac) rfl ?_|(refine s3 rfl ?_ ?_<;>intro hb<;>subst hb)|refine aS ?_|refine reg (by kernel_rfl) ?_|refine lexE ?_)
      ((refine aC rfl ?_ ?_<;>intro hb<;>cases hb);all_goals try (simp at _hb;done))
      (repeat first|refine sN rfl ?_|((first|refine sA rfl ?_ ?_|refine s4 rfl ‹_› rfl ?_ ?_);first|exact tI|omega|(simp only[oZ] at *;omega))|(refine s2 rfl ?_;intro _ _hb)|(refine popO rfl ?_;refine gA rfl ?_;first|refine gS (fun _ _=>q_build rfl rfl (by rfl) (by rfl)) ?_)|(refine s3 rfl ?_ ?_<;>intro hb<;>subst hb)|refine aS ?_|refine reg (by kernel_rfl) ?_|refine lexE ?_)
      refine AWp.settle [(6,.o (.ip [.l [],.l []])),(7,eB false)] ⟨⟨_,rfl,.o (.box rfl (.cons .d (.cons .d .nil)))⟩,⟨_,rfl,.o .d⟩,trivial⟩ ?_
      refine AWp.ret ⟨_,rfl,rfl⟩
    · have hu:=addC_bd ht hvw.1 hvw.2 ha
      have hct:=closeTable_ok (TB:=TB) hc al u hf hu
      have hpu2:([eOra al c,eTab u].all E.pur && C.purL [])=true:=by simp [E.pur,C.purL,C.pur,hc.pur]
      have hn:stepO L (lsB al) t w=closeN L (lsB al) 13 u:=by unfold stepO;rw [hs];simp [ha]
      rw [hn]
      rw [ha] at hac
      rcases hcn:closeN L (lsB al) 13 u with _|x
      · rw [hcn] at hct
        refine SpecK.toSpec (SpecK.ofM 2 (Nat.le_refl _) Tryz.func57 rfl rfl (by kernel_rfl) (Nat.le_of_ble_eq_true rfl) ?_);intro Γ hΓ
        (repeat first|refine sN rfl ?_|((first|refine sA rfl ?_ ?_|refine s4 rfl ‹_› rfl ?_ ?_);first|exact tI|omega|(simp only[oZ] at *;omega))|(refine s2 rfl ?_;intro _ _hb)|(refine s3 rfl ?_ ?_<;>intro hb<;>subst hb)|refine aS ?_|refine reg (by kernel_rfl) ?_|refine lexE ?_)
        (refine popO rfl ?_;refine popW ?_ rfl (by rfl);refine n_box rfl rfl ?_)
        (refine popO rfl ?_;refine popW ?_ rfl (by rfl);refine n_box rfl rfl ?_)
        (repeat first|refine sN rfl ?_|((first|refine sA rfl ?_ ?_|refine s4 rfl ‹_› rfl ?_ ?_);first|exact tI|omega|(simp only[oZ] at *;omega))|(refine s2 rfl ?_;intro _ _hb)|(refine s3 rfl ?_ ?_<;>intro hb<;>subst hb)|refine aS ?_|refine reg (by kernel_rfl) ?_|refine lexE ?_)
        (repeat first|refine sN rfl ?_|((first|refine sA rfl ?_ ?_|refine s4 rfl ‹_› rfl ?_ ?_);first|exact tI|omega|(simp only[oZ] at *;omega))|(refine s2 rfl ?_;intro _ _hb)|(refine popO rfl ?_;refine gA rfl ?_;first|refine gS (fun _ _=>q_call rfl rfl hpu1 hsp rfl) ?_)|(refine s3 rfl ?_ ?_<;>intro hb<;>subst hb)|refine aS ?_|refine reg (by kernel_rfl) ?_|refine lexE ?_)
        ((refine aC rfl ?_ ?_<;>intro hb<;>cases hb);all_goals try (simp at _hb;done))
        refine AWp.skip ?_
        (repeat first|refine sN rfl ?_|((first|refine sA rfl ?_ ?_|refine s4 rfl ‹_› rfl ?_ ?_);first|exact tI|omega|(simp only[oZ] at *;omega))|(refine s2 rfl ?_;intro _ _hb) |refine sP rfl (hac) rfl ?_|(refine s3 rfl ?_ ?_<;>intro hb<;>subst hb)|refine aS ?_|refine reg (by kernel_rfl) ?_|refine lexE ?_)
        ((refine aC rfl ?_ ?_<;>intro hb<;>cases hb);all_goals try (simp at _hb;done))
        refine AWp.skip ?_
        (repeat first|refine sN rfl ?_|((first|refine sA rfl ?_ ?_|refine s4 rfl ‹_› rfl ?_ ?_);first|exact tI|omega|(simp only[oZ] at *;omega))|(refine s2 rfl ?_;intro _ _hb)|(refine popO rfl ?_;refine gA rfl ?_;first|refine gS (fun _ _=>q_call rfl rfl hpu2 hct rfl) ?_)|(refine s3 rfl ?_ ?_<;>intro hb<;>subst hb)|refine aS ?_|refine reg (by kernel_rfl) ?_|refine lexE ?_)
        refine AWp.settle [(6,.o (.ip [.l [],.l []])),(7,eB false)] ⟨⟨_,rfl,.o (.box rfl (.cons .d (.cons .d .nil)))⟩,⟨_,rfl,.o .d⟩,trivial⟩ ?_
        refine AWp.ret ⟨_,rfl,rfl⟩
      · rw [hcn] at hct
        refine SpecK.toSpec (SpecK.ofM 2 (Nat.le_refl _) Tryz.func57 rfl rfl (by kernel_rfl) (Nat.le_of_ble_eq_true rfl) ?_);intro Γ hΓ
        (repeat first|refine sN rfl ?_|((first|refine sA rfl ?_ ?_|refine s4 rfl ‹_› rfl ?_ ?_);first|exact tI|omega|(simp only[oZ] at *;omega))|(refine s2 rfl ?_;intro _ _hb)|(refine s3 rfl ?_ ?_<;>intro hb<;>subst hb)|refine aS ?_|refine reg (by kernel_rfl) ?_|refine lexE ?_)
        (refine popO rfl ?_;refine popW ?_ rfl (by rfl);refine n_box rfl rfl ?_)
        (refine popO rfl ?_;refine popW ?_ rfl (by rfl);refine n_box rfl rfl ?_)
        (repeat first|refine sN rfl ?_|((first|refine sA rfl ?_ ?_|refine s4 rfl ‹_› rfl ?_ ?_);first|exact tI|omega|(simp only[oZ] at *;omega))|(refine s2 rfl ?_;intro _ _hb)|(refine s3 rfl ?_ ?_<;>intro hb<;>subst hb)|refine aS ?_|refine reg (by kernel_rfl) ?_|refine lexE ?_)
        (repeat first|refine sN rfl ?_|((first|refine sA rfl ?_ ?_|refine s4 rfl ‹_› rfl ?_ ?_);first|exact tI|omega|(simp only[oZ] at *;omega))|(refine s2 rfl ?_;intro _ _hb)|(refine popO rfl ?_;refine gA rfl ?_;first|refine gS (fun _ _=>q_call rfl rfl hpu1 hsp rfl) ?_)|(refine s3 rfl ?_ ?_<;>intro hb<;>subst hb)|refine aS ?_|refine reg (by kernel_rfl) ?_|refine lexE ?_)
        ((refine aC rfl ?_ ?_<;>intro hb<;>cases hb);all_goals try (simp at _hb;done))
        refine AWp.skip ?_
        (repeat first|refine sN rfl ?_|((first|refine sA rfl ?_ ?_|refine s4 rfl ‹_› rfl ?_ ?_);first|exact tI|omega|(simp only[oZ] at *;omega))|(refine s2 rfl ?_;intro _ _hb) |refine sP rfl (hac) rfl ?_|(refine s3 rfl ?_ ?_<;>intro hb<;>subst hb)|refine aS ?_|refine reg (by kernel_rfl) ?_|refine lexE ?_)
        ((refine aC rfl ?_ ?_<;>intro hb<;>cases hb);all_goals try (simp at _hb;done))
        refine AWp.skip ?_
        (repeat first|refine sN rfl ?_|((first|refine sA rfl ?_ ?_|refine s4 rfl ‹_› rfl ?_ ?_);first|exact tI|omega|(simp only[oZ] at *;omega))|(refine s2 rfl ?_;intro _ _hb)|(refine popO rfl ?_;refine gA rfl ?_;first|refine gS (fun _ _=>q_call rfl rfl hpu2 hct rfl) ?_)|(refine s3 rfl ?_ ?_<;>intro hb<;>subst hb)|refine aS ?_|refine reg (by kernel_rfl) ?_|refine lexE ?_)
        refine AWp.settle [(6,.o (.ip [tList x.rows,tList x.cols])),(7,eB true)] ⟨⟨_,rfl,.o (.box rfl (.cons .d (.cons .d .nil)))⟩,⟨_,rfl,.o .d⟩,trivial⟩ ?_
        refine AWp.ret ⟨_,rfl,rfl⟩
end Go.Am
namespace Go.Am
open Go Go.Proofs
set_option maxHeartbeats 1000000
attribute [local irreducible] QOp AOp Lex LexO AWp Spec
variable {TB:List (Nat×Obj)}
abbrev teE (kn:Bool) (p:Aut) (s:Sys) (q:Aut) (al:Int):E:=.a ((teRow kn p s q al).map .d)
theorem teacherKnown_ok (p:Aut) (s:Sys) (q:Aut) (al:Int):Pure Tryz.prog TB 75 [teE true p s q al] (eI .i64 (if autOk p then p.al else -1)):=by
  refine eN Tryz.func75 rfl (by kernel_rfl) rfl ?_;intro Γ hΓ
  (repeat' first|refine sN rfl ?_|((first|refine sA rfl ?_ ?_|refine s4 rfl ‹_› rfl ?_ ?_);first|exact tI|omega|(simp only[oZ] at *;omega))|(refine s2 rfl ?_;intro _ _hb) |(refine sC rfl (implAutomatonValid_ok p) ?_;intro _ _hb)|(refine s3 rfl ?_ ?_<;>intro hb<;>subst hb)|refine aS ?_|refine reg (by kernel_rfl) ?_|refine lexE ?_|refine rD (by kernel_rfl) (by kernel_rfl) ?_|(refine aC rfl ?_ ?_<;>intro hb<;>cases hb)|refine aK ?_|refine aE ?_|refine aB ?_|refine AWp.ret ⟨_,rfl,?_⟩)
  all_goals first
    | (show E.o _=E.o _;congr;grind)
    | (exfalso;simp at *;done)
abbrev askC (kn:Bool) (p:Aut) (s:Sys) (q:Aut) (al:Int):C:=.fn 76 [.ip [.l (tblD p)],.ip (teRow kn p s q al)]
theorem ask1_V {p:Aut} (hp:autOk p=true) (s:Sys) (q:Aut) (al:Int) (kn:Bool):AskV Tryz.prog TB (askC kn p s q al) (LA p) (fun w=>wordOn (lsB p.al) w∧w.length≤1048576):=
  .of rfl fun w hw=>ask1_ok hp s q al kn w hw.1 hw.2
theorem fits_known (p:Aut):OkFits (fun w=>wordOn (lsB p.al) w∧w.length≤1048576) p.al:=fun w h1 h2=>⟨h1,by omega⟩
theorem newOracleK_ok {p:Aut} (hp:autOk p=true) (s:Sys) (q:Aut) (al:Int):Pure Tryz.prog TB 48 [teE true p s q al] (.t [(true,[.d (iD p.al),askC true p s q al]),(false,[.d (bD true)])]):=by
  have hT:=teacherKnown_ok (TB:=TB) p s q al
  rw [if_pos hp] at hT
  have h0:=autOk_head hp
  have ha:=h0.1
  unfold alphB at ha
  simp only [decide_eq_true_eq] at ha
  have htb:=tableOf_ok (TB:=TB) p hp
  refine SpecK.toSpec (SpecK.ofG (Nat.le_refl _) Tryz.func48 rfl (by kernel_rfl) (Nat.le_of_ble_eq_true rfl) ?_);intro Γ hΓ
  (repeat first|refine sN rfl ?_|((first|refine sA rfl ?_ ?_|refine s4 rfl ‹_› rfl ?_ ?_);first|exact tI|omega|(simp only[oZ] at *;omega))|(refine s2 rfl ?_;intro _ _hb) |refine sP rfl (hT) rfl ?_|(refine s3 rfl ?_ ?_<;>intro hb<;>subst hb)|refine aS ?_|refine reg (by kernel_rfl) ?_|refine lexE ?_)
  refine AWp.block ?_
  (repeat first|refine sN rfl ?_|((first|refine sA rfl ?_ ?_|refine s4 rfl ‹_› rfl ?_ ?_);first|exact tI|omega|(simp only[oZ] at *;omega))|(refine s2 rfl ?_;intro _ _hb)|(refine s3 rfl ?_ ?_<;>intro hb<;>subst hb)|refine aS ?_|refine reg (by kernel_rfl) ?_|refine lexE ?_)
  ((refine aC rfl ?_ ?_<;>intro hb<;>cases hb);all_goals try (simp at _hb;done))
  · exfalso;first|omega|(simp only [oZ] at *;omega)
  · (repeat first|refine sN rfl ?_|((first|refine sA rfl ?_ ?_|refine s4 rfl ‹_› rfl ?_ ?_);first|exact tI|omega|(simp only[oZ] at *;omega))|(refine s2 rfl ?_;intro _ _hb)|(refine s3 rfl ?_ ?_<;>intro hb<;>subst hb)|refine aS ?_|refine reg (by kernel_rfl) ?_|refine lexE ?_)
    ((refine aC rfl ?_ ?_<;>intro hb<;>cases hb);all_goals try (simp at _hb;done))
    refine AWp.seq ?_
    refine reg (by kernel_rfl) ?_;(repeat first|refine sN rfl ?_|((first|refine sA rfl ?_ ?_|refine s4 rfl ‹_› rfl ?_ ?_);first|exact tI|omega|(simp only[oZ] at *;omega))|(refine s2 rfl ?_;intro _ _hb) |refine sP rfl (htb) rfl ?_|(refine s3 rfl ?_ ?_<;>intro hb<;>subst hb));refine lexE ?_
    refine AWp.seq ?_
    refine AWp.freezeV [1] [1,2,3,4] rfl [(5,.o (.ip [.l (tblD p)]))] ⟨⟨_,rfl,.o (.ptr (by simp) rfl rfl rfl)⟩,trivial⟩ ?_;(try dsimp only [List.cons_append,List.nil_append])
    (repeat first|refine sN rfl ?_|((first|refine sA rfl ?_ ?_|refine s4 rfl ‹_› rfl ?_ ?_);first|exact tI|omega|(simp only[oZ] at *;omega))|(refine s2 rfl ?_;intro _ _hb)|(refine popO rfl ?_;refine gA rfl ?_;first|refine gS (fun _ _=>q_build rfl rfl (by rfl) (by rfl)) ?_)|(refine s3 rfl ?_ ?_<;>intro hb<;>subst hb)|refine aS ?_|refine reg (by kernel_rfl) ?_|refine lexE ?_)
    refine AWp.ret ⟨_,rfl,rfl⟩
theorem newOracleK_no {p:Aut} (hp:autOk p=false) (s:Sys) (q:Aut) (al:Int):Pure Tryz.prog TB 48 [teE true p s q al] (.t [(true,[.d (iD 0),.d (.v .nilFunc)]),(false,[.d (bD false)])]):=by
  have hT:=teacherKnown_ok (TB:=TB) p s q al
  rw [if_neg (by simp [hp])] at hT
  refine SpecK.toSpec (SpecK.ofG (Nat.le_refl _) Tryz.func48 rfl (by kernel_rfl) (Nat.le_of_ble_eq_true rfl) ?_);intro Γ hΓ
  (repeat first|refine sN rfl ?_|((first|refine sA rfl ?_ ?_|refine s4 rfl ‹_› rfl ?_ ?_);first|exact tI|omega|(simp only[oZ] at *;omega))|(refine s2 rfl ?_;intro _ _hb) |refine sP rfl (hT) rfl ?_|(refine s3 rfl ?_ ?_<;>intro hb<;>subst hb)|refine aS ?_|refine reg (by kernel_rfl) ?_|refine lexE ?_)
  refine AWp.block ?_
  (repeat first|refine sN rfl ?_|((first|refine sA rfl ?_ ?_|refine s4 rfl ‹_› rfl ?_ ?_);first|exact tI|omega|(simp only[oZ] at *;omega))|(refine s2 rfl ?_;intro _ _hb)|(refine s3 rfl ?_ ?_<;>intro hb<;>subst hb)|refine aS ?_|refine reg (by kernel_rfl) ?_|refine lexE ?_)
  ((refine aC rfl ?_ ?_<;>intro hb<;>cases hb);all_goals try (simp at _hb;done))
  · (repeat first|refine sN rfl ?_|((first|refine sA rfl ?_ ?_|refine s4 rfl ‹_› rfl ?_ ?_);first|exact tI|omega|(simp only[oZ] at *;omega))|(refine s2 rfl ?_;intro _ _hb)|(refine popO rfl ?_;refine gA rfl ?_;first|refine gS (fun _ _=>q_build rfl rfl (by rfl) (by rfl)) ?_)|(refine s3 rfl ?_ ?_<;>intro hb<;>subst hb)|refine aS ?_|refine reg (by kernel_rfl) ?_|refine lexE ?_)
    refine AWp.ret ⟨_,rfl,rfl⟩
end Go.Am
namespace Go.Am
open Go Go.Proofs
set_option maxHeartbeats 1000000
attribute [local irreducible] QOp AOp Lex LexO AWp Spec
variable {TB:List (Nat×Obj)}
abbrev sys0:Sys:=⟨0,0,[]⟩
abbrev autE:Aut:=⟨0,[],[]⟩
theorem Closed.open_no {L:W→Bool} {ls:List UInt8} {t:Tab} (h:Closed L ls t):openW L ls t=none:=List.find?_eq_none.2 fun w hw=>by
  unfold nextsB at hw
  simp only [List.mem_flatMap,List.mem_map] at hw
  obtain ⟨r,hr,l,hl,rfl⟩:=hw
  simpa using h.cl r hr l hl
theorem tabK_bd {p:Aut} (hp:autOk p=true) {k:Nat} (hk:k≤lastK p):TBd p.al 20000 (tabK p k):=by
  obtain ⟨h1,h2,h3,h4,h5⟩:=tabK_ok hp k hk
  have h6:=(lastK_ok hp).1
  refine ⟨fun w hw=>⟨h1.onR w hw,?_⟩,fun x hx=>⟨h1.onC x hx,by have:=h5 x hx;omega⟩,h3,by omega⟩
  obtain ⟨i,hi,he⟩:=List.getElem_of_mem hw
  have:=h1.toTOk.short i w (by rw [List.getElem?_eq_getElem hi,he])
  omega
theorem stepO_next {L:W→Bool} {ls:List UInt8} {t t':Tab} {w v:W} (h:Next L ls t w v t') (hd:accM L t w≠L w) (hc:t.cols.length < 20):stepO L ls t w=some t':=by
  unfold stepO splitO
  rw [if_neg hd,h.split]
  simp only [Option.bind_some]
  unfold addC
  rw [if_neg (by intro he;rcases he with he|he;omega;exact h.new he)]
  exact h.close
noncomputable def learnT (p:Aut):Tab:=if autOk p then tabK p (lastK p) else ⟨[],[]⟩
noncomputable def learnN (p:Aut):Int:=if autOk p then (lastK p:Int)+1 else 0
theorem learn0_ok (p:Aut):Pure Tryz.prog TB 30 [eAut p,.o (.d (.v .nilFunc))] (.t [(true,[.d (tList (learnT p).rows),.d (tList (learnT p).cols)]),(false,[.d (iD (learnN p))])]):=by
  by_cases hp:autOk p=true
  · have hno:=newOracleK_ok (TB:=TB) hp sys0 autE 0
    have hV:=ask1_V (TB:=TB) hp sys0 autE 0 true
    have hf:=fits_known p
    have hnt:=newTable_ok (TB:=TB) hV p.al hf
    rw [(tabZ_ok hp).1] at hnt
    have hLT:learnT p=tabK p (lastK p):=by unfold learnT;rw [if_pos hp]
    have hLN:learnN p=(lastK p:Int)+1:=by unfold learnN;rw [if_pos hp]
    rw [hLT,hLN]
    have hl12:=(lastK_ok hp).1
    refine SpecK.toSpec (SpecK.ofG (Nat.le_refl _) Tryz.func30 rfl (by kernel_rfl) (Nat.le_of_ble_eq_true rfl) ?_);intro Γ hΓ
    (repeat first|refine sN rfl ?_|((first|refine sA rfl ?_ ?_|refine s4 rfl ‹_› rfl ?_ ?_);first|exact tI|omega|(simp only[oZ] at *;omega))|(refine s2 rfl ?_;intro _ _hb) |refine sP rfl (hno) rfl ?_|(refine popO rfl ?_;refine gA rfl ?_;first|refine gS (fun _ _=>q_build rfl rfl (by rfl) (by rfl)) ?_)|(refine s3 rfl ?_ ?_<;>intro hb<;>subst hb)|refine aS ?_|refine reg (by kernel_rfl) ?_|refine lexE ?_)
    ((refine aC rfl ?_ ?_<;>intro hb<;>cases hb);all_goals try (simp at _hb;done))
    refine AWp.skip ?_
    (repeat first|refine sN rfl ?_|((first|refine sA rfl ?_ ?_|refine s4 rfl ‹_› rfl ?_ ?_);first|exact tI|omega|(simp only[oZ] at *;omega))|(refine s2 rfl ?_;intro _ _hb) |refine sP rfl (hnt) rfl ?_|(refine s3 rfl ?_ ?_<;>intro hb<;>subst hb)|refine aS ?_|refine reg (by kernel_rfl) ?_|refine lexE ?_)
    refine AWp.block ?_
    refine AWp.loopV (α:={k:Nat // k≤lastK p}) [1,2,4,6,8] [0,1] rfl rfl (fun ⟨k,hk⟩=>[(10,eI .i64 ((k:Int)+1))]) (fun ⟨k,hk⟩=>[(2,.cells 34 2 [[.d (tList (tabK p k).rows),.d (tList (tabK p k).cols)]])]) 3 (fun ⟨k,hk⟩=>lastK p - k) (⟨0,by omega⟩) (List.range 3) (by first|(simp [hΓ];done)|(rw [hΓ];decide)) (by (repeat' (first|exact trivial|rfl|refine And.intro ?_ ?_))<;>(simp [EnvSub,StoreSub,look_cons,nm,nmo,E.ren,C.ren,C.renL,O.ren,Store.ren,killc,kill0,killL,kill,fillC,spliceC,eC,Function.comp_def,argsFrom,zC,hΓ]<;>rfl)) ?_;rintro ⟨k,hk⟩;(try dsimp only [List.cons_append,List.nil_append])
    obtain ⟨h1,h2,h3,h4,h5⟩:=tabK_ok hp k hk
    have hbd:=tabK_bd hp hk
    have hau:=automaton_ok (TB:=TB) hV p.al (tabK p k) hf (hbd.mono (by omega)) h1.open_no
    have hdf:=implDifferOf_ok (TB:=TB) (autM (LA p) p.al (tabK p k)) p
    refine AWp.seq (AWp.block ?_)
    by_cases hlt:k < lastK p
    · obtain ⟨w,v,hw,hN⟩:=tabK_step hp hlt
      have hwd:=hw
      unfold wrD at hwd
      obtain ⟨u,hu,hut⟩:=Option.map_eq_some_iff.1 hwd
      obtain ⟨hon,hne⟩:=(wrD_ok p).on _ w hw h1
      have hsh:=wrD_short hw
      have hls:=learnStep_ok (TB:=TB) hV p.al (tabK p k) hf hbd (autOk_head hp).1 h1 h1.open_no w hon (by omega)
      rw [stepO_next hN hne (by omega)] at hls
      rw [hu] at hdf
      rw [←hut] at hls
      (repeat first|refine sN rfl ?_|((first|refine sA rfl ?_ ?_|refine s4 rfl ‹_› rfl ?_ ?_);first|exact tI|omega|(simp only[oZ] at *;omega))|(refine s2 rfl ?_;intro _ _hb) |refine sP rfl (hau) rfl ?_|(refine s3 rfl ?_ ?_<;>intro hb<;>subst hb)|refine aS ?_|refine reg (by kernel_rfl) ?_|refine lexE ?_)
      (repeat first|refine sN rfl ?_|((first|refine sA rfl ?_ ?_|refine s4 rfl ‹_› rfl ?_ ?_);first|exact tI|omega|(simp only[oZ] at *;omega))|(refine s2 rfl ?_;intro _ _hb)|(refine popO rfl ?_;refine gA rfl ?_;first|refine gS (fun _ _=>q_neNil rfl rfl) ?_)|(refine s3 rfl ?_ ?_<;>intro hb<;>subst hb)|refine aS ?_|refine reg (by kernel_rfl) ?_|refine lexE ?_)
      ((refine aC rfl ?_ ?_<;>intro hb<;>cases hb);all_goals try (simp at _hb;done))
      refine AWp.skip ?_
      (repeat first|refine sN rfl ?_|((first|refine sA rfl ?_ ?_|refine s4 rfl ‹_› rfl ?_ ?_);first|exact tI|omega|(simp only[oZ] at *;omega))|(refine s2 rfl ?_;intro _ _hb) |refine sP rfl (hdf) rfl ?_|(refine s3 rfl ?_ ?_<;>intro hb<;>subst hb)|refine aS ?_|refine reg (by kernel_rfl) ?_|refine lexE ?_)
      ((refine aC rfl ?_ ?_<;>intro hb<;>cases hb);all_goals try (simp at _hb;done))
      refine AWp.skip ?_
      (repeat first|refine sN rfl ?_|((first|refine sA rfl ?_ ?_|refine s4 rfl ‹_› rfl ?_ ?_);first|exact tI|omega|(simp only[oZ] at *;omega))|(refine s2 rfl ?_;intro _ _hb) |refine sP rfl (hls) rfl ?_|(refine s3 rfl ?_ ?_<;>intro hb<;>subst hb)|refine aS ?_|refine reg (by kernel_rfl) ?_|refine lexE ?_)
      refine ⟨⟨k+1,by first|omega|(simp only [oZ] at *;omega)⟩,by dsimp only;(first|omega|(simp only [oZ] at *;omega)),[0,1,2],?_⟩
      simp [EnvSub,StoreSub,look_cons,nm,nmo,E.ren,C.ren,C.renL,O.ren,Store.ren,killc,kill0,killL,kill,fillC,spliceC,eC,Function.comp_def,argsFrom,zC,hΓ]
    · obtain rfl:k=lastK p:=by omega
      have hwd:=(lastK_ok hp).2.1
      unfold wrD at hwd
      rw [Option.map_eq_none_iff.1 hwd] at hdf
      (repeat first|refine sN rfl ?_|((first|refine sA rfl ?_ ?_|refine s4 rfl ‹_› rfl ?_ ?_);first|exact tI|omega|(simp only[oZ] at *;omega))|(refine s2 rfl ?_;intro _ _hb) |refine sP rfl (hau) rfl ?_|(refine s3 rfl ?_ ?_<;>intro hb<;>subst hb)|refine aS ?_|refine reg (by kernel_rfl) ?_|refine lexE ?_)
      (repeat first|refine sN rfl ?_|((first|refine sA rfl ?_ ?_|refine s4 rfl ‹_› rfl ?_ ?_);first|exact tI|omega|(simp only[oZ] at *;omega))|(refine s2 rfl ?_;intro _ _hb)|(refine popO rfl ?_;refine gA rfl ?_;first|refine gS (fun _ _=>q_neNil rfl rfl) ?_)|(refine s3 rfl ?_ ?_<;>intro hb<;>subst hb)|refine aS ?_|refine reg (by kernel_rfl) ?_|refine lexE ?_)
      ((refine aC rfl ?_ ?_<;>intro hb<;>cases hb);all_goals try (simp at _hb;done))
      refine AWp.skip ?_
      (repeat first|refine sN rfl ?_|((first|refine sA rfl ?_ ?_|refine s4 rfl ‹_› rfl ?_ ?_);first|exact tI|omega|(simp only[oZ] at *;omega))|(refine s2 rfl ?_;intro _ _hb) |refine sP rfl (hdf) rfl ?_|(refine s3 rfl ?_ ?_<;>intro hb<;>subst hb)|refine aS ?_|refine reg (by kernel_rfl) ?_|refine lexE ?_)
      ((refine aC rfl ?_ ?_<;>intro hb<;>cases hb);all_goals try (simp at _hb;done))
      (repeat first|refine sN rfl ?_|((first|refine sA rfl ?_ ?_|refine s4 rfl ‹_› rfl ?_ ?_);first|exact tI|omega|(simp only[oZ] at *;omega))|(refine s2 rfl ?_;intro _ _hb)|(refine s3 rfl ?_ ?_<;>intro hb<;>subst hb)|refine aS ?_|refine reg (by kernel_rfl) ?_|refine lexE ?_)
      refine AWp.ret ⟨_,rfl,rfl⟩
  · have hLT:learnT p=⟨[],[]⟩:=by unfold learnT;rw [if_neg hp]
    have hLN:learnN p=0:=by unfold learnN;rw [if_neg hp]
    rw [hLT,hLN]
    have hno:=newOracleK_no (TB:=TB) (by simpa using hp) sys0 autE 0
    refine SpecK.toSpec (SpecK.ofG (Nat.le_refl _) Tryz.func30 rfl (by kernel_rfl) (Nat.le_of_ble_eq_true rfl) ?_);intro Γ hΓ
    (repeat first|refine sN rfl ?_|((first|refine sA rfl ?_ ?_|refine s4 rfl ‹_› rfl ?_ ?_);first|exact tI|omega|(simp only[oZ] at *;omega))|(refine s2 rfl ?_;intro _ _hb) |refine sP rfl (hno) rfl ?_|(refine popO rfl ?_;refine gA rfl ?_;first|refine gS (fun _ _=>q_build rfl rfl (by rfl) (by rfl)) ?_)|(refine s3 rfl ?_ ?_<;>intro hb<;>subst hb)|refine aS ?_|refine reg (by kernel_rfl) ?_|refine lexE ?_)
    ((refine aC rfl ?_ ?_<;>intro hb<;>cases hb);all_goals try (simp at _hb;done))
    (repeat first|refine sN rfl ?_|((first|refine sA rfl ?_ ?_|refine s4 rfl ‹_› rfl ?_ ?_);first|exact tI|omega|(simp only[oZ] at *;omega))|(refine s2 rfl ?_;intro _ _hb)|(refine popO rfl ?_;refine gA rfl ?_;first|refine gS (fun _ _=>q_build rfl rfl (by rfl) (by rfl)) ?_)|(refine s3 rfl ?_ ?_<;>intro hb<;>subst hb)|refine aS ?_|refine reg (by kernel_rfl) ?_|refine lexE ?_)
    refine AWp.ret ⟨_,rfl,rfl⟩
end Go.Am
namespace Go.Am
open Go Go.Proofs
set_option maxHeartbeats 1000000
attribute [local irreducible] QOp AOp Lex LexO AWp Spec
variable {TB:List (Nat×Obj)}
theorem l1At_ok (w:W) (i:Nat) (c:UInt8) (hc:w[((i:Nat):Int).toNat]? = some c):Pure Tryz.prog TB 137 [eT w,eI .i64 i] (eI .i64 ((c.toNat:Int) - 97)):=by
  have hb:=c.toNat_lt
  refine eN Tryz.func137 rfl (by kernel_rfl) rfl ?_;intro Γ hΓ
  (repeat' first|refine sN rfl ?_|((first|refine sA rfl ?_ ?_|refine s4 rfl ‹_› rfl ?_ ?_);first|exact tI|omega|(simp only[oZ] at *;omega))|(refine s2 rfl ?_;intro _ _hb)|(refine s3 rfl ?_ ?_<;>intro hb<;>subst hb)|refine aS ?_|refine reg (by kernel_rfl) ?_|refine lexE ?_|refine rD (by kernel_rfl) (by kernel_rfl) ?_|(refine aC rfl ?_ ?_<;>intro hb<;>cases hb)|refine aK ?_|refine aE ?_|refine aB ?_|refine AWp.ret ⟨_,rfl,?_⟩)
  rfl
theorem l1Bit_ok (n:Int) (h0:0≤n) (h1:n < 16):Pure Tryz.prog TB 169 [eI .i64 n] (eI .i64 ((2 ^ n.toNat:Nat):Int)):=by
  refine eN Tryz.func169 rfl (by kernel_rfl) rfl ?_;intro Γ hΓ
  (repeat' first|refine sN rfl ?_|((first|refine sA rfl ?_ ?_|refine s4 rfl ‹_› rfl ?_ ?_);first|exact tI|omega|(simp only[oZ] at *;omega))|(refine s2 rfl ?_;intro _ _hb)|(refine popO rfl ?_;refine gA rfl ?_;first|refine gS (fun _ _=>q_shl rfl rfl h0 (shl_one h0 h1)) ?_)|(refine s3 rfl ?_ ?_<;>intro hb<;>subst hb)|refine aS ?_|refine reg (by kernel_rfl) ?_|refine lexE ?_|refine rD (by kernel_rfl) (by kernel_rfl) ?_|(refine aC rfl ?_ ?_<;>intro hb<;>cases hb)|refine aK ?_|refine aE ?_|refine aB ?_|refine AWp.ret ⟨_,rfl,?_⟩)
  rfl
theorem chOk_num {c:UInt8}:chOk c=decide (0≤(c.toNat:Int) - 97∧(c.toNat:Int) - 97 < 6):=by
  unfold chOk
  rw [Bool.eq_iff_iff,decide_eq_true_eq,decide_eq_true_eq]
  omega
theorem wordValid_ok (w:W) (hl:w.length≤1099511627776):Pure Tryz.prog TB 168 [eT w] (eB (wordOk w)):=by
  by_cases h5:w.length≤50000
  · have hwk:wordOk w=w.all chOk:=by unfold wordOk;simp [h5]
    rw [hwk]
    refine eN Tryz.func168 rfl (by kernel_rfl) rfl ?_;intro Γ hΓ
    (repeat first|refine sN rfl ?_|((first|refine sA rfl ?_ ?_|refine s4 rfl ‹_› rfl ?_ ?_);first|exact tI|omega|(simp only[oZ] at *;omega))|(refine s2 rfl ?_;intro _ _hb)|(refine s3 rfl ?_ ?_<;>intro hb<;>subst hb)|refine aS ?_|refine reg (by kernel_rfl) ?_|refine lexE ?_)
    (refine aC rfl ?_ ?_<;>intro hb<;>cases hb)
    · exfalso;first|omega|(simp only [oZ] at *;omega)
    refine AWp.skip ?_
    (repeat first|refine sN rfl ?_|((first|refine sA rfl ?_ ?_|refine s4 rfl ‹_› rfl ?_ ?_);first|exact tI|omega|(simp only[oZ] at *;omega))|(refine s2 rfl ?_;intro _ _hb)|(refine s3 rfl ?_ ?_<;>intro hb<;>subst hb)|refine aS ?_|refine reg (by kernel_rfl) ?_|refine lexE ?_)
    refine AWp.block ?_
    refine AWp.loopV (α:={k:Nat // k≤w.length∧(w.take k).all chOk=true}) [0] [] rfl rfl (fun ⟨k,hk,ha⟩=>[(3,eI .i64 k)]) (fun ⟨k,hk,ha⟩=>[]) 0 (fun ⟨k,hk,ha⟩=>w.length - k) (⟨0,by omega,rfl⟩) (List.range 0) (by first|(simp [hΓ];done)|(rw [hΓ];decide)) (by (repeat' (first|exact trivial|rfl|refine And.intro ?_ ?_))<;>(simp [EnvSub,StoreSub,look_cons,nm,nmo,E.ren,C.ren,C.renL,O.ren,Store.ren,killc,kill0,killL,kill,fillC,spliceC,eC,Function.comp_def,argsFrom,zC,hΓ]<;>rfl)) ?_;rintro ⟨k,hk,ha⟩;(try dsimp only [List.cons_append,List.nil_append])
    by_cases hlt:k < w.length
    · obtain ⟨c,hc⟩:=get_some hlt
      have hc':w[((k:Nat):Int).toNat]? = some c:=by simpa using hc
      have hla:=l1At_ok (TB:=TB) w k c hc'
      have hcn:=chOk_num (c:=c)
      by_cases hcc:chOk c=true
      · have hst:=all_step hc ha hcc
        rw [hcn] at hcc
        simp only [decide_eq_true_eq] at hcc
        (repeat first|refine sN rfl ?_|((first|refine sA rfl ?_ ?_|refine s4 rfl ‹_› rfl ?_ ?_);first|exact tI|omega|(simp only[oZ] at *;omega))|(refine s2 rfl ?_;intro _ _hb)|(refine s3 rfl ?_ ?_<;>intro hb<;>subst hb)|refine aS ?_|refine reg (by kernel_rfl) ?_|refine lexE ?_)
        (refine aC rfl ?_ ?_<;>intro hb<;>cases hb)
        · (repeat' first|refine sN rfl ?_|((first|refine sA rfl ?_ ?_|refine s4 rfl ‹_› rfl ?_ ?_);first|exact tI|omega|(simp only[oZ] at *;omega))|(refine s2 rfl ?_;intro _ _hb) |refine sP rfl (hla) rfl ?_|(refine s3 rfl ?_ ?_<;>intro hb<;>subst hb)|refine aS ?_|refine reg (by kernel_rfl) ?_|refine lexE ?_|refine rD (by kernel_rfl) (by kernel_rfl) ?_|(refine aC rfl ?_ ?_<;>intro hb<;>cases hb)|refine aK ?_|refine aE ?_|refine aB ?_|refine AWp.ret ⟨_,rfl,?_⟩)
          · exfalso;first|omega|(simp only [oZ] at *;omega)
          · exfalso;first|omega|(simp only [oZ] at *;omega)
          · refine ⟨⟨k+1,by first|omega|(simp only [oZ] at *;omega),hst⟩,by dsimp only;(first|omega|(simp only [oZ] at *;omega)),[],?_⟩
            simp [EnvSub,StoreSub,look_cons,nm,nmo,E.ren,C.ren,C.renL,O.ren,Store.ren,killc,kill0,killL,kill,fillC,spliceC,eC,Function.comp_def,argsFrom,zC,hΓ]
        · exfalso;first|omega|(simp only [oZ] at *;omega)
      · have hst:=all_bad hc (f:=chOk) (by simpa using hcc)
        rw [hcn] at hcc
        simp only [decide_eq_true_eq] at hcc
        (repeat first|refine sN rfl ?_|((first|refine sA rfl ?_ ?_|refine s4 rfl ‹_› rfl ?_ ?_);first|exact tI|omega|(simp only[oZ] at *;omega))|(refine s2 rfl ?_;intro _ _hb)|(refine s3 rfl ?_ ?_<;>intro hb<;>subst hb)|refine aS ?_|refine reg (by kernel_rfl) ?_|refine lexE ?_)
        (refine aC rfl ?_ ?_<;>intro hb<;>cases hb)
        · (repeat' first|refine sN rfl ?_|((first|refine sA rfl ?_ ?_|refine s4 rfl ‹_› rfl ?_ ?_);first|exact tI|omega|(simp only[oZ] at *;omega))|(refine s2 rfl ?_;intro _ _hb) |refine sP rfl (hla) rfl ?_|(refine s3 rfl ?_ ?_<;>intro hb<;>subst hb)|refine aS ?_|refine reg (by kernel_rfl) ?_|refine lexE ?_|refine rD (by kernel_rfl) (by kernel_rfl) ?_|(refine aC rfl ?_ ?_<;>intro hb<;>cases hb)|refine aK ?_|refine aE ?_|refine aB ?_|refine AWp.ret ⟨_,rfl,?_⟩)
          · rw [hst]
          · rw [hst]
          · exfalso;first|omega|(simp only [oZ] at *;omega)
        · exfalso;first|omega|(simp only [oZ] at *;omega)
    · have hd:=all_done ha (show w.length≤k by omega)
      (repeat first|refine sN rfl ?_|((first|refine sA rfl ?_ ?_|refine s4 rfl ‹_› rfl ?_ ?_);first|exact tI|omega|(simp only[oZ] at *;omega))|(refine s2 rfl ?_;intro _ _hb)|(refine s3 rfl ?_ ?_<;>intro hb<;>subst hb)|refine aS ?_|refine reg (by kernel_rfl) ?_|refine lexE ?_)
      (refine aC rfl ?_ ?_<;>intro hb<;>cases hb)
      · exfalso;first|omega|(simp only [oZ] at *;omega)
      · (repeat' first|refine sN rfl ?_|((first|refine sA rfl ?_ ?_|refine s4 rfl ‹_› rfl ?_ ?_);first|exact tI|omega|(simp only[oZ] at *;omega))|(refine s2 rfl ?_;intro _ _hb)|(refine s3 rfl ?_ ?_<;>intro hb<;>subst hb)|refine aS ?_|refine reg (by kernel_rfl) ?_|refine lexE ?_|refine rD (by kernel_rfl) (by kernel_rfl) ?_|(refine aC rfl ?_ ?_<;>intro hb<;>cases hb)|refine aK ?_|refine aE ?_|refine aB ?_|refine AWp.ret ⟨_,rfl,?_⟩)
        rw [hd]
  · have hwk:wordOk w=false:=by unfold wordOk;simp [h5]
    rw [hwk]
    refine eN Tryz.func168 rfl (by kernel_rfl) rfl ?_;intro Γ hΓ
    (repeat first|refine sN rfl ?_|((first|refine sA rfl ?_ ?_|refine s4 rfl ‹_› rfl ?_ ?_);first|exact tI|omega|(simp only[oZ] at *;omega))|(refine s2 rfl ?_;intro _ _hb)|(refine s3 rfl ?_ ?_<;>intro hb<;>subst hb)|refine aS ?_|refine reg (by kernel_rfl) ?_|refine lexE ?_)
    (refine aC rfl ?_ ?_<;>intro hb<;>cases hb)
    · (repeat' first|refine sN rfl ?_|((first|refine sA rfl ?_ ?_|refine s4 rfl ‹_› rfl ?_ ?_);first|exact tI|omega|(simp only[oZ] at *;omega))|(refine s2 rfl ?_;intro _ _hb)|(refine s3 rfl ?_ ?_<;>intro hb<;>subst hb)|refine aS ?_|refine reg (by kernel_rfl) ?_|refine lexE ?_|refine rD (by kernel_rfl) (by kernel_rfl) ?_|(refine aC rfl ?_ ?_<;>intro hb<;>cases hb)|refine aK ?_|refine aE ?_|refine aB ?_|refine AWp.ret ⟨_,rfl,?_⟩)
      rfl
    · exfalso;first|omega|(simp only [oZ] at *;omega)
abbrev eIB (n:Int) (b:Bool):E:=.t [(false,[.d (iD n)]),(false,[.d (bD b)])]
theorem setW_step {w:W} {k:Nat} {c:UInt8} (hc:w[k]? = some c):setW (w.take (k+1))=setW (w.take k) ||| 2 ^ (c.toNat - 97):=by
  unfold setW
  rw [List.take_add_one,hc];simp
theorem alphabetOf_ok (w:W) (hl:w.length≤1099511627776):Pure Tryz.prog TB 160 [eT w] (if wordOk w then eIB (setW w:Nat) true else eIB 0 false):=by
  have hwv:=wordValid_ok (TB:=TB) w hl
  by_cases hok:wordOk w=true
  · have hok2:=hok
    unfold wordOk at hok2
    simp only [Bool.and_eq_true,decide_eq_true_eq] at hok2
    rw [if_pos hok]
    refine eN Tryz.func160 rfl (by kernel_rfl) rfl ?_;intro Γ hΓ
    (repeat first|refine sN rfl ?_|((first|refine sA rfl ?_ ?_|refine s4 rfl ‹_› rfl ?_ ?_);first|exact tI|omega|(simp only[oZ] at *;omega))|(refine s2 rfl ?_;intro _ _hb) |(refine sC rfl (hwv) ?_;intro _ _hb)|(refine s3 rfl ?_ ?_<;>intro hb<;>subst hb)|refine aS ?_|refine reg (by kernel_rfl) ?_|refine lexE ?_)
    (refine aC rfl ?_ ?_<;>intro hb<;>cases hb)
    · exfalso;simp at *;grind
    refine AWp.skip ?_
    (repeat first|refine sN rfl ?_|((first|refine sA rfl ?_ ?_|refine s4 rfl ‹_› rfl ?_ ?_);first|exact tI|omega|(simp only[oZ] at *;omega))|(refine s2 rfl ?_;intro _ _hb)|(refine s3 rfl ?_ ?_<;>intro hb<;>subst hb)|refine aS ?_|refine reg (by kernel_rfl) ?_|refine lexE ?_)
    refine AWp.block ?_
    refine AWp.loopV (α:={k:Nat // k≤w.length}) [0] [] rfl rfl (fun ⟨k,hk⟩=>[(4,eI .i64 (setW (w.take k):Nat)),(5,eI .i64 k)]) (fun ⟨k,hk⟩=>[]) 0 (fun ⟨k,hk⟩=>w.length - k) (⟨0,by omega⟩) (List.range 0) (by first|(simp [hΓ];done)|(rw [hΓ];decide)) (by (repeat' (first|exact trivial|rfl|refine And.intro ?_ ?_))<;>(simp [EnvSub,StoreSub,look_cons,nm,nmo,E.ren,C.ren,C.renL,O.ren,Store.ren,killc,kill0,killL,kill,fillC,spliceC,eC,Function.comp_def,argsFrom,zC,hΓ]<;>rfl)) ?_;rintro ⟨k,hk⟩;(try dsimp only [List.cons_append,List.nil_append])
    by_cases hlt:k < w.length
    · obtain ⟨c,hc⟩:=get_some hlt
      have hc':w[((k:Nat):Int).toNat]? = some c:=by simpa using hc
      have hla:=l1At_ok (TB:=TB) w k c hc'
      have hcc:=(List.all_eq_true.1 hok2.2) c (List.mem_of_getElem? hc)
      rw [chOk_num,decide_eq_true_eq] at hcc
      have hbt:=l1Bit_ok (TB:=TB) ((c.toNat:Int) - 97) hcc.1 (by omega)
      have hst:=setW_step hc
      have hs1:setW (w.take k) < 64:=setW_lt (by rw [List.all_eq_true];exact fun x hx=>(List.all_eq_true.1 hok2.2) x (List.mem_of_mem_take hx)) (by omega)
      have ht:((c.toNat:Int) - 97).toNat=c.toNat - 97:=by omega
      have h26:2 ^ (c.toNat - 97) < 2 ^ 6:=Nat.pow_lt_pow_right (by omega) (by omega)
      have hor:=(iOr_nat hs1 h26).1
      rw [←hst] at hor
      rw [ht] at hbt
      (repeat first|refine sN rfl ?_|((first|refine sA rfl ?_ ?_|refine s4 rfl ‹_› rfl ?_ ?_);first|exact tI|omega|(simp only[oZ] at *;omega))|(refine s2 rfl ?_;intro _ _hb)|(refine s3 rfl ?_ ?_<;>intro hb<;>subst hb)|refine aS ?_|refine reg (by kernel_rfl) ?_|refine lexE ?_)
      (refine aC rfl ?_ ?_<;>intro hb<;>cases hb)
      · (repeat' first|refine sN rfl ?_|((first|refine sA rfl ?_ ?_|refine s4 rfl ‹_› rfl ?_ ?_);first|exact tI|omega|(simp only[oZ] at *;omega))|(refine s2 rfl ?_;intro _ _hb) |refine sP rfl (hla) rfl ?_|refine sP rfl (hbt) rfl ?_|(refine s3 rfl ?_ ?_<;>intro hb<;>subst hb)|refine aS ?_|refine reg (by kernel_rfl) ?_|refine lexE ?_|refine rD (by kernel_rfl) (by kernel_rfl) ?_|(refine aC rfl ?_ ?_<;>intro hb<;>cases hb)|refine aK ?_|refine aE ?_|refine aB ?_|refine AWp.ret ⟨_,rfl,?_⟩)
        rw [hor]
        refine ⟨⟨k+1,by first|omega|(simp only [oZ] at *;omega)⟩,by dsimp only;(first|omega|(simp only [oZ] at *;omega)),[],?_⟩
        simp [EnvSub,StoreSub,look_cons,nm,nmo,E.ren,C.ren,C.renL,O.ren,Store.ren,killc,kill0,killL,kill,fillC,spliceC,eC,Function.comp_def,argsFrom,zC,hΓ]
      · exfalso;first|omega|(simp only [oZ] at *;omega)
    · obtain rfl:k=w.length:=by omega
      rw [List.take_length]
      (repeat first|refine sN rfl ?_|((first|refine sA rfl ?_ ?_|refine s4 rfl ‹_› rfl ?_ ?_);first|exact tI|omega|(simp only[oZ] at *;omega))|(refine s2 rfl ?_;intro _ _hb)|(refine s3 rfl ?_ ?_<;>intro hb<;>subst hb)|refine aS ?_|refine reg (by kernel_rfl) ?_|refine lexE ?_)
      (refine aC rfl ?_ ?_<;>intro hb<;>cases hb)
      · exfalso;first|omega|(simp only [oZ] at *;omega)
      · (repeat' first|refine sN rfl ?_|((first|refine sA rfl ?_ ?_|refine s4 rfl ‹_› rfl ?_ ?_);first|exact tI|omega|(simp only[oZ] at *;omega))|(refine s2 rfl ?_;intro _ _hb)|(refine s3 rfl ?_ ?_<;>intro hb<;>subst hb)|refine aS ?_|refine reg (by kernel_rfl) ?_|refine lexE ?_|refine rD (by kernel_rfl) (by kernel_rfl) ?_|(refine aC rfl ?_ ?_<;>intro hb<;>cases hb)|refine aK ?_|refine aE ?_|refine aB ?_|refine AWp.ret ⟨_,rfl,?_⟩)
        rfl
  · rw [if_neg hok]
    refine eN Tryz.func160 rfl (by kernel_rfl) rfl ?_;intro Γ hΓ
    (repeat first|refine sN rfl ?_|((first|refine sA rfl ?_ ?_|refine s4 rfl ‹_› rfl ?_ ?_);first|exact tI|omega|(simp only[oZ] at *;omega))|(refine s2 rfl ?_;intro _ _hb) |(refine sC rfl (hwv) ?_;intro _ _hb)|(refine s3 rfl ?_ ?_<;>intro hb<;>subst hb)|refine aS ?_|refine reg (by kernel_rfl) ?_|refine lexE ?_)
    (refine aC rfl ?_ ?_<;>intro hb<;>cases hb)
    · (repeat' first|refine sN rfl ?_|((first|refine sA rfl ?_ ?_|refine s4 rfl ‹_› rfl ?_ ?_);first|exact tI|omega|(simp only[oZ] at *;omega))|(refine s2 rfl ?_;intro _ _hb)|(refine s3 rfl ?_ ?_<;>intro hb<;>subst hb)|refine aS ?_|refine reg (by kernel_rfl) ?_|refine lexE ?_|refine rD (by kernel_rfl) (by kernel_rfl) ?_|(refine aC rfl ?_ ?_<;>intro hb<;>cases hb)|refine aK ?_|refine aE ?_|refine aB ?_|refine AWp.ret ⟨_,rfl,?_⟩)
      rfl
    · exfalso;simp at *;grind
theorem wordWithin_ok (w:W) (al:Int) (hl:w.length≤1099511627776):Pure Tryz.prog TB 144 [eT w,eI .i64 al] (eB (within w al)):=by
  have h1:=alphabetOf_ok (TB:=TB) w hl
  have h2:=l1Alphabet_ok (TB:=TB) al
  by_cases hok:wordOk w=true
  · rw [if_pos hok] at h1
    unfold wordOk at hok
    simp only [Bool.and_eq_true,decide_eq_true_eq] at hok
    have hw:within w al=(alphB al && w.all (inAl al)):=by unfold within;simp [hok.1]
    rw [hw]
    refine eN Tryz.func144 rfl (by kernel_rfl) rfl ?_;intro Γ hΓ
    (repeat' first|refine sN rfl ?_|((first|refine sA rfl ?_ ?_|refine s4 rfl ‹_› rfl ?_ ?_);first|exact tI|omega|(simp only[oZ] at *;omega))|(refine s2 rfl ?_;intro _ _hb) |refine sP rfl (h1) rfl ?_|(refine sC rfl (h2) ?_;intro _ _hb)|(refine s3 rfl ?_ ?_<;>intro hb<;>subst hb)|refine aS ?_|refine reg (by kernel_rfl) ?_|refine lexE ?_|refine rD (by kernel_rfl) (by kernel_rfl) ?_|(refine aC rfl ?_ ?_<;>intro hb<;>cases hb)|refine aK ?_|refine aE ?_|refine aB ?_|refine AWp.ret ⟨_,rfl,?_⟩)
    all_goals first
      | (show E.o _=E.o _;congr;grind)
      | (rename_i ha b;rw [setW_in hok.2 ha] at _hb;show E.o _=E.o _;rw [ha,_hb];rfl)
  · rw [if_neg hok] at h1
    have hw:within w al=false:=by
      rw [Bool.eq_false_iff]
      intro h
      unfold within at h
      simp only [Bool.and_eq_true,decide_eq_true_eq] at h
      exact hok (by unfold wordOk;simp [h.1,within_all h.2.2])
    rw [hw]
    refine eN Tryz.func144 rfl (by kernel_rfl) rfl ?_;intro Γ hΓ
    (repeat' first|refine sN rfl ?_|((first|refine sA rfl ?_ ?_|refine s4 rfl ‹_› rfl ?_ ?_);first|exact tI|omega|(simp only[oZ] at *;omega))|(refine s2 rfl ?_;intro _ _hb) |refine sP rfl (h1) rfl ?_|(refine sC rfl (h2) ?_;intro _ _hb)|(refine s3 rfl ?_ ?_<;>intro hb<;>subst hb)|refine aS ?_|refine reg (by kernel_rfl) ?_|refine lexE ?_|refine rD (by kernel_rfl) (by kernel_rfl) ?_|(refine aC rfl ?_ ?_<;>intro hb<;>cases hb)|refine aK ?_|refine aE ?_|refine aB ?_|refine AWp.ret ⟨_,rfl,?_⟩)
    all_goals rfl
end Go.Am
