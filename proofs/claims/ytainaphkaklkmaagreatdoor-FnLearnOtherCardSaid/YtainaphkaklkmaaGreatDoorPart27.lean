/-
  A copy of an automaton, and the automaton of the other words, as the program makes them: walked.
-/
import Derived.Test.YtainaphkaklkmaaGreatDoorPart26
import Derived.Test.YtainaphkaklkmaaGreatDoorPart11
import Derived.Test.YtainaphkaklkmaaGreatDoorPart17
import Derived.Test.YtainaphkaklkmaaGreatDoorPart21
import Derived.Test.YtainaphkaklkmaaGreatDoorPart22
set_option linter.constructorNameAsVariable false
set_option linter.unusedSimpArgs false
set_option linter.unusedVariables false
namespace Go.Am
open Go Go.Proofs
set_option maxHeartbeats 1000000
attribute [local irreducible] QOp AOp Lex LexO AWp Spec
variable {TB:Amb}
theorem cloneI_ok (l:List Int) (h:l.length≤1048576):Spec Tryz.prog TB 74 [] 0 [eInts l] (fun x σ nx=>x=.o (.arr 0 1 0 l.length)∧nx=1∧σ=[(0,.cells 3 1 (l.map iRowC))]):=by
  refine eN Tryz.func74 rfl (by kernel_rfl) rfl ?_;intro Γ hΓ
  (repeat first|refine sN rfl ?_|((first|refine sM rfl ?_ ?_|refine s4 rfl ‹_› rfl ?_ ?_);first|exact tI|omega|(simp only[oZ] at *;omega))|(refine s2 rfl ?_;intro _ _hb)|(refine s3 rfl ?_ ?_<;>intro hb<;>subst hb)|refine aS ?_|refine reg (by kernel_rfl) ?_|refine lexE ?_|refine rD (by kernel_rfl) (by kernel_rfl) ?_)
  (refine popO rfl ?_;refine popS (fun _ _=>q_assign rfl) rfl ?_)
  (repeat first|refine sN rfl ?_|((first|refine sM rfl ?_ ?_|refine s4 rfl ‹_› rfl ?_ ?_);first|exact tI|omega|(simp only[oZ] at *;omega))|(refine s2 rfl ?_;intro _ _hb)|(refine s3 rfl ?_ ?_<;>intro hb<;>subst hb)|refine aS ?_|refine reg (by kernel_rfl) ?_|refine lexE ?_|refine rD (by kernel_rfl) (by kernel_rfl) ?_)
  (refine popO rfl ?_;refine popW ?_ rfl (by rfl);refine n_eqNilL rfl ?_;intro b0 hb0)
  (repeat first|refine sN rfl ?_|((first|refine sM rfl ?_ ?_|refine s4 rfl ‹_› rfl ?_ ?_);first|exact tI|omega|(simp only[oZ] at *;omega))|(refine s2 rfl ?_;intro _ _hb)|(refine s3 rfl ?_ ?_<;>intro hb<;>subst hb)|refine aS ?_|refine reg (by kernel_rfl) ?_|refine lexE ?_|refine rD (by kernel_rfl) (by kernel_rfl) ?_)
  (refine aC rfl ?_ ?_<;>intro hb<;>cases hb)
  · obtain rfl:l=[]:=by simpa using hb0 rfl
    (repeat first|refine sN rfl ?_|((first|refine sM rfl ?_ ?_|refine s4 rfl ‹_› rfl ?_ ?_);first|exact tI|omega|(simp only[oZ] at *;omega))|(refine s2 rfl ?_;intro _ _hb)|(refine s3 rfl ?_ ?_<;>intro hb<;>subst hb)|refine aS ?_|refine reg (by kernel_rfl) ?_|refine lexE ?_|refine rD (by kernel_rfl) (by kernel_rfl) ?_)
    (refine popO rfl ?_;refine popW ?_ rfl (by rfl);refine n_nil 1 3 ?_)
    (repeat first|refine sN rfl ?_|((first|refine sM rfl ?_ ?_|refine s4 rfl ‹_› rfl ?_ ?_);first|exact tI|omega|(simp only[oZ] at *;omega))|(refine s2 rfl ?_;intro _ _hb)|(refine s3 rfl ?_ ?_<;>intro hb<;>subst hb)|refine aS ?_|refine reg (by kernel_rfl) ?_|refine lexE ?_|refine rD (by kernel_rfl) (by kernel_rfl) ?_)
    refine AWp.ret ⟨_,rfl,rfl,rfl,rfl⟩
  · refine AWp.skip ?_
    (repeat first|refine sN rfl ?_|((first|refine sM rfl ?_ ?_|refine s4 rfl ‹_› rfl ?_ ?_);first|exact tI|omega|(simp only[oZ] at *;omega))|(refine s2 rfl ?_;intro _ _hb)|(refine s3 rfl ?_ ?_<;>intro hb<;>subst hb)|refine aS ?_|refine reg (by kernel_rfl) ?_|refine lexE ?_|refine rD (by kernel_rfl) (by kernel_rfl) ?_)
    (refine popO rfl ?_;refine popW ?_ rfl (by rfl);refine n_sliceB rfl rfl rfl rfl (by simp) (by rfl) (by rfl) (by rfl) (by rfl) ?_)
    (repeat first|refine sN rfl ?_|((first|refine sM rfl ?_ ?_|refine s4 rfl ‹_› rfl ?_ ?_);first|exact tI|omega|(simp only[oZ] at *;omega))|(refine s2 rfl ?_;intro _ _hb)|(refine s3 rfl ?_ ?_<;>intro hb<;>subst hb)|refine aS ?_|refine reg (by kernel_rfl) ?_|refine lexE ?_|refine rD (by kernel_rfl) (by kernel_rfl) ?_)
    (refine popO rfl ?_;refine popW ?_ rfl (by rfl);refine n_append rfl rfl rfl (by first|(simp;done)|(simp;(first|omega|(simp only[oZ] at *;omega)))) rfl (by intro r hr;simp only [List.map_map,List.mem_map] at hr;obtain ⟨_,_,rfl⟩:=hr;rfl) (by rfl) (Nat.le_of_ble_eq_true rfl) (by simp;omega) ?_)
    (repeat first|refine sN rfl ?_|((first|refine sM rfl ?_ ?_|refine s4 rfl ‹_› rfl ?_ ?_);first|exact tI|omega|(simp only[oZ] at *;omega))|(refine s2 rfl ?_;intro _ _hb)|(refine s3 rfl ?_ ?_<;>intro hb<;>subst hb)|refine aS ?_|refine reg (by kernel_rfl) ?_|refine lexE ?_|refine rD (by kernel_rfl) (by kernel_rfl) ?_)
    refine AWp.names [1] [(2,.o (.arr 0 1 0 l.length))] [(0,.cells 3 1 (l.map iRowC))] (by intro i hi;rw [hΓ] at hi;omega) (by simp) (by simp[cX,zC,hΓ]) (by simp[cX,zC,hΓ]) ?_
    refine AWp.ret ⟨_,rfl,rfl,rfl,rfl⟩
theorem cloneB_ok (l:List Bool) (h:l.length≤1048576):Spec Tryz.prog TB 73 [] 0 [eBools l] (fun x σ nx=>x=.o (.arr 0 1 0 l.length)∧nx=1∧σ=[(0,.cells 4 1 (l.map bRowC))]):=by
  refine eN Tryz.func73 rfl (by kernel_rfl) rfl ?_;intro Γ hΓ
  (repeat first|refine sN rfl ?_|((first|refine sM rfl ?_ ?_|refine s4 rfl ‹_› rfl ?_ ?_);first|exact tI|omega|(simp only[oZ] at *;omega))|(refine s2 rfl ?_;intro _ _hb)|(refine s3 rfl ?_ ?_<;>intro hb<;>subst hb)|refine aS ?_|refine reg (by kernel_rfl) ?_|refine lexE ?_|refine rD (by kernel_rfl) (by kernel_rfl) ?_)
  (refine popO rfl ?_;refine popS (fun _ _=>q_assign rfl) rfl ?_)
  (repeat first|refine sN rfl ?_|((first|refine sM rfl ?_ ?_|refine s4 rfl ‹_› rfl ?_ ?_);first|exact tI|omega|(simp only[oZ] at *;omega))|(refine s2 rfl ?_;intro _ _hb)|(refine s3 rfl ?_ ?_<;>intro hb<;>subst hb)|refine aS ?_|refine reg (by kernel_rfl) ?_|refine lexE ?_|refine rD (by kernel_rfl) (by kernel_rfl) ?_)
  (refine popO rfl ?_;refine popW ?_ rfl (by rfl);refine n_eqNilL rfl ?_;intro b0 hb0)
  (repeat first|refine sN rfl ?_|((first|refine sM rfl ?_ ?_|refine s4 rfl ‹_› rfl ?_ ?_);first|exact tI|omega|(simp only[oZ] at *;omega))|(refine s2 rfl ?_;intro _ _hb)|(refine s3 rfl ?_ ?_<;>intro hb<;>subst hb)|refine aS ?_|refine reg (by kernel_rfl) ?_|refine lexE ?_|refine rD (by kernel_rfl) (by kernel_rfl) ?_)
  (refine aC rfl ?_ ?_<;>intro hb<;>cases hb)
  · obtain rfl:l=[]:=by simpa using hb0 rfl
    (repeat first|refine sN rfl ?_|((first|refine sM rfl ?_ ?_|refine s4 rfl ‹_› rfl ?_ ?_);first|exact tI|omega|(simp only[oZ] at *;omega))|(refine s2 rfl ?_;intro _ _hb)|(refine s3 rfl ?_ ?_<;>intro hb<;>subst hb)|refine aS ?_|refine reg (by kernel_rfl) ?_|refine lexE ?_|refine rD (by kernel_rfl) (by kernel_rfl) ?_)
    (refine popO rfl ?_;refine popW ?_ rfl (by rfl);refine n_nil 1 4 ?_)
    (repeat first|refine sN rfl ?_|((first|refine sM rfl ?_ ?_|refine s4 rfl ‹_› rfl ?_ ?_);first|exact tI|omega|(simp only[oZ] at *;omega))|(refine s2 rfl ?_;intro _ _hb)|(refine s3 rfl ?_ ?_<;>intro hb<;>subst hb)|refine aS ?_|refine reg (by kernel_rfl) ?_|refine lexE ?_|refine rD (by kernel_rfl) (by kernel_rfl) ?_)
    refine AWp.ret ⟨_,rfl,rfl,rfl,rfl⟩
  · refine AWp.skip ?_
    (repeat first|refine sN rfl ?_|((first|refine sM rfl ?_ ?_|refine s4 rfl ‹_› rfl ?_ ?_);first|exact tI|omega|(simp only[oZ] at *;omega))|(refine s2 rfl ?_;intro _ _hb)|(refine s3 rfl ?_ ?_<;>intro hb<;>subst hb)|refine aS ?_|refine reg (by kernel_rfl) ?_|refine lexE ?_|refine rD (by kernel_rfl) (by kernel_rfl) ?_)
    (refine popO rfl ?_;refine popW ?_ rfl (by rfl);refine n_sliceB rfl rfl rfl rfl (by simp) (by rfl) (by rfl) (by rfl) (by rfl) ?_)
    (repeat first|refine sN rfl ?_|((first|refine sM rfl ?_ ?_|refine s4 rfl ‹_› rfl ?_ ?_);first|exact tI|omega|(simp only[oZ] at *;omega))|(refine s2 rfl ?_;intro _ _hb)|(refine s3 rfl ?_ ?_<;>intro hb<;>subst hb)|refine aS ?_|refine reg (by kernel_rfl) ?_|refine lexE ?_|refine rD (by kernel_rfl) (by kernel_rfl) ?_)
    (refine popO rfl ?_;refine popW ?_ rfl (by rfl);refine n_append rfl rfl rfl (by first|(simp;done)|(simp;(first|omega|(simp only[oZ] at *;omega)))) rfl (by intro r hr;simp only [List.map_map,List.mem_map] at hr;obtain ⟨_,_,rfl⟩:=hr;rfl) (by rfl) (Nat.le_of_ble_eq_true rfl) (by simp;omega) ?_)
    (repeat first|refine sN rfl ?_|((first|refine sM rfl ?_ ?_|refine s4 rfl ‹_› rfl ?_ ?_);first|exact tI|omega|(simp only[oZ] at *;omega))|(refine s2 rfl ?_;intro _ _hb)|(refine s3 rfl ?_ ?_<;>intro hb<;>subst hb)|refine aS ?_|refine reg (by kernel_rfl) ?_|refine lexE ?_|refine rD (by kernel_rfl) (by kernel_rfl) ?_)
    refine AWp.names [1] [(2,.o (.arr 0 1 0 l.length))] [(0,.cells 4 1 (l.map bRowC))] (by intro i hi;rw [hΓ] at hi;omega) (by simp) (by simp[cX,zC,hΓ]) (by simp[cX,zC,hΓ]) ?_
    refine AWp.ret ⟨_,rfl,rfl,rfl,rfl⟩
theorem copyAutomaton_ok (a:Aut) (ha:ABd 1000000 a):SpecK Tryz.prog TB 47 0 [] 0 [eAut a] (CopyPost a):=by
  have ha1:=ha.nx
  have ha2:=ha.ac
  have hcB:=cloneB_ok (TB:=TB) a.ac (by omega)
  refine SpecK.ren (SpecK.ofG (m:=0) (Nat.le_of_ble_eq_true rfl) Tryz.func47 rfl (by kernel_rfl) (Nat.le_of_ble_eq_true rfl) ?_);intro Γ hΓ
  (repeat first|refine sN rfl ?_|((first|refine sA rfl ?_ ?_|refine s4 rfl ‹_› rfl ?_ ?_);first|exact tI|omega|(simp only[oZ] at *;omega))|(refine s2 rfl ?_;intro _ _hb)|(refine s3 rfl ?_ ?_<;>intro hb<;>subst hb)|refine aS ?_|refine reg (by kernel_rfl) ?_|refine lexE ?_)
  refine R.regR [(6,3),(0,2),(1,2),(2,2),(3,2),(4,1),(5,1),(7,5)] mixed (by kernel_rfl) rfl (by kernel_rfl) ?_
  (repeat (first|(refine R.popO rfl ?_;first|(refine R.yQ (md:=false) rfl rfl rfl ?_ ?_;(first|exact True.intro|omega|(simp only [oZ] at *;omega)))|(refine R.yB rfl rfl rfl ?_;intro _ _hb)|refine R.yS rfl rfl rfl ?_|refine R.yP rfl rfl rfl rfl ?_|refine R.yA rfl rfl rfl rfl ?_|refine R.yW rfl rfl rfl ?_|refine R.popN rfl rfl ?_|(refine R.yG rfl rfl ?_ ?_<;>intro hb<;>subst hb))))
  (refine R.popO rfl ?_;refine R.popW (fun _=>?_) rfl rfl;refine n_call [] rfl rfl hcB ⟨rfl,by simp,by simp⟩ rfl trivial ?_;rintro x0 σ1 nx1 ⟨rfl,rfl,rfl⟩ _)
  (repeat (first|(refine R.popO rfl ?_;first|(refine R.yQ (md:=false) rfl rfl rfl ?_ ?_;(first|exact True.intro|omega|(simp only [oZ] at *;omega)))|(refine R.yB rfl rfl rfl ?_;intro _ _hb)|refine R.yS rfl rfl rfl ?_|refine R.yP rfl rfl rfl rfl ?_|refine R.yA rfl rfl rfl rfl ?_|refine R.yW rfl rfl rfl ?_|refine R.popN rfl rfl ?_|(refine R.yG rfl rfl ?_ ?_<;>intro hb<;>subst hb))))
  (refine R.popO rfl ?_;refine R.popW (fun _=>?_) rfl rfl;refine n_buildN 1 1 61 rfl rfl rfl (by rfl) (by rfl) ?_)
  (repeat (first|(refine R.popO rfl ?_;first|(refine R.yQ (md:=false) rfl rfl rfl ?_ ?_;(first|exact True.intro|omega|(simp only [oZ] at *;omega)))|(refine R.yB rfl rfl rfl ?_;intro _ _hb)|refine R.yS rfl rfl rfl ?_|refine R.yP rfl rfl rfl rfl ?_|refine R.yA rfl rfl rfl rfl ?_|refine R.yW rfl rfl rfl ?_|refine R.popN rfl rfl ?_|(refine R.yG rfl rfl ?_ ?_<;>intro hb<;>subst hb))))
  refine R.lexQ ?_
  refine AWp.seq ?_
  (repeat first|refine sN rfl ?_|((first|refine sA rfl ?_ ?_|refine s4 rfl ‹_› rfl ?_ ?_);first|exact tI|omega|(simp only[oZ] at *;omega))|(refine s2 rfl ?_;intro _ _hb)|(refine s3 rfl ?_ ?_<;>intro hb<;>subst hb)|refine aS ?_|refine reg (by kernel_rfl) ?_|refine lexE ?_)
  refine aB ?_
  refine AWp.sld0 3 ?_
  refine AWp.loopV (α:={s:Nat×Nst // s.1≤a.nx.length∧s.2.map (·.2)=a.nx.take s.1}) [2,3,13,14] [] rfl rfl (fun s=>[(15,eI .i64 s.1.1)]) (fun s=>[(0,.cells 26 3 [[.d (iD 0),.d (.l []),.d (.l [])]]),(1,.cells 4 1 (a.ac.map bRowC)),(2,.cells 61 1 (rawR s.1.2)),(3,.cells 26 3 [[.d (iD a.al),.arr 2 1 0 s.1.2.length,.arr 1 1 0 a.ac.length]]),(4,.sld 3 (sI s.1.2))]) 5 (fun s=>a.nx.length - s.1.1) (⟨⟨0,[]⟩,by simp⟩) (List.range 5) (rg hΓ rfl) (by (repeat' first|exact tI|rfl|refine And.intro ?_ ?_)<;>(simp[cX,zC,hΓ,cN,fillC,spliceC,eC]<;>rfl)) ?_;rintro ⟨⟨k,l⟩,hk,hl⟩;(try dsimp only[List.cons_append,List.nil_append])
  have hk:k≤a.nx.length:=hk
  have hl:l.map (·.2)=a.nx.take k:=hl
  have hll:l.length=k:=by have:=congrArg List.length hl;simp at this;omega
  (repeat first|refine sN rfl ?_|((first|refine sA rfl ?_ ?_|refine s4 rfl ‹_› rfl ?_ ?_);first|exact tI|omega|(simp only[oZ] at *;omega))|(refine s2 rfl ?_;intro _ _hb)|(refine s3 rfl ?_ ?_<;>intro hb<;>subst hb)|refine aS ?_|refine reg (by kernel_rfl) ?_|refine lexE ?_)
  ((refine aC rfl ?_ ?_<;>intro hb<;>cases hb);all_goals first|(exfalso;first|omega|(simp only[oZ] at *;omega);done)|skip)
  · have hlt:k < a.nx.length:=by first|omega|(simp only[oZ] at *;omega)
    obtain ⟨r,hx⟩:=get_some (l:=a.nx) (k:=k) hlt
    have hx':=get_map (g:=iiRow) hx
    have hr:=ha.row r (List.mem_of_getElem? hx)
    have hcI:=cloneI_ok (TB:=TB) r (by omega)
    refine AWp.skip ?_
    refine AWp.seq (AWp.block ?_)
    (repeat first|refine sN rfl ?_|((first|refine sA rfl ?_ ?_|refine s4 rfl ‹_› rfl ?_ ?_);first|exact tI|omega|(simp only[oZ] at *;omega))|(refine s2 rfl ?_;intro _ _hb)|(refine s3 rfl ?_ ?_<;>intro hb<;>subst hb)|refine aS ?_|refine reg (by kernel_rfl) ?_|refine lexE ?_)
    refine regD (flX [(1,13),(3,1008),(4,1008),(5,1),(7,1)]) mixed (by kernel_rfl) (by kernel_rfl) ?_
    (repeat first|refine sN rfl ?_|((first|refine sX rfl ?_ ?_|refine s4 rfl ‹_› rfl ?_ ?_);first|exact tI|omega|(simp only[oZ] at *;omega))|(refine s2 rfl ?_;intro _ _hb)|(refine s3 rfl ?_ ?_<;>intro hb<;>subst hb)|refine aS ?_|refine reg (by kernel_rfl) ?_|refine lexE ?_)
    (refine popO rfl ?_;refine popWK ?_ rfl ⟨rfl,rfl⟩;refine n_call [] rfl rfl (hcI) ⟨rfl,by decide,by decide⟩ rfl (by simp[cX,zC,hΓ,cN]) ?_;rintro x0 σ1 nx1 ⟨rfl,rfl,rfl⟩ _;refine ⟨kept1 3 rfl rfl,?_⟩)
    (repeat first|refine sN rfl ?_|((first|refine sX rfl ?_ ?_|refine s4 rfl ‹_› rfl ?_ ?_);first|exact tI|omega|(simp only[oZ] at *;omega))|(refine s2 rfl ?_;intro _ _hb)|(refine s3 rfl ?_ ?_<;>intro hb<;>subst hb)|refine aS ?_|refine reg (by kernel_rfl) ?_|refine lexE ?_)
    (refine popO rfl ?_;refine popWK ?_ rfl ⟨rfl,rfl⟩;refine n_sliceB rfl rfl rfl rfl (by simp [eC,E.ren,C.ren]) (by rfl) (by rfl) (by rfl) (by rfl) ?_;refine ⟨kept1 3 rfl rfl,?_⟩)
    (repeat first|refine sN rfl ?_|((first|refine sX rfl ?_ ?_|refine s4 rfl ‹_› rfl ?_ ?_);first|exact tI|omega|(simp only[oZ] at *;omega))|(refine s2 rfl ?_;intro _ _hb)|(refine s3 rfl ?_ ?_<;>intro hb<;>subst hb)|refine aS ?_|refine reg (by kernel_rfl) ?_|refine lexE ?_)
    (refine popO rfl ?_;refine popW ?_ rfl (by rfl);refine n_append rfl rfl rfl (rawR_len _) rfl (by intro r hr;simp at hr;subst hr;rfl) (by rfl) (Nat.le_of_ble_eq_true rfl) (by simp;omega) ?_)
    (repeat first|refine sN rfl ?_|((first|refine sA rfl ?_ ?_|refine s4 rfl ‹_› rfl ?_ ?_);first|exact tI|omega|(simp only[oZ] at *;omega))|(refine s2 rfl ?_;intro _ _hb)|(refine s3 rfl ?_ ?_<;>intro hb<;>subst hb))
    refine lexE ?_
    refine AWp.namesV [2,3,13,14,15] [] rfl rfl [] [(0,.cells 26 3 [[.d (iD 0),.d (.l []),.d (.l [])]]),(1,.cells 4 1 (a.ac.map bRowC)),(2,.cells 61 1 (rawR l++[[.arr 5 1 0 r.length]])),(3,.cells 26 3 [[.d (iD a.al),.arr 2 1 0 (l.length+1),.arr 1 1 0 a.ac.length]]),(4,.sld 3 (sI l)),(5,.cells 3 1 (r.map iRowC))] [0,1,7,3,4,5] (rl hΓ rfl) (by (repeat' first|exact tI|rfl|refine And.intro ?_ ?_)<;>(simp[cX,zC,hΓ,cN,fillC,spliceC,eC]<;>rfl)) ?_;(try dsimp only[List.cons_append,List.nil_append])
    refine AWp.putEnd 2 5 4 l r rfl rfl rfl fun v=>?_
    (repeat first|refine sN rfl ?_|((first|refine sA rfl ?_ ?_|refine s4 rfl ‹_› rfl ?_ ?_);first|exact tI|omega|(simp only[oZ] at *;omega))|(refine s2 rfl ?_;intro _ _hb)|(refine s3 rfl ?_ ?_<;>intro hb<;>subst hb)|refine aS ?_|refine reg (by kernel_rfl) ?_|refine lexE ?_)
    refine ⟨⟨⟨k+1,l++[(v,r)]⟩,by dsimp only;omega,by dsimp only;rw [List.map_append,hl,List.take_add_one,hx];rfl⟩,by dsimp only;(first|omega|(simp only[oZ] at *;omega)),[0,1,2,3,4],?_⟩
    (simp[cX,zC,hΓ,cN]<;>rfl)
  have hkn:k=a.nx.length:=by first|omega|(simp only[oZ] at *;omega)
  refine AWp.exit ?_
  (repeat first|refine sN rfl ?_|((first|refine sA rfl ?_ ?_|refine s4 rfl ‹_› rfl ?_ ?_);first|exact tI|omega|(simp only[oZ] at *;omega))|(refine s2 rfl ?_;intro _ _hb)|(refine s3 rfl ?_ ?_<;>intro hb<;>subst hb)|refine aS ?_|refine reg (by kernel_rfl) ?_|refine lexE ?_)
  have hll:l.map (·.2)=a.nx:=by rw [hl,hkn,List.take_length]
  refine AWp.ret ⟨_,rfl,[2,1,4],eOwn a.al 0 1 l.length a.ac.length,[(0,.cells 61 1 (rawR l)),(1,.cells 4 1 (a.ac.map bRowC)),(2,.sld 3 (sI l))],⟨by intro i hi;omega,by decide⟩,rfl,by (repeat' first|exact tI|rfl|refine And.intro ?_ ?_)<;>(simp[cX,zC,hΓ,cN]<;>rfl),l,hll,rfl,rfl,rfl⟩
theorem autOk_bd {a:Aut} (ha:autOk a=true):ABd 1000000 a:=by
  have hh:=autOk_head ha
  refine ⟨by omega,by omega,fun r hr=>?_⟩
  obtain ⟨i,hi,he⟩:=List.getElem_of_mem hr
  obtain ⟨row,h1,h2,h3⟩:=autOk_row ha hi
  rw [List.getElem?_eq_getElem hi,he] at h1
  injection h1 with h1
  subst h1
  have hla:(letters a.al).length≤6:=lettersTo_len a.al 6
  omega
def notA (a:Aut):Aut:=⟨a.al,a.nx,a.ac.map not⟩
def notTo (l:List Bool) (k:Nat):List Bool:=(l.take k).map not++l.drop k
theorem notTo_0 (l:List Bool):notTo l 0=l:=by simp [notTo]
theorem notTo_len (l:List Bool) (k:Nat):(notTo l k).length=l.length:=by simp [notTo];omega
theorem notTo_get {l:List Bool} {k:Nat} {b:Bool} (h:l[k]? = some b):(notTo l k)[k]? = some b:=by
  have hk:=(List.getElem?_eq_some_iff.1 h).1
  unfold notTo
  rw [List.getElem?_append_right (by simp;omega)]
  simp
  rw [show k - min k l.length=0 by omega]
  simpa using h
theorem notTo_step {l:List Bool} {k:Nat} {b:Bool} (h:l[k]? = some b):(notTo l k).set k (!b)=notTo l (k+1):=by
  have hk:=(List.getElem?_eq_some_iff.1 h).1
  unfold notTo
  rw [List.set_append_right _ _ (by simp;omega)]
  rw [show k - ((l.take k).map not).length=0 by simp;omega]
  rw [List.take_add_one,h,drop_some h]
  simp
theorem notTo_all (l:List Bool):notTo l l.length=l.map not:=by simp [notTo]
theorem complement_ok (a:Aut) (ha:autOk a=true):Pure Tryz.prog TB 26 [eAut a] (eAutO (some (notA a))):=by
  have h1:=implAutomatonValid_ok (TB:=TB) a
  rw [ha] at h1
  have hbd:ABd 1000000 a:=autOk_bd ha
  have hcp:=copyAutomaton_ok (TB:=TB) a hbd
  have hac:=hbd.ac
  refine SpecK.toSpec (SpecK.ofG (Nat.le_refl _) Tryz.func26 rfl (by kernel_rfl) (Nat.le_of_ble_eq_true rfl) ?_);intro Γ hΓ
  (repeat first|refine sN rfl ?_|((first|refine sA rfl ?_ ?_|refine s4 rfl ‹_› rfl ?_ ?_);first|exact tI|omega|(simp only[oZ] at *;omega))|(refine s2 rfl ?_;intro _ _hb) |refine sP rfl (h1) rfl ?_|(refine s3 rfl ?_ ?_<;>intro hb<;>subst hb)|refine aS ?_|refine reg (by kernel_rfl) ?_|refine lexE ?_)
  (repeat' first|refine sN rfl ?_|((first|refine sA rfl ?_ ?_|refine s4 rfl ‹_› rfl ?_ ?_);first|exact tI|omega|(simp only[oZ] at *;omega))|(refine s2 rfl ?_;intro _ _hb) |refine sP rfl (h1) rfl ?_|(refine s3 rfl ?_ ?_<;>intro hb<;>subst hb)|refine aS ?_|refine reg (by kernel_rfl) ?_|refine lexE ?_|(refine aC rfl ?_ ?_<;>intro hb<;>cases hb));all_goals first|first|cases ‹(!true)=true›|cases ‹(!false)=false›|cases ‹(true != true)=true›|cases ‹(false != false)=true›|cases ‹(true != false)=false›|cases ‹(false != true)=false›|cases ‹(true == true)=false›|skip
  refine AWp.skip ?_
  (repeat first|refine sN rfl ?_|((first|refine sA rfl ?_ ?_|refine s4 rfl ‹_› rfl ?_ ?_);first|exact tI|omega|(simp only[oZ] at *;omega))|(refine s2 rfl ?_;intro _ _hb)|(refine s3 rfl ?_ ?_<;>intro hb<;>subst hb)|refine aS ?_|refine reg (by kernel_rfl) ?_|refine lexE ?_)
  (refine popO rfl ?_;refine popW ?_ rfl (by rfl);refine n_callK [] rfl rfl 0 (hcp) (by decide) ⟨rfl,by decide,by decide⟩ rfl (by simp[cX,zC,hΓ,cN]) ?_;rintro x0 σ1 nx1 ⟨l,hl,rfl,rfl,rfl⟩ _)
  (repeat first|refine sN rfl ?_|((first|refine sA rfl ?_ ?_|refine s4 rfl ‹_› rfl ?_ ?_);first|exact tI|omega|(simp only[oZ] at *;omega))|(refine s2 rfl ?_;intro _ _hb)|(refine s3 rfl ?_ ?_<;>intro hb<;>subst hb))
  refine lexE ?_
  (repeat first|refine sN rfl ?_|((first|refine sA rfl ?_ ?_|refine s4 rfl ‹_› rfl ?_ ?_);first|exact tI|omega|(simp only[oZ] at *;omega))|(refine s2 rfl ?_;intro _ _hb)|(refine s3 rfl ?_ ?_<;>intro hb<;>subst hb)|refine aS ?_|refine reg (by kernel_rfl) ?_|refine lexE ?_)
  refine AWp.block ?_
  refine AWp.loopV (α:={k:Nat // k≤a.ac.length}) [2,4,14] [] rfl rfl (fun ⟨k,hk⟩=>[(15,eI .i64 k)]) (fun ⟨k,hk⟩=>[(0,.cells 26 3 [[.d (iD 0),.d (.l []),.d (.l [])]]),(1,.cells 61 1 (rawR l)),(2,.cells 4 1 ((notTo a.ac k).map bRowC)),(3,.sld 3 (sI l)),(4,.cells 26 3 [[.d (iD a.al),.arr 1 1 0 l.length,.arr 2 1 0 a.ac.length]])]) 5 (fun ⟨k,hk⟩=>a.ac.length - k) (⟨0,by omega⟩) (List.range 5) (rg hΓ rfl) (by (repeat' first|exact tI|rfl|refine And.intro ?_ ?_)<;>(simp[cX,zC,hΓ,cN,notTo_0,spliceC,eC]<;>rfl)) ?_;rintro ⟨k,hk⟩;(try dsimp only[List.cons_append,List.nil_append])
  have hnl:=notTo_len a.ac k
  (repeat first|refine sN rfl ?_|((first|refine sA rfl ?_ ?_|refine s4 rfl ‹_› rfl ?_ ?_);first|exact tI|omega|(simp only[oZ] at *;omega))|(refine s2 rfl ?_;intro _ _hb)|(refine s3 rfl ?_ ?_<;>intro hb<;>subst hb)|refine aS ?_|refine reg (by kernel_rfl) ?_|refine lexE ?_)
  ((refine aC rfl ?_ ?_<;>intro hb<;>cases hb);all_goals first|(exfalso;first|omega|(simp only[oZ] at *;omega);done)|skip)
  · have hlt:k < a.ac.length:=by first|omega|(simp only[oZ] at *;omega)
    obtain ⟨e,he⟩:=get_some (l:=a.ac) (k:=k) hlt
    have he1:=notTo_get he
    have he':((notTo a.ac k).map bRowC)[0+((k:Nat):Int).toNat]? = some (bRowC e):=by rw [Nat.zero_add,Int.toNat_natCast];simp [he1]
    have hst:=notTo_step he
    refine AWp.skip ?_
    refine AWp.seq (AWp.block ?_)
    (repeat first|refine sN rfl ?_|((first|refine sA rfl ?_ ?_|refine s4 rfl ‹_› rfl ?_ ?_);first|exact tI|omega|(simp only[oZ] at *;omega))|(refine s2 rfl ?_;intro _ _hb)|(refine s3 rfl ?_ ?_<;>intro hb<;>subst hb)|refine aS ?_|refine reg (by kernel_rfl) ?_|refine lexE ?_)
    refine regD (flN [10]) mixed (by kernel_rfl) (by kernel_rfl) ?_
    (repeat first|refine sN rfl ?_|((first|refine sA rfl ?_ ?_|refine s4 rfl ‹_› rfl ?_ ?_);first|exact tI|omega|(simp only[oZ] at *;omega))|(refine s2 rfl ?_;intro _ _hb)|(refine s3 rfl ?_ ?_<;>intro hb<;>subst hb))
    refine lexE ?_
    subst _hb
    (repeat first|refine sN rfl ?_|((first|refine sA rfl ?_ ?_|refine s4 rfl ‹_› rfl ?_ ?_);first|exact tI|omega|(simp only[oZ] at *;omega))|(refine s2 rfl ?_;intro _ _hb)|(refine s3 rfl ?_ ?_<;>intro hb<;>subst hb)|refine aS ?_|refine reg (by kernel_rfl) ?_|refine lexE ?_)
    refine ⟨⟨k+1,by first|omega|(simp only[oZ] at *;omega)⟩,by dsimp only;(first|omega|(simp only[oZ] at *;omega)),[0,1,2,3,4],?_⟩
    simp[cX,zC,hΓ,cN,←List.map_set,hst,spliceC,eC]
  · obtain rfl:k=a.ac.length:=by first|omega|(simp only[oZ] at *;omega)
    rw [notTo_all]
    refine AWp.exit ?_
    (repeat first|refine sN rfl ?_|((first|refine sA rfl ?_ ?_|refine s4 rfl ‹_› rfl ?_ ?_);first|exact tI|omega|(simp only[oZ] at *;omega))|(refine s2 rfl ?_;intro _ _hb)|(refine s3 rfl ?_ ?_<;>intro hb<;>subst hb)|refine aS ?_|refine reg (by kernel_rfl) ?_|refine lexE ?_)
    refine AWp.namesV [2,3] [] rfl rfl [] [(0,.cells 26 3 [[.d (iD a.al),.arr 1 1 0 l.length,.arr 2 1 0 a.ac.length]]),(1,.cells 61 1 (rawR l)),(2,.cells 4 1 ((a.ac.map not).map bRowC)),(3,.sld 3 (sI l))] [0,1,2,3] (rl hΓ rfl) (by (repeat' first|exact tI|rfl|refine And.intro ?_ ?_)<;>(simp[cX,zC,hΓ,cN,spliceC,eC]<;>rfl)) ?_;(try dsimp only[List.cons_append,List.nil_append])
    refine AWp.freezeZ [0,1,2,3] [(2,.o (.ip (auRow ⟨a.al,l.map (·.2),a.ac.map not⟩))),(3,eB true)] ⟨⟨_,rfl,.inr (.o (.box rfl (.cons .d (.cons (.nst (s:=3) rfl rfl) (.cons (.full rfl (by simp [Function.comp_def]) (by simp)) .nil)))))⟩,⟨_,rfl,.inl rfl⟩,trivial⟩ ?_
    rw [hl]
    (subst_vars;exact AWp.ret ⟨_,rfl,rfl⟩)
end Go.Am
namespace Go.Am
open Go
set_option linter.unusedVariables false
def noL (L:W→Bool):W→Bool:=fun w=>!(L w)
theorem marks_no {L:W→Bool} {cols:List W} {u w:W}:marks (noL L) cols u=marks (noL L) cols w↔marks L cols u=marks L cols w:=by
  rw [marks_eq,marks_eq]
  unfold noL
  exact ⟨fun h c hc=>by simpa using h c hc,fun h c hc=>by rw [h c hc]⟩
theorem mem_no {L:W→Bool} {t:Tab} {w:W}:marks (noL L) t.cols w∈rowsM (noL L) t↔marks L t.cols w∈rowsM L t:=by
  unfold rowsM
  rw [List.mem_map,List.mem_map]
  exact ⟨fun ⟨r,h1,h2⟩=>⟨r,h1,marks_no.1 h2⟩,fun ⟨r,h1,h2⟩=>⟨r,h1,marks_no.2 h2⟩⟩
theorem nd_no {L:W→Bool} {t:Tab} (h:(rowsM L t).Nodup):(rowsM (noL L) t).Nodup:=by
  unfold rowsM at *
  rw [List.nodup_iff_pairwise_ne,List.pairwise_map] at *
  exact h.imp fun hn he=>hn (marks_no.1 he)
theorem idxOf_congr {α β γ:Type} [BEq β] [LawfulBEq β] [BEq γ] [LawfulBEq γ] {g:α→β} {h:α→γ} {w:α}:∀ {l:List α},(∀r∈l,g r=g w↔h r=h w)→(l.map g).idxOf (g w)=(l.map h).idxOf (h w)
  | [],_=>rfl
  | r :: l,hh=>by
    have ih:=idxOf_congr (g:=g) (h:=h) (w:=w) (l:=l) fun x hx=>hh x (List.mem_cons_of_mem _ hx)
    have h1:=hh r (by simp)
    simp only [List.map_cons,List.idxOf_cons]
    by_cases hg:g r=g w
    · have h2:=h1.1 hg
      rw [hg,h2];simp
    · have h2:¬h r=h w:=fun e=>hg (h1.2 e)
      have e1:(g r == g w)=false:=by simpa using hg
      have e2:(h r == h w)=false:=by simpa using h2
      rw [e1,e2,ih]
theorem idxM_no {L:W→Bool} {t:Tab} {w:W}:idxM (noL L) t w=idxM L t w:=idxOf_congr fun r _=>marks_no
theorem openW_no {L:W→Bool} {ls:List UInt8} {t:Tab}:openW (noL L) ls t=openW L ls t:=by
  unfold openW
  refine find_agr fun w _=>?_
  have:=mem_no (L:=L) (t:=t) (w:=w)
  rw [Bool.eq_iff_iff]
  simp only [Bool.not_eq_true',List.contains_eq_mem,decide_eq_false_iff_not]
  rw [this]
theorem closeN_no {L:W→Bool} {ls:List UInt8}:∀(n:Nat) (t:Tab),closeN (noL L) ls n t=closeN L ls n t
  | 0,_=>rfl
  | n + 1,t=>by
    unfold closeN
    rw [openW_no]
    cases openW L ls t with
    | none=>rfl
    | some w=>
      dsimp only
      rw [closeN_no n]
theorem runM_no {L:W→Bool} {t:Tab}:∀(w:W) (i:Nat),runM (noL L) t i w=runM L t i w
  | [],_=>rfl
  | c::w,i=>by
    show runM (noL L) t (idxM (noL L) t _) w=runM L t (idxM L t _) w
    rw [idxM_no]
    exact runM_no w _
theorem splitAt_no {L:W→Bool} {t:Tab} {b:Bool}:∀(w:W) (i:Nat),splitAt (noL L) t (!b) i w=splitAt L t b i w
  | [],_=>rfl
  | c::w,i=>by
    show (if noL L (t.rows.getD (idxM (noL L) t _) []++w)≠(!b) then _ else splitAt (noL L) t (!b) (idxM (noL L) t _) w)=(if L (t.rows.getD (idxM L t _) []++w)≠b then _ else splitAt L t b (idxM L t _) w)
    rw [idxM_no,splitAt_no w]
    unfold noL
    congr 1
    simp
theorem autM_no {L:W→Bool} {al:Int} {t:Tab}:autM (noL L) al t=notA (autM L al t):=by
  unfold autM notA
  simp only [idxM_no,List.map_map,Aut.mk.injEq,true_and]
  rfl
theorem autOk_not (a:Aut):autOk (notA a)=autOk a:=by unfold autOk notA;simp
theorem runA_not (a:Aut):∀(w:W) (q:Int),runA (notA a) q w=runA a q w
  | [],_=>rfl
  | c::w,q=>runA_not a w _
theorem LA_not {a:Aut} (ha:autOk a=true) {w:W} (hw:wordOn (lsB a.al) w):LA (notA a) w = !(LA a w):=by
  have hh:=autOk_head ha
  have hr:=runA_in ha w 0 hw (by omega)
  unfold LA
  rw [runA_not]
  have hlt:(runA a 0 w).toNat < a.ac.length:=by omega
  show (a.ac.map not).getD _ false=_
  simp [List.getD,hlt]
theorem difD_not {a b:Aut}:difD (notA a) (notA b)=difD a b:=by
  unfold difD validD
  rw [autOk_not,autOk_not]
  have hal:(notA a).al=a.al:=rfl
  have hbl:(notA b).al=b.al:=rfl
  rw [hal,hbl]
  by_cases hv:(autOk a && autOk b && decide (a.al=b.al))=true
  · rw [if_pos hv,if_pos hv]
    simp only [Bool.and_eq_true,decide_eq_true_eq] at hv
    obtain ⟨⟨ha,hb⟩,hab⟩:=hv
    have ha':autOk (notA a)=true:=by rw [autOk_not];exact ha
    have hb':autOk (notA b)=true:=by rw [autOk_not];exact hb
    rw [←netD_ans (op:=bne) ha' hb' (fun x y=>by simp) (.inl rfl),←netD_ans (op:=bne) ha hb (fun x y=>by simp) (.inl rfl)]
    refine IsAns.unique (IsAns.hits (g:=gPr (notA a) (notA b) 0 bne) (g':=gPr a b 0 bne) rfl (fun w hw=>?_) (ansOf_is _)) (ansOf_is _)
    rw [hit_gB ha' hb' hw,hit_gB ha hb (w:=w) hw]
    have hon:=txt_on (al:=a.al) hw
    rw [LA_not ha hon,LA_not hb (by rw [←hab];exact hon)]
    simp
  · rw [if_neg hv,if_neg hv]
section
variable {p:Aut} (hp:autOk p=true)
include hp
theorem agr_not:Agr (LA (notA p)) (noL (LA p)) p.al:=fun w hw _=>LA_not hp hw
theorem wrD_not {t:Tab} {n:Nat} (ht:TBd p.al n t) (hn:n≤20100):wrD (notA p) t=wrD p t:=by
  unfold wrD
  have e:autM (LA (notA p)) (notA p).al t=notA (autM (LA p) p.al t):=by
    rw [←autM_no];exact autM_agr (agr_not hp) ht hn
  rw [e,difD_not]
theorem tabK_not:∀k,k≤lastK p→tabK (notA p) k=tabK p k
  | 0,_=>by
    show tabZ (notA p)=tabZ p
    unfold tabZ
    have hal:(notA p).al=p.al:=rfl
    rw [hal,closeN_agr (agr_not hp) 13 (tabOne_bd p.al) (by omega),closeN_no]
  | k + 1,hk=>by
    have hag:=agr_not hp
    have ih:=tabK_not k (by omega)
    have hc:=(tabK_ok hp k (by omega)).1
    have hbd:=tabK_bd hp (k:=k) (by omega)
    have hw:=wrD_not hp hbd (by omega)
    obtain ⟨w,v,hwr,hN⟩:=tabK_step hp (k:=k) (by omega)
    obtain ⟨h7,h8⟩:=(wrD_ok p).on _ w hwr hc
    have hlen:=wrD_short hwr
    have e:∀p:Aut,tabK p (k+1)=match wrD p (tabK p k) with
      | none=>tabK p k
      | some w=>(nextT (LA p) (lsB p.al) (tabK p k) w).getD (tabK p k):=fun p=>rfl
    have h0:0 < (tabK p k).rows.length:=(List.getElem?_eq_some_iff.1 hc.r0).1
    have hcn:Closed (noL (LA p)) (lsB p.al) (tabK p k):=⟨⟨hc.r0,hc.c0,hc.pre,hc.onR,hc.onC,nd_no hc.nd,hc.ndC⟩,fun r hr l hl=>mem_no.2 (hc.cl r hr l hl)⟩
    have hsp:splitAt (LA (notA p)) (tabK p k) (LA (notA p) w) 0 w=some v:=by
      rw [LA_not hp h7,splitAt_agr hag hbd (by omega) hcn (!(LA p w)) w 0 h0 h7 (by omega),splitAt_no];exact hN.split
    have hv:wordOn (lsB p.al) v∧v.length≤20000:=by
      obtain ⟨q,_,hq⟩:=hN.suf
      rw [hq] at h7 hlen
      exact ⟨fun c hc=>h7 c (List.mem_append_right _ hc),by simp at hlen;omega⟩
    have hbd2:TBd p.al 20000 ⟨(tabK p k).rows,(tabK p k).cols++[v]⟩:=by
      refine ⟨hbd.onR,fun x hx=>?_,hbd.rl,?_⟩
      · rcases List.mem_append.1 hx with hx|hx
        · exact hbd.onC x hx
        · simp at hx;subst hx;exact hv
      · have h9:=(tabK_ok hp k (by omega)).2.2.2.1
        have h10:=(lastK_ok hp).1
        simp;omega
    have hn:nextT (LA (notA p)) (lsB p.al) (tabK p k) w=some (tabK p (k+1)):=by
      unfold nextT
      rw [hsp]
      show closeN (LA (notA p)) (lsB p.al) 13 _=_
      rw [closeN_agr hag 13 hbd2 (by omega),closeN_no]
      exact hN.close
    have hal:(notA p).al=p.al:=rfl
    rw [e (notA p),ih,hw,hwr,hal]
    simp only [hn,Option.getD_some]
theorem lastK_not:lastK (notA p)=lastK p:=by
  have hp':autOk (notA p)=true:=by rw [autOk_not];exact hp
  have h1:=lastK_ok hp
  have h2:=lastK_ok hp'
  have hk:∀k,k≤lastK p→wrD (notA p) (tabK (notA p) k)=wrD p (tabK p k):=fun k hk=>by
    rw [tabK_not hp k hk]
    exact wrD_not hp (tabK_bd hp hk) (by omega)
  rcases Nat.lt_trichotomy (lastK (notA p)) (lastK p) with h|h|h
  · exact absurd ((hk _ (by omega)).symm.trans h2.2.1) (h1.2.2 _ h)
  · exact h
  · exact absurd ((hk _ (by omega)).trans h1.2.1) (h2.2.2 _ h)
theorem propA_not {k:Nat} (hk:k≤lastK p):propA (notA p) k=notA (propA p k):=by
  unfold propA
  rw [tabK_not hp k hk,←autM_no]
  exact autM_agr (agr_not hp) (tabK_bd hp hk) (by omega)
theorem learnT_not:learnT (notA p)=learnT p:=by
  have hp':autOk (notA p)=true:=by rw [autOk_not];exact hp
  unfold learnT
  rw [if_pos hp,if_pos hp',lastK_not hp,tabK_not hp _ (Nat.le_refl _)]
end
end Go.Am
namespace Go.Am
open Go Go.Proofs
set_option maxHeartbeats 1000000
attribute [local irreducible] QOp AOp Lex LexO AWp Spec
variable {TB:Amb}
theorem lawLearnOther_ok (b:List UInt8):Pure Tryz.prog TB 8 [.o (.d (uList b))] (eB true):=by
  refine SpecK.toSpec (SpecK.ofG (Nat.le_refl _) Tryz.func8 rfl (by kernel_rfl) (Nat.le_of_ble_eq_true rfl) ?_);intro Γ hΓ
  (repeat first|refine sN rfl ?_|((first|refine sA rfl ?_ ?_|refine s4 rfl ‹_› rfl ?_ ?_);first|exact tI|omega|(simp only[oZ] at *;omega))|(refine s2 rfl ?_;intro _ _hb)|(refine s3 rfl ?_ ?_<;>intro hb<;>subst hb)|refine aS ?_|refine reg (by kernel_rfl) ?_|refine lexE ?_)
  (refine aC rfl ?_ ?_<;>intro hb<;>cases hb)
  · (repeat first|refine sN rfl ?_|((first|refine sA rfl ?_ ?_|refine s4 rfl ‹_› rfl ?_ ?_);first|exact tI|omega|(simp only[oZ] at *;omega))|(refine s2 rfl ?_;intro _ _hb)|(refine s3 rfl ?_ ?_<;>intro hb<;>subst hb)|refine aS ?_|refine reg (by kernel_rfl) ?_|refine lexE ?_)
    (subst_vars;exact AWp.ret ⟨_,rfl,rfl⟩)
  have hbl:b.length≤9223372036854775807:=by first|omega|(simp only[oZ] at *;omega)
  refine AWp.skip ?_
  (repeat first|refine sN rfl ?_|((first|refine sA rfl ?_ ?_|refine s4 rfl ‹_› rfl ?_ ?_);first|exact tI|omega|(simp only[oZ] at *;omega))|(refine s2 rfl ?_;intro _ _hb)|(refine s3 rfl ?_ ?_<;>intro hb<;>subst hb)|refine aS ?_|refine reg (by kernel_rfl) ?_|refine lexE ?_)
  (refine popO rfl ?_;refine popW ?_ rfl (by rfl);refine n_call [] rfl rfl (DrawLearnAutomaton_ok (TB:=TB) b hbl) ⟨rfl,by decide,by decide⟩ rfl trivial ?_;rintro x0 σ1 nx1 ⟨p,_,rfl,rfl,rfl⟩ _)
  have e1:=implLearnAutomaton_ok (TB:=TB) p
  have e2:=specLearnAutomaton_ok (TB:=TB) p
  by_cases hp:autOk p=true
  · rw [if_pos hp] at e1 e2
    have hp':autOk (notA p)=true:=by rw [autOk_not];exact hp
    have e3:=complement_ok (TB:=TB) p hp
    have e4:=implLearnAutomaton_ok (TB:=TB) (notA p)
    rw [if_pos hp',lastK_not hp,propA_not hp (Nat.le_refl _)] at e4
    have e5:=complement_ok (TB:=TB) (propA p (lastK p)) (propA_valid hp (Nat.le_refl _))
    have ag1:=agSame (TB:=TB) (propA p (lastK p))
    have ag2:=agSame (TB:=TB) (notA (propA p (lastK p)))
    generalize propA p (lastK p)=x at *
    have e6:=implLearnTable_ok (TB:=TB) p
    have e7:=implLearnTable_ok (TB:=TB) (notA p)
    rw [learnT_not hp] at e7
    have ag3:=agTables_ok (TB:=TB) (learnT p).rows (learnT p).cols (learnT p).rows (learnT p).cols
    rw [show decide ((learnT p).rows=(learnT p).rows∧(learnT p).cols=(learnT p).cols)=true from decide_eq_true ⟨rfl,rfl⟩] at ag3
    (repeat first|refine sN rfl ?_|((first|refine sA rfl ?_ ?_|refine s4 rfl ‹_› rfl ?_ ?_);first|exact tI|omega|(simp only[oZ] at *;omega))|(refine s2 rfl ?_;intro _ _hb) |refine sP rfl (e1) rfl ?_|refine sP rfl (e2) rfl ?_|(refine s3 rfl ?_ ?_<;>intro hb<;>subst hb)|refine aS ?_|refine reg (by kernel_rfl) ?_|refine lexE ?_)
    (repeat' first|refine sN rfl ?_|((first|refine sA rfl ?_ ?_|refine s4 rfl ‹_› rfl ?_ ?_);first|exact tI|omega|(simp only[oZ] at *;omega))|(refine s2 rfl ?_;intro _ _hb) |refine sP rfl (e1) rfl ?_|refine sP rfl (e2) rfl ?_|refine sP rfl (ag1) rfl ?_|(refine s3 rfl ?_ ?_<;>intro hb<;>subst hb)|refine aS ?_|refine reg (by kernel_rfl) ?_|refine lexE ?_|(refine aC rfl ?_ ?_<;>intro hb<;>cases hb));all_goals first|first|cases ‹(!true)=true›|cases ‹(!false)=false›|cases ‹(true != true)=true›|cases ‹(false != false)=true›|cases ‹(true != false)=false›|cases ‹(false != true)=false›|cases ‹(true == true)=false›|skip
    refine AWp.skip ?_
    (repeat first|refine sN rfl ?_|((first|refine sA rfl ?_ ?_|refine s4 rfl ‹_› rfl ?_ ?_);first|exact tI|omega|(simp only[oZ] at *;omega))|(refine s2 rfl ?_;intro _ _hb) |refine sP rfl (e3) rfl ?_|refine sP rfl (e4) rfl ?_|refine sP rfl (e5) rfl ?_|refine sP rfl (e6) rfl ?_|refine sP rfl (e7) rfl ?_|(refine s3 rfl ?_ ?_<;>intro hb<;>subst hb)|refine aS ?_|refine reg (by kernel_rfl) ?_|refine lexE ?_)
    (repeat' first|refine sN rfl ?_|((first|refine sA rfl ?_ ?_|refine s4 rfl ‹_› rfl ?_ ?_);first|exact tI|omega|(simp only[oZ] at *;omega))|(refine s2 rfl ?_;intro _ _hb) |refine sP rfl (ag2) rfl ?_|refine sP rfl (ag3) rfl ?_|(refine s3 rfl ?_ ?_<;>intro hb<;>subst hb)|refine aS ?_|refine reg (by kernel_rfl) ?_|refine lexE ?_|(refine aC rfl ?_ ?_<;>intro hb<;>cases hb));all_goals first|first|cases ‹(!true)=true›|cases ‹(!false)=false›|cases ‹(true != true)=true›|cases ‹(false != false)=true›|cases ‹(true != false)=false›|cases ‹(false != true)=false›|cases ‹(true == true)=false›|skip
    (subst_vars;exact AWp.ret ⟨_,rfl,rfl⟩)
  · rw [if_neg hp] at e1 e2
    have ag:=agSame (TB:=TB) autE
    (repeat first|refine sN rfl ?_|((first|refine sA rfl ?_ ?_|refine s4 rfl ‹_› rfl ?_ ?_);first|exact tI|omega|(simp only[oZ] at *;omega))|(refine s2 rfl ?_;intro _ _hb) |refine sP rfl (e1) rfl ?_|refine sP rfl (e2) rfl ?_|(refine s3 rfl ?_ ?_<;>intro hb<;>subst hb)|refine aS ?_|refine reg (by kernel_rfl) ?_|refine lexE ?_)
    (repeat' first|refine sN rfl ?_|((first|refine sA rfl ?_ ?_|refine s4 rfl ‹_› rfl ?_ ?_);first|exact tI|omega|(simp only[oZ] at *;omega))|(refine s2 rfl ?_;intro _ _hb) |refine sP rfl (e1) rfl ?_|refine sP rfl (e2) rfl ?_|refine sP rfl (ag) rfl ?_|(refine s3 rfl ?_ ?_<;>intro hb<;>subst hb)|refine aS ?_|refine reg (by kernel_rfl) ?_|refine lexE ?_|(refine aC rfl ?_ ?_<;>intro hb<;>cases hb));all_goals first|first|cases ‹(!true)=true›|cases ‹(!false)=false›|cases ‹(true != true)=true›|cases ‹(false != false)=true›|cases ‹(true != false)=false›|cases ‹(false != true)=false›|cases ‹(true == true)=false›|skip
    (subst_vars;exact AWp.ret ⟨_,rfl,rfl⟩)
end Go.Am
