/-
  Letters.
-/
import Derived.Test.YtainaphkaklkmaaGreatDoorPart5
import Derived.Test.YtainaphkaklkmaaGreatDoorPart6
import Derived.Test.YtainaphkaklkmaaGreatDoorPart8
set_option linter.constructorNameAsVariable false
set_option linter.unusedSimpArgs false
set_option linter.unusedVariables false
namespace Go.Am
open Go Go.Proofs
set_option maxHeartbeats 1000000
attribute [local irreducible] QOp AOp Lex LexO AWp Spec
variable {TB:List (Nat×Obj)}
theorem isAlphabet_ok (n:Int):Pure Tryz.prog TB 45 [eI .i64 n] (eB (alphB n)):=by
  refine eN Tryz.func45 rfl (by kernel_rfl) rfl ?_;intro Γ hΓ
  (repeat' first|refine sN rfl ?_|((first|refine sA rfl ?_ ?_|refine s4 rfl ‹_› rfl ?_ ?_);first|exact tI|omega|(simp only[oZ] at *;omega))|(refine s2 rfl ?_;intro _ _hb)|(refine s3 rfl ?_ ?_<;>intro hb<;>subst hb)|refine aS ?_|refine reg (by kernel_rfl) ?_|refine lexE ?_|refine rD (by kernel_rfl) (by kernel_rfl) ?_|(refine aC rfl ?_ ?_<;>intro hb<;>cases hb)|refine aK ?_|refine aE ?_|refine aB ?_|refine AWp.ret ⟨_,rfl,?_⟩)
  all_goals (show E.o _=E.o _;congr;unfold alphB;grind)
theorem l1Alphabet_ok (n:Int):Pure Tryz.prog TB 65 [eI .i64 n] (eB (alphB n)):=by
  refine eN Tryz.func65 rfl (by kernel_rfl) rfl ?_;intro Γ hΓ
  (repeat' first|refine sN rfl ?_|((first|refine sA rfl ?_ ?_|refine s4 rfl ‹_› rfl ?_ ?_);first|exact tI|omega|(simp only[oZ] at *;omega))|(refine s2 rfl ?_;intro _ _hb)|(refine s3 rfl ?_ ?_<;>intro hb<;>subst hb)|refine aS ?_|refine reg (by kernel_rfl) ?_|refine lexE ?_|refine rD (by kernel_rfl) (by kernel_rfl) ?_|(refine aC rfl ?_ ?_<;>intro hb<;>cases hb)|refine aK ?_|refine aE ?_|refine aB ?_|refine AWp.ret ⟨_,rfl,?_⟩)
  all_goals (show E.o _=E.o _;congr;unfold alphB;grind)
theorem l1Has_ok (s n:Int) (h0:0≤n) (h1:n < 64):Pure Tryz.prog TB 99 [eI .i64 s,eI .i64 n] (eB (bitB s n.toNat)):=by
  refine eN Tryz.func99 rfl (by kernel_rfl) rfl ?_;intro Γ hΓ
  (repeat' first|refine sN rfl ?_|((first|refine sA rfl ?_ ?_|refine s4 rfl ‹_› rfl ?_ ?_);first|exact tI|omega|(simp only[oZ] at *;omega))|(refine s2 rfl ?_;intro _ _hb)|(refine s3 rfl ?_ ?_<;>intro hb<;>subst hb)|refine aS ?_|refine reg (by kernel_rfl) ?_|refine lexE ?_|refine rD (by kernel_rfl) (by kernel_rfl) ?_|(refine aC rfl ?_ ?_<;>intro hb<;>cases hb)|refine aK ?_|refine aE ?_|refine aB ?_|refine AWp.ret ⟨_,rfl,?_⟩)
  subst _hb;rfl
theorem has_ok (s n:Int):Pure Tryz.prog TB 70 [eI .i64 s,eI .i64 n] (eB (hasB s n)):=by
  refine eN Tryz.func70 rfl (by kernel_rfl) rfl ?_;intro Γ hΓ
  (repeat' first|refine sN rfl ?_|((first|refine sA rfl ?_ ?_|refine s4 rfl ‹_› rfl ?_ ?_);first|exact tI|omega|(simp only[oZ] at *;omega))|(refine s2 rfl ?_;intro _ _hb)|(refine s3 rfl ?_ ?_<;>intro hb<;>subst hb)|refine aS ?_|refine reg (by kernel_rfl) ?_|refine lexE ?_|refine rD (by kernel_rfl) (by kernel_rfl) ?_|(refine aC rfl ?_ ?_<;>intro hb<;>cases hb)|refine aK ?_|refine aE ?_|refine aB ?_|refine AWp.ret ⟨_,rfl,?_⟩)
  all_goals (show E.o _=E.o _;congr;unfold hasB bitB;have:IntKind.i64.bits=64:=rfl;grind)
theorem l1Letters_ok (s:Int):Pure Tryz.prog TB 60 [eI .i64 s] (eInts (letters s)):=by
  refine eN Tryz.func60 rfl (by kernel_rfl) rfl ?_;intro Γ hΓ
  (repeat first|refine sN rfl ?_|((first|refine sX rfl ?_ ?_|refine s4 rfl ‹_› rfl ?_ ?_);first|exact tI|omega|(simp only[oZ] at *;omega))|(refine s2 rfl ?_;intro _ _hb)|(refine s3 rfl ?_ ?_<;>intro hb<;>subst hb)|refine aS ?_|refine reg (by kernel_rfl) ?_|refine lexE ?_|refine rD (by kernel_rfl) (by kernel_rfl) ?_)
  (refine popO rfl ?_;refine popW ?_ rfl (by rfl);refine n_sliceB rfl rfl rfl rfl (by simp) (by rfl) (by rfl) (by rfl) (by rfl) ?_)
  (repeat first|refine sN rfl ?_|((first|refine sX rfl ?_ ?_|refine s4 rfl ‹_› rfl ?_ ?_);first|exact tI|omega|(simp only[oZ] at *;omega))|(refine s2 rfl ?_;intro _ _hb)|(refine s3 rfl ?_ ?_<;>intro hb<;>subst hb)|refine aS ?_|refine reg (by kernel_rfl) ?_|refine lexE ?_|refine rD (by kernel_rfl) (by kernel_rfl) ?_)
  refine AWp.block ?_
  refine AWp.loopL (α:={k:Nat // k≤6}) (fun ⟨k,hk⟩=>[(0,eI .i64 s),(3,.o (.arr 0 1 0 (lettersTo s k).length)),(4,eI .i64 k)]) (fun ⟨k,hk⟩=>[(0,.cells 3 1 ((lettersTo s k).map iRowC))]) 1 (fun ⟨k,hk⟩=>6 - k) (⟨0,by omega⟩) [0] (by first|(simp [hΓ];done)|(rw [hΓ];decide)) (by (repeat' (first|exact trivial|rfl|refine And.intro ?_ ?_))<;>simp [EnvSub,StoreSub,look_cons,nm,E.ren,C.ren,C.renL,O.ren,killc,kill0,Function.comp_def,argsFrom,zC,hΓ]) ?_;rintro ⟨k,hk⟩;(try dsimp only)
  (repeat first|refine sN rfl ?_|((first|refine sX rfl ?_ ?_|refine s4 rfl ‹_› rfl ?_ ?_);first|exact tI|omega|(simp only[oZ] at *;omega))|(refine s2 rfl ?_;intro _ _hb)|(refine s3 rfl ?_ ?_<;>intro hb<;>subst hb)|refine aS ?_|refine reg (by kernel_rfl) ?_|refine lexE ?_|refine rD (by kernel_rfl) (by kernel_rfl) ?_)
  (refine aC rfl ?_ ?_<;>intro hb<;>cases hb)
  · have hlt:k < 6:=by have:=of_decide_eq_true _hb;omega
    refine AWp.skip ?_
    refine AWp.seq (AWp.block ?_)
    (repeat first|refine sN rfl ?_|((first|refine sX rfl ?_ ?_|refine s4 rfl ‹_› rfl ?_ ?_);first|exact tI|omega|(simp only[oZ] at *;omega))|(refine s2 rfl ?_;intro _ _hb)|(refine s3 rfl ?_ ?_<;>intro hb<;>subst hb)|refine aS ?_|refine reg (by kernel_rfl) ?_|refine lexE ?_|refine rD (by kernel_rfl) (by kernel_rfl) ?_)
    (refine popO rfl ?_;refine popB (fun _ _=>q_call rfl rfl rfl (l1Has_ok _ _ (by omega) (by omega)) rfl) rfl ?_;intro _ _hb)
    (repeat first|refine sN rfl ?_|((first|refine sX rfl ?_ ?_|refine s4 rfl ‹_› rfl ?_ ?_);first|exact tI|omega|(simp only[oZ] at *;omega))|(refine s2 rfl ?_;intro _ _hb)|(refine s3 rfl ?_ ?_<;>intro hb<;>subst hb)|refine aS ?_|refine reg (by kernel_rfl) ?_|refine lexE ?_|refine rD (by kernel_rfl) (by kernel_rfl) ?_)
    have hs:=lettersTo_succ s k
    (refine aC rfl ?_ ?_<;>intro hb<;>cases hb)
    · (repeat first|refine sN rfl ?_|((first|refine sA rfl ?_ ?_|refine s4 rfl ‹_› rfl ?_ ?_);first|exact tI|omega|(simp only[oZ] at *;omega))|(refine s2 rfl ?_;intro _ _hb)|(refine s3 rfl ?_ ?_<;>intro hb<;>subst hb)|refine aS ?_|refine reg (by kernel_rfl) ?_|refine lexE ?_|refine rD (by kernel_rfl) (by kernel_rfl) ?_)
      (refine popO rfl ?_;refine popW ?_ rfl (by rfl);refine n_append rfl rfl rfl (by first|(simp;done)|(simp;(first|omega|(simp only [oZ] at *;omega)))) rfl (by intro r hr;simp at hr;subst hr;rfl) (by rfl) (Nat.le_of_ble_eq_true rfl) (by have:=lettersTo_len s k;simp;omega) ?_)
      (repeat first|refine sN rfl ?_|((first|refine sX rfl ?_ ?_|refine s4 rfl ‹_› rfl ?_ ?_);first|exact tI|omega|(simp only[oZ] at *;omega))|(refine s2 rfl ?_;intro _ _hb)|(refine s3 rfl ?_ ?_<;>intro hb<;>subst hb)|refine aS ?_|refine reg (by kernel_rfl) ?_|refine lexE ?_|refine rD (by kernel_rfl) (by kernel_rfl) ?_)
      refine ⟨⟨k+1,by omega⟩,by dsimp only;(first|omega|(simp only [oZ] at *;omega)),[1],?_⟩
      rw [if_pos (by simpa using _hb)] at hs
      simp [EnvSub,StoreSub,look_cons,nm,E.ren,C.ren,C.renL,O.ren,killc,kill0,Function.comp_def,argsFrom,zC,hΓ,hs]
    · refine AWp.skip ?_
      (repeat first|refine sN rfl ?_|((first|refine sX rfl ?_ ?_|refine s4 rfl ‹_› rfl ?_ ?_);first|exact tI|omega|(simp only[oZ] at *;omega))|(refine s2 rfl ?_;intro _ _hb)|(refine s3 rfl ?_ ?_<;>intro hb<;>subst hb)|refine aS ?_|refine reg (by kernel_rfl) ?_|refine lexE ?_|refine rD (by kernel_rfl) (by kernel_rfl) ?_)
      refine ⟨⟨k+1,by omega⟩,by dsimp only;(first|omega|(simp only [oZ] at *;omega)),[0],?_⟩
      rw [if_neg (by simpa using _hb),List.append_nil] at hs
      simp [EnvSub,StoreSub,look_cons,nm,E.ren,C.ren,C.renL,O.ren,killc,kill0,Function.comp_def,argsFrom,zC,hΓ,hs]
  · have hk6:k=6:=by have:=of_decide_eq_false _hb;omega
    subst hk6
    refine AWp.exit ?_
    (repeat first|refine sN rfl ?_|((first|refine sX rfl ?_ ?_|refine s4 rfl ‹_› rfl ?_ ?_);first|exact tI|omega|(simp only[oZ] at *;omega))|(refine s2 rfl ?_;intro _ _hb)|(refine s3 rfl ?_ ?_<;>intro hb<;>subst hb)|refine aS ?_|refine reg (by kernel_rfl) ?_|refine lexE ?_|refine rD (by kernel_rfl) (by kernel_rfl) ?_)
    refine AWp.freeze [0] [(2,.o (.d (iList (lettersTo s 6))))] ⟨⟨_,rfl,.o (.full (by simp) rfl (by simp [Function.comp_def]) (by simp))⟩,trivial⟩ ?_
    refine AWp.ret ⟨_,rfl,rfl⟩
end Go.Am
namespace Go.Am
open Go Go.Proofs
set_option maxHeartbeats 1000000
attribute [local irreducible] QOp AOp Lex LexO AWp Spec
variable {TB:List (Nat×Obj)}
abbrev eOwn (al:Int) (i j:Nat) (n m:Nat):E:=.a [.d (iD al),.arr i 1 0 n,.arr j 1 0 m]
def RandPost (b:List UInt8) (al p n:Int) (x:E) (σ:Store) (nx:Nat):Prop:=∃(p':Int) (l:Nst) (ac:List Bool),(p≤p'∧p'≤p+7*n)∧(l.length:Int)=n∧ac.length=l.length∧(∀x∈l,x.2.length=(letters al).length)∧
  x=eOwn al 1 2 l.length ac.length∧σ=[(0,rdO b p'),(1,.cells 61 1 (rawR l)),(2,.cells 4 1 (ac.map bRowC)),(3,.sld 3 (sI l))]∧nx=4
theorem l3Random_ok (b:List UInt8) (hb:b.length≤2000) (p:Int) (h0:0≤p∧p < 900000000) (al n:Int) (hn:0≤n∧n < 1000):SpecK Tryz.prog TB 143 1 [(0,rdO b p)] 1 [.o (.ptr 0 2 0 0),eI .i64 al,eI .i64 n] (RandPost b al p n):=by
  have hla:(letters al).length≤6:=lettersTo_len al 6
  refine SpecK.ren (SpecK.ofG (m:=1) (Nat.le_of_ble_eq_true rfl) Tryz.func143 rfl (by kernel_rfl) (Nat.le_of_ble_eq_true rfl) ?_);intro Γ hΓ
  (repeat first|refine sN rfl ?_|((first|refine sA rfl ?_ ?_|refine s4 rfl ‹_› rfl ?_ ?_);first|exact tI|omega|(simp only[oZ] at *;omega))|(refine s2 rfl ?_;intro _ _hb)|(refine s3 rfl ?_ ?_<;>intro hb<;>subst hb)|refine aS ?_|refine reg (by kernel_rfl) ?_|refine lexE ?_)
  (refine popO rfl ?_;refine popW ?_ rfl (by rfl);refine n_buildN2 1 1 61 2 1 4 rfl rfl (by decide) rfl rfl (by rfl) (by rfl) ?_)
  (repeat first|refine sN rfl ?_|((first|refine sA rfl ?_ ?_|refine s4 rfl ‹_› rfl ?_ ?_);first|exact tI|omega|(simp only[oZ] at *;omega))|(refine s2 rfl ?_;intro _ _hb) |refine sP rfl (l1Letters_ok al) rfl ?_|(refine s3 rfl ?_ ?_<;>intro hb<;>subst hb)|refine aS ?_|refine reg (by kernel_rfl) ?_|refine lexE ?_)
  refine aB ?_
  refine AWp.sld0 3 ?_
  refine AWp.loopV (α:={s:Nat×Int×Nst×List Bool // (s.1:Int)≤n∧(p≤s.2.1∧s.2.1≤p+7*s.1)∧s.2.2.1.length=s.1∧s.2.2.2.length=s.1∧∀x∈s.2.2.1,x.2.length=(letters al).length}) [0,2,6,7,8] [1] rfl rfl (fun s=>[(9,eI .i64 s.1.1)]) (fun s=>[(0,rdO b s.1.2.1),(2,.cells 61 1 (rawR s.1.2.2.1)),(3,.cells 4 1 (s.1.2.2.2.map bRowC)),(4,.cells 26 3 [[.d (iD al),.arr 2 1 0 s.1.2.2.1.length,.arr 3 1 0 s.1.2.2.2.length]]),(5,.sld 3 (sI s.1.2.2.1))]) 6 (fun s=>n.toNat - s.1.1) (⟨⟨0,p,[],[]⟩,by simp;omega⟩) (List.range 6) (by first|(simp [hΓ];done)|(rw [hΓ];decide)) (by (repeat' (first|exact trivial|rfl|refine And.intro ?_ ?_))<;>(simp [EnvSub,StoreSub,look_cons,nm,nmo,E.ren,C.ren,C.renL,O.ren,Store.ren,killc,kill0,killL,kill,fillC,spliceC,eC,Function.comp_def,argsFrom,zC,hΓ]<;>rfl)) ?_;rintro ⟨⟨k,q,l,ac⟩,hk,hq,hl,hac,hx⟩;(try dsimp only [List.cons_append,List.nil_append])
  have hk:(k:Int)≤n:=hk
  have hq:p≤q∧q≤p+7*k:=hq
  have hl:l.length=k:=hl
  have hac:ac.length=k:=hac
  (repeat first|refine sN rfl ?_|((first|refine sM rfl ?_ ?_|refine s4 rfl ‹_› rfl ?_ ?_);first|exact tI|omega|(simp only[oZ] at *;omega))|(refine s2 rfl ?_;intro _ _hb)|(refine s3 rfl ?_ ?_<;>intro hb<;>subst hb)|refine aS ?_|refine reg (by kernel_rfl) ?_|refine lexE ?_|refine rD (by kernel_rfl) (by kernel_rfl) ?_)
  ((refine aC rfl ?_ ?_<;>intro hb<;>cases hb);all_goals try (simp at _hb;done))
  · have hlt:(k:Int) < n:=by first|omega|(simp only [oZ] at *;omega)
    refine AWp.skip ?_
    refine AWp.seq (AWp.block ?_)
    (repeat first|refine sN rfl ?_|((first|refine sX rfl ?_ ?_|refine s4 rfl ‹_› rfl ?_ ?_);first|exact tI|omega|(simp only[oZ] at *;omega))|(refine s2 rfl ?_;intro _ _hb)|(refine s3 rfl ?_ ?_<;>intro hb<;>subst hb)|refine aS ?_|refine reg (by kernel_rfl) ?_|refine lexE ?_|refine rD (by kernel_rfl) (by kernel_rfl) ?_)
    (refine popO rfl ?_;refine popW ?_ rfl (by rfl);refine n_sliceB rfl rfl rfl rfl (by simp) (by rfl) (by rfl) (by rfl) (by rfl) ?_)
    (repeat first|refine sN rfl ?_|((first|refine sX rfl ?_ ?_|refine s4 rfl ‹_› rfl ?_ ?_);first|exact tI|omega|(simp only[oZ] at *;omega))|(refine s2 rfl ?_;intro _ _hb)|(refine s3 rfl ?_ ?_<;>intro hb<;>subst hb)|refine aS ?_|refine reg (by kernel_rfl) ?_|refine lexE ?_|refine rD (by kernel_rfl) (by kernel_rfl) ?_)
    refine aB ?_
    refine AWp.loopV (α:={s:Nat×Int×List Int // s.1≤(letters al).length∧(q≤s.2.1∧s.2.1≤q+s.1)∧s.2.2.length=s.1}) [0,2,6,7,8,9] [1,2,3,4,5] rfl rfl (fun s=>[(10,.o (.arr 6 1 0 s.1.2.2.length)),(11,eI .i64 s.1.1)]) (fun s=>[(0,rdO b s.1.2.1),(6,.cells 3 1 (s.1.2.2.map iRowC))]) 7 (fun s=>(letters al).length - s.1.1) (⟨⟨0,q,[]⟩,by simp⟩) (List.range 7) (by first|(simp [hΓ];done)|(rw [hΓ];decide)) (by (repeat' (first|exact trivial|rfl|refine And.intro ?_ ?_))<;>(simp [EnvSub,StoreSub,look_cons,nm,nmo,E.ren,C.ren,C.renL,O.ren,Store.ren,killc,kill0,killL,kill,fillC,spliceC,eC,Function.comp_def,argsFrom,zC,hΓ,rawR_ren]<;>rfl)) ?_;rintro ⟨⟨j,u,xs⟩,hj,hu,hxs⟩;(try dsimp only [List.cons_append,List.nil_append])
    have hj:j≤(letters al).length:=hj
    have hu:q≤u∧u≤q+j:=hu
    have hxs:xs.length=j:=hxs
    (repeat first|refine sN rfl ?_|((first|refine sM rfl ?_ ?_|refine s4 rfl ‹_› rfl ?_ ?_);first|exact tI|omega|(simp only[oZ] at *;omega))|(refine s2 rfl ?_;intro _ _hb)|(refine s3 rfl ?_ ?_<;>intro hb<;>subst hb)|refine aS ?_|refine reg (by kernel_rfl) ?_|refine lexE ?_|refine rD (by kernel_rfl) (by kernel_rfl) ?_)
    ((refine aC rfl ?_ ?_<;>intro hb<;>cases hb);all_goals try (simp at _hb;done))
    · obtain ⟨c,c1,c2,hp⟩:=pick_ok (TB:=TB) b hb u n (by omega)
      refine AWp.skip ?_
      refine AWp.seq (AWp.block ?_)
      (repeat first|refine sN rfl ?_|((first|refine sA rfl ?_ ?_|refine s4 rfl ‹_› rfl ?_ ?_);first|exact tI|omega|(simp only[oZ] at *;omega))|(refine s2 rfl ?_;intro _ _hb)|(refine s3 rfl ?_ ?_<;>intro hb<;>subst hb)|refine aS ?_|refine reg (by kernel_rfl) ?_|refine lexE ?_)
      (refine popO rfl ?_;refine popW ?_ rfl (by rfl);refine n_call [0] rfl rfl (hp) ⟨rfl,by decide,by decide⟩ rfl (by simp [EnvSub,StoreSub,look_cons,nm,nmo,E.ren,C.ren,C.renL,O.ren,Store.ren,killc,kill0,killL,kill,fillC,spliceC,eC,Function.comp_def,argsFrom,zC,hΓ]) ?_;rintro x0 σ1 nx1 ⟨rfl,rfl,rfl⟩ _)
      (repeat first|refine sN rfl ?_|((first|refine sA rfl ?_ ?_|refine s4 rfl ‹_› rfl ?_ ?_);first|exact tI|omega|(simp only[oZ] at *;omega))|(refine s2 rfl ?_;intro _ _hb)|(refine s3 rfl ?_ ?_<;>intro hb<;>subst hb)|refine aS ?_|refine reg (by kernel_rfl) ?_|refine lexE ?_)
      (refine popO rfl ?_;refine popW ?_ rfl (by rfl);refine n_append rfl rfl rfl (by first|(simp;done)|(simp;(first|omega|(simp only [oZ] at *;omega)))) rfl (by intro r hr;simp at hr;subst hr;rfl) (by rfl) (Nat.le_of_ble_eq_true rfl) (by simp;omega) ?_)
      (repeat first|refine sN rfl ?_|((first|refine sA rfl ?_ ?_|refine s4 rfl ‹_› rfl ?_ ?_);first|exact tI|omega|(simp only[oZ] at *;omega))|(refine s2 rfl ?_;intro _ _hb)|(refine s3 rfl ?_ ?_<;>intro hb<;>subst hb)|refine aS ?_|refine reg (by kernel_rfl) ?_|refine lexE ?_)
      refine ⟨⟨⟨j+1,u+1,xs++[c]⟩,by simp;first|omega|(simp only [oZ] at *;omega)⟩,by dsimp only;(first|omega|(simp only [oZ] at *;omega)),[0,1,2,3,4,5,7],?_⟩
      (simp [EnvSub,StoreSub,look_cons,nm,nmo,E.ren,C.ren,C.renL,O.ren,Store.ren,killc,kill0,killL,kill,fillC,spliceC,eC,Function.comp_def,argsFrom,zC,hΓ,rawR_ren,cond_eq_ite,Nat.beq_eq]<;>rfl)
    · obtain rfl:j=(letters al).length:=by first|omega|(simp only [oZ] at *;omega)
      obtain ⟨c,c1,c2,hp⟩:=pick_ok (TB:=TB) b hb u 3 (by omega)
      refine AWp.exit ?_
      (repeat first|refine sN rfl ?_|((first|refine sX rfl ?_ ?_|refine s4 rfl ‹_› rfl ?_ ?_);first|exact tI|omega|(simp only[oZ] at *;omega))|(refine s2 rfl ?_;intro _ _hb)|(refine s3 rfl ?_ ?_<;>intro hb<;>subst hb)|refine aS ?_|refine reg (by kernel_rfl) ?_|refine lexE ?_)
      (refine popO rfl ?_;refine popW ?_ rfl (by rfl);refine n_sliceB rfl rfl rfl rfl (by simp [eC]) (by rfl) (by rfl) (by rfl) (by rfl) ?_)
      (repeat first|refine sN rfl ?_|((first|refine sX rfl ?_ ?_|refine s4 rfl ‹_› rfl ?_ ?_);first|exact tI|omega|(simp only[oZ] at *;omega))|(refine s2 rfl ?_;intro _ _hb)|(refine s3 rfl ?_ ?_<;>intro hb<;>subst hb)|refine aS ?_|refine reg (by kernel_rfl) ?_|refine lexE ?_)
      (refine popO rfl ?_;refine popW ?_ rfl (by rfl);refine n_append rfl rfl rfl (rawR_len _) rfl (by intro r hr;simp at hr;subst hr;rfl) (by rfl) (Nat.le_of_ble_eq_true rfl) (by simp;omega) ?_)
      (repeat first|refine sN rfl ?_|((first|refine sX rfl ?_ ?_|refine s4 rfl ‹_› rfl ?_ ?_);first|exact tI|omega|(simp only[oZ] at *;omega))|(refine s2 rfl ?_;intro _ _hb)|(refine s3 rfl ?_ ?_<;>intro hb<;>subst hb)|refine aS ?_|refine reg (by kernel_rfl) ?_|refine lexE ?_)
      refine AWp.putEnd 8 6 5 l xs rfl rfl rfl fun v=>?_
      refine regD (flX [(1,14),(3,1016),(6,1),(8,1)]) mixed (by kernel_rfl) (by kernel_rfl) ?_
      (repeat first|refine sN rfl ?_|((first|refine sA rfl ?_ ?_|refine s4 rfl ‹_› rfl ?_ ?_);first|exact tI|omega|(simp only[oZ] at *;omega))|(refine s2 rfl ?_;intro _ _hb)|(refine s3 rfl ?_ ?_<;>intro hb<;>subst hb)|refine aS ?_|refine reg (by kernel_rfl) ?_|refine lexE ?_)
      (refine popO rfl ?_;refine popWK ?_ rfl ⟨rfl,rfl⟩;refine n_call [0] rfl rfl (hp) ⟨rfl,by decide,by decide⟩ rfl (by simp [EnvSub,StoreSub,look_cons,nm,nmo,E.ren,C.ren,C.renL,O.ren,Store.ren,killc,kill0,killL,kill,fillC,spliceC,eC,Function.comp_def,argsFrom,zC,hΓ,rawR_ren,cond_eq_ite,Nat.beq_eq]) ?_;rintro x0 σ1 nx1 ⟨rfl,rfl,rfl⟩ _;refine ⟨kept1 4 rfl rfl,?_⟩)
      (repeat first|refine sN rfl ?_|((first|refine sA rfl ?_ ?_|refine s4 rfl ‹_› rfl ?_ ?_);first|exact tI|omega|(simp only[oZ] at *;omega))|(refine s2 rfl ?_;intro _ _hb)|(refine s3 rfl ?_ ?_<;>intro hb<;>subst hb)|refine aS ?_|refine reg (by kernel_rfl) ?_|refine lexE ?_)
      (refine popO rfl ?_;refine popW ?_ rfl (by rfl);refine n_append rfl rfl rfl (by first|(simp;done)|(simp;(first|omega|(simp only [oZ] at *;omega)))) rfl (by intro r hr;simp at hr;subst hr;rfl) (by rfl) (Nat.le_of_ble_eq_true rfl) (by simp;omega) ?_)
      (repeat first|refine sN rfl ?_|((first|refine sA rfl ?_ ?_|refine s4 rfl ‹_› rfl ?_ ?_);first|exact tI|omega|(simp only[oZ] at *;omega))|(refine s2 rfl ?_;intro _ _hb)|(refine s3 rfl ?_ ?_<;>intro hb<;>subst hb)|refine aS ?_|refine reg (by kernel_rfl) ?_|refine lexE ?_)
      subst _hb
      have hx2:∀x∈l++[(v,xs)],x.2.length=(letters al).length:=fun x hm=>by
        rcases List.mem_append.1 hm with hm|hm
        · exact hx x hm
        · simp at hm;subst hm;exact hxs
      refine ⟨⟨⟨k+1,u+1,l++[(v,xs)],ac++[decide (c > 0)]⟩,by dsimp only;omega,by dsimp only;omega,by simp;omega,by simp;omega,hx2⟩,by dsimp only;(first|omega|(simp only [oZ] at *;omega)),[0,1,8,9,4,5],?_⟩
      (simp [EnvSub,StoreSub,look_cons,nm,nmo,E.ren,C.ren,C.renL,O.ren,Store.ren,killc,kill0,killL,kill,fillC,spliceC,eC,Function.comp_def,argsFrom,zC,hΓ,rawR_ren,cond_eq_ite,Nat.beq_eq]<;>rfl)
  · have hkn:(k:Int)=n:=by first|omega|(simp only [oZ] at *;omega)
    refine AWp.exit ?_
    (repeat first|refine sN rfl ?_|((first|refine sA rfl ?_ ?_|refine s4 rfl ‹_› rfl ?_ ?_);first|exact tI|omega|(simp only[oZ] at *;omega))|(refine s2 rfl ?_;intro _ _hb)|(refine s3 rfl ?_ ?_<;>intro hb<;>subst hb)|refine aS ?_|refine reg (by kernel_rfl) ?_|refine lexE ?_)
    refine AWp.ret ⟨_,rfl,[0,2,3,5],eOwn al 1 2 l.length ac.length,[(0,rdO b q),(1,.cells 61 1 (rawR l)),(2,.cells 4 1 (ac.map bRowC)),(3,.sld 3 (sI l))],⟨by intro i hi;match i with|0=>rfl,by decide⟩,rfl,by (repeat' (first|exact trivial|rfl|refine And.intro ?_ ?_))<;>(simp [EnvSub,StoreSub,look_cons,nm,nmo,E.ren,C.ren,C.renL,O.ren,Store.ren,killc,kill0,killL,kill,fillC,spliceC,eC,Function.comp_def,argsFrom,zC,hΓ,rawR_ren,cond_eq_ite,Nat.beq_eq]<;>rfl),q,l,ac,by omega,by omega,by omega,hx,rfl,rfl,rfl⟩
end Go.Am
namespace Go.Am
open Go Go.Proofs
set_option maxHeartbeats 1000000
attribute [local irreducible] QOp AOp Lex LexO AWp Spec
variable {TB:List (Nat×Obj)}
theorem l3Safe_ok (b:List UInt8) (hb:b.length≤2000) (p:Int) (h0:0≤p∧p < 900000000) (al n:Int) (hn:1≤n∧n < 1000):SpecK Tryz.prog TB 142 1 [(0,rdO b p)] 1 [.o (.ptr 0 2 0 0),eI .i64 al,eI .i64 n] (RandPost b al p n):=by
  have hla:(letters al).length≤6:=lettersTo_len al 6
  refine SpecK.ren (SpecK.ofG (m:=1) (Nat.le_of_ble_eq_true rfl) Tryz.func142 rfl (by kernel_rfl) (Nat.le_of_ble_eq_true rfl) ?_);intro Γ hΓ
  (repeat first|refine sN rfl ?_|((first|refine sA rfl ?_ ?_|refine s4 rfl ‹_› rfl ?_ ?_);first|exact tI|omega|(simp only[oZ] at *;omega))|(refine s2 rfl ?_;intro _ _hb)|(refine s3 rfl ?_ ?_<;>intro hb<;>subst hb)|refine aS ?_|refine reg (by kernel_rfl) ?_|refine lexE ?_)
  (refine popO rfl ?_;refine popW ?_ rfl (by rfl);refine n_callK [0] rfl rfl 1 (l3Random_ok b hb p h0 al n (by omega)) (by decide) ⟨rfl,by decide,by decide⟩ rfl (by simp [EnvSub,StoreSub,look_cons,nm,nmo,E.ren,C.ren,C.renL,O.ren,Store.ren,killc,kill0,killL,kill,fillC,spliceC,eC,Function.comp_def,argsFrom,zC,hΓ]) ?_;rintro x0 σ1 nx1 ⟨q,l,ac,hq,hl,hac,hx,rfl,rfl,rfl⟩ _)
  (repeat first|refine sN rfl ?_|((first|refine sA rfl ?_ ?_|refine s4 rfl ‹_› rfl ?_ ?_);first|exact tI|omega|(simp only[oZ] at *;omega))|(refine s2 rfl ?_;intro _ _hb)|(refine s3 rfl ?_ ?_<;>intro hb<;>subst hb)|refine aS ?_|refine reg (by kernel_rfl) ?_|refine lexE ?_)
  refine aB ?_
  refine AWp.loopV (α:={s:Nat×List Bool // (s.1:Int)≤n∧s.2.length=l.length}) [2,6,7] [1] rfl rfl (fun s=>[(8,eI .i64 s.1.1)]) (fun s=>[(0,rdO b q),(2,.cells 61 1 (rawR l)),(4,.sld 3 (sI l)),(3,.cells 4 1 (s.1.2.map bRowC)),(5,.cells 26 3 [[.d (iD al),.arr 2 1 0 l.length,.arr 3 1 0 s.1.2.length]])]) 6 (fun s=>n.toNat - s.1.1) (⟨⟨0,ac⟩,by simp;omega⟩) (List.range 6) (by first|(simp [hΓ];done)|(rw [hΓ];decide)) (by (repeat' (first|exact trivial|rfl|refine And.intro ?_ ?_))<;>(simp [EnvSub,StoreSub,look_cons,nm,nmo,E.ren,C.ren,C.renL,O.ren,Store.ren,killc,kill0,killL,kill,fillC,spliceC,eC,Function.comp_def,argsFrom,zC,hΓ,rawR_ren,cond_eq_ite,Nat.beq_eq]<;>rfl)) ?_;rintro ⟨⟨k,bc⟩,hk,hbc⟩;(try dsimp only [List.cons_append,List.nil_append])
  have hk:(k:Int)≤n:=hk
  have hbc:bc.length=l.length:=hbc
  (repeat first|refine sN rfl ?_|((first|refine sM rfl ?_ ?_|refine s4 rfl ‹_› rfl ?_ ?_);first|exact tI|omega|(simp only[oZ] at *;omega))|(refine s2 rfl ?_;intro _ _hb)|(refine s3 rfl ?_ ?_<;>intro hb<;>subst hb)|refine aS ?_|refine reg (by kernel_rfl) ?_|refine lexE ?_|refine rD (by kernel_rfl) (by kernel_rfl) ?_)
  ((refine aC rfl ?_ ?_<;>intro hb<;>cases hb);all_goals try (simp at _hb;done))
  · have hlt:(k:Int) < n:=by first|omega|(simp only [oZ] at *;omega)
    obtain ⟨c,hc⟩:=get_some (l:=bc) (k:=0+(k:Int).toNat) (by omega)
    have hc':=get_map (g:=bRowC) hc
    refine AWp.skip ?_
    refine AWp.seq (AWp.block ?_)
    (repeat first|refine sN rfl ?_|((first|refine sA rfl ?_ ?_|refine s4 rfl ‹_› rfl ?_ ?_);first|exact tI|omega|(simp only[oZ] at *;omega))|(refine s2 rfl ?_;intro _ _hb)|(refine s3 rfl ?_ ?_<;>intro hb<;>subst hb)|refine aS ?_|refine reg (by kernel_rfl) ?_|refine lexE ?_)
    subst _hb
    refine ⟨⟨⟨k+1,bc.set k (decide ((k:Int) < n - 1))⟩,by dsimp only;omega,by simp;omega⟩,by dsimp only;(first|omega|(simp only [oZ] at *;omega)),[0,1,2,3,4,5],?_⟩
    (simp [EnvSub,StoreSub,look_cons,nm,nmo,E.ren,C.ren,C.renL,O.ren,Store.ren,killc,kill0,killL,kill,fillC,spliceC,eC,Function.comp_def,argsFrom,zC,hΓ,rawR_ren,cond_eq_ite,Nat.beq_eq,List.map_set,spliceC,eC]<;>rfl)
  obtain ⟨K,hK⟩:∃K:Nat,(K:Int)=n - 1:=⟨(n - 1).toNat,by omega⟩
  obtain ⟨y,hy⟩:=get_some (l:=l) (k:=K) (by omega)
  refine AWp.exit ?_
  (repeat first|refine sN rfl ?_|((first|refine sA rfl ?_ ?_|refine s4 rfl ‹_› rfl ?_ ?_);first|exact tI|omega|(simp only[oZ] at *;omega))|(refine s2 rfl ?_;intro _ _hb)|(refine s3 rfl ?_ ?_<;>intro hb<;>subst hb)|refine aS ?_|refine reg (by kernel_rfl) ?_|refine lexE ?_)
  refine aB ?_
  refine AWp.takeAt 2 4 l K y hy rfl rfl ?_
  have hyl:y.2.length=(letters al).length:=hx y (List.mem_of_getElem? hy)
  have hKK:((rawR l).set K [.arr 6 1 0 y.2.length])[0+(n - 1).toNat]? = some [.arr 6 1 0 y.2.length]:=by
    rw [←hK,Nat.zero_add,Int.toNat_natCast,List.getElem?_set_self (by rw [rawR_len];omega)]
  refine AWp.loopV (α:={s:Nat×List Int // s.1≤y.2.length∧s.2.length=y.2.length}) [2,6,7] [0,1,2,3,4,5] rfl rfl (fun s=>[(9,eI .i64 s.1.1)]) (fun s=>[(6,.cells 3 1 (s.1.2.map iRowC))]) 7 (fun s=>y.2.length - s.1.1) (⟨⟨0,y.2⟩,by simp⟩) (List.range 7) (by first|(simp [hΓ];done)|(rw [hΓ];decide)) (by (repeat' (first|exact trivial|rfl|refine And.intro ?_ ?_))<;>(simp [EnvSub,StoreSub,look_cons,nm,nmo,E.ren,C.ren,C.renL,O.ren,Store.ren,killc,kill0,killL,kill,fillC,spliceC,eC,Function.comp_def,argsFrom,zC,hΓ,rawR_ren,cond_eq_ite,Nat.beq_eq]<;>rfl)) ?_;rintro ⟨⟨j,ys⟩,hj,hys⟩;(try dsimp only [List.cons_append,List.nil_append])
  have hj:j≤y.2.length:=hj
  have hys:ys.length=y.2.length:=hys
  (repeat first|refine sN rfl ?_|((first|refine sA rfl ?_ ?_|refine s4 rfl ‹_› rfl ?_ ?_);first|exact tI|omega|(simp only[oZ] at *;omega))|(refine s2 rfl ?_;intro _ _hb)|(refine s3 rfl ?_ ?_<;>intro hb<;>subst hb)|refine aS ?_|refine reg (by kernel_rfl) ?_|refine lexE ?_)
  ((refine aC rfl ?_ ?_<;>intro hb<;>cases hb);all_goals try (simp at _hb;done))
  · have hlt:j < y.2.length:=by first|omega|(simp only [oZ] at *;omega)
    obtain ⟨c,hc⟩:=get_some (l:=ys) (k:=0+(j:Int).toNat) (by omega)
    have hc':=get_map (g:=iRowC) hc
    refine AWp.skip ?_
    refine AWp.seq (AWp.block ?_)
    (repeat first|refine sN rfl ?_|((first|refine sA rfl ?_ ?_|refine s4 rfl ‹_› rfl ?_ ?_);first|exact tI|omega|(simp only[oZ] at *;omega))|(refine s2 rfl ?_;intro _ _hb)|(refine s3 rfl ?_ ?_<;>intro hb<;>subst hb)|refine aS ?_|refine reg (by kernel_rfl) ?_|refine lexE ?_)
    refine ⟨⟨⟨j+1,ys.set j (n - 1)⟩,by dsimp only;omega,by simp;omega⟩,by dsimp only;(first|omega|(simp only [oZ] at *;omega)),[0,1,2,3,4,5,6],?_⟩
    (simp [EnvSub,StoreSub,look_cons,nm,nmo,E.ren,C.ren,C.renL,O.ren,Store.ren,killc,kill0,killL,kill,fillC,spliceC,eC,Function.comp_def,argsFrom,zC,hΓ,rawR_ren,cond_eq_ite,Nat.beq_eq,List.map_set,spliceC,eC]<;>rfl)
  refine AWp.exit ?_
  refine AWp.putAt 2 6 4 l K y hy ys (by rw [hys];rfl) rfl rfl fun v=>?_
  (repeat first|refine sN rfl ?_|((first|refine sA rfl ?_ ?_|refine s4 rfl ‹_› rfl ?_ ?_);first|exact tI|omega|(simp only[oZ] at *;omega))|(refine s2 rfl ?_;intro _ _hb)|(refine s3 rfl ?_ ?_<;>intro hb<;>subst hb)|refine aS ?_|refine reg (by kernel_rfl) ?_|refine lexE ?_)
  have hx2:∀x∈l.set K (v,ys),x.2.length=(letters al).length:=fun x hm=>by
    rcases List.mem_or_eq_of_mem_set hm with hm|hm
    · exact hx x hm
    · subst hm;exact hys.trans hyl
  refine AWp.ret ⟨_,rfl,[0,2,3,4],eOwn al 1 2 (l.set K (v,ys)).length bc.length,[(0,rdO b q),(1,.cells 61 1 (rawR (l.set K (v,ys)))),(2,.cells 4 1 (bc.map bRowC)),(3,.sld 3 (sI (l.set K (v,ys))))],⟨by intro i hi;match i with|0=>rfl,by decide⟩,by rw [List.length_set];rfl,by (repeat' (first|exact trivial|rfl|refine And.intro ?_ ?_))<;>(simp [EnvSub,StoreSub,look_cons,nm,nmo,E.ren,C.ren,C.renL,O.ren,Store.ren,killc,kill0,killL,kill,fillC,spliceC,eC,Function.comp_def,argsFrom,zC,hΓ,rawR_ren,cond_eq_ite,Nat.beq_eq]<;>rfl),q,l.set K (v,ys),bc,by omega,by rw [List.length_set];omega,by rw [List.length_set];omega,hx2,rfl,rfl,rfl⟩
end Go.Am
namespace Go.Am
open Go Go.Proofs
set_option maxHeartbeats 1000000
attribute [local irreducible] QOp AOp Lex LexO AWp Spec
variable {TB:List (Nat×Obj)}
structure ABd (m:Nat) (a:Aut):Prop where
  nx:a.nx.length≤m
  ac:a.ac.length≤m
  row:∀r∈a.nx,r.length≤m
def DrawPost (b:List UInt8) (p w:Int) (Q:Aut→Prop) (x:E) (σ:Store) (nx:Nat):Prop:=∃(p':Int) (a:Aut),(p≤p'∧p'≤p+w)∧Q a∧x=eAut a∧σ=[(0,rdO b p')]∧nx=1
theorem own_bd {al:Int} {l:Nst} {ac:List Bool} {n:Int} {m:Nat} (h1:(l.length:Int)=n) (h2:ac.length=l.length) (h3:∀x∈l,x.2.length=(letters al).length) (hn:n≤m) (hm:6≤m):ABd m ⟨al,l.map (·.2),ac⟩:=by
  have hla:(letters al).length≤6:=lettersTo_len al 6
  refine ⟨by simp;omega,by simp;omega,fun r hr=>?_⟩
  obtain ⟨x,hx,rfl⟩:=List.mem_map.1 hr
  have:=h3 x hx
  omega
theorem l3Over_ok (b:List UInt8) (hb:b.length≤2000) (p:Int) (h0:0≤p∧p < 800000000) (al:Int):Spec Tryz.prog TB 119 [(0,rdO b p)] 1 [.o (.ptr 0 2 0 0),eI .i64 al] (DrawPost b p 50 (fun a=>a.al=al∧ABd 6 a)):=by
  obtain ⟨c,c1,c2,hp⟩:=pick_ok (TB:=TB) b hb p 2 (by omega)
  obtain ⟨n1,m1,k1⟩:=num_ok (TB:=TB) b hb (p+1) (by omega) [3,2,4,1] (by decide) (by decide)
  obtain ⟨n2,m2,k2⟩:=num_ok (TB:=TB) b hb (p+1) (by omega) [2,3,1,4,5] (by decide) (by decide)
  have m1':1≤n1∧n1≤5:=by simp at m1;omega
  have m2':1≤n2∧n2≤5:=by simp at m2;omega
  have f1:=l3Safe_ok (TB:=TB) b hb (p+1+1) (by omega) al n1 (by omega)
  have f2:=l3Random_ok (TB:=TB) b hb (p+1+1) (by omega) al n2 (by omega)
  refine SpecK.toSpec (SpecK.ren (SpecK.ofG (Nat.le_refl _) Tryz.func119 rfl (by kernel_rfl) (Nat.le_of_ble_eq_true rfl) ?_));intro Γ hΓ
  (repeat first|refine sN rfl ?_|((first|refine sA rfl ?_ ?_|refine s4 rfl ‹_› rfl ?_ ?_);first|exact tI|omega|(simp only[oZ] at *;omega))|(refine s2 rfl ?_;intro _ _hb)|(refine s3 rfl ?_ ?_<;>intro hb<;>subst hb)|refine aS ?_|refine reg (by kernel_rfl) ?_|refine lexE ?_)
  (refine popO rfl ?_;refine popW ?_ rfl (by rfl);refine n_call [0] rfl rfl (hp) ⟨rfl,by decide,by decide⟩ rfl (by simp [EnvSub,StoreSub,look_cons,nm,nmo,E.ren,C.ren,C.renL,O.ren,Store.ren,killc,kill0,killL,kill,fillC,spliceC,eC,Function.comp_def,argsFrom,zC,hΓ]) ?_;rintro x0 σ1 nx1 ⟨rfl,rfl,rfl⟩ _)
  (repeat first|refine sN rfl ?_|((first|refine sA rfl ?_ ?_|refine s4 rfl ‹_› rfl ?_ ?_);first|exact tI|omega|(simp only[oZ] at *;omega))|(refine s2 rfl ?_;intro _ _hb)|(refine s3 rfl ?_ ?_<;>intro hb<;>subst hb)|refine aS ?_|refine reg (by kernel_rfl) ?_|refine lexE ?_)
  (refine aC rfl ?_ ?_<;>intro hb<;>cases hb)
  · (repeat first|refine sN rfl ?_|((first|refine sA rfl ?_ ?_|refine s4 rfl ‹_› rfl ?_ ?_);first|exact tI|omega|(simp only[oZ] at *;omega))|(refine s2 rfl ?_;intro _ _hb)|(refine s3 rfl ?_ ?_<;>intro hb<;>subst hb)|refine aS ?_|refine reg (by kernel_rfl) ?_|refine lexE ?_)
    (refine popO rfl ?_;refine popW ?_ rfl (by rfl);refine n_call [0] rfl rfl (k1) ⟨rfl,by decide,by decide⟩ rfl (by simp [EnvSub,StoreSub,look_cons,nm,nmo,E.ren,C.ren,C.renL,O.ren,Store.ren,killc,kill0,killL,kill,fillC,spliceC,eC,Function.comp_def,argsFrom,zC,hΓ]) ?_;rintro x0 σ1 nx1 ⟨rfl,rfl,rfl⟩ _)
    (repeat first|refine sN rfl ?_|((first|refine sA rfl ?_ ?_|refine s4 rfl ‹_› rfl ?_ ?_);first|exact tI|omega|(simp only[oZ] at *;omega))|(refine s2 rfl ?_;intro _ _hb)|(refine s3 rfl ?_ ?_<;>intro hb<;>subst hb)|refine aS ?_|refine reg (by kernel_rfl) ?_|refine lexE ?_)
    (refine popO rfl ?_;refine popW ?_ rfl (by rfl);refine n_callK [0] rfl rfl 1 (f1) (by decide) ⟨rfl,by decide,by decide⟩ rfl (by simp [EnvSub,StoreSub,look_cons,nm,nmo,E.ren,C.ren,C.renL,O.ren,Store.ren,killc,kill0,killL,kill,fillC,spliceC,eC,Function.comp_def,argsFrom,zC,hΓ,rawR_ren,cond_eq_ite,Nat.beq_eq]) ?_;rintro x0 σ1 nx1 ⟨q,l,ac,hq,hl,hac,hx,rfl,rfl,rfl⟩ _)
    (repeat first|refine sN rfl ?_|((first|refine sA rfl ?_ ?_|refine s4 rfl ‹_› rfl ?_ ?_);first|exact tI|omega|(simp only[oZ] at *;omega))|(refine s2 rfl ?_;intro _ _hb)|(refine s3 rfl ?_ ?_<;>intro hb<;>subst hb)|refine aS ?_|refine reg (by kernel_rfl) ?_|refine lexE ?_)
    refine AWp.namesV [4] [] rfl rfl [] [(0,rdO b q),(1,.cells 26 3 [[.d (iD al),.arr 2 1 0 l.length,.arr 3 1 0 ac.length]]),(2,.cells 61 1 (rawR l)),(3,.cells 4 1 (ac.map bRowC)),(4,.sld 3 (sI l))] [0,1,2,3,4] (by first|(simp [hΓ];done)|(rw [hΓ];decide)) (by (repeat' (first|exact trivial|rfl|refine And.intro ?_ ?_))<;>(simp [EnvSub,StoreSub,look_cons,nm,nmo,E.ren,C.ren,C.renL,O.ren,Store.ren,killc,kill0,killL,kill,fillC,spliceC,eC,Function.comp_def,argsFrom,zC,hΓ,rawR_ren,cond_eq_ite,Nat.beq_eq]<;>rfl)) ?_;(try dsimp only [List.cons_append,List.nil_append])
    refine AWp.freezeZ [1,2,3,4] [(4,.o (.ip (auRow ⟨al,l.map (·.2),ac⟩)))] ⟨⟨_,rfl,.inr (.o (.box rfl (.cons .d (.cons (.nst (s:=4) rfl rfl) (.cons (.full rfl (by simp [Function.comp_def]) (by simp)) .nil)))))⟩,trivial⟩ ?_
    refine AWp.ret ⟨_,rfl,[0],eAut ⟨al,l.map (·.2),ac⟩,[(0,rdO b q)],⟨by intro i hi;match i with|0=>rfl,by decide⟩,rfl,by (repeat' (first|exact trivial|rfl|refine And.intro ?_ ?_))<;>(simp [EnvSub,StoreSub,look_cons,nm,nmo,E.ren,C.ren,C.renL,O.ren,Store.ren,killc,kill0,killL,kill,fillC,spliceC,eC,Function.comp_def,argsFrom,zC,hΓ,rawR_ren,cond_eq_ite,Nat.beq_eq]<;>rfl),q,_,by omega,⟨rfl,own_bd hl hac hx (by omega) (by omega)⟩,rfl,rfl,rfl⟩
  · refine AWp.skip ?_
    (repeat first|refine sN rfl ?_|((first|refine sA rfl ?_ ?_|refine s4 rfl ‹_› rfl ?_ ?_);first|exact tI|omega|(simp only[oZ] at *;omega))|(refine s2 rfl ?_;intro _ _hb)|(refine s3 rfl ?_ ?_<;>intro hb<;>subst hb)|refine aS ?_|refine reg (by kernel_rfl) ?_|refine lexE ?_)
    (refine popO rfl ?_;refine popW ?_ rfl (by rfl);refine n_call [0] rfl rfl (k2) ⟨rfl,by decide,by decide⟩ rfl (by simp [EnvSub,StoreSub,look_cons,nm,nmo,E.ren,C.ren,C.renL,O.ren,Store.ren,killc,kill0,killL,kill,fillC,spliceC,eC,Function.comp_def,argsFrom,zC,hΓ]) ?_;rintro x0 σ1 nx1 ⟨rfl,rfl,rfl⟩ _)
    (repeat first|refine sN rfl ?_|((first|refine sA rfl ?_ ?_|refine s4 rfl ‹_› rfl ?_ ?_);first|exact tI|omega|(simp only[oZ] at *;omega))|(refine s2 rfl ?_;intro _ _hb)|(refine s3 rfl ?_ ?_<;>intro hb<;>subst hb)|refine aS ?_|refine reg (by kernel_rfl) ?_|refine lexE ?_)
    (refine popO rfl ?_;refine popW ?_ rfl (by rfl);refine n_callK [0] rfl rfl 1 (f2) (by decide) ⟨rfl,by decide,by decide⟩ rfl (by simp [EnvSub,StoreSub,look_cons,nm,nmo,E.ren,C.ren,C.renL,O.ren,Store.ren,killc,kill0,killL,kill,fillC,spliceC,eC,Function.comp_def,argsFrom,zC,hΓ,rawR_ren,cond_eq_ite,Nat.beq_eq]) ?_;rintro x0 σ1 nx1 ⟨q,l,ac,hq,hl,hac,hx,rfl,rfl,rfl⟩ _)
    (repeat first|refine sN rfl ?_|((first|refine sA rfl ?_ ?_|refine s4 rfl ‹_› rfl ?_ ?_);first|exact tI|omega|(simp only[oZ] at *;omega))|(refine s2 rfl ?_;intro _ _hb)|(refine s3 rfl ?_ ?_<;>intro hb<;>subst hb)|refine aS ?_|refine reg (by kernel_rfl) ?_|refine lexE ?_)
    refine AWp.namesV [4] [] rfl rfl [] [(0,rdO b q),(1,.cells 26 3 [[.d (iD al),.arr 2 1 0 l.length,.arr 3 1 0 ac.length]]),(2,.cells 61 1 (rawR l)),(3,.cells 4 1 (ac.map bRowC)),(4,.sld 3 (sI l))] [0,1,2,3,4] (by first|(simp [hΓ];done)|(rw [hΓ];decide)) (by (repeat' (first|exact trivial|rfl|refine And.intro ?_ ?_))<;>(simp [EnvSub,StoreSub,look_cons,nm,nmo,E.ren,C.ren,C.renL,O.ren,Store.ren,killc,kill0,killL,kill,fillC,spliceC,eC,Function.comp_def,argsFrom,zC,hΓ,rawR_ren,cond_eq_ite,Nat.beq_eq]<;>rfl)) ?_;(try dsimp only [List.cons_append,List.nil_append])
    refine AWp.freezeZ [1,2,3,4] [(4,.o (.ip (auRow ⟨al,l.map (·.2),ac⟩)))] ⟨⟨_,rfl,.inr (.o (.box rfl (.cons .d (.cons (.nst (s:=4) rfl rfl) (.cons (.full rfl (by simp [Function.comp_def]) (by simp)) .nil)))))⟩,trivial⟩ ?_
    refine AWp.ret ⟨_,rfl,[0],eAut ⟨al,l.map (·.2),ac⟩,[(0,rdO b q)],⟨by intro i hi;match i with|0=>rfl,by decide⟩,rfl,by (repeat' (first|exact trivial|rfl|refine And.intro ?_ ?_))<;>(simp [EnvSub,StoreSub,look_cons,nm,nmo,E.ren,C.ren,C.renL,O.ren,Store.ren,killc,kill0,killL,kill,fillC,spliceC,eC,Function.comp_def,argsFrom,zC,hΓ,rawR_ren,cond_eq_ite,Nat.beq_eq]<;>rfl),q,_,by omega,⟨rfl,own_bd hl hac hx (by omega) (by omega)⟩,rfl,rfl,rfl⟩
end Go.Am
namespace Go.Am
open Go Go.Proofs
set_option maxHeartbeats 1000000
attribute [local irreducible] QOp AOp Lex LexO AWp Spec
variable {TB:List (Nat×Obj)}
def CopyPost (a:Aut) (x:E) (σ:Store) (nx:Nat):Prop:=∃l:Nst,l.map (·.2)=a.nx∧
  x=eOwn a.al 0 1 l.length a.ac.length∧σ=[(0,.cells 61 1 (rawR l)),(1,.cells 4 1 (a.ac.map bRowC)),(2,.sld 3 (sI l))]∧nx=3
theorem l3Copy_ok (a:Aut) (ha:ABd 1000000 a):SpecK Tryz.prog TB 120 0 [] 0 [eAut a] (CopyPost a):=by
  have ha1:=ha.nx
  have ha2:=ha.ac
  refine SpecK.ren (SpecK.ofG (m:=0) (Nat.le_of_ble_eq_true rfl) Tryz.func120 rfl (by kernel_rfl) (Nat.le_of_ble_eq_true rfl) ?_);intro Γ hΓ
  (repeat first|refine sN rfl ?_|((first|refine sA rfl ?_ ?_|refine s4 rfl ‹_› rfl ?_ ?_);first|exact tI|omega|(simp only[oZ] at *;omega))|(refine s2 rfl ?_;intro _ _hb)|(refine s3 rfl ?_ ?_<;>intro hb<;>subst hb)|refine aS ?_|refine reg (by kernel_rfl) ?_|refine lexE ?_)
  refine R.regR [(0,2),(1,2),(3,2),(4,2),(7,3),(2,1),(5,1),(6,1),(8,5)] mixed (by kernel_rfl) rfl (by kernel_rfl) ?_
  (repeat (first|(refine R.popO rfl ?_;first|(refine R.yQ (md:=false) rfl rfl rfl ?_ ?_;(first|exact True.intro|omega|(simp only [oZ] at *;omega)))|(refine R.yB rfl rfl rfl ?_;intro _ _hb)|refine R.yS rfl rfl rfl ?_|refine R.yP rfl rfl rfl rfl ?_|refine R.yA rfl rfl rfl rfl ?_|refine R.yW rfl rfl rfl ?_|refine R.popN rfl rfl ?_|(refine R.yG rfl rfl ?_ ?_<;>intro hb<;>subst hb))))
  (refine R.popO rfl ?_;refine R.popW (fun _=>?_) rfl rfl;refine n_sliceB rfl rfl rfl rfl (by simp) (by rfl) (by rfl) (by rfl) (by rfl) ?_)
  (refine R.popO rfl ?_;refine R.popW (fun _=>?_) rfl rfl;refine n_append rfl rfl rfl (by simp) rfl (by intro r hr;simp only [List.map_map,List.mem_map] at hr;obtain ⟨_,_,rfl⟩:=hr;rfl) (by rfl) (Nat.le_of_ble_eq_true rfl) (by simp;omega) ?_)
  (refine R.popO rfl ?_;refine R.popW (fun _=>?_) rfl rfl;refine n_buildN 1 1 61 rfl rfl rfl (by rfl) (by rfl) ?_)
  (repeat (first|(refine R.popO rfl ?_;first|(refine R.yQ (md:=false) rfl rfl rfl ?_ ?_;(first|exact True.intro|omega|(simp only [oZ] at *;omega)))|(refine R.yB rfl rfl rfl ?_;intro _ _hb)|refine R.yS rfl rfl rfl ?_|refine R.yP rfl rfl rfl rfl ?_|refine R.yA rfl rfl rfl rfl ?_|refine R.yW rfl rfl rfl ?_|refine R.popN rfl rfl ?_|(refine R.yG rfl rfl ?_ ?_<;>intro hb<;>subst hb))))
  refine R.lexQ ?_
  refine AWp.seq ?_
  (repeat first|refine sN rfl ?_|((first|refine sA rfl ?_ ?_|refine s4 rfl ‹_› rfl ?_ ?_);first|exact tI|omega|(simp only[oZ] at *;omega))|(refine s2 rfl ?_;intro _ _hb)|(refine s3 rfl ?_ ?_<;>intro hb<;>subst hb)|refine aS ?_|refine reg (by kernel_rfl) ?_|refine lexE ?_)
  refine aB ?_
  refine AWp.sld0 3 ?_
  refine AWp.loopV (α:={s:Nat×Nst // s.1≤a.nx.length∧s.2.map (·.2)=a.nx.take s.1}) [1,2,3] [] rfl rfl (fun s=>[(4,eI .i64 s.1.1)]) (fun s=>[(0,.cells 26 3 [[.d (iD 0),.d (.l []),.d (.l [])]]),(2,.cells 4 1 (a.ac.map bRowC)),(3,.cells 61 1 (rawR s.1.2)),(4,.cells 26 3 [[.d (iD a.al),.arr 3 1 0 s.1.2.length,.arr 2 1 0 a.ac.length]]),(5,.sld 3 (sI s.1.2))]) 6 (fun s=>a.nx.length - s.1.1) (⟨⟨0,[]⟩,by simp⟩) (List.range 6) (by first|(simp [hΓ];done)|(rw [hΓ];decide)) (by (repeat' (first|exact trivial|rfl|refine And.intro ?_ ?_))<;>(simp [EnvSub,StoreSub,look_cons,nm,nmo,E.ren,C.ren,C.renL,O.ren,Store.ren,killc,kill0,killL,kill,fillC,spliceC,eC,Function.comp_def,argsFrom,zC,hΓ,rawR_ren,cond_eq_ite,Nat.beq_eq,fillC,spliceC,eC]<;>rfl)) ?_;rintro ⟨⟨k,l⟩,hk,hl⟩;(try dsimp only [List.cons_append,List.nil_append])
  have hk:k≤a.nx.length:=hk
  have hl:l.map (·.2)=a.nx.take k:=hl
  have hll:l.length=k:=by have:=congrArg List.length hl;simp at this;omega
  (repeat first|refine sN rfl ?_|((first|refine sA rfl ?_ ?_|refine s4 rfl ‹_› rfl ?_ ?_);first|exact tI|omega|(simp only[oZ] at *;omega))|(refine s2 rfl ?_;intro _ _hb)|(refine s3 rfl ?_ ?_<;>intro hb<;>subst hb)|refine aS ?_|refine reg (by kernel_rfl) ?_|refine lexE ?_)
  ((refine aC rfl ?_ ?_<;>intro hb<;>cases hb);all_goals try (simp at _hb;done))
  · have hlt:k < a.nx.length:=by first|omega|(simp only [oZ] at *;omega)
    obtain ⟨r,hx⟩:=get_some (l:=a.nx) (k:=k) hlt
    have hx':=get_map (g:=iiRow) hx
    have hr:=ha.row r (List.mem_of_getElem? hx)
    refine AWp.skip ?_
    refine AWp.seq (AWp.block ?_)
    refine regD ⟨flagOf [(1,14),(2,1016),(8,1016),(9,1016),(10,1),(12,1)],at0 [0,1,3,4,5,6,7,2,8,9,10,11,12]⟩ mixed (by kernel_rfl) (by kernel_rfl) ?_
    (repeat first|refine sN rfl ?_|((first|refine sX rfl ?_ ?_|refine s4 rfl ‹_› rfl ?_ ?_);first|exact tI|omega|(simp only[oZ] at *;omega))|(refine s2 rfl ?_;intro _ _hb)|(refine s3 rfl ?_ ?_<;>intro hb<;>subst hb)|refine aS ?_|refine reg (by kernel_rfl) ?_|refine lexE ?_)
    (refine popO rfl ?_;refine popWK ?_ rfl ⟨rfl,rfl⟩;refine n_sliceB rfl rfl rfl rfl (by simp) (by rfl) (by rfl) (by rfl) (by rfl) ?_;refine ⟨kept1 4 rfl rfl,?_⟩)
    (refine popO rfl ?_;refine popWK ?_ rfl ⟨rfl,rfl⟩;refine n_append rfl rfl rfl (by simp) rfl (by intro r hr;simp only [List.map_map,List.mem_map] at hr;obtain ⟨_,_,rfl⟩:=hr;rfl) (by rfl) (Nat.le_of_ble_eq_true rfl) (by simp;omega) ?_;refine ⟨kept1 4 rfl rfl,?_⟩)
    (refine popO rfl ?_;refine popWK ?_ rfl ⟨rfl,rfl⟩;refine n_sliceB rfl rfl rfl rfl (by simp [eC]) (by rfl) (by rfl) (by rfl) (by rfl) ?_;refine ⟨kept1 4 rfl rfl,?_⟩)
    (refine popO rfl ?_;refine popW ?_ rfl (by rfl);refine n_append rfl rfl rfl (rawR_len _) rfl (by intro r hr;simp at hr;subst hr;rfl) (by rfl) (Nat.le_of_ble_eq_true rfl) (by simp;omega) ?_)
    (repeat first|refine sN rfl ?_|((first|refine sA rfl ?_ ?_|refine s4 rfl ‹_› rfl ?_ ?_);first|exact tI|omega|(simp only[oZ] at *;omega))|(refine s2 rfl ?_;intro _ _hb)|(refine s3 rfl ?_ ?_<;>intro hb<;>subst hb))
    refine lexE ?_
    refine AWp.namesV [1,2,3,4] [] rfl rfl [] [(0,.cells 26 3 [[.d (iD 0),.d (.l []),.d (.l [])]]),(1,.cells 3 1 (r.map iRowC)),(2,.cells 4 1 (a.ac.map bRowC)),(3,.cells 61 1 (rawR l++[[.arr 1 1 0 r.length]])),(4,.cells 26 3 [[.d (iD a.al),.arr 3 1 0 (l.length+1),.arr 2 1 0 a.ac.length]]),(5,.sld 3 (sI l))] [0,7,2,9,4,5] (by first|(simp [hΓ];done)|(rw [hΓ];decide)) (by (repeat' (first|exact trivial|rfl|refine And.intro ?_ ?_))<;>(simp [EnvSub,StoreSub,look_cons,nm,nmo,E.ren,C.ren,C.renL,O.ren,Store.ren,killc,kill0,killL,kill,fillC,spliceC,eC,Function.comp_def,argsFrom,zC,hΓ,rawR_ren,cond_eq_ite,Nat.beq_eq,fillC,spliceC,eC]<;>rfl)) ?_;(try dsimp only [List.cons_append,List.nil_append])
    refine AWp.putEnd 3 1 5 l r rfl rfl rfl fun v=>?_
    (repeat first|refine sN rfl ?_|((first|refine sA rfl ?_ ?_|refine s4 rfl ‹_› rfl ?_ ?_);first|exact tI|omega|(simp only[oZ] at *;omega))|(refine s2 rfl ?_;intro _ _hb)|(refine s3 rfl ?_ ?_<;>intro hb<;>subst hb)|refine aS ?_|refine reg (by kernel_rfl) ?_|refine lexE ?_)
    refine ⟨⟨⟨k+1,l++[(v,r)]⟩,by dsimp only;omega,by dsimp only;rw [List.map_append,hl,List.take_add_one,hx];rfl⟩,by dsimp only;(first|omega|(simp only [oZ] at *;omega)),[0,1,2,3,4,5],?_⟩
    (simp [EnvSub,StoreSub,look_cons,nm,nmo,E.ren,C.ren,C.renL,O.ren,Store.ren,killc,kill0,killL,kill,fillC,spliceC,eC,Function.comp_def,argsFrom,zC,hΓ,rawR_ren,cond_eq_ite,Nat.beq_eq]<;>rfl)
  have hkn:k=a.nx.length:=by first|omega|(simp only [oZ] at *;omega)
  refine AWp.exit ?_
  (repeat first|refine sN rfl ?_|((first|refine sA rfl ?_ ?_|refine s4 rfl ‹_› rfl ?_ ?_);first|exact tI|omega|(simp only[oZ] at *;omega))|(refine s2 rfl ?_;intro _ _hb)|(refine s3 rfl ?_ ?_<;>intro hb<;>subst hb)|refine aS ?_|refine reg (by kernel_rfl) ?_|refine lexE ?_)
  have hll:l.map (·.2)=a.nx:=by rw [hl,hkn,List.take_length]
  refine AWp.ret ⟨_,rfl,[3,2,5],eOwn a.al 0 1 l.length a.ac.length,[(0,.cells 61 1 (rawR l)),(1,.cells 4 1 (a.ac.map bRowC)),(2,.sld 3 (sI l))],⟨by intro i hi;omega,by decide⟩,rfl,by (repeat' (first|exact trivial|rfl|refine And.intro ?_ ?_))<;>(simp [EnvSub,StoreSub,look_cons,nm,nmo,E.ren,C.ren,C.renL,O.ren,Store.ren,killc,kill0,killL,kill,fillC,spliceC,eC,Function.comp_def,argsFrom,zC,hΓ,rawR_ren,cond_eq_ite,Nat.beq_eq]<;>rfl),l,hll,rfl,rfl,rfl⟩
end Go.Am
namespace Go.Am
open Go Go.Proofs
set_option maxHeartbeats 1000000
attribute [local irreducible] QOp AOp Lex LexO AWp Spec
variable {TB:List (Nat×Obj)}
theorem rawR_cons (x:Value×List Int) (l:Nst):rawR (x::l)=[.d (.v x.1)]::rawR l:=rfl
theorem srcFull {σ:Store} {id k len:Nat} {T:TypeId} {rows:List (List C)} (h:look σ id=some (.cells T k rows)) (hn:rows.length=len):srcRows σ k (.o (.arr id k 0 len))=some rows:=by
  unfold srcRows
  subst hn
  have hb:Nat.ble rows.length rows.length=true:=Nat.ble_eq_true_of_le (Nat.le_refl _)
  simp [h,hb]
theorem chg_bd {m:Nat} {al:Int} {l1 l2:Nst} {y:Value×List Int} {ac:List Bool} (h1:(l1++y::l2).length≤m) (h2:ac.length≤m) (h3:∀x∈l1++l2,x.2.length≤m) (h4:y.2.length≤m):ABd m ⟨al,(l1++y::l2).map (·.2),ac⟩:=by
  refine ⟨by simpa using h1,h2,fun r hr=>?_⟩
  obtain ⟨x,hx,rfl⟩:=List.mem_map.1 hr
  rcases List.mem_append.1 hx with hx|hx
  · exact h3 x (List.mem_append_left _ hx)
  · rcases List.mem_cons.1 hx with rfl|hx
    · exact h4
    · exact h3 x (List.mem_append_right _ hx)
theorem l4Change_ok (b:List UInt8) (hb:b.length≤2000) (p:Int) (h0:0≤p∧p < 900000000) (a:Aut) (m:Nat) (ha:ABd m a) (hm:m≤100000):Spec Tryz.prog TB 90 [(0,rdO b p)] 1 [.o (.ptr 0 2 0 0),eAut a] (DrawPost b p 5 (fun a'=>a'.al=a.al∧ABd (m+1) a')):=by
  have ha1:=ha.nx
  have ha2:=ha.ac
  have ha3:=ha.row
  obtain ⟨c,c0,c1,hc⟩:=pick_ok (TB:=TB) b hb (p+1) 4 (by omega)
  refine SpecK.toSpec (SpecK.ren (SpecK.ofG (Nat.le_refl _) Tryz.func90 rfl (by kernel_rfl) (Nat.le_of_ble_eq_true rfl) ?_));intro Γ hΓ
  (repeat first|refine sN rfl ?_|((first|refine sA rfl ?_ ?_|refine s4 rfl ‹_› rfl ?_ ?_);first|exact tI|omega|(simp only[oZ] at *;omega))|(refine s2 rfl ?_;intro _ _hb)|(refine s3 rfl ?_ ?_<;>intro hb<;>subst hb)|refine aS ?_|refine reg (by kernel_rfl) ?_|refine lexE ?_)
  (refine popO rfl ?_;refine popW ?_ rfl (by rfl);refine n_callK [] rfl rfl 0 (l3Copy_ok a ⟨by omega,by omega,fun r hr=>by have:=ha3 r hr;omega⟩) (by decide) ⟨rfl,by decide,by decide⟩ rfl (by simp [EnvSub,StoreSub,look_cons,nm,nmo,E.ren,C.ren,C.renL,O.ren,Store.ren,killc,kill0,killL,kill,fillC,spliceC,eC,Function.comp_def,argsFrom,zC,hΓ,rawR_ren,cond_eq_ite,Nat.beq_eq]) ?_;rintro x0 σ1 nx1 ⟨l,hl,rfl,rfl,rfl⟩ _)
  (repeat first|refine sN rfl ?_|((first|refine sA rfl ?_ ?_|refine s4 rfl ‹_› rfl ?_ ?_);first|exact tI|omega|(simp only[oZ] at *;omega))|(refine s2 rfl ?_;intro _ _hb)|(refine s3 rfl ?_ ?_<;>intro hb<;>subst hb))
  refine lexE ?_
  have hb0:ABd (m+1) ⟨a.al,l.map (·.2),a.ac⟩:=by rw [hl];exact ⟨by show a.nx.length≤_;omega,by show a.ac.length≤_;omega,fun r hr=>by have:=ha3 r hr;omega⟩
  have hll:l.length=a.nx.length:=by rw [←hl];simp
  refine AWp.namesV [0,4,5] [] rfl rfl [] [(0,rdO b p),(1,.cells 26 3 [[.d (iD 0),.d (.l []),.d (.l [])]]),(2,.cells 61 1 (rawR l)),(3,.cells 4 1 (a.ac.map bRowC)),(4,.sld 3 (sI l)),(5,.cells 26 3 [[.d (iD a.al),.arr 2 1 0 l.length,.arr 3 1 0 a.ac.length]])] [0,1,2,3,4,5] (by first|(simp [hΓ];done)|(rw [hΓ];decide)) (by (repeat' (first|exact trivial|rfl|refine And.intro ?_ ?_))<;>(simp [EnvSub,StoreSub,look_cons,nm,nmo,E.ren,C.ren,C.renL,O.ren,Store.ren,killc,kill0,killL,kill,fillC,spliceC,eC,Function.comp_def,argsFrom,zC,hΓ,rawR_ren,cond_eq_ite,Nat.beq_eq]<;>rfl)) ?_;(try dsimp only [List.cons_append,List.nil_append])
  (repeat first|refine sN rfl ?_|((first|refine sA rfl ?_ ?_|refine s4 rfl ‹_› rfl ?_ ?_);first|exact tI|omega|(simp only[oZ] at *;omega))|(refine s2 rfl ?_;intro _ _hb)|(refine s3 rfl ?_ ?_<;>intro hb<;>subst hb)|refine aS ?_|refine reg (by kernel_rfl) ?_|refine lexE ?_)
  (refine aC rfl ?_ ?_<;>intro hb<;>cases hb)
  · (repeat first|refine sN rfl ?_|((first|refine sA rfl ?_ ?_|refine s4 rfl ‹_› rfl ?_ ?_);first|exact tI|omega|(simp only[oZ] at *;omega))|(refine s2 rfl ?_;intro _ _hb)|(refine s3 rfl ?_ ?_<;>intro hb<;>subst hb)|refine aS ?_|refine reg (by kernel_rfl) ?_|refine lexE ?_)
    refine AWp.namesV [4] [] rfl rfl [] [(0,rdO b p),(1,.cells 26 3 [[.d (iD a.al),.arr 2 1 0 l.length,.arr 3 1 0 a.ac.length]]),(2,.cells 61 1 (rawR l)),(3,.cells 4 1 (a.ac.map bRowC)),(4,.sld 3 (sI l))] [0,1,2,3,4] (by first|(simp [hΓ];done)|(rw [hΓ];decide)) (by (repeat' (first|exact trivial|rfl|refine And.intro ?_ ?_))<;>(simp [EnvSub,StoreSub,look_cons,nm,nmo,E.ren,C.ren,C.renL,O.ren,Store.ren,killc,kill0,killL,kill,fillC,spliceC,eC,Function.comp_def,argsFrom,zC,hΓ,rawR_ren,cond_eq_ite,Nat.beq_eq]<;>rfl)) ?_;(try dsimp only [List.cons_append,List.nil_append])
    refine AWp.freezeZ [1,2,3,4] [(4,.o (.ip (auRow ⟨a.al,l.map (·.2),a.ac⟩)))] ⟨⟨_,rfl,.inr (.o (.box rfl (.cons .d (.cons (.nst (s:=4) rfl rfl) (.cons (.full rfl (by simp [Function.comp_def]) (by simp)) .nil)))))⟩,trivial⟩ ?_
    refine AWp.ret ⟨_,rfl,[0],eAut ⟨a.al,l.map (·.2),a.ac⟩,[(0,rdO b p)],⟨by intro i hi;match i with|0=>rfl,by decide⟩,rfl,by (repeat' (first|exact trivial|rfl|refine And.intro ?_ ?_))<;>(simp [EnvSub,StoreSub,look_cons,nm,nmo,E.ren,C.ren,C.renL,O.ren,Store.ren,killc,kill0,killL,kill,fillC,spliceC,eC,Function.comp_def,argsFrom,zC,hΓ,rawR_ren,cond_eq_ite,Nat.beq_eq]<;>rfl),p,⟨a.al,l.map (·.2),a.ac⟩,by omega,⟨rfl,hb0⟩,rfl,rfl,rfl⟩
  refine AWp.skip ?_
  have hne:¬(l.length=0):=by first|omega|(simp only [oZ] at *;omega)
  obtain ⟨k,k0,k1,hk⟩:=pick_ok (TB:=TB) b hb p l.length (by omega)
  obtain ⟨y,hy⟩:=get_some (l:=l) (k:=k.toNat) (by omega)
  obtain ⟨hy1,hy2⟩:=nst_at hy
  generalize l.take k.toNat=l1 at hy1 hy2
  generalize l.drop (k.toNat+1)=l2 at hy1
  subst hy1
  have hin:∀x∈l1++y::l2,x.2.length≤m:=fun x hx=>ha3 x.2 (by rw [←hl];exact List.mem_map.2 ⟨x,hx,rfl⟩)
  have hin2:∀x∈l1++l2,x.2.length≤m:=fun x hx=>hin x (by rcases List.mem_append.1 hx with hx|hx;exact List.mem_append_left _ hx;exact List.mem_append_right _ (List.mem_cons_of_mem _ hx))
  have hin3:∀x∈l1++l2,x.2.length≤m+1:=fun x hx=>by have:=hin2 x hx;omega
  have hym:=hin y (by simp)
  have hlm:(l1++y::l2).length≤m:=by omega
  obtain ⟨v0,xs⟩:=y
  have hxsm:xs.length≤m:=hym
  (repeat first|refine sN rfl ?_|((first|refine sA rfl ?_ ?_|refine s4 rfl ‹_› rfl ?_ ?_);first|exact tI|omega|(simp only[oZ] at *;omega))|(refine s2 rfl ?_;intro _ _hb)|(refine s3 rfl ?_ ?_<;>intro hb<;>subst hb)|refine aS ?_|refine reg (by kernel_rfl) ?_|refine lexE ?_)
  (refine popO rfl ?_;refine popW ?_ rfl (by rfl);refine n_call [0] rfl rfl (hk) ⟨rfl,by decide,by decide⟩ rfl (by simp [EnvSub,StoreSub,look_cons,nm,nmo,E.ren,C.ren,C.renL,O.ren,Store.ren,killc,kill0,killL,kill,fillC,spliceC,eC,Function.comp_def,argsFrom,zC,hΓ,rawR_ren,cond_eq_ite,Nat.beq_eq]) ?_;rintro x0 σ1 nx1 ⟨rfl,rfl,rfl⟩ _)
  (repeat first|refine sN rfl ?_|((first|refine sA rfl ?_ ?_|refine s4 rfl ‹_› rfl ?_ ?_);first|exact tI|omega|(simp only[oZ] at *;omega))|(refine s2 rfl ?_;intro _ _hb)|(refine s3 rfl ?_ ?_<;>intro hb<;>subst hb)|refine aS ?_|refine reg (by kernel_rfl) ?_|refine lexE ?_)
  (refine popO rfl ?_;refine popW ?_ rfl (by rfl);refine n_call [0] rfl rfl (hc) ⟨rfl,by decide,by decide⟩ rfl (by simp [EnvSub,StoreSub,look_cons,nm,nmo,E.ren,C.ren,C.renL,O.ren,Store.ren,killc,kill0,killL,kill,fillC,spliceC,eC,Function.comp_def,argsFrom,zC,hΓ,rawR_ren,cond_eq_ite,Nat.beq_eq]) ?_;rintro x0 σ1 nx1 ⟨rfl,rfl,rfl⟩ _)
  (repeat first|refine sN rfl ?_|((first|refine sA rfl ?_ ?_|refine s4 rfl ‹_› rfl ?_ ?_);first|exact tI|omega|(simp only[oZ] at *;omega))|(refine s2 rfl ?_;intro _ _hb)|(refine s3 rfl ?_ ?_<;>intro hb<;>subst hb))
  refine lexE ?_
  refine AWp.namesV [0,4,5,6,7,20] [] rfl rfl [] [(0,rdO b (p+1+1)),(1,.cells 26 3 [[.d (iD 0),.d (.l []),.d (.l [])]]),(2,.cells 61 1 (rawR l1++[.d (.v v0)]::rawR l2)),(3,.cells 4 1 (a.ac.map bRowC)),(4,.sld 3 (sI (l1++(v0,xs)::l2))),(5,.cells 26 3 [[.d (iD a.al),.arr 2 1 0 (l1++(v0,xs)::l2).length,.arr 3 1 0 a.ac.length]])] [0,1,2,3,4,5] (by first|(simp [hΓ];done)|(rw [hΓ];decide)) (by (repeat' (first|exact trivial|rfl|refine And.intro ?_ ?_))<;>(simp [EnvSub,StoreSub,look_cons,nm,nmo,E.ren,C.ren,C.renL,O.ren,Store.ren,killc,kill0,killL,kill,fillC,spliceC,eC,Function.comp_def,argsFrom,zC,hΓ,rawR_ren,cond_eq_ite,Nat.beq_eq,rawR_app]<;>rfl)) ?_;(try dsimp only [List.cons_append,List.nil_append])
  refine AWp.take 2 4 (rawR l1) (rawR l2) v0 xs l1 l2 rfl rfl ?_
  have hrow:(rawR l1++[.arr 6 1 0 xs.length]::rawR l2)[0+k.toNat]? = some [.arr 6 1 0 xs.length]:=by rw [Nat.zero_add];exact rawR_mid hy2
  refine AWp.block ?_
  (repeat first|refine sN rfl ?_|((first|refine sA rfl ?_ ?_|refine s4 rfl ‹_› rfl ?_ ?_);first|exact tI|omega|(simp only[oZ] at *;omega))|(refine s2 rfl ?_;intro _ _hb)|(refine s3 rfl ?_ ?_<;>intro hb<;>subst hb)|refine aS ?_|refine reg (by kernel_rfl) ?_|refine lexE ?_)
  (refine aC rfl ?_ ?_<;>intro hb<;>cases hb)
  · (repeat first|refine sN rfl ?_|((first|refine sA rfl ?_ ?_|refine s4 rfl ‹_› rfl ?_ ?_);first|exact tI|omega|(simp only[oZ] at *;omega))|(refine s2 rfl ?_;intro _ _hb)|(refine s3 rfl ?_ ?_<;>intro hb<;>subst hb)|refine aS ?_|refine reg (by kernel_rfl) ?_|refine lexE ?_)
    (refine aC rfl ?_ ?_<;>intro hb<;>cases hb)
    · obtain ⟨e,he⟩:=get_some (l:=a.ac) (k:=0+k.toNat) (by first|omega|(simp only [oZ] at *;omega))
      have he':=get_map (g:=bRowC) he
      refine regD (flN [10]) mixed (by kernel_rfl) (by kernel_rfl) ?_
      (repeat first|refine sN rfl ?_|((first|refine sA rfl ?_ ?_|refine s4 rfl ‹_› rfl ?_ ?_);first|exact tI|omega|(simp only[oZ] at *;omega))|(refine s2 rfl ?_;intro _ _hb)|(refine s3 rfl ?_ ?_<;>intro hb<;>subst hb))
      refine lexE ?_
      subst _hb
      refine AWp.namesV [4,5] [] rfl rfl [] [(0,rdO b (p+1+1)),(1,.cells 26 3 [[.d (iD 0),.d (.l []),.d (.l [])]]),(2,.cells 61 1 (rawR l1++[.arr 6 1 0 (xs).length]::rawR (l2))),(3,.cells 4 1 ((a.ac.set k.toNat (!e)).map bRowC)),(4,.sld 3 (sI (l1++l2))),(5,.cells 26 3 [[.d (iD a.al),.arr 2 1 0 (l1++(v0,xs)::l2).length,.arr 3 1 0 (a.ac.set k.toNat (!e)).length]]),(6,.cells 3 1 ((xs).map iRowC))] [0,1,2,3,4,5,6] (by first|(simp [hΓ];done)|(rw [hΓ];decide)) (by (repeat' (first|exact trivial|rfl|refine And.intro ?_ ?_))<;>(simp [EnvSub,StoreSub,look_cons,nm,nmo,E.ren,C.ren,C.renL,O.ren,Store.ren,killc,kill0,killL,kill,fillC,spliceC,eC,Function.comp_def,argsFrom,zC,hΓ,rawR_ren,cond_eq_ite,Nat.beq_eq,rawR_app,List.map_set,spliceC,eC]<;>rfl)) ?_;(try dsimp only [List.cons_append,List.nil_append]);refine AWp.put 2 6 4 (rawR l1) (rawR (l2)) (xs) l1 (l2) rfl rfl rfl fun v=>?_;(repeat first|refine sN rfl ?_|((first|refine sA rfl ?_ ?_|refine s4 rfl ‹_› rfl ?_ ?_);first|exact tI|omega|(simp only[oZ] at *;omega))|(refine s2 rfl ?_;intro _ _hb)|(refine s3 rfl ?_ ?_<;>intro hb<;>subst hb)|refine aS ?_|refine reg (by kernel_rfl) ?_|refine lexE ?_);refine AWp.namesV [4] [] rfl rfl [] [(0,rdO b (p+1+1)),(1,.cells 26 3 [[.d (iD a.al),.arr 2 1 0 (l1++(v,xs)::l2).length,.arr 3 1 0 (a.ac.set k.toNat (!e)).length]]),(2,.cells 61 1 (rawR (l1++(v,xs)::l2))),(3,.cells 4 1 ((a.ac.set k.toNat (!e)).map bRowC)),(4,.sld 3 (sI (l1++(v,xs)::l2)))] [0,1,2,3,4] (by first|(simp [hΓ];done)|(rw [hΓ];decide)) (by (repeat' (first|exact trivial|rfl|refine And.intro ?_ ?_))<;>(simp [EnvSub,StoreSub,look_cons,nm,nmo,E.ren,C.ren,C.renL,O.ren,Store.ren,killc,kill0,killL,kill,fillC,spliceC,eC,Function.comp_def,argsFrom,zC,hΓ,rawR_ren,cond_eq_ite,Nat.beq_eq,rawR_app,rawR_cons]<;>rfl)) ?_;(try dsimp only [List.cons_append,List.nil_append]);refine AWp.freezeZ [1,2,3,4] [(4,.o (.ip (auRow ⟨a.al,(l1++(v,xs)::l2).map (·.2),a.ac.set k.toNat (!e)⟩)))] ⟨⟨_,rfl,.inr (.o (.box rfl (.cons .d (.cons (.nst (s:=4) rfl rfl) (.cons (.full rfl (by simp [Function.comp_def]) (by simp)) .nil)))))⟩,trivial⟩ ?_;refine AWp.ret ⟨_,rfl,[0],eAut ⟨a.al,(l1++(v,xs)::l2).map (·.2),a.ac.set k.toNat (!e)⟩,[(0,rdO b (p+1+1))],⟨by intro i hi;match i with|0=>rfl,by decide⟩,rfl,by (repeat' (first|exact trivial|rfl|refine And.intro ?_ ?_))<;>(simp [EnvSub,StoreSub,look_cons,nm,nmo,E.ren,C.ren,C.renL,O.ren,Store.ren,killc,kill0,killL,kill,fillC,spliceC,eC,Function.comp_def,argsFrom,zC,hΓ,rawR_ren,cond_eq_ite,Nat.beq_eq]<;>rfl),_,⟨a.al,(l1++(v,xs)::l2).map (·.2),a.ac.set k.toNat (!e)⟩,by omega,⟨rfl,chg_bd (by simp at hlm ⊢;omega) (by first|omega|(simp;omega)) (hin3) (by have h9:xs.length≤m:=hym;simp;omega)⟩,rfl,rfl,rfl⟩
    · refine AWp.skip ?_
      refine AWp.namesV [4,5] [] rfl rfl [] [(0,rdO b (p+1+1)),(1,.cells 26 3 [[.d (iD 0),.d (.l []),.d (.l [])]]),(2,.cells 61 1 (rawR l1++[.arr 6 1 0 (xs).length]::rawR (l2))),(3,.cells 4 1 ((a.ac).map bRowC)),(4,.sld 3 (sI (l1++l2))),(5,.cells 26 3 [[.d (iD a.al),.arr 2 1 0 (l1++(v0,xs)::l2).length,.arr 3 1 0 (a.ac).length]]),(6,.cells 3 1 ((xs).map iRowC))] [0,1,2,3,4,5,6] (by first|(simp [hΓ];done)|(rw [hΓ];decide)) (by (repeat' (first|exact trivial|rfl|refine And.intro ?_ ?_))<;>(simp [EnvSub,StoreSub,look_cons,nm,nmo,E.ren,C.ren,C.renL,O.ren,Store.ren,killc,kill0,killL,kill,fillC,spliceC,eC,Function.comp_def,argsFrom,zC,hΓ,rawR_ren,cond_eq_ite,Nat.beq_eq,rawR_app]<;>rfl)) ?_;(try dsimp only [List.cons_append,List.nil_append]);refine AWp.put 2 6 4 (rawR l1) (rawR (l2)) (xs) l1 (l2) rfl rfl rfl fun v=>?_;(repeat first|refine sN rfl ?_|((first|refine sA rfl ?_ ?_|refine s4 rfl ‹_› rfl ?_ ?_);first|exact tI|omega|(simp only[oZ] at *;omega))|(refine s2 rfl ?_;intro _ _hb)|(refine s3 rfl ?_ ?_<;>intro hb<;>subst hb)|refine aS ?_|refine reg (by kernel_rfl) ?_|refine lexE ?_);refine AWp.namesV [4] [] rfl rfl [] [(0,rdO b (p+1+1)),(1,.cells 26 3 [[.d (iD a.al),.arr 2 1 0 (l1++(v,xs)::l2).length,.arr 3 1 0 (a.ac).length]]),(2,.cells 61 1 (rawR (l1++(v,xs)::l2))),(3,.cells 4 1 ((a.ac).map bRowC)),(4,.sld 3 (sI (l1++(v,xs)::l2)))] [0,1,2,3,4] (by first|(simp [hΓ];done)|(rw [hΓ];decide)) (by (repeat' (first|exact trivial|rfl|refine And.intro ?_ ?_))<;>(simp [EnvSub,StoreSub,look_cons,nm,nmo,E.ren,C.ren,C.renL,O.ren,Store.ren,killc,kill0,killL,kill,fillC,spliceC,eC,Function.comp_def,argsFrom,zC,hΓ,rawR_ren,cond_eq_ite,Nat.beq_eq,rawR_app,rawR_cons]<;>rfl)) ?_;(try dsimp only [List.cons_append,List.nil_append]);refine AWp.freezeZ [1,2,3,4] [(4,.o (.ip (auRow ⟨a.al,(l1++(v,xs)::l2).map (·.2),a.ac⟩)))] ⟨⟨_,rfl,.inr (.o (.box rfl (.cons .d (.cons (.nst (s:=4) rfl rfl) (.cons (.full rfl (by simp [Function.comp_def]) (by simp)) .nil)))))⟩,trivial⟩ ?_;refine AWp.ret ⟨_,rfl,[0],eAut ⟨a.al,(l1++(v,xs)::l2).map (·.2),a.ac⟩,[(0,rdO b (p+1+1))],⟨by intro i hi;match i with|0=>rfl,by decide⟩,rfl,by (repeat' (first|exact trivial|rfl|refine And.intro ?_ ?_))<;>(simp [EnvSub,StoreSub,look_cons,nm,nmo,E.ren,C.ren,C.renL,O.ren,Store.ren,killc,kill0,killL,kill,fillC,spliceC,eC,Function.comp_def,argsFrom,zC,hΓ,rawR_ren,cond_eq_ite,Nat.beq_eq]<;>rfl),_,⟨a.al,(l1++(v,xs)::l2).map (·.2),a.ac⟩,by omega,⟨rfl,chg_bd (by simp at hlm ⊢;omega) (by first|omega|(simp;omega)) (hin3) (by have h9:xs.length≤m:=hym;simp;omega)⟩,rfl,rfl,rfl⟩
  · (repeat first|refine sN rfl ?_|((first|refine sA rfl ?_ ?_|refine s4 rfl ‹_› rfl ?_ ?_);first|exact tI|omega|(simp only[oZ] at *;omega))|(refine s2 rfl ?_;intro _ _hb)|(refine s3 rfl ?_ ?_<;>intro hb<;>subst hb)|refine aS ?_|refine reg (by kernel_rfl) ?_|refine lexE ?_)
    (refine aC rfl ?_ ?_<;>intro hb<;>cases hb)
    · (repeat first|refine sN rfl ?_|((first|refine sA rfl ?_ ?_|refine s4 rfl ‹_› rfl ?_ ?_);first|exact tI|omega|(simp only[oZ] at *;omega))|(refine s2 rfl ?_;intro _ _hb)|(refine s3 rfl ?_ ?_<;>intro hb<;>subst hb)|refine aS ?_|refine reg (by kernel_rfl) ?_|refine lexE ?_)
      (refine aC rfl ?_ ?_<;>intro hb<;>cases hb)
      · have hpos:0 < xs.length:=by first|omega|(simp only [oZ] at *;omega)
        obtain ⟨j,j0,j1,hj⟩:=pick_ok (TB:=TB) b hb (p+1+1) xs.length (by omega)
        obtain ⟨w,w0,w1,hw⟩:=pick_ok (TB:=TB) b hb (p+1+1+1) (l1++(v0,xs)::l2).length (by omega)
        obtain ⟨e,he⟩:=get_some (l:=xs) (k:=0+j.toNat) (by omega)
        have he':=get_map (g:=iRowC) he
        refine regD ⟨flagOf [(1,15),(4,12),(7,15),(10,12),(12,1036),(15,1036),(17,1)],at0 [0,1,2,3,4,5,6,7,8,9,10,11,13,14,12,15,16,17]⟩ mixed (by kernel_rfl) (by kernel_rfl) ?_
        (repeat first|refine sN rfl ?_|((first|refine sA rfl ?_ ?_|refine s4 rfl ‹_› rfl ?_ ?_);first|exact tI|omega|(simp only[oZ] at *;omega))|(refine s2 rfl ?_;intro _ _hb)|(refine s3 rfl ?_ ?_<;>intro hb<;>subst hb))
        (refine popO rfl ?_;refine popWK ?_ rfl ⟨rfl,rfl⟩;refine n_call [0] rfl rfl (hj) ⟨rfl,by decide,by decide⟩ rfl (by simp [EnvSub,StoreSub,look_cons,nm,nmo,E.ren,C.ren,C.renL,O.ren,Store.ren,killc,kill0,killL,kill,fillC,spliceC,eC,Function.comp_def,argsFrom,zC,hΓ,rawR_ren,cond_eq_ite,Nat.beq_eq]) ?_;rintro x0 σ1 nx1 ⟨rfl,rfl,rfl⟩ _;refine ⟨kept2 5 2 rfl rfl rfl,?_⟩)
        (repeat first|refine sN rfl ?_|((first|refine sA rfl ?_ ?_|refine s4 rfl ‹_› rfl ?_ ?_);first|exact tI|omega|(simp only[oZ] at *;omega))|(refine s2 rfl ?_;intro _ _hb)|(refine s3 rfl ?_ ?_<;>intro hb<;>subst hb))
        (refine popO rfl ?_;refine popWK ?_ rfl ⟨rfl,rfl⟩;refine n_call [0] rfl rfl (hw) ⟨rfl,by decide,by decide⟩ rfl (by simp [EnvSub,StoreSub,look_cons,nm,nmo,E.ren,C.ren,C.renL,O.ren,Store.ren,killc,kill0,killL,kill,fillC,spliceC,eC,Function.comp_def,argsFrom,zC,hΓ,rawR_ren,cond_eq_ite,Nat.beq_eq]) ?_;rintro x0 σ1 nx1 ⟨rfl,rfl,rfl⟩ _;refine ⟨kept2 5 2 rfl rfl rfl,?_⟩)
        (repeat first|refine sN rfl ?_|((first|refine sA rfl ?_ ?_|refine s4 rfl ‹_› rfl ?_ ?_);first|exact tI|omega|(simp only[oZ] at *;omega))|(refine s2 rfl ?_;intro _ _hb)|(refine s3 rfl ?_ ?_<;>intro hb<;>subst hb))
        refine lexE ?_
        refine AWp.namesV [4,5] [] rfl rfl [] [(0,rdO b (p+1+1+1+1)),(1,.cells 26 3 [[.d (iD 0),.d (.l []),.d (.l [])]]),(2,.cells 61 1 (rawR l1++[.arr 6 1 0 (xs.set j.toNat w).length]::rawR (l2))),(3,.cells 4 1 ((a.ac).map bRowC)),(4,.sld 3 (sI (l1++l2))),(5,.cells 26 3 [[.d (iD a.al),.arr 2 1 0 (l1++(v0,xs)::l2).length,.arr 3 1 0 (a.ac).length]]),(6,.cells 3 1 ((xs.set j.toNat w).map iRowC))] [0,1,2,3,4,5,6] (by first|(simp [hΓ];done)|(rw [hΓ];decide)) (by (repeat' (first|exact trivial|rfl|refine And.intro ?_ ?_))<;>(simp [EnvSub,StoreSub,look_cons,nm,nmo,E.ren,C.ren,C.renL,O.ren,Store.ren,killc,kill0,killL,kill,fillC,spliceC,eC,Function.comp_def,argsFrom,zC,hΓ,rawR_ren,cond_eq_ite,Nat.beq_eq,rawR_app,List.map_set,spliceC,eC]<;>rfl)) ?_;(try dsimp only [List.cons_append,List.nil_append]);refine AWp.put 2 6 4 (rawR l1) (rawR (l2)) (xs.set j.toNat w) l1 (l2) rfl rfl rfl fun v=>?_;(repeat first|refine sN rfl ?_|((first|refine sA rfl ?_ ?_|refine s4 rfl ‹_› rfl ?_ ?_);first|exact tI|omega|(simp only[oZ] at *;omega))|(refine s2 rfl ?_;intro _ _hb)|(refine s3 rfl ?_ ?_<;>intro hb<;>subst hb)|refine aS ?_|refine reg (by kernel_rfl) ?_|refine lexE ?_);refine AWp.namesV [4] [] rfl rfl [] [(0,rdO b (p+1+1+1+1)),(1,.cells 26 3 [[.d (iD a.al),.arr 2 1 0 (l1++(v,xs.set j.toNat w)::l2).length,.arr 3 1 0 (a.ac).length]]),(2,.cells 61 1 (rawR (l1++(v,xs.set j.toNat w)::l2))),(3,.cells 4 1 ((a.ac).map bRowC)),(4,.sld 3 (sI (l1++(v,xs.set j.toNat w)::l2)))] [0,1,2,3,4] (by first|(simp [hΓ];done)|(rw [hΓ];decide)) (by (repeat' (first|exact trivial|rfl|refine And.intro ?_ ?_))<;>(simp [EnvSub,StoreSub,look_cons,nm,nmo,E.ren,C.ren,C.renL,O.ren,Store.ren,killc,kill0,killL,kill,fillC,spliceC,eC,Function.comp_def,argsFrom,zC,hΓ,rawR_ren,cond_eq_ite,Nat.beq_eq,rawR_app,rawR_cons]<;>rfl)) ?_;(try dsimp only [List.cons_append,List.nil_append]);refine AWp.freezeZ [1,2,3,4] [(4,.o (.ip (auRow ⟨a.al,(l1++(v,xs.set j.toNat w)::l2).map (·.2),a.ac⟩)))] ⟨⟨_,rfl,.inr (.o (.box rfl (.cons .d (.cons (.nst (s:=4) rfl rfl) (.cons (.full rfl (by simp [Function.comp_def]) (by simp)) .nil)))))⟩,trivial⟩ ?_;refine AWp.ret ⟨_,rfl,[0],eAut ⟨a.al,(l1++(v,xs.set j.toNat w)::l2).map (·.2),a.ac⟩,[(0,rdO b (p+1+1+1+1))],⟨by intro i hi;match i with|0=>rfl,by decide⟩,rfl,by (repeat' (first|exact trivial|rfl|refine And.intro ?_ ?_))<;>(simp [EnvSub,StoreSub,look_cons,nm,nmo,E.ren,C.ren,C.renL,O.ren,Store.ren,killc,kill0,killL,kill,fillC,spliceC,eC,Function.comp_def,argsFrom,zC,hΓ,rawR_ren,cond_eq_ite,Nat.beq_eq]<;>rfl),_,⟨a.al,(l1++(v,xs.set j.toNat w)::l2).map (·.2),a.ac⟩,by omega,⟨rfl,chg_bd (by simp at hlm ⊢;omega) (by first|omega|(simp;omega)) (hin3) (by have h9:xs.length≤m:=hym;simp;omega)⟩,rfl,rfl,rfl⟩
      · refine AWp.skip ?_
        refine AWp.namesV [4,5] [] rfl rfl [] [(0,rdO b (p+1+1)),(1,.cells 26 3 [[.d (iD 0),.d (.l []),.d (.l [])]]),(2,.cells 61 1 (rawR l1++[.arr 6 1 0 (xs).length]::rawR (l2))),(3,.cells 4 1 ((a.ac).map bRowC)),(4,.sld 3 (sI (l1++l2))),(5,.cells 26 3 [[.d (iD a.al),.arr 2 1 0 (l1++(v0,xs)::l2).length,.arr 3 1 0 (a.ac).length]]),(6,.cells 3 1 ((xs).map iRowC))] [0,1,2,3,4,5,6] (by first|(simp [hΓ];done)|(rw [hΓ];decide)) (by (repeat' (first|exact trivial|rfl|refine And.intro ?_ ?_))<;>(simp [EnvSub,StoreSub,look_cons,nm,nmo,E.ren,C.ren,C.renL,O.ren,Store.ren,killc,kill0,killL,kill,fillC,spliceC,eC,Function.comp_def,argsFrom,zC,hΓ,rawR_ren,cond_eq_ite,Nat.beq_eq,rawR_app]<;>rfl)) ?_;(try dsimp only [List.cons_append,List.nil_append]);refine AWp.put 2 6 4 (rawR l1) (rawR (l2)) (xs) l1 (l2) rfl rfl rfl fun v=>?_;(repeat first|refine sN rfl ?_|((first|refine sA rfl ?_ ?_|refine s4 rfl ‹_› rfl ?_ ?_);first|exact tI|omega|(simp only[oZ] at *;omega))|(refine s2 rfl ?_;intro _ _hb)|(refine s3 rfl ?_ ?_<;>intro hb<;>subst hb)|refine aS ?_|refine reg (by kernel_rfl) ?_|refine lexE ?_);refine AWp.namesV [4] [] rfl rfl [] [(0,rdO b (p+1+1)),(1,.cells 26 3 [[.d (iD a.al),.arr 2 1 0 (l1++(v,xs)::l2).length,.arr 3 1 0 (a.ac).length]]),(2,.cells 61 1 (rawR (l1++(v,xs)::l2))),(3,.cells 4 1 ((a.ac).map bRowC)),(4,.sld 3 (sI (l1++(v,xs)::l2)))] [0,1,2,3,4] (by first|(simp [hΓ];done)|(rw [hΓ];decide)) (by (repeat' (first|exact trivial|rfl|refine And.intro ?_ ?_))<;>(simp [EnvSub,StoreSub,look_cons,nm,nmo,E.ren,C.ren,C.renL,O.ren,Store.ren,killc,kill0,killL,kill,fillC,spliceC,eC,Function.comp_def,argsFrom,zC,hΓ,rawR_ren,cond_eq_ite,Nat.beq_eq,rawR_app,rawR_cons]<;>rfl)) ?_;(try dsimp only [List.cons_append,List.nil_append]);refine AWp.freezeZ [1,2,3,4] [(4,.o (.ip (auRow ⟨a.al,(l1++(v,xs)::l2).map (·.2),a.ac⟩)))] ⟨⟨_,rfl,.inr (.o (.box rfl (.cons .d (.cons (.nst (s:=4) rfl rfl) (.cons (.full rfl (by simp [Function.comp_def]) (by simp)) .nil)))))⟩,trivial⟩ ?_;refine AWp.ret ⟨_,rfl,[0],eAut ⟨a.al,(l1++(v,xs)::l2).map (·.2),a.ac⟩,[(0,rdO b (p+1+1))],⟨by intro i hi;match i with|0=>rfl,by decide⟩,rfl,by (repeat' (first|exact trivial|rfl|refine And.intro ?_ ?_))<;>(simp [EnvSub,StoreSub,look_cons,nm,nmo,E.ren,C.ren,C.renL,O.ren,Store.ren,killc,kill0,killL,kill,fillC,spliceC,eC,Function.comp_def,argsFrom,zC,hΓ,rawR_ren,cond_eq_ite,Nat.beq_eq]<;>rfl),_,⟨a.al,(l1++(v,xs)::l2).map (·.2),a.ac⟩,by omega,⟨rfl,chg_bd (by simp at hlm ⊢;omega) (by first|omega|(simp;omega)) (hin3) (by have h9:xs.length≤m:=hym;simp;omega)⟩,rfl,rfl,rfl⟩
    · (repeat first|refine sN rfl ?_|((first|refine sA rfl ?_ ?_|refine s4 rfl ‹_› rfl ?_ ?_);first|exact tI|omega|(simp only[oZ] at *;omega))|(refine s2 rfl ?_;intro _ _hb)|(refine s3 rfl ?_ ?_<;>intro hb<;>subst hb)|refine aS ?_|refine reg (by kernel_rfl) ?_|refine lexE ?_)
      (refine aC rfl ?_ ?_<;>intro hb<;>cases hb)
      · (repeat' first|refine sN rfl ?_|((first|refine sA rfl ?_ ?_|refine s4 rfl ‹_› rfl ?_ ?_);first|exact tI|omega|(simp only[oZ] at *;omega))|(refine s2 rfl ?_;intro _ _hb)|(refine s3 rfl ?_ ?_<;>intro hb<;>subst hb)|refine aS ?_|refine reg (by kernel_rfl) ?_|refine lexE ?_|(refine aC rfl ?_ ?_<;>intro hb<;>cases hb))
        any_goals (refine AWp.skip ?_;refine AWp.namesV [4,5] [] rfl rfl [] [(0,rdO b (p+1+1)),(1,.cells 26 3 [[.d (iD 0),.d (.l []),.d (.l [])]]),(2,.cells 61 1 (rawR l1++[.arr 6 1 0 (xs).length]::rawR (l2))),(3,.cells 4 1 ((a.ac).map bRowC)),(4,.sld 3 (sI (l1++l2))),(5,.cells 26 3 [[.d (iD a.al),.arr 2 1 0 (l1++(v0,xs)::l2).length,.arr 3 1 0 (a.ac).length]]),(6,.cells 3 1 ((xs).map iRowC))] [0,1,2,3,4,5,6] (by first|(simp [hΓ];done)|(rw [hΓ];decide)) (by (repeat' (first|exact trivial|rfl|refine And.intro ?_ ?_))<;>(simp [EnvSub,StoreSub,look_cons,nm,nmo,E.ren,C.ren,C.renL,O.ren,Store.ren,killc,kill0,killL,kill,fillC,spliceC,eC,Function.comp_def,argsFrom,zC,hΓ,rawR_ren,cond_eq_ite,Nat.beq_eq,rawR_app]<;>rfl)) ?_;(try dsimp only [List.cons_append,List.nil_append]);refine AWp.put 2 6 4 (rawR l1) (rawR (l2)) (xs) l1 (l2) rfl rfl rfl fun v=>?_;(repeat first|refine sN rfl ?_|((first|refine sA rfl ?_ ?_|refine s4 rfl ‹_› rfl ?_ ?_);first|exact tI|omega|(simp only[oZ] at *;omega))|(refine s2 rfl ?_;intro _ _hb)|(refine s3 rfl ?_ ?_<;>intro hb<;>subst hb)|refine aS ?_|refine reg (by kernel_rfl) ?_|refine lexE ?_);refine AWp.namesV [4] [] rfl rfl [] [(0,rdO b (p+1+1)),(1,.cells 26 3 [[.d (iD a.al),.arr 2 1 0 (l1++(v,xs)::l2).length,.arr 3 1 0 (a.ac).length]]),(2,.cells 61 1 (rawR (l1++(v,xs)::l2))),(3,.cells 4 1 ((a.ac).map bRowC)),(4,.sld 3 (sI (l1++(v,xs)::l2)))] [0,1,2,3,4] (by first|(simp [hΓ];done)|(rw [hΓ];decide)) (by (repeat' (first|exact trivial|rfl|refine And.intro ?_ ?_))<;>(simp [EnvSub,StoreSub,look_cons,nm,nmo,E.ren,C.ren,C.renL,O.ren,Store.ren,killc,kill0,killL,kill,fillC,spliceC,eC,Function.comp_def,argsFrom,zC,hΓ,rawR_ren,cond_eq_ite,Nat.beq_eq,rawR_app,rawR_cons]<;>rfl)) ?_;(try dsimp only [List.cons_append,List.nil_append]);refine AWp.freezeZ [1,2,3,4] [(4,.o (.ip (auRow ⟨a.al,(l1++(v,xs)::l2).map (·.2),a.ac⟩)))] ⟨⟨_,rfl,.inr (.o (.box rfl (.cons .d (.cons (.nst (s:=4) rfl rfl) (.cons (.full rfl (by simp [Function.comp_def]) (by simp)) .nil)))))⟩,trivial⟩ ?_;refine AWp.ret ⟨_,rfl,[0],eAut ⟨a.al,(l1++(v,xs)::l2).map (·.2),a.ac⟩,[(0,rdO b (p+1+1))],⟨by intro i hi;match i with|0=>rfl,by decide⟩,rfl,by (repeat' (first|exact trivial|rfl|refine And.intro ?_ ?_))<;>(simp [EnvSub,StoreSub,look_cons,nm,nmo,E.ren,C.ren,C.renL,O.ren,Store.ren,killc,kill0,killL,kill,fillC,spliceC,eC,Function.comp_def,argsFrom,zC,hΓ,rawR_ren,cond_eq_ite,Nat.beq_eq]<;>rfl),_,⟨a.al,(l1++(v,xs)::l2).map (·.2),a.ac⟩,by omega,⟨rfl,chg_bd (by simp at hlm ⊢;omega) (by first|omega|(simp;omega)) (hin3) (by have h9:xs.length≤m:=hym;simp;omega)⟩,rfl,rfl,rfl⟩)
        have hpos:0 < xs.length:=by first|omega|(simp only [oZ] at *;omega)
        obtain ⟨e,he⟩:=get_some (l:=a.ac) (k:=0+k.toNat) (by first|omega|(simp only [oZ] at *;omega))
        have he':=get_map (g:=bRowC) he
        obtain ⟨x0,hx0⟩:=get_some (l:=xs) (k:=0+(0:Int).toNat) (by first|omega|(simp only [oZ] at *;omega))
        have hx0':=get_map (g:=iRowC) hx0
        (try refine aS ?_)
        refine regD ⟨flagOf [(1,15),(4,15),(7,12),(2,1036),(8,1036),(9,1036),(10,1),(12,1)],at0 [0,1,3,4,5,6,7,2,8,9,10,11,12]⟩ mixed (by kernel_rfl) (by kernel_rfl) ?_
        (repeat first|refine sN rfl ?_|((first|refine sX rfl ?_ ?_|refine s4 rfl ‹_› rfl ?_ ?_);first|exact tI|omega|(simp only[oZ] at *;omega))|(refine s2 rfl ?_;intro _ _hb)|(refine s3 rfl ?_ ?_<;>intro hb<;>subst hb)|refine aS ?_|refine reg (by kernel_rfl) ?_|refine lexE ?_)
        (refine popO rfl ?_;refine popWK ?_ rfl ⟨rfl,rfl⟩;refine n_sliceB rfl rfl rfl rfl (by simp) (by rfl) (by rfl) (by rfl) (by rfl) ?_;refine ⟨kept2 5 2 rfl rfl rfl,?_⟩)
        (refine popO rfl ?_;refine popWK ?_ rfl ⟨rfl,rfl⟩;refine n_append rfl rfl rfl (by simp) (srcFull rfl (by simp)) (by intro r hr;simp at hr;obtain ⟨_,_,rfl⟩:=hr;rfl) (by rfl) (Nat.le_of_ble_eq_true rfl) (by simp;omega) ?_;refine ⟨kept2 5 2 rfl rfl rfl,?_⟩)
        (refine popO rfl ?_;refine popWK ?_ rfl ⟨rfl,rfl⟩;refine n_sliceB rfl rfl rfl rfl (by simp [eC]) (by rfl) (by rfl) (by rfl) (by rfl) ?_;refine ⟨kept2 5 2 rfl rfl rfl,?_⟩)
        (refine popO rfl ?_;refine popW ?_ rfl (by rfl);refine n_append rfl rfl rfl (by simp [rawR_len]) rfl (by intro r hr;simp at hr;subst hr;rfl) (by rfl) (Nat.le_of_ble_eq_true rfl) (by simp at hlm ⊢;omega) ?_)
        (repeat first|refine sN rfl ?_|((first|refine sA rfl ?_ ?_|refine s4 rfl ‹_› rfl ?_ ?_);first|exact tI|omega|(simp only[oZ] at *;omega))|(refine s2 rfl ?_;intro _ _hb)|(refine s3 rfl ?_ ?_<;>intro hb<;>subst hb))
        refine lexE ?_
        refine AWp.namesV [0,4,5,6,7] [] rfl rfl [] [(0,rdO b (p+1+1)),(1,.cells 26 3 [[.d (iD 0),.d (.l []),.d (.l [])]]),(2,.cells 61 1 ((rawR l1++[.arr 6 1 0 xs.length]::rawR l2)++[[.arr 7 1 0 xs.length]])),(3,.cells 4 1 (a.ac.map bRowC)),(4,.sld 3 (sI (l1++l2))),(5,.cells 26 3 [[.d (iD a.al),.arr 2 1 0 ((l1++(v0,xs)::l2).length+1),.arr 3 1 0 a.ac.length]]),(6,.cells 3 1 (xs.map iRowC)),(7,.cells 3 1 (xs.map iRowC))] [0,1,10,3,4,5,6,8] (by first|(simp [hΓ];done)|(rw [hΓ];decide)) (by (repeat' (first|exact trivial|rfl|refine And.intro ?_ ?_))<;>(simp [EnvSub,StoreSub,look_cons,nm,nmo,E.ren,C.ren,C.renL,O.ren,Store.ren,killc,kill0,killL,kill,fillC,spliceC,eC,Function.comp_def,argsFrom,zC,hΓ,rawR_ren,cond_eq_ite,Nat.beq_eq,rawR_app,spliceC,eC,rawR_len]<;>rfl)) ?_;(try dsimp only [List.cons_append,List.nil_append])
        refine AWp.put 2 7 4 (rawR l1++[.arr 6 1 0 xs.length]::rawR l2) [] xs (l1++l2) [] rfl rfl (by rw [List.append_nil];rfl) fun v1=>?_
        refine AWp.namesV [0,4,5,6,7] [] rfl rfl [] [(0,rdO b (p+1+1)),(1,.cells 26 3 [[.d (iD 0),.d (.l []),.d (.l [])]]),(2,.cells 61 1 (rawR l1++[.arr 6 1 0 xs.length]::rawR (l2++[(v1,xs)]))),(3,.cells 4 1 (a.ac.map bRowC)),(4,.sld 3 (sI (l1++(l2++[(v1,xs)])))),(5,.cells 26 3 [[.d (iD a.al),.arr 2 1 0 ((l1++(v0,xs)::l2).length+1),.arr 3 1 0 a.ac.length]]),(6,.cells 3 1 (xs.map iRowC))] [0,1,2,3,4,5,6] (by first|(simp [hΓ];done)|(rw [hΓ];decide)) (by (repeat' (first|exact trivial|rfl|refine And.intro ?_ ?_))<;>(simp [EnvSub,StoreSub,look_cons,nm,nmo,E.ren,C.ren,C.renL,O.ren,Store.ren,killc,kill0,killL,kill,fillC,spliceC,eC,Function.comp_def,argsFrom,zC,hΓ,rawR_ren,cond_eq_ite,Nat.beq_eq,rawR_app,List.append_assoc]<;>rfl)) ?_;(try dsimp only [List.cons_append,List.nil_append])
        have hin4:∀x∈l1++(l2++[(v1,xs)]),x.2.length≤m+1:=fun x hx=>by
          rw [←List.append_assoc] at hx
          rcases List.mem_append.1 hx with hx|hx
          · exact hin3 x hx
          · simp at hx;subst hx;show xs.length≤_;omega
        refine aS ?_
        refine regD (flN [8,10]) mixed (by kernel_rfl) (by kernel_rfl) ?_
        have hrow2:(rawR l1++[.arr 6 1 0 xs.length]::rawR (l2++[(v1,xs)]))[0+k.toNat]? = some [.arr 6 1 0 xs.length]:=by rw [Nat.zero_add];exact rawR_mid hy2
        (repeat first|refine sN rfl ?_|((first|refine sA rfl ?_ ?_|refine s4 rfl ‹_› rfl ?_ ?_);first|exact tI|omega|(simp only[oZ] at *;omega))|(refine s2 rfl ?_;intro _ _hb)|(refine s3 rfl ?_ ?_<;>intro hb<;>subst hb)|refine aS ?_|refine reg (by kernel_rfl) ?_|refine lexE ?_)
        (refine popO rfl ?_;refine popW ?_ rfl (by rfl);refine n_append rfl rfl rfl (by first|(simp;done)|(simp;(first|omega|(simp only [oZ] at *;omega)))) rfl (by intro r hr;simp at hr;subst hr;rfl) (by rfl) (Nat.le_of_ble_eq_true rfl) (by simp;omega) ?_)
        (repeat first|refine sN rfl ?_|((first|refine sA rfl ?_ ?_|refine s4 rfl ‹_› rfl ?_ ?_);first|exact tI|omega|(simp only[oZ] at *;omega))|(refine s2 rfl ?_;intro _ _hb)|(refine s3 rfl ?_ ?_<;>intro hb<;>subst hb))
        refine lexE ?_
        refine reg (by kernel_rfl) ?_;(repeat first|refine sN rfl ?_|((first|refine sA rfl ?_ ?_|refine s4 rfl ‹_› rfl ?_ ?_);first|exact tI|omega|(simp only[oZ] at *;omega))|(refine s2 rfl ?_;intro _ _hb)|(refine s3 rfl ?_ ?_<;>intro hb<;>subst hb));refine lexE ?_
        refine AWp.namesV [4,5] [] rfl rfl [] [(0,rdO b (p+1+1)),(1,.cells 26 3 [[.d (iD 0),.d (.l []),.d (.l [])]]),(2,.cells 61 1 (rawR l1++[.arr 6 1 0 (xs.set 0 (l1++(v0,xs)::l2).length).length]::rawR ((l2++[(v1,xs)])))),(3,.cells 4 1 ((a.ac++[e]).map bRowC)),(4,.sld 3 (sI (l1++(l2++[(v1,xs)])))),(5,.cells 26 3 [[.d (iD a.al),.arr 2 1 0 (l1++(v0,xs)::(l2++[(v1,xs)])).length,.arr 3 1 0 (a.ac++[e]).length]]),(6,.cells 3 1 ((xs.set 0 (l1++(v0,xs)::l2).length).map iRowC))] [0,1,2,7,4,5,6] (by first|(simp [hΓ];done)|(rw [hΓ];decide)) (by (repeat' (first|exact trivial|rfl|refine And.intro ?_ ?_))<;>(simp [EnvSub,StoreSub,look_cons,nm,nmo,E.ren,C.ren,C.renL,O.ren,Store.ren,killc,kill0,killL,kill,fillC,spliceC,eC,Function.comp_def,argsFrom,zC,hΓ,rawR_ren,cond_eq_ite,Nat.beq_eq,rawR_app,List.map_set,spliceC,eC,List.append_assoc]<;>rfl)) ?_;(try dsimp only [List.cons_append,List.nil_append]);refine AWp.put 2 6 4 (rawR l1) (rawR ((l2++[(v1,xs)]))) (xs.set 0 (l1++(v0,xs)::l2).length) l1 ((l2++[(v1,xs)])) rfl rfl rfl fun v=>?_;(repeat first|refine sN rfl ?_|((first|refine sA rfl ?_ ?_|refine s4 rfl ‹_› rfl ?_ ?_);first|exact tI|omega|(simp only[oZ] at *;omega))|(refine s2 rfl ?_;intro _ _hb)|(refine s3 rfl ?_ ?_<;>intro hb<;>subst hb)|refine aS ?_|refine reg (by kernel_rfl) ?_|refine lexE ?_);refine AWp.namesV [4] [] rfl rfl [] [(0,rdO b (p+1+1)),(1,.cells 26 3 [[.d (iD a.al),.arr 2 1 0 (l1++(v,xs.set 0 (l1++(v0,xs)::l2).length)::(l2++[(v1,xs)])).length,.arr 3 1 0 (a.ac++[e]).length]]),(2,.cells 61 1 (rawR (l1++(v,xs.set 0 (l1++(v0,xs)::l2).length)::(l2++[(v1,xs)])))),(3,.cells 4 1 ((a.ac++[e]).map bRowC)),(4,.sld 3 (sI (l1++(v,xs.set 0 (l1++(v0,xs)::l2).length)::(l2++[(v1,xs)]))))] [0,1,2,3,4] (by first|(simp [hΓ];done)|(rw [hΓ];decide)) (by (repeat' (first|exact trivial|rfl|refine And.intro ?_ ?_))<;>(simp [EnvSub,StoreSub,look_cons,nm,nmo,E.ren,C.ren,C.renL,O.ren,Store.ren,killc,kill0,killL,kill,fillC,spliceC,eC,Function.comp_def,argsFrom,zC,hΓ,rawR_ren,cond_eq_ite,Nat.beq_eq,rawR_app,rawR_cons]<;>rfl)) ?_;(try dsimp only [List.cons_append,List.nil_append]);refine AWp.freezeZ [1,2,3,4] [(4,.o (.ip (auRow ⟨a.al,(l1++(v,xs.set 0 (l1++(v0,xs)::l2).length)::(l2++[(v1,xs)])).map (·.2),a.ac++[e]⟩)))] ⟨⟨_,rfl,.inr (.o (.box rfl (.cons .d (.cons (.nst (s:=4) rfl rfl) (.cons (.full rfl (by simp [Function.comp_def]) (by simp)) .nil)))))⟩,trivial⟩ ?_;refine AWp.ret ⟨_,rfl,[0],eAut ⟨a.al,(l1++(v,xs.set 0 (l1++(v0,xs)::l2).length)::(l2++[(v1,xs)])).map (·.2),a.ac++[e]⟩,[(0,rdO b (p+1+1))],⟨by intro i hi;match i with|0=>rfl,by decide⟩,rfl,by (repeat' (first|exact trivial|rfl|refine And.intro ?_ ?_))<;>(simp [EnvSub,StoreSub,look_cons,nm,nmo,E.ren,C.ren,C.renL,O.ren,Store.ren,killc,kill0,killL,kill,fillC,spliceC,eC,Function.comp_def,argsFrom,zC,hΓ,rawR_ren,cond_eq_ite,Nat.beq_eq]<;>rfl),_,⟨a.al,(l1++(v,xs.set 0 (l1++(v0,xs)::l2).length)::(l2++[(v1,xs)])).map (·.2),a.ac++[e]⟩,by omega,⟨rfl,chg_bd (by simp at hlm ⊢;omega) (by first|omega|(simp;omega)) (hin4) (by have h9:xs.length≤m:=hym;simp;omega)⟩,rfl,rfl,rfl⟩
      · refine AWp.skip ?_
        refine AWp.namesV [4,5] [] rfl rfl [] [(0,rdO b (p+1+1)),(1,.cells 26 3 [[.d (iD 0),.d (.l []),.d (.l [])]]),(2,.cells 61 1 (rawR l1++[.arr 6 1 0 (xs).length]::rawR (l2))),(3,.cells 4 1 ((a.ac).map bRowC)),(4,.sld 3 (sI (l1++l2))),(5,.cells 26 3 [[.d (iD a.al),.arr 2 1 0 (l1++(v0,xs)::l2).length,.arr 3 1 0 (a.ac).length]]),(6,.cells 3 1 ((xs).map iRowC))] [0,1,2,3,4,5,6] (by first|(simp [hΓ];done)|(rw [hΓ];decide)) (by (repeat' (first|exact trivial|rfl|refine And.intro ?_ ?_))<;>(simp [EnvSub,StoreSub,look_cons,nm,nmo,E.ren,C.ren,C.renL,O.ren,Store.ren,killc,kill0,killL,kill,fillC,spliceC,eC,Function.comp_def,argsFrom,zC,hΓ,rawR_ren,cond_eq_ite,Nat.beq_eq,rawR_app]<;>rfl)) ?_;(try dsimp only [List.cons_append,List.nil_append]);refine AWp.put 2 6 4 (rawR l1) (rawR (l2)) (xs) l1 (l2) rfl rfl rfl fun v=>?_;(repeat first|refine sN rfl ?_|((first|refine sA rfl ?_ ?_|refine s4 rfl ‹_› rfl ?_ ?_);first|exact tI|omega|(simp only[oZ] at *;omega))|(refine s2 rfl ?_;intro _ _hb)|(refine s3 rfl ?_ ?_<;>intro hb<;>subst hb)|refine aS ?_|refine reg (by kernel_rfl) ?_|refine lexE ?_);refine AWp.namesV [4] [] rfl rfl [] [(0,rdO b (p+1+1)),(1,.cells 26 3 [[.d (iD a.al),.arr 2 1 0 (l1++(v,xs)::l2).length,.arr 3 1 0 (a.ac).length]]),(2,.cells 61 1 (rawR (l1++(v,xs)::l2))),(3,.cells 4 1 ((a.ac).map bRowC)),(4,.sld 3 (sI (l1++(v,xs)::l2)))] [0,1,2,3,4] (by first|(simp [hΓ];done)|(rw [hΓ];decide)) (by (repeat' (first|exact trivial|rfl|refine And.intro ?_ ?_))<;>(simp [EnvSub,StoreSub,look_cons,nm,nmo,E.ren,C.ren,C.renL,O.ren,Store.ren,killc,kill0,killL,kill,fillC,spliceC,eC,Function.comp_def,argsFrom,zC,hΓ,rawR_ren,cond_eq_ite,Nat.beq_eq,rawR_app,rawR_cons]<;>rfl)) ?_;(try dsimp only [List.cons_append,List.nil_append]);refine AWp.freezeZ [1,2,3,4] [(4,.o (.ip (auRow ⟨a.al,(l1++(v,xs)::l2).map (·.2),a.ac⟩)))] ⟨⟨_,rfl,.inr (.o (.box rfl (.cons .d (.cons (.nst (s:=4) rfl rfl) (.cons (.full rfl (by simp [Function.comp_def]) (by simp)) .nil)))))⟩,trivial⟩ ?_;refine AWp.ret ⟨_,rfl,[0],eAut ⟨a.al,(l1++(v,xs)::l2).map (·.2),a.ac⟩,[(0,rdO b (p+1+1))],⟨by intro i hi;match i with|0=>rfl,by decide⟩,rfl,by (repeat' (first|exact trivial|rfl|refine And.intro ?_ ?_))<;>(simp [EnvSub,StoreSub,look_cons,nm,nmo,E.ren,C.ren,C.renL,O.ren,Store.ren,killc,kill0,killL,kill,fillC,spliceC,eC,Function.comp_def,argsFrom,zC,hΓ,rawR_ren,cond_eq_ite,Nat.beq_eq]<;>rfl),_,⟨a.al,(l1++(v,xs)::l2).map (·.2),a.ac⟩,by omega,⟨rfl,chg_bd (by simp at hlm ⊢;omega) (by first|omega|(simp;omega)) (hin3) (by have h9:xs.length≤m:=hym;simp;omega)⟩,rfl,rfl,rfl⟩
end Go.Am
