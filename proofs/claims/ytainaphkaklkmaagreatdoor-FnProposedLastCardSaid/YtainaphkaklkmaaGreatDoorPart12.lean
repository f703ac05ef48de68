/-
  Letters, more.
-/
import Derived.Test.YtainaphkaklkmaaGreatDoorPart11
import Derived.Test.YtainaphkaklkmaaGreatDoorPart10
set_option linter.constructorNameAsVariable false
set_option linter.unusedSimpArgs false
set_option linter.unusedVariables false
namespace Go.Am
open Go Go.Proofs
set_option maxHeartbeats 1000000
attribute [local irreducible] QOp AOp Lex LexO AWp Spec
variable {TB:Amb}
theorem letterByte_ok (n:Int) (h0:0≤n) (h1:n < 128):Pure Tryz.prog TB 84 [eI .i64 n] (eI .u8 (97+n)):=by
  refine eN Tryz.func84 rfl (by kernel_rfl) rfl ?_;intro Γ hΓ
  (repeat' first|refine sN rfl ?_|((first|refine sA rfl ?_ ?_|refine s4 rfl ‹_› rfl ?_ ?_);first|exact tI|omega|(simp only[oZ] at *;omega))|(refine s2 rfl ?_;intro _ _hb)|(refine s3 rfl ?_ ?_<;>intro hb<;>subst hb)|refine aS ?_|refine reg (by kernel_rfl) ?_|refine lexE ?_|refine rD (by kernel_rfl) (by kernel_rfl) ?_|(refine aC rfl ?_ ?_<;>intro hb<;>cases hb)|refine aK ?_|refine aE ?_|refine aB ?_|refine AWp.ret ⟨_,rfl,?_⟩)
  rfl
theorem l1Text_ok (n:Int) (h0:0≤n) (h1:n < 128):Pure Tryz.prog TB 64 [eI .i64 n] (eT [UInt8.ofNat (97+n.toNat)]):=by
  refine eN Tryz.func64 rfl (by kernel_rfl) rfl ?_;intro Γ hΓ
  (repeat first|refine sN rfl ?_|((first|refine sA rfl ?_ ?_|refine s4 rfl ‹_› rfl ?_ ?_);first|exact tI|omega|(simp only[oZ] at *;omega))|(refine s2 rfl ?_;intro _ _hb)|(refine s3 rfl ?_ ?_<;>intro hb<;>subst hb)|refine aS ?_|refine reg (by kernel_rfl) ?_|refine lexE ?_|refine rD (by kernel_rfl) (by kernel_rfl) ?_)
  (refine popO rfl ?_;refine popS (fun _ _=>q_textL [UInt8.ofNat (97+n.toNat)] rfl (by
    have h2:(97+n.toNat) % 256=97+n.toNat:=Nat.mod_eq_of_lt (by omega)
    have h3:(97+n:Int)=((97+n.toNat:Nat):Int):=by omega
    simp [byD,h2,h3])) rfl ?_)
  (repeat first|refine sN rfl ?_|((first|refine sA rfl ?_ ?_|refine s4 rfl ‹_› rfl ?_ ?_);first|exact tI|omega|(simp only[oZ] at *;omega))|(refine s2 rfl ?_;intro _ _hb)|(refine s3 rfl ?_ ?_<;>intro hb<;>subst hb)|refine aS ?_|refine reg (by kernel_rfl) ?_|refine lexE ?_|refine rD (by kernel_rfl) (by kernel_rfl) ?_)
  refine AWp.ret ⟨_,rfl,?_⟩
  rfl
theorem l1Place_ok (s n:Int) (h0:0≤n) (h1:n < 64):Pure Tryz.prog TB 155 [eI .i64 s,eI .i64 n] (eI .i64 (lettersTo s n.toNat).length):=by
  refine eN Tryz.func155 rfl (by kernel_rfl) rfl ?_;intro Γ hΓ
  (repeat first|refine sN rfl ?_|((first|refine sM rfl ?_ ?_|refine s4 rfl ‹_› rfl ?_ ?_);first|exact tI|omega|(simp only[oZ] at *;omega))|(refine s2 rfl ?_;intro _ _hb)|(refine s3 rfl ?_ ?_<;>intro hb<;>subst hb)|refine aS ?_|refine reg (by kernel_rfl) ?_|refine lexE ?_|refine rD (by kernel_rfl) (by kernel_rfl) ?_)
  refine AWp.block ?_
  refine AWp.loopL (α:={k:Nat // k≤n.toNat}) (fun ⟨k,hk⟩=>[(0,eI .i64 s),(1,eI .i64 n),(5,eI .i64 (lettersTo s k).length),(6,eI .i64 k)]) (fun ⟨k,hk⟩=>[]) 0 (fun ⟨k,hk⟩=>n.toNat - k) (⟨0,by omega⟩) [] (rl3 hΓ rfl rfl) (by (repeat' first|exact tI|rfl|refine And.intro ?_ ?_)<;>simp[cX,zC,hΓ]) ?_;rintro ⟨k,hk⟩;(try dsimp only)
  (repeat first|refine sN rfl ?_|((first|refine sM rfl ?_ ?_|refine s4 rfl ‹_› rfl ?_ ?_);first|exact tI|omega|(simp only[oZ] at *;omega))|(refine s2 rfl ?_;intro _ _hb)|(refine s3 rfl ?_ ?_<;>intro hb<;>subst hb)|refine aS ?_|refine reg (by kernel_rfl) ?_|refine lexE ?_|refine rD (by kernel_rfl) (by kernel_rfl) ?_)
  (refine aC rfl ?_ ?_<;>intro hb<;>cases hb)
  · have hlt:k < n.toNat:=by have:=of_decide_eq_true _hb;omega
    refine AWp.skip ?_
    refine AWp.seq (AWp.block ?_)
    (repeat first|refine sN rfl ?_|((first|refine sM rfl ?_ ?_|refine s4 rfl ‹_› rfl ?_ ?_);first|exact tI|omega|(simp only[oZ] at *;omega))|(refine s2 rfl ?_;intro _ _hb)|(refine s3 rfl ?_ ?_<;>intro hb<;>subst hb)|refine aS ?_|refine reg (by kernel_rfl) ?_|refine lexE ?_|refine rD (by kernel_rfl) (by kernel_rfl) ?_)
    (refine popO rfl ?_;refine popB (fun _ _=>q_call rfl rfl rfl (l1Has_ok _ _ (by omega) (by omega)) rfl) rfl ?_;intro _ _hb)
    (repeat first|refine sN rfl ?_|((first|refine sM rfl ?_ ?_|refine s4 rfl ‹_› rfl ?_ ?_);first|exact tI|omega|(simp only[oZ] at *;omega))|(refine s2 rfl ?_;intro _ _hb)|(refine s3 rfl ?_ ?_<;>intro hb<;>subst hb)|refine aS ?_|refine reg (by kernel_rfl) ?_|refine lexE ?_|refine rD (by kernel_rfl) (by kernel_rfl) ?_)
    have hs:=lettersTo_succ s k
    have hl:=lettersTo_len s k
    (refine aC rfl ?_ ?_<;>intro hb<;>cases hb)
    · (repeat first|refine sN rfl ?_|((first|refine sM rfl ?_ ?_|refine s4 rfl ‹_› rfl ?_ ?_);first|exact tI|omega|(simp only[oZ] at *;omega))|(refine s2 rfl ?_;intro _ _hb)|(refine s3 rfl ?_ ?_<;>intro hb<;>subst hb)|refine aS ?_|refine reg (by kernel_rfl) ?_|refine lexE ?_|refine rD (by kernel_rfl) (by kernel_rfl) ?_)
      refine ⟨⟨k+1,by omega⟩,by dsimp only;(first|omega|(simp only[oZ] at *;omega)),[],?_⟩
      rw [if_pos (by simpa using _hb)] at hs
      simp[cX,zC,hΓ,hs]
    · refine AWp.skip ?_
      (repeat first|refine sN rfl ?_|((first|refine sM rfl ?_ ?_|refine s4 rfl ‹_› rfl ?_ ?_);first|exact tI|omega|(simp only[oZ] at *;omega))|(refine s2 rfl ?_;intro _ _hb)|(refine s3 rfl ?_ ?_<;>intro hb<;>subst hb)|refine aS ?_|refine reg (by kernel_rfl) ?_|refine lexE ?_|refine rD (by kernel_rfl) (by kernel_rfl) ?_)
      refine ⟨⟨k+1,by omega⟩,by dsimp only;(first|omega|(simp only[oZ] at *;omega)),[],?_⟩
      rw [if_neg (by simpa using _hb),List.append_nil] at hs
      simp[cX,zC,hΓ,hs]
  · have hk6:k=n.toNat:=by have:=of_decide_eq_false _hb;omega
    subst hk6
    refine AWp.exit ?_
    (repeat first|refine sN rfl ?_|((first|refine sM rfl ?_ ?_|refine s4 rfl ‹_› rfl ?_ ?_);first|exact tI|omega|(simp only[oZ] at *;omega))|(refine s2 rfl ?_;intro _ _hb)|(refine s3 rfl ?_ ?_<;>intro hb<;>subst hb)|refine aS ?_|refine reg (by kernel_rfl) ?_|refine lexE ?_|refine rD (by kernel_rfl) (by kernel_rfl) ?_)
    refine AWp.ret ⟨_,rfl,rfl⟩
theorem lettersOf_ok (s:Int):Pure Tryz.prog TB 46 [eI .i64 s] (eInts (letters s)):=by
  refine eN Tryz.func46 rfl (by kernel_rfl) rfl ?_;intro Γ hΓ
  (repeat first|refine sN rfl ?_|((first|refine sM rfl ?_ ?_|refine s4 rfl ‹_› rfl ?_ ?_);first|exact tI|omega|(simp only[oZ] at *;omega))|(refine s2 rfl ?_;intro _ _hb)|(refine s3 rfl ?_ ?_<;>intro hb<;>subst hb)|refine aS ?_|refine reg (by kernel_rfl) ?_|refine lexE ?_|refine rD (by kernel_rfl) (by kernel_rfl) ?_)
  (refine popO rfl ?_;refine popS (fun _ _=>q_assign rfl) rfl ?_)
  (repeat first|refine sN rfl ?_|((first|refine sM rfl ?_ ?_|refine s4 rfl ‹_› rfl ?_ ?_);first|exact tI|omega|(simp only[oZ] at *;omega))|(refine s2 rfl ?_;intro _ _hb)|(refine s3 rfl ?_ ?_<;>intro hb<;>subst hb)|refine aS ?_|refine reg (by kernel_rfl) ?_|refine lexE ?_|refine rD (by kernel_rfl) (by kernel_rfl) ?_)
  (refine popO rfl ?_;refine popW ?_ rfl (by rfl);refine n_nil 1 3 ?_)
  (repeat first|refine sN rfl ?_|((first|refine sM rfl ?_ ?_|refine s4 rfl ‹_› rfl ?_ ?_);first|exact tI|omega|(simp only[oZ] at *;omega))|(refine s2 rfl ?_;intro _ _hb)|(refine s3 rfl ?_ ?_<;>intro hb<;>subst hb)|refine aS ?_|refine reg (by kernel_rfl) ?_|refine lexE ?_|refine rD (by kernel_rfl) (by kernel_rfl) ?_)
  refine AWp.block ?_
  refine AWp.loopL (α:={k:Nat // k≤6}) (fun ⟨k,hk⟩=>[(0,eI .i64 s),(3,.o (.arr 0 1 0 (lettersTo s k).length)),(5,eI .i64 k)]) (fun ⟨k,hk⟩=>[(0,.cells 3 1 ((lettersTo s k).map iRowC))]) 1 (fun ⟨k,hk⟩=>6 - k) (⟨0,by omega⟩) [0] (rl3 hΓ rfl rfl) (by (repeat' first|exact tI|rfl|refine And.intro ?_ ?_)<;>simp[cX,zC,hΓ]) ?_;rintro ⟨k,hk⟩;(try dsimp only)
  (repeat first|refine sN rfl ?_|((first|refine sM rfl ?_ ?_|refine s4 rfl ‹_› rfl ?_ ?_);first|exact tI|omega|(simp only[oZ] at *;omega))|(refine s2 rfl ?_;intro _ _hb)|(refine s3 rfl ?_ ?_<;>intro hb<;>subst hb)|refine aS ?_|refine reg (by kernel_rfl) ?_|refine lexE ?_|refine rD (by kernel_rfl) (by kernel_rfl) ?_)
  (refine aC rfl ?_ ?_<;>intro hb<;>cases hb)
  · have hlt:k < 6:=by have:=of_decide_eq_true _hb;omega
    refine AWp.skip ?_
    refine AWp.seq (AWp.block ?_)
    (repeat first|refine sN rfl ?_|((first|refine sM rfl ?_ ?_|refine s4 rfl ‹_› rfl ?_ ?_);first|exact tI|omega|(simp only[oZ] at *;omega))|(refine s2 rfl ?_;intro _ _hb)|(refine s3 rfl ?_ ?_<;>intro hb<;>subst hb)|refine aS ?_|refine reg (by kernel_rfl) ?_|refine lexE ?_|refine rD (by kernel_rfl) (by kernel_rfl) ?_)
    (refine popO rfl ?_;refine popB (fun _ _=>q_call rfl rfl rfl (has_ok _ _) rfl) rfl ?_;intro _ _hb)
    (repeat first|refine sN rfl ?_|((first|refine sM rfl ?_ ?_|refine s4 rfl ‹_› rfl ?_ ?_);first|exact tI|omega|(simp only[oZ] at *;omega))|(refine s2 rfl ?_;intro _ _hb)|(refine s3 rfl ?_ ?_<;>intro hb<;>subst hb)|refine aS ?_|refine reg (by kernel_rfl) ?_|refine lexE ?_|refine rD (by kernel_rfl) (by kernel_rfl) ?_)
    have hs:=lettersTo_succ s k
    have hbb:hasB s k=bitB s k:=by simp [hasB]
    rw [hbb] at _hb
    (refine aC rfl ?_ ?_<;>intro hb<;>cases hb)
    · (repeat first|refine sN rfl ?_|((first|refine sA rfl ?_ ?_|refine s4 rfl ‹_› rfl ?_ ?_);first|exact tI|omega|(simp only[oZ] at *;omega))|(refine s2 rfl ?_;intro _ _hb)|(refine s3 rfl ?_ ?_<;>intro hb<;>subst hb)|refine aS ?_|refine reg (by kernel_rfl) ?_|refine lexE ?_|refine rD (by kernel_rfl) (by kernel_rfl) ?_)
      (refine popO rfl ?_;refine popW ?_ rfl (by rfl);refine n_append rfl rfl rfl (by first|(simp;done)|(simp;(first|omega|(simp only[oZ] at *;omega)))) rfl (by intro r hr;simp at hr;subst hr;rfl) (by rfl) (Nat.le_of_ble_eq_true rfl) (by have:=lettersTo_len s k;simp;omega) ?_)
      (repeat first|refine sN rfl ?_|((first|refine sX rfl ?_ ?_|refine s4 rfl ‹_› rfl ?_ ?_);first|exact tI|omega|(simp only[oZ] at *;omega))|(refine s2 rfl ?_;intro _ _hb)|(refine s3 rfl ?_ ?_<;>intro hb<;>subst hb)|refine aS ?_|refine reg (by kernel_rfl) ?_|refine lexE ?_|refine rD (by kernel_rfl) (by kernel_rfl) ?_)
      refine ⟨⟨k+1,by omega⟩,by dsimp only;(first|omega|(simp only[oZ] at *;omega)),[1],?_⟩
      rw [if_pos (by simpa using _hb)] at hs
      simp[cX,zC,hΓ,hs]
    · refine AWp.skip ?_
      (repeat first|refine sN rfl ?_|((first|refine sX rfl ?_ ?_|refine s4 rfl ‹_› rfl ?_ ?_);first|exact tI|omega|(simp only[oZ] at *;omega))|(refine s2 rfl ?_;intro _ _hb)|(refine s3 rfl ?_ ?_<;>intro hb<;>subst hb)|refine aS ?_|refine reg (by kernel_rfl) ?_|refine lexE ?_|refine rD (by kernel_rfl) (by kernel_rfl) ?_)
      refine ⟨⟨k+1,by omega⟩,by dsimp only;(first|omega|(simp only[oZ] at *;omega)),[0],?_⟩
      rw [if_neg (by simpa using _hb),List.append_nil] at hs
      simp[cX,zC,hΓ,hs]
  · have hk6:k=6:=by have:=of_decide_eq_false _hb;omega
    subst hk6
    refine AWp.exit ?_
    (repeat first|refine sN rfl ?_|((first|refine sX rfl ?_ ?_|refine s4 rfl ‹_› rfl ?_ ?_);first|exact tI|omega|(simp only[oZ] at *;omega))|(refine s2 rfl ?_;intro _ _hb)|(refine s3 rfl ?_ ?_<;>intro hb<;>subst hb)|refine aS ?_|refine reg (by kernel_rfl) ?_|refine lexE ?_|refine rD (by kernel_rfl) (by kernel_rfl) ?_)
    refine AWp.freeze [0] [(2,.o (.d (iList (lettersTo s 6))))] ⟨⟨_,rfl,.o (.full (by simp) rfl (by simp [Function.comp_def]) (by simp))⟩,trivial⟩ ?_
    refine AWp.ret ⟨_,rfl,rfl⟩
end Go.Am
namespace Go.Am
open Go Go.Proofs
set_option maxHeartbeats 1000000
attribute [local irreducible] QOp AOp Lex LexO AWp Spec
variable {TB:Amb}
end Go.Am
namespace Go.Am
open Go Go.Proofs
set_option maxHeartbeats 1000000
attribute [local irreducible] QOp AOp Lex LexO AWp Spec
variable {TB:Amb}
theorem l3Row_ok (row:List Int) (ls n:Int):Pure Tryz.prog TB 66 [eInts row,eI .i64 ls,eI .i64 n] (eB (rowOk ls n row)):=by
  refine eN Tryz.func66 rfl (by kernel_rfl) rfl ?_;intro Γ hΓ
  (repeat' first|refine sN rfl ?_|((first|refine sA rfl ?_ ?_|refine s4 rfl ‹_› rfl ?_ ?_);first|exact tI|omega|(simp only[oZ] at *;omega))|(refine s2 rfl ?_;intro _ _hb)|(refine s3 rfl ?_ ?_<;>intro hb<;>subst hb)|refine aS ?_|refine reg (by kernel_rfl) ?_|refine lexE ?_|refine rD (by kernel_rfl) (by kernel_rfl) ?_|(refine aC rfl ?_ ?_<;>intro hb<;>cases hb)|refine aK ?_|refine aE ?_|refine aB ?_|refine AWp.ret ⟨_,rfl,?_⟩)
  · show E.o _=E.o _;congr;unfold rowOk;grind
  refine AWp.bound 0 rfl fun hB=>?_
  have hB:=hB _ .refl
  rw [List.length_map] at hB
  refine AWp.loopL (α:={k:Nat // k≤row.length∧(row.take k).all (stOk n)=true}) (fun ⟨k,hk,ha⟩=>[(0,eInts row),(2,eI .i64 n),(7,eI .i64 k)]) (fun ⟨k,hk,ha⟩=>[]) 0 (fun ⟨k,hk,ha⟩=>row.length - k) (⟨0,by omega,rfl⟩) [] (rl3 hΓ rfl rfl) (by (repeat' first|exact tI|rfl|refine And.intro ?_ ?_)<;>simp[cX,zC,hΓ]) ?_;rintro ⟨k,hk,ha⟩;(try dsimp only)
  (repeat first|refine sN rfl ?_|((first|refine sA rfl ?_ ?_|refine s4 rfl ‹_› rfl ?_ ?_);first|exact tI|omega|(simp only[oZ] at *;omega))|(refine s2 rfl ?_;intro _ _hb)|(refine s3 rfl ?_ ?_<;>intro hb<;>subst hb)|refine aS ?_|refine reg (by kernel_rfl) ?_|refine lexE ?_|refine rD (by kernel_rfl) (by kernel_rfl) ?_)
  (refine aC rfl ?_ ?_<;>intro hb<;>cases hb)
  · obtain ⟨x,hx⟩:=get_some (l:=row) (k:=k) (by first|omega|(simp only[oZ] at *;omega))
    have hx':=get_map (g:=iRow) hx
    (repeat' first|refine sN rfl ?_|((first|refine sA rfl ?_ ?_|refine s4 rfl ‹_› rfl ?_ ?_);first|exact tI|omega|(simp only[oZ] at *;omega))|(refine s2 rfl ?_;intro _ _hb)|(refine s3 rfl ?_ ?_<;>intro hb<;>subst hb)|refine aS ?_|refine reg (by kernel_rfl) ?_|refine lexE ?_|refine rD (by kernel_rfl) (by kernel_rfl) ?_|(refine aC rfl ?_ ?_<;>intro hb<;>cases hb)|refine aK ?_|refine aE ?_|refine aB ?_|refine AWp.ret ⟨_,rfl,?_⟩)
    all_goals first
      | (show E.o _=E.o _;congr;rw [rowOk,all_bad hx (by unfold stOk;grind)];simp;done)
      | (refine ⟨⟨k+1,by first|omega|(simp only[oZ] at *;omega),all_step hx ha (by unfold stOk;grind)⟩,by dsimp only;(first|omega|(simp only[oZ] at *;omega)),[],?_⟩;simp[cX,zC,hΓ];done)
  · (repeat' first|refine sN rfl ?_|((first|refine sA rfl ?_ ?_|refine s4 rfl ‹_› rfl ?_ ?_);first|exact tI|omega|(simp only[oZ] at *;omega))|(refine s2 rfl ?_;intro _ _hb)|(refine s3 rfl ?_ ?_<;>intro hb<;>subst hb)|refine aS ?_|refine reg (by kernel_rfl) ?_|refine lexE ?_|refine rD (by kernel_rfl) (by kernel_rfl) ?_|(refine aC rfl ?_ ?_<;>intro hb<;>cases hb)|refine aK ?_|refine aE ?_|refine aB ?_|refine AWp.ret ⟨_,rfl,?_⟩)
    show E.o _=E.o _;congr;rw [rowOk,all_done ha (by first|omega|(simp only[oZ] at *;omega))];grind
end Go.Am
namespace Go.Am
open Go Go.Proofs
set_option maxHeartbeats 1000000
attribute [local irreducible] QOp AOp Lex LexO AWp Spec
variable {TB:Amb}
theorem autOk_head {a:Aut} (h:autOk a=true):alphB a.al=true∧1≤a.nx.length∧a.nx.length≤12∧a.ac.length=a.nx.length:=by
  unfold autOk at h;grind
theorem specAutomatonValid_ok (a:Aut):Pure Tryz.prog TB 35 [eAut a] (eB (autOk a)):=by
  refine eN Tryz.func35 rfl (by kernel_rfl) rfl ?_;intro Γ hΓ
  (repeat' first|refine sN rfl ?_|((first|refine sA rfl ?_ ?_|refine s4 rfl ‹_› rfl ?_ ?_);first|exact tI|omega|(simp only[oZ] at *;omega))|(refine s2 rfl ?_;intro _ _hb) |(refine sC rfl (l1Alphabet_ok _) ?_;intro _ _hb)|(refine s3 rfl ?_ ?_<;>intro hb<;>subst hb)|refine aS ?_|refine reg (by kernel_rfl) ?_|refine lexE ?_|refine rD (by kernel_rfl) (by kernel_rfl) ?_|(refine aC rfl ?_ ?_<;>intro hb<;>cases hb)|refine aK ?_|refine aE ?_|refine aB ?_|refine AWp.ret ⟨_,rfl,?_⟩)
  all_goals try (show E.o _=E.o _;congr;unfold autOk;(try simp only [List.length_map] at *);grind)
  refine AWp.bound 1 rfl fun hB=>?_
  have hB:=hB (a.nx.map iiRow) (.p (j:=1) rfl .refl)
  refine AWp.loopL (α:={k:Nat // k≤a.nx.length∧(a.nx.take k).all (rowOk (letters a.al).length a.nx.length)=true}) (fun ⟨k,hk,ha⟩=>[(1,.o (.ip (auRow a))),(3,eI .i64 a.nx.length),(4,eI .i64 k)]) (fun ⟨k,hk,ha⟩=>[]) 0 (fun ⟨k,hk,ha⟩=>a.nx.length - k) (⟨0,by omega,rfl⟩) [] (rl3 hΓ rfl rfl) (by (repeat' first|exact tI|rfl|refine And.intro ?_ ?_)<;>simp[cX,zC,hΓ]) ?_;rintro ⟨k,hk,ha⟩;(try dsimp only)
  (repeat first|refine sN rfl ?_|((first|refine sA rfl ?_ ?_|refine s4 rfl ‹_› rfl ?_ ?_);first|exact tI|omega|(simp only[oZ] at *;omega))|(refine s2 rfl ?_;intro _ _hb)|(refine s3 rfl ?_ ?_<;>intro hb<;>subst hb)|refine aS ?_|refine reg (by kernel_rfl) ?_|refine lexE ?_|refine rD (by kernel_rfl) (by kernel_rfl) ?_)
  (refine aC rfl ?_ ?_<;>intro hb<;>cases hb)
  · obtain ⟨x,hx⟩:=get_some (l:=a.nx) (k:=k) (by first|omega|(simp only[oZ] at *;omega))
    have hx':=get_map (g:=iiRow) hx
    (repeat' first|refine sN rfl ?_|((first|refine sA rfl ?_ ?_|refine s4 rfl ‹_› rfl ?_ ?_);first|exact tI|omega|(simp only[oZ] at *;omega))|(refine s2 rfl ?_;intro _ _hb) |refine sP rfl (l1Letters_ok _) rfl ?_|(refine sC rfl (l3Row_ok _ _ _) ?_;intro _ _hb)|(refine s3 rfl ?_ ?_<;>intro hb<;>subst hb)|refine aS ?_|refine reg (by kernel_rfl) ?_|refine lexE ?_|refine rD (by kernel_rfl) (by kernel_rfl) ?_|(refine aC rfl ?_ ?_<;>intro hb<;>cases hb)|refine aK ?_|refine aE ?_|refine aB ?_|refine AWp.ret ⟨_,rfl,?_⟩)
    all_goals first
      | (have h1:=all_bad (f:=rowOk (letters a.al).length a.nx.length) hx (by grind);(show E.o _=E.o _;congr;unfold autOk;(try simp only [List.length_map] at *);grind);done)
      | (refine ⟨⟨k+1,by first|omega|(simp only[oZ] at *;omega),all_step hx ha (by grind)⟩,by dsimp only;(first|omega|(simp only[oZ] at *;omega)),[],?_⟩;simp[cX,zC,hΓ];done)
  · (repeat' first|refine sN rfl ?_|((first|refine sA rfl ?_ ?_|refine s4 rfl ‹_› rfl ?_ ?_);first|exact tI|omega|(simp only[oZ] at *;omega))|(refine s2 rfl ?_;intro _ _hb)|(refine s3 rfl ?_ ?_<;>intro hb<;>subst hb)|refine aS ?_|refine reg (by kernel_rfl) ?_|refine lexE ?_|refine rD (by kernel_rfl) (by kernel_rfl) ?_|(refine aC rfl ?_ ?_<;>intro hb<;>cases hb)|refine aK ?_|refine aE ?_|refine aB ?_|refine AWp.ret ⟨_,rfl,?_⟩)
    show E.o _=E.o _;congr
    have h1:=all_done ha (by first|omega|(simp only[oZ] at *;omega))
    unfold autOk;simp only [List.length_map] at *;grind
end Go.Am
namespace Go.Am
open Go Go.Proofs
set_option maxHeartbeats 1000000
attribute [local irreducible] QOp AOp Lex LexO AWp Spec
variable {TB:Amb}
theorem drop_some {α:Type} {l:List α} {k:Nat} {x:α} (h:l[k]? = some x):l.drop k=x::l.drop (k+1):=by
  obtain ⟨h1,rfl⟩:=List.getElem?_eq_some_iff.1 h
  exact List.drop_eq_getElem_cons h1
theorem sysAt_0 {s:Sys} {e:Edg} (h:s.es[0]? = some e):sysAt s 0=edgeOk s.al s.st e:=by
  unfold sysAt;rw [h];simp
theorem sysAt_s {s:Sys} {k:Nat} {e p:Edg} (h:s.es[k+1]? = some e) (hp:s.es[k]? = some p):sysAt s (k+1)=(edgeOk s.al s.st e && befB p e):=by
  unfold sysAt;rw [h];simp [hp]
end Go.Am
namespace Go.Am
open Go Go.Proofs
set_option maxHeartbeats 1000000
attribute [local irreducible] QOp AOp Lex LexO AWp Spec
variable {TB:Amb}
end Go.Am
namespace Go.Am
open Go Go.Proofs
set_option maxHeartbeats 1000000
attribute [local irreducible] QOp AOp Lex LexO AWp Spec
variable {TB:Amb}
theorem autOk_bad {a:Aut} {k:Nat} {x:List Int} (hx:a.nx[k]? = some x) (h:rowOk (letters a.al).length a.nx.length x=false):autOk a=false:=by
  have h1:=all_bad (f:=rowOk (letters a.al).length a.nx.length) hx h
  unfold autOk;rw [h1];simp
theorem autOk_good {a:Aut} {k:Nat} (h0:alphB a.al=true) (h1:1≤a.nx.length∧a.nx.length≤12) (h2:a.ac.length=a.nx.length) (hk:a.nx.length≤k) (h:(a.nx.take k).all (rowOk (letters a.al).length a.nx.length)=true):autOk a=true:=by
  have h3:=all_done h hk
  unfold autOk;rw [h3];grind
theorem implAutomatonValid_ok (a:Aut):Pure Tryz.prog TB 24 [eAut a] (eB (autOk a)):=by
  refine eN Tryz.func24 rfl (by kernel_rfl) rfl ?_;intro Γ hΓ
  (repeat' first|refine sN rfl ?_|((first|refine sA rfl ?_ ?_|refine s4 rfl ‹_› rfl ?_ ?_);first|exact tI|omega|(simp only[oZ] at *;omega))|(refine s2 rfl ?_;intro _ _hb) |(refine sC rfl (isAlphabet_ok _) ?_;intro _ _hb)|refine sP rfl (lettersOf_ok _) rfl ?_|(refine s3 rfl ?_ ?_<;>intro hb<;>subst hb)|refine aS ?_|refine reg (by kernel_rfl) ?_|refine lexE ?_|refine rD (by kernel_rfl) (by kernel_rfl) ?_|(refine aC rfl ?_ ?_<;>intro hb<;>cases hb)|refine aK ?_|refine aE ?_|refine aB ?_|refine AWp.ret ⟨_,rfl,?_⟩)
  all_goals try (show E.o _=E.o _;congr;unfold autOk;(try simp only [List.length_map] at *);grind)
  refine AWp.bound 1 rfl fun hB=>?_
  have hB:=hB (a.nx.map iiRow) (.p (j:=1) rfl .refl)
  refine AWp.loopL (α:={k:Nat // k≤a.nx.length∧(a.nx.take k).all (rowOk (letters a.al).length a.nx.length)=true}) (fun ⟨k,hk,ha⟩=>[(1,.o (.ip (auRow a))),(3,eI .i64 (letters a.al).length),(38,eIntss a.nx),(39,eI .i64 a.nx.length),(40,eI .i64 k)]) (fun ⟨k,hk,ha⟩=>[]) 0 (fun ⟨k,hk,ha⟩=>a.nx.length - k) (⟨0,by omega,rfl⟩) [] (rl3 hΓ rfl rfl) (by (repeat' first|exact tI|rfl|refine And.intro ?_ ?_)<;>simp[cX,zC,hΓ]) ?_;rintro ⟨k,hk,ha⟩;(try dsimp only)
  (repeat first|refine sN rfl ?_|((first|refine sA rfl ?_ ?_|refine s4 rfl ‹_› rfl ?_ ?_);first|exact tI|omega|(simp only[oZ] at *;omega))|(refine s2 rfl ?_;intro _ _hb)|(refine s3 rfl ?_ ?_<;>intro hb<;>subst hb)|refine aS ?_|refine reg (by kernel_rfl) ?_|refine lexE ?_|refine rD (by kernel_rfl) (by kernel_rfl) ?_)
  (refine aC rfl ?_ ?_<;>intro hb<;>cases hb)
  · obtain ⟨x,hx⟩:=get_some (l:=a.nx) (k:=k) (by first|omega|(simp only[oZ] at *;omega))
    have hx':=get_map (g:=iiRow) hx
    (repeat' first|refine sN rfl ?_|((first|refine sA rfl ?_ ?_|refine s4 rfl ‹_› rfl ?_ ?_);first|exact tI|omega|(simp only[oZ] at *;omega))|(refine s2 rfl ?_;intro _ _hb)|(refine s3 rfl ?_ ?_<;>intro hb<;>subst hb)|refine aS ?_|refine reg (by kernel_rfl) ?_|refine lexE ?_|refine rD (by kernel_rfl) (by kernel_rfl) ?_|(refine aC rfl ?_ ?_<;>intro hb<;>cases hb)|refine aK ?_|refine aE ?_|refine aB ?_|refine AWp.ret ⟨_,rfl,?_⟩)
    · have h2:=autOk_bad hx (by unfold rowOk;grind)
      show E.o _=E.o _;congr;exact h2.symm
    refine AWp.bound 5 rfl fun hB2=>?_
    have hB2:=hB2 (x.map iRow) .refl
    refine AWp.loopL (α:={j:Nat // j≤x.length∧(x.take j).all (stOk a.nx.length)=true}) (fun ⟨j,hj,hc⟩=>[(1,.o (.ip (auRow a))),(3,eI .i64 (letters a.al).length),(38,eIntss a.nx),(39,eI .i64 a.nx.length),(40,eI .i64 k),(48,eInts x),(49,eI .i64 x.length),(50,eI .i64 j)]) (fun ⟨j,hj,hc⟩=>[]) 0 (fun ⟨j,hj,hc⟩=>x.length - j) (⟨0,by omega,rfl⟩) [] (rl3 hΓ rfl rfl) (by (repeat' first|exact tI|rfl|refine And.intro ?_ ?_)<;>simp[cX,zC,hΓ]) ?_;rintro ⟨j,hj,hc⟩;(try dsimp only)
    (repeat first|refine sN rfl ?_|((first|refine sA rfl ?_ ?_|refine s4 rfl ‹_› rfl ?_ ?_);first|exact tI|omega|(simp only[oZ] at *;omega))|(refine s2 rfl ?_;intro _ _hb)|(refine s3 rfl ?_ ?_<;>intro hb<;>subst hb)|refine aS ?_|refine reg (by kernel_rfl) ?_|refine lexE ?_|refine rD (by kernel_rfl) (by kernel_rfl) ?_)
    (refine aC rfl ?_ ?_<;>intro hb<;>cases hb)
    · obtain ⟨y,hy⟩:=get_some (l:=x) (k:=j) (by first|omega|(simp only[oZ] at *;omega))
      have hy':=get_map (g:=iRow) hy
      (repeat' first|refine sN rfl ?_|((first|refine sA rfl ?_ ?_|refine s4 rfl ‹_› rfl ?_ ?_);first|exact tI|omega|(simp only[oZ] at *;omega))|(refine s2 rfl ?_;intro _ _hb)|(refine s3 rfl ?_ ?_<;>intro hb<;>subst hb)|refine aS ?_|refine reg (by kernel_rfl) ?_|refine lexE ?_|refine rD (by kernel_rfl) (by kernel_rfl) ?_|(refine aC rfl ?_ ?_<;>intro hb<;>cases hb)|refine aK ?_|refine aE ?_|refine aB ?_|refine AWp.ret ⟨_,rfl,?_⟩)
      all_goals first
        | (have h2:=autOk_bad hx (by rw [rowOk,all_bad hy (by unfold stOk;grind)];simp);show E.o _=E.o _;congr;exact h2.symm;done)
        | (refine ⟨⟨j+1,by first|omega|(simp only[oZ] at *;omega),all_step hy hc (by unfold stOk;grind)⟩,by dsimp only;(first|omega|(simp only[oZ] at *;omega)),[],?_⟩;simp[cX,zC,hΓ];done)
    · (repeat' first|refine sN rfl ?_|((first|refine sA rfl ?_ ?_|refine s4 rfl ‹_› rfl ?_ ?_);first|exact tI|omega|(simp only[oZ] at *;omega))|(refine s2 rfl ?_;intro _ _hb)|(refine s3 rfl ?_ ?_<;>intro hb<;>subst hb)|refine aS ?_|refine reg (by kernel_rfl) ?_|refine lexE ?_|refine rD (by kernel_rfl) (by kernel_rfl) ?_|(refine aC rfl ?_ ?_<;>intro hb<;>cases hb)|refine aK ?_|refine aE ?_|refine aB ?_|refine AWp.ret ⟨_,rfl,?_⟩)
      have h3:=all_done hc (by first|omega|(simp only[oZ] at *;omega))
      refine ⟨⟨k+1,by first|omega|(simp only[oZ] at *;omega),all_step hx ha (by rw [rowOk,h3];grind)⟩,by dsimp only;(first|omega|(simp only[oZ] at *;omega)),[],?_⟩
      simp[cX,zC,hΓ]
  · (repeat' first|refine sN rfl ?_|((first|refine sA rfl ?_ ?_|refine s4 rfl ‹_› rfl ?_ ?_);first|exact tI|omega|(simp only[oZ] at *;omega))|(refine s2 rfl ?_;intro _ _hb)|(refine s3 rfl ?_ ?_<;>intro hb<;>subst hb)|refine aS ?_|refine reg (by kernel_rfl) ?_|refine lexE ?_|refine rD (by kernel_rfl) (by kernel_rfl) ?_|(refine aC rfl ?_ ?_<;>intro hb<;>cases hb)|refine aK ?_|refine aE ?_|refine aB ?_|refine AWp.ret ⟨_,rfl,?_⟩)
    have h2:=autOk_good (a:=a) (by grind) (by grind) (by grind) (by first|omega|(simp only[oZ] at *;omega)) ha
    show E.o _=E.o _;congr;exact h2.symm
def goA (a:Aut) (q:Nat) (l:Int):Int:=if bitB a.al l.toNat then ((a.nx.getD q []).getD (lettersTo a.al l.toNat).length 0) else q
theorem lettersTo_lt {s:Int} {l k:Nat} (hl:l < k) (hb:bitB s l=true):(lettersTo s l).length < (lettersTo s k).length:=by
  induction k with
  | zero=>omega
  | succ k ih=>
    rw [lettersTo_succ,List.length_append]
    rcases Nat.lt_succ_iff_lt_or_eq.1 hl with h|h
    · have:=ih h;omega
    · subst h;rw [if_pos hb];simp
theorem autOk_row {a:Aut} (h:autOk a=true) {q:Nat} (hq:q < a.nx.length):∃row,a.nx[q]? = some row∧row.length=(letters a.al).length∧∀(i:Nat) (x:Int),row[i]? = some x→0≤x∧x < a.nx.length:=by
  obtain ⟨row,hr⟩:=get_some hq
  refine ⟨row,hr,?_⟩
  unfold autOk at h
  rw [Bool.and_eq_true,List.all_eq_true] at h
  have h1:=h.2 row (List.mem_of_getElem? hr)
  unfold rowOk at h1
  rw [Bool.and_eq_true,List.all_eq_true] at h1
  refine ⟨by grind,fun i x hx=>?_⟩
  have:=h1.2 x (List.mem_of_getElem? hx)
  unfold stOk at this;grind
theorem l3Go_ok (a:Aut) (h:autOk a=true) (q:Nat) (hq:q < a.nx.length) (l:Int) (h0:0≤l) (h1:l < 6):Pure Tryz.prog TB 136 [eAut a,eI .i64 q,eI .i64 l] (eI .i64 (goA a q l)):=by
  refine eN Tryz.func136 rfl (by kernel_rfl) rfl ?_;intro Γ hΓ
  obtain ⟨row,hr,hl,hx⟩:=autOk_row h hq
  have hr':=get_map (g:=iiRow) hr
  by_cases hb:bitB a.al l.toNat=true
  · have hlt:(lettersTo a.al l.toNat).length < row.length:=by rw [hl];exact lettersTo_lt (by omega) hb
    obtain ⟨y,hy⟩:=get_some hlt
    have hy':=get_map (g:=iRow) hy
    (repeat' first|refine sN rfl ?_|((first|refine sA rfl ?_ ?_|refine s4 rfl ‹_› rfl ?_ ?_);first|exact tI|omega|(simp only[oZ] at *;omega))|(refine s2 rfl ?_;intro _ _hb) |(refine sC rfl (l1Has_ok _ _ (by first|omega|(simp only[oZ] at *;omega)) (by first|omega|(simp only[oZ] at *;omega))) ?_;intro _ _hb)|refine sP rfl (l1Place_ok _ _ (by first|omega|(simp only[oZ] at *;omega)) (by first|omega|(simp only[oZ] at *;omega))) rfl ?_|(refine s3 rfl ?_ ?_<;>intro hb<;>subst hb)|refine aS ?_|refine reg (by kernel_rfl) ?_|refine lexE ?_|refine rD (by kernel_rfl) (by kernel_rfl) ?_|(refine aC rfl ?_ ?_<;>intro hb<;>cases hb)|refine aK ?_|refine aE ?_|refine aB ?_|refine AWp.ret ⟨_,rfl,?_⟩)
    all_goals first
      | (exfalso;grind;done)
      | (show E.o _=E.o _;congr;unfold goA;rw [if_pos hb];simp [List.getD,hr,hy];done)
  · (repeat' first|refine sN rfl ?_|((first|refine sA rfl ?_ ?_|refine s4 rfl ‹_› rfl ?_ ?_);first|exact tI|omega|(simp only[oZ] at *;omega))|(refine s2 rfl ?_;intro _ _hb) |(refine sC rfl (l1Has_ok _ _ (by first|omega|(simp only[oZ] at *;omega)) (by first|omega|(simp only[oZ] at *;omega))) ?_;intro _ _hb)|(refine s3 rfl ?_ ?_<;>intro hb<;>subst hb)|refine aS ?_|refine reg (by kernel_rfl) ?_|refine lexE ?_|refine rD (by kernel_rfl) (by kernel_rfl) ?_|(refine aC rfl ?_ ?_<;>intro hb<;>cases hb)|refine aK ?_|refine aE ?_|refine aB ?_|refine AWp.ret ⟨_,rfl,?_⟩)
    all_goals first
      | (show E.o _=E.o _;congr;unfold goA;rw [if_neg hb];done)
      | (exfalso;grind;done)
end Go.Am
namespace Go.Am
open Go Go.Proofs
set_option maxHeartbeats 1000000
attribute [local irreducible] QOp AOp Lex LexO AWp Spec
variable {TB:Amb}
structure Net where
  ps:List Sys
  au:List Aut
  st:List Int
  ls:Int
  kd:Int
  gl:Int
abbrev nRow (n:Net):List D:=[syList n.ps,auList n.au,iList n.st,iD n.ls,iD n.kd,iD n.gl]
abbrev eNet (n:Net):E:=.a [.d (syList n.ps),.d (auList n.au),.d (iList n.st),.d (iD n.ls),.d (iD n.kd),.d (iD n.gl)]
theorem l4In_ok (l:List Int) (n:Int):Pure Tryz.prog TB 154 [eInts l,eI .i64 n] (eB (decide (n∈l))):=by
  refine eN Tryz.func154 rfl (by kernel_rfl) rfl ?_;intro Γ hΓ
  refine AWp.bound 0 rfl fun hB=>?_
  have hB:=hB (l.map iRow) .refl
  (repeat' first|refine sN rfl ?_|((first|refine sA rfl ?_ ?_|refine s4 rfl ‹_› rfl ?_ ?_);first|exact tI|omega|(simp only[oZ] at *;omega))|(refine s2 rfl ?_;intro _ _hb)|(refine s3 rfl ?_ ?_<;>intro hb<;>subst hb)|refine aS ?_|refine reg (by kernel_rfl) ?_|refine lexE ?_|refine rD (by kernel_rfl) (by kernel_rfl) ?_|(refine aC rfl ?_ ?_<;>intro hb<;>cases hb)|refine aK ?_|refine aE ?_|refine aB ?_|refine AWp.ret ⟨_,rfl,?_⟩)
  refine AWp.loopL (α:={k:Nat // k≤l.length∧n∉l.take k}) (fun ⟨k,hk,ha⟩=>[(0,eInts l),(1,eI .i64 n),(5,eI .i64 k)]) (fun ⟨k,hk,ha⟩=>[]) 0 (fun ⟨k,hk,ha⟩=>l.length - k) (⟨0,by omega,by simp⟩) [] (rl3 hΓ rfl rfl) (by (repeat' first|exact tI|rfl|refine And.intro ?_ ?_)<;>simp[cX,zC,hΓ]) ?_;rintro ⟨k,hk,ha⟩;(try dsimp only)
  (repeat first|refine sN rfl ?_|((first|refine sA rfl ?_ ?_|refine s4 rfl ‹_› rfl ?_ ?_);first|exact tI|omega|(simp only[oZ] at *;omega))|(refine s2 rfl ?_;intro _ _hb)|(refine s3 rfl ?_ ?_<;>intro hb<;>subst hb)|refine aS ?_|refine reg (by kernel_rfl) ?_|refine lexE ?_|refine rD (by kernel_rfl) (by kernel_rfl) ?_)
  (refine aC rfl ?_ ?_<;>intro hb<;>cases hb)
  · obtain ⟨x,hx⟩:=get_some (l:=l) (k:=k) (by first|omega|(simp only[oZ] at *;omega))
    have hx':=get_map (g:=iRow) hx
    (repeat' first|refine sN rfl ?_|((first|refine sA rfl ?_ ?_|refine s4 rfl ‹_› rfl ?_ ?_);first|exact tI|omega|(simp only[oZ] at *;omega))|(refine s2 rfl ?_;intro _ _hb)|(refine s3 rfl ?_ ?_<;>intro hb<;>subst hb)|refine aS ?_|refine reg (by kernel_rfl) ?_|refine lexE ?_|refine rD (by kernel_rfl) (by kernel_rfl) ?_|(refine aC rfl ?_ ?_<;>intro hb<;>cases hb)|refine aK ?_|refine aE ?_|refine aB ?_|refine AWp.ret ⟨_,rfl,?_⟩)
    · have h1:=List.mem_of_getElem? hx
      show E.o _=E.o _;congr;grind
    · refine ⟨⟨k+1,by first|omega|(simp only[oZ] at *;omega),by rw [List.take_add_one,hx];grind⟩,by dsimp only;(first|omega|(simp only[oZ] at *;omega)),[],?_⟩
      simp[cX,zC,hΓ]
  · (repeat' first|refine sN rfl ?_|((first|refine sA rfl ?_ ?_|refine s4 rfl ‹_› rfl ?_ ?_);first|exact tI|omega|(simp only[oZ] at *;omega))|(refine s2 rfl ?_;intro _ _hb)|(refine s3 rfl ?_ ?_<;>intro hb<;>subst hb)|refine aS ?_|refine reg (by kernel_rfl) ?_|refine lexE ?_|refine rD (by kernel_rfl) (by kernel_rfl) ?_|(refine aC rfl ?_ ?_<;>intro hb<;>cases hb)|refine aK ?_|refine aE ?_|refine aB ?_|refine AWp.ret ⟨_,rfl,?_⟩)
    rw [List.take_of_length_le (by first|omega|(simp only[oZ] at *;omega))] at ha
    show E.o _=E.o _;congr;grind
def encN:List Int→List Int→Int→Int
  | z::zs,s::ss,n=>encN zs ss (n*z+s)
  | _,_,n=>n
end Go.Am
namespace Go.Am
open Go Go.Proofs
set_option maxHeartbeats 1000000
attribute [local irreducible] QOp AOp Lex LexO AWp Spec
variable {TB:Amb}
theorem any_step {α:Type} {l:List α} {f:α→Bool} {k:Nat} {x:α} (h:l[k]? = some x) (h1:(l.take k).any f=false) (h2:f x=false):(l.take (k+1)).any f=false:=by
  rw [List.take_add_one,h];simp [List.any_append,h1,h2]
theorem any_hit {α:Type} {l:List α} {f:α→Bool} {k:Nat} {x:α} (h:l[k]? = some x) (h2:f x=true):l.any f=true:=by
  rw [List.any_eq_true];exact ⟨x,List.mem_of_getElem? h,h2⟩
theorem any_done {α:Type} {l:List α} {f:α→Bool} {k:Nat} (h:(l.take k).any f=false) (hk:l.length≤k):l.any f=false:=by
  rwa [List.take_of_length_le hk] at h
def atD (dist:List Int) (d v:Int):Bool:=decide (dist.getD v.toNat 0=d)
def nearB (mv:List (List Int)) (dist:List Int) (d:Int):Bool:=mv.any fun r=>r.any (atD dist d)
def InR (n:Nat) (v:Int):Prop:=0≤v∧v < n
theorem l4Near_ok (mv:List (List Int)) (dist:List Int) (d:Int) (hin:∀r∈mv,∀v∈r,InR dist.length v):Pure Tryz.prog TB 153 [eIntss mv,eInts dist,eI .i64 d] (eB (nearB mv dist d)):=by
  refine eN Tryz.func153 rfl (by kernel_rfl) rfl ?_;intro Γ hΓ
  refine AWp.bound 0 rfl fun hB0=>?_
  have hB:=hB0 (mv.map iiRow) .refl
  (repeat' first|refine sN rfl ?_|((first|refine sA rfl ?_ ?_|refine s4 rfl ‹_› rfl ?_ ?_);first|exact tI|omega|(simp only[oZ] at *;omega))|(refine s2 rfl ?_;intro _ _hb)|(refine s3 rfl ?_ ?_<;>intro hb<;>subst hb)|refine aS ?_|refine reg (by kernel_rfl) ?_|refine lexE ?_|refine rD (by kernel_rfl) (by kernel_rfl) ?_|(refine aC rfl ?_ ?_<;>intro hb<;>cases hb)|refine aK ?_|refine aE ?_|refine aB ?_|refine AWp.ret ⟨_,rfl,?_⟩)
  refine AWp.loopL (α:={k:Nat // k≤mv.length∧(mv.take k).any (fun r=>r.any (atD dist d))=false}) (fun ⟨k,hk,ha⟩=>[(0,eIntss mv),(1,eInts dist),(2,eI .i64 d),(7,eI .i64 k)]) (fun ⟨k,hk,ha⟩=>[]) 0 (fun ⟨k,hk,ha⟩=>mv.length - k) (⟨0,by omega,by simp⟩) [] (rl3 hΓ rfl rfl) (by (repeat' first|exact tI|rfl|refine And.intro ?_ ?_)<;>simp[cX,zC,hΓ]) ?_;rintro ⟨k,hk,ha⟩;(try dsimp only)
  (repeat first|refine sN rfl ?_|((first|refine sA rfl ?_ ?_|refine s4 rfl ‹_› rfl ?_ ?_);first|exact tI|omega|(simp only[oZ] at *;omega))|(refine s2 rfl ?_;intro _ _hb)|(refine s3 rfl ?_ ?_<;>intro hb<;>subst hb)|refine aS ?_|refine reg (by kernel_rfl) ?_|refine lexE ?_|refine rD (by kernel_rfl) (by kernel_rfl) ?_)
  (refine aC rfl ?_ ?_<;>intro hb<;>cases hb)
  · obtain ⟨x,hx⟩:=get_some (l:=mv) (k:=k) (by first|omega|(simp only[oZ] at *;omega))
    have hx':=get_map (g:=iiRow) hx
    have hBx:=hB0 (x.map iRow) (.l (i:=k) (j:=0) (r:=iiRow x) (by simp [hx]) rfl .refl)
    have hin:=hin x (List.mem_of_getElem? hx)
    (repeat' first|refine sN rfl ?_|((first|refine sA rfl ?_ ?_|refine s4 rfl ‹_› rfl ?_ ?_);first|exact tI|omega|(simp only[oZ] at *;omega))|(refine s2 rfl ?_;intro _ _hb)|(refine s3 rfl ?_ ?_<;>intro hb<;>subst hb)|refine aS ?_|refine reg (by kernel_rfl) ?_|refine lexE ?_|refine rD (by kernel_rfl) (by kernel_rfl) ?_|(refine aC rfl ?_ ?_<;>intro hb<;>cases hb)|refine aK ?_|refine aE ?_|refine aB ?_|refine AWp.ret ⟨_,rfl,?_⟩)
    refine AWp.loopL (α:={j:Nat // j≤x.length∧(x.take j).any (atD dist d)=false}) (fun ⟨j,hj,hc⟩=>[(0,eIntss mv),(1,eInts dist),(2,eI .i64 d),(7,eI .i64 k),(8,eI .i64 j)]) (fun ⟨j,hj,hc⟩=>[]) 0 (fun ⟨j,hj,hc⟩=>x.length - j) (⟨0,by omega,by simp⟩) [] (rl3 hΓ rfl rfl) (by (repeat' first|exact tI|rfl|refine And.intro ?_ ?_)<;>simp[cX,zC,hΓ]) ?_;rintro ⟨j,hj,hc⟩;(try dsimp only)
    (repeat first|refine sN rfl ?_|((first|refine sA rfl ?_ ?_|refine s4 rfl ‹_› rfl ?_ ?_);first|exact tI|omega|(simp only[oZ] at *;omega))|(refine s2 rfl ?_;intro _ _hb)|(refine s3 rfl ?_ ?_<;>intro hb<;>subst hb)|refine aS ?_|refine reg (by kernel_rfl) ?_|refine lexE ?_|refine rD (by kernel_rfl) (by kernel_rfl) ?_)
    (refine aC rfl ?_ ?_<;>intro hb<;>cases hb)
    · obtain ⟨y,hy⟩:=get_some (l:=x) (k:=j) (by first|omega|(simp only[oZ] at *;omega))
      have hy':=get_map (g:=iRow) hy
      obtain ⟨h1,h2⟩:=hin y (List.mem_of_getElem? hy)
      obtain ⟨z,hz⟩:=get_some (l:=dist) (k:=y.toNat) (by omega)
      have hz':(dist.map iRow)[y.toNat]? = some (iRow z):=by simp [hz]
      have hat:atD dist d y=decide (z=d):=by simp [atD,hz]
      (repeat' first|refine sN rfl ?_|((first|refine sA rfl ?_ ?_|refine s4 rfl ‹_› rfl ?_ ?_);first|exact tI|omega|(simp only[oZ] at *;omega))|(refine s2 rfl ?_;intro _ _hb)|(refine s3 rfl ?_ ?_<;>intro hb<;>subst hb)|refine aS ?_|refine reg (by kernel_rfl) ?_|refine lexE ?_|refine rD (by kernel_rfl) (by kernel_rfl) ?_|(refine aC rfl ?_ ?_<;>intro hb<;>cases hb)|refine aK ?_|refine aE ?_|refine aB ?_|refine AWp.ret ⟨_,rfl,?_⟩)
      all_goals first
        | (have h3:=any_hit hx (f:=fun r=>r.any (atD dist d)) (any_hit hy (by rw [hat];grind));show E.o _=E.o _;congr;unfold nearB;rw [h3];done)
        | (refine ⟨⟨j+1,by first|omega|(simp only[oZ] at *;omega),any_step hy hc (by rw [hat];grind)⟩,by dsimp only;(first|omega|(simp only[oZ] at *;omega)),[],?_⟩;simp[cX,zC,hΓ];done)
    · (repeat' first|refine sN rfl ?_|((first|refine sA rfl ?_ ?_|refine s4 rfl ‹_› rfl ?_ ?_);first|exact tI|omega|(simp only[oZ] at *;omega))|(refine s2 rfl ?_;intro _ _hb)|(refine s3 rfl ?_ ?_<;>intro hb<;>subst hb)|refine aS ?_|refine reg (by kernel_rfl) ?_|refine lexE ?_|refine rD (by kernel_rfl) (by kernel_rfl) ?_|(refine aC rfl ?_ ?_<;>intro hb<;>cases hb)|refine aK ?_|refine aE ?_|refine aB ?_|refine AWp.ret ⟨_,rfl,?_⟩)
      refine ⟨⟨k+1,by first|omega|(simp only[oZ] at *;omega),any_step hx ha (any_done hc (by first|omega|(simp only[oZ] at *;omega)))⟩,by dsimp only;(first|omega|(simp only[oZ] at *;omega)),[],?_⟩
      simp[cX,zC,hΓ]
  · (repeat' first|refine sN rfl ?_|((first|refine sA rfl ?_ ?_|refine s4 rfl ‹_› rfl ?_ ?_);first|exact tI|omega|(simp only[oZ] at *;omega))|(refine s2 rfl ?_;intro _ _hb)|(refine s3 rfl ?_ ?_<;>intro hb<;>subst hb)|refine aS ?_|refine reg (by kernel_rfl) ?_|refine lexE ?_|refine rD (by kernel_rfl) (by kernel_rfl) ?_|(refine aC rfl ?_ ?_<;>intro hb<;>cases hb)|refine aK ?_|refine aE ?_|refine aB ?_|refine AWp.ret ⟨_,rfl,?_⟩)
    have h1:=any_done ha (by first|omega|(simp only[oZ] at *;omega))
    show E.o _=E.o _;congr;unfold nearB;rw [h1]
end Go.Am
namespace Go.Am
open Go
inductive Fits:List Int→List Int→Prop
  | nil:Fits [] []
  | cons {z s:Int} {zs ss:List Int}:0≤s→s < z→Fits zs ss→Fits (z::zs) (s::ss)
def prodI:List Int→Int
  | []=>1
  | z::zs=>z*prodI zs
theorem Fits.len {zs ss:List Int} (h:Fits zs ss):zs.length=ss.length:=by
  induction h with
  | nil=>rfl
  | cons _ _ _ ih=>simp [ih]
theorem Fits.pos {zs ss:List Int} (h:Fits zs ss):1≤prodI zs:=by
  induction h with
  | nil=>simp [prodI]
  | @cons z s zs ss h0 h1 _ ih=>
    have:1*1≤z*prodI zs:=Int.mul_le_mul (by omega) ih (by omega) (by omega)
    simpa [prodI] using this
theorem Fits.enc {zs ss:List Int} (h:Fits zs ss):∀n:Int,0≤n→0≤encN zs ss n∧encN zs ss n < (n+1)*prodI zs:=by
  induction h with
  | nil=>intro n hn;simp [encN,prodI];omega
  | @cons z s zs ss h0 h1 h2 ih=>
    intro n hn
    have hz:0≤n*z:=Int.mul_nonneg hn (by omega)
    obtain ⟨h3,h4⟩:=ih (n*z+s) (by omega)
    refine ⟨h3,Int.lt_of_lt_of_le h4 ?_⟩
    rw [prodI,←Int.mul_assoc]
    refine Int.mul_le_mul_of_nonneg_right ?_ (by have:=h2.pos;omega)
    rw [Int.add_mul];omega
theorem Fits.take {zs ss:List Int} (h:Fits zs ss):∀k,Fits (zs.take k) (ss.take k)∧prodI (zs.take k)≤prodI zs:=by
  induction h with
  | nil=>intro k;simp;exact .nil
  | @cons z s zs ss h0 h1 h2 ih=>
    intro k
    cases k with
    | zero=>
      have:=(Fits.cons h0 h1 h2).pos
      exact ⟨.nil,by simpa [prodI] using this⟩
    | succ k=>
      obtain ⟨h3,h4⟩:=ih k
      exact ⟨.cons h0 h1 h3,by simp only [List.take_succ_cons,prodI];exact Int.mul_le_mul_of_nonneg_left h4 (by omega)⟩
theorem Fits.get {zs ss:List Int} (h:Fits zs ss):∀(k:Nat) (z s:Int),zs[k]? = some z→ss[k]? = some s→0≤s∧s < z:=by
  induction h with
  | nil=>intro k z s hz;simp at hz
  | cons h0 h1 _ ih=>
    intro k z s hz hs
    cases k with
    | zero=>simp at hz hs;subst hz hs;exact ⟨h0,h1⟩
    | succ k=>exact ih k z s (by simpa using hz) (by simpa using hs)
theorem encN_step:∀ {zs ss:List Int} {k:Nat} {z s:Int} (n:Int),zs[k]? = some z→ss[k]? = some s→encN (zs.take (k+1)) (ss.take (k+1)) n=encN (zs.take k) (ss.take k) n*z+s
  | [],_,k,z,s,n,hz,_=>by simp at hz
  | a::zs,[],k,z,s,n,_,hs=>by simp at hs
  | a::zs,b::ss,0,z,s,n,hz,hs=>by
    simp at hz hs;subst hz hs;simp [encN]
  | a::zs,b::ss,k+1,z,s,n,hz,hs=>by
    simp only [List.take_succ_cons,encN]
    exact encN_step _ (by simpa using hz) (by simpa using hs)
end Go.Am
namespace Go.Am
open Go Go.Proofs
set_option maxHeartbeats 1000000
attribute [local irreducible] QOp AOp Lex LexO AWp Spec
variable {TB:Amb}
theorem l4Ok_ok (n:Net) (st:List Int) (i:Nat) (a:Aut) (q:Int) (b:Bool) (ha:n.au[i]? = some a) (hs:st[n.ps.length+i]? = some q) (h0:0≤q) (hb:a.ac[q.toNat]? = some b):Pure Tryz.prog TB 152 [eNet n,eInts st,eI .i64 i] (eB b):=by
  refine eN Tryz.func152 rfl (by kernel_rfl) rfl ?_;intro Γ hΓ
  refine AWp.bound 1 rfl fun hB0=>?_
  have hB:=hB0 (st.map iRow) .refl
  have h1:=(List.getElem?_eq_some_iff.1 hs).1
  have ha':=get_map (g:=auRow) ha
  have hs':(st.map iRow)[((n.ps.length:Int)+(i:Int)).toNat]? = some (iRow q):=by
    have:((n.ps.length:Int)+(i:Int)).toNat=n.ps.length+i:=by omega
    rw [this];simp [hs]
  have hb':(a.ac.map bRow)[q.toNat]? = some (bRow b):=by simp [hb]
  (repeat' first|refine sN rfl ?_|((first|refine sA rfl ?_ ?_|refine s4 rfl ‹_› rfl ?_ ?_);first|exact tI|omega|(simp only[oZ] at *;omega))|(refine s2 rfl ?_;intro _ _hb)|(refine s3 rfl ?_ ?_<;>intro hb<;>subst hb)|refine aS ?_|refine reg (by kernel_rfl) ?_|refine lexE ?_|refine rD (by kernel_rfl) (by kernel_rfl) ?_|(refine aC rfl ?_ ?_<;>intro hb<;>cases hb)|refine aK ?_|refine aE ?_|refine aB ?_|refine AWp.ret ⟨_,rfl,?_⟩)
  rfl
theorem l4Encode_ok (zs ss:List Int) (hf:Fits zs ss) (hp:prodI zs≤4611686018427387904):Pure Tryz.prog TB 133 [eInts zs,eInts ss] (eI .i64 (encN zs ss 0)):=by
  refine eN Tryz.func133 rfl (by kernel_rfl) rfl ?_;intro Γ hΓ
  refine AWp.bound 0 rfl fun hB0=>?_
  have hB:=hB0 (zs.map iRow) .refl
  have hlen:=hf.len
  (repeat' first|refine sN rfl ?_|((first|refine sA rfl ?_ ?_|refine s4 rfl ‹_› rfl ?_ ?_);first|exact tI|omega|(simp only[oZ] at *;omega))|(refine s2 rfl ?_;intro _ _hb)|(refine s3 rfl ?_ ?_<;>intro hb<;>subst hb)|refine aS ?_|refine reg (by kernel_rfl) ?_|refine lexE ?_|refine rD (by kernel_rfl) (by kernel_rfl) ?_|(refine aC rfl ?_ ?_<;>intro hb<;>cases hb)|refine aK ?_|refine aE ?_|refine aB ?_|refine AWp.ret ⟨_,rfl,?_⟩)
  refine AWp.loopL (α:={k:Nat // k≤zs.length}) (fun ⟨k,hk⟩=>[(0,eInts zs),(1,eInts ss),(5,eI .i64 (encN (zs.take k) (ss.take k) 0)),(6,eI .i64 k)]) (fun ⟨k,hk⟩=>[]) 0 (fun ⟨k,hk⟩=>zs.length - k) (⟨0,by omega⟩) [] (rl3 hΓ rfl rfl) (by (repeat' first|exact tI|rfl|refine And.intro ?_ ?_)<;>simp[cX,zC,hΓ]) ?_;rintro ⟨k,hk⟩;(try dsimp only)
  (repeat first|refine sN rfl ?_|((first|refine sA rfl ?_ ?_|refine s4 rfl ‹_› rfl ?_ ?_);first|exact tI|omega|(simp only[oZ] at *;omega))|(refine s2 rfl ?_;intro _ _hb)|(refine s3 rfl ?_ ?_<;>intro hb<;>subst hb)|refine aS ?_|refine reg (by kernel_rfl) ?_|refine lexE ?_|refine rD (by kernel_rfl) (by kernel_rfl) ?_)
  (refine aC rfl ?_ ?_<;>intro hb<;>cases hb)
  · obtain ⟨x,hx⟩:=get_some (l:=zs) (k:=k) (by first|omega|(simp only[oZ] at *;omega))
    have hx':=get_map (g:=iRow) hx
    obtain ⟨y,hy⟩:=get_some (l:=ss) (k:=k) (by first|omega|(simp only[oZ] at *;omega))
    have hy':=get_map (g:=iRow) hy
    have h1:=(hf.take k).1.enc 0 (by omega)
    have h2:=(hf.take (k+1)).1.enc 0 (by omega)
    have h3:=(hf.take (k+1)).2
    have h4:=encN_step 0 hx hy
    have h6:=hf.get k x y hx hy
    have h5:0≤encN (zs.take k) (ss.take k) 0*x:=Int.mul_nonneg h1.1 (by omega)
    (repeat' first|refine sN rfl ?_|((first|refine sA rfl ?_ ?_|refine s4 rfl ‹_› rfl ?_ ?_);first|exact tI|omega|(simp only[oZ] at *;omega))|(refine s2 rfl ?_;intro _ _hb)|(refine s3 rfl ?_ ?_<;>intro hb<;>subst hb)|refine aS ?_|refine reg (by kernel_rfl) ?_|refine lexE ?_|refine rD (by kernel_rfl) (by kernel_rfl) ?_|(refine aC rfl ?_ ?_<;>intro hb<;>cases hb)|refine aK ?_|refine aE ?_|refine aB ?_|refine AWp.ret ⟨_,rfl,?_⟩)
    refine ⟨⟨k+1,by first|omega|(simp only[oZ] at *;omega)⟩,by dsimp only;(first|omega|(simp only[oZ] at *;omega)),[],?_⟩
    simp[cX,zC,hΓ,h4]
  · (repeat' first|refine sN rfl ?_|((first|refine sA rfl ?_ ?_|refine s4 rfl ‹_› rfl ?_ ?_);first|exact tI|omega|(simp only[oZ] at *;omega))|(refine s2 rfl ?_;intro _ _hb)|(refine s3 rfl ?_ ?_<;>intro hb<;>subst hb)|refine aS ?_|refine reg (by kernel_rfl) ?_|refine lexE ?_|refine rD (by kernel_rfl) (by kernel_rfl) ?_|(refine aC rfl ?_ ?_<;>intro hb<;>cases hb)|refine aK ?_|refine aE ?_|refine aB ?_|refine AWp.ret ⟨_,rfl,?_⟩)
    rw [List.take_of_length_le (by first|omega|(simp only[oZ] at *;omega)),List.take_of_length_le (by first|omega|(simp only[oZ] at *;omega))]
end Go.Am
namespace Go.Am
open Go Go.Proofs
set_option maxHeartbeats 1000000
attribute [local irreducible] QOp AOp Lex LexO AWp Spec
variable {TB:Amb}
def sizesN (n:Net):List Int:=n.ps.map (·.st)++n.au.map (fun a=>(a.nx.length:Int))
theorem l4Sizes_ok (n:Net) (hsm:n.ps.length+n.au.length≤1000000):Pure Tryz.prog TB 128 [eNet n] (eInts (sizesN n)):=by
  refine eN Tryz.func128 rfl (by kernel_rfl) rfl ?_;intro Γ hΓ
  (repeat first|refine sN rfl ?_|((first|refine sM rfl ?_ ?_|refine s4 rfl ‹_› rfl ?_ ?_);first|exact tI|omega|(simp only[oZ] at *;omega))|(refine s2 rfl ?_;intro _ _hb)|(refine s3 rfl ?_ ?_<;>intro hb<;>subst hb)|refine aS ?_|refine reg (by kernel_rfl) ?_|refine lexE ?_|refine rD (by kernel_rfl) (by kernel_rfl) ?_)
  (refine popO rfl ?_;refine popS (fun _ _=>q_boxI rfl rfl rfl) rfl ?_)
  (refine popO rfl ?_;refine popS (fun _ _=>q_assign rfl) rfl ?_)
  (repeat first|refine sN rfl ?_|((first|refine sM rfl ?_ ?_|refine s4 rfl ‹_› rfl ?_ ?_);first|exact tI|omega|(simp only[oZ] at *;omega))|(refine s2 rfl ?_;intro _ _hb)|(refine s3 rfl ?_ ?_<;>intro hb<;>subst hb)|refine aS ?_|refine reg (by kernel_rfl) ?_|refine lexE ?_|refine rD (by kernel_rfl) (by kernel_rfl) ?_)
  (refine popO rfl ?_;refine popW ?_ rfl (by rfl);refine n_sliceB rfl rfl rfl rfl (by simp) (by rfl) (by rfl) (by rfl) (by rfl) ?_)
  (repeat first|refine sN rfl ?_|((first|refine sM rfl ?_ ?_|refine s4 rfl ‹_› rfl ?_ ?_);first|exact tI|omega|(simp only[oZ] at *;omega))|(refine s2 rfl ?_;intro _ _hb)|(refine s3 rfl ?_ ?_<;>intro hb<;>subst hb)|refine aS ?_|refine reg (by kernel_rfl) ?_|refine lexE ?_|refine rD (by kernel_rfl) (by kernel_rfl) ?_)
  refine AWp.block ?_
  refine AWp.loopL (α:={k:Nat // k≤n.ps.length}) (fun ⟨k,hk⟩=>[(1,.o (.ip (nRow n))),(3,.o (.arr 0 1 0 k)),(4,eI .i64 k)]) (fun ⟨k,hk⟩=>[(0,.cells 3 1 (((n.ps.take k).map (·.st)).map iRowC))]) 1 (fun ⟨k,hk⟩=>n.ps.length - k) (⟨0,by omega⟩) [0] (rl3 hΓ rfl rfl) (by (repeat' first|exact tI|rfl|refine And.intro ?_ ?_)<;>simp[cX,zC,hΓ]) ?_;rintro ⟨k,hk⟩;(try dsimp only)
  (repeat first|refine sN rfl ?_|((first|refine sM rfl ?_ ?_|refine s4 rfl ‹_› rfl ?_ ?_);first|exact tI|omega|(simp only[oZ] at *;omega))|(refine s2 rfl ?_;intro _ _hb)|(refine s3 rfl ?_ ?_<;>intro hb<;>subst hb)|refine aS ?_|refine reg (by kernel_rfl) ?_|refine lexE ?_|refine rD (by kernel_rfl) (by kernel_rfl) ?_)
  (refine aC rfl ?_ ?_<;>intro hb<;>cases hb)
  · obtain ⟨x,hx⟩:=get_some (l:=n.ps) (k:=k) (by first|omega|(simp only[oZ] at *;omega))
    have hx':=get_map (g:=syRow) hx
    refine AWp.skip ?_
    refine AWp.seq (AWp.block ?_)
    (repeat first|refine sN rfl ?_|((first|refine sA rfl ?_ ?_|refine s4 rfl ‹_› rfl ?_ ?_);first|exact tI|omega|(simp only[oZ] at *;omega))|(refine s2 rfl ?_;intro _ _hb)|(refine s3 rfl ?_ ?_<;>intro hb<;>subst hb)|refine aS ?_|refine reg (by kernel_rfl) ?_|refine lexE ?_|refine rD (by kernel_rfl) (by kernel_rfl) ?_)
    (refine popO rfl ?_;refine popW ?_ rfl (by rfl);refine n_append rfl rfl rfl (by first|(simp;done)|(simp;(first|omega|(simp only[oZ] at *;omega)))) rfl (by intro r hr;simp at hr;subst hr;rfl) (by rfl) (Nat.le_of_ble_eq_true rfl) (by simp;first|omega|(simp only[oZ] at *;omega)) ?_)
    (repeat first|refine sN rfl ?_|((first|refine sX rfl ?_ ?_|refine s4 rfl ‹_› rfl ?_ ?_);first|exact tI|omega|(simp only[oZ] at *;omega))|(refine s2 rfl ?_;intro _ _hb)|(refine s3 rfl ?_ ?_<;>intro hb<;>subst hb)|refine aS ?_|refine reg (by kernel_rfl) ?_|refine lexE ?_|refine rD (by kernel_rfl) (by kernel_rfl) ?_)
    refine ⟨⟨k+1,by first|omega|(simp only[oZ] at *;omega)⟩,by dsimp only;(first|omega|(simp only[oZ] at *;omega)),[1],?_⟩
    simp[cX,zC,hΓ,List.take_add_one,hx]
  · obtain rfl:k=n.ps.length:=by first|omega|(simp only[oZ] at *;omega)
    refine AWp.exit ?_
    (repeat first|refine sN rfl ?_|((first|refine sM rfl ?_ ?_|refine s4 rfl ‹_› rfl ?_ ?_);first|exact tI|omega|(simp only[oZ] at *;omega))|(refine s2 rfl ?_;intro _ _hb)|(refine s3 rfl ?_ ?_<;>intro hb<;>subst hb)|refine aS ?_|refine reg (by kernel_rfl) ?_|refine lexE ?_|refine rD (by kernel_rfl) (by kernel_rfl) ?_)
    refine AWp.block ?_
    refine AWp.loopL (α:={j:Nat // j≤n.au.length}) (fun ⟨j,hj⟩=>[(1,.o (.ip (nRow n))),(3,.o (.arr 0 1 0 (n.ps.length+j))),(5,eI .i64 j)]) (fun ⟨j,hj⟩=>[(0,.cells 3 1 ((n.ps.map (·.st)++(n.au.take j).map (fun a=>(a.nx.length:Int))).map iRowC))]) 1 (fun ⟨j,hj⟩=>n.au.length - j) (⟨0,by omega⟩) [0] (rl3 hΓ rfl rfl) (by (repeat' first|exact tI|rfl|refine And.intro ?_ ?_)<;>simp[cX,zC,hΓ]) ?_;rintro ⟨j,hj⟩;(try dsimp only)
    (repeat first|refine sN rfl ?_|((first|refine sM rfl ?_ ?_|refine s4 rfl ‹_› rfl ?_ ?_);first|exact tI|omega|(simp only[oZ] at *;omega))|(refine s2 rfl ?_;intro _ _hb)|(refine s3 rfl ?_ ?_<;>intro hb<;>subst hb)|refine aS ?_|refine reg (by kernel_rfl) ?_|refine lexE ?_|refine rD (by kernel_rfl) (by kernel_rfl) ?_)
    (refine aC rfl ?_ ?_<;>intro hb<;>cases hb)
    · obtain ⟨x,hx⟩:=get_some (l:=n.au) (k:=j) (by first|omega|(simp only[oZ] at *;omega))
      have hx':=get_map (g:=auRow) hx
      refine AWp.skip ?_
      refine AWp.seq (AWp.block ?_)
      (repeat first|refine sN rfl ?_|((first|refine sA rfl ?_ ?_|refine s4 rfl ‹_› rfl ?_ ?_);first|exact tI|omega|(simp only[oZ] at *;omega))|(refine s2 rfl ?_;intro _ _hb)|(refine s3 rfl ?_ ?_<;>intro hb<;>subst hb)|refine aS ?_|refine reg (by kernel_rfl) ?_|refine lexE ?_|refine rD (by kernel_rfl) (by kernel_rfl) ?_)
      (refine popO rfl ?_;refine popW ?_ rfl (by rfl);refine n_append rfl rfl rfl (by first|(simp;done)|(simp;(first|omega|(simp only[oZ] at *;omega)))) rfl (by intro r hr;simp at hr;subst hr;rfl) (by rfl) (Nat.le_of_ble_eq_true rfl) (by simp;first|omega|(simp only[oZ] at *;omega)) ?_)
      (repeat first|refine sN rfl ?_|((first|refine sX rfl ?_ ?_|refine s4 rfl ‹_› rfl ?_ ?_);first|exact tI|omega|(simp only[oZ] at *;omega))|(refine s2 rfl ?_;intro _ _hb)|(refine s3 rfl ?_ ?_<;>intro hb<;>subst hb)|refine aS ?_|refine reg (by kernel_rfl) ?_|refine lexE ?_|refine rD (by kernel_rfl) (by kernel_rfl) ?_)
      refine ⟨⟨j+1,by first|omega|(simp only[oZ] at *;omega)⟩,by dsimp only;(first|omega|(simp only[oZ] at *;omega)),[1],?_⟩
      simp[cX,zC,hΓ,List.take_add_one,hx,Nat.add_assoc]
    · obtain rfl:j=n.au.length:=by first|omega|(simp only[oZ] at *;omega)
      refine AWp.exit ?_
      (repeat first|refine sN rfl ?_|((first|refine sM rfl ?_ ?_|refine s4 rfl ‹_› rfl ?_ ?_);first|exact tI|omega|(simp only[oZ] at *;omega))|(refine s2 rfl ?_;intro _ _hb)|(refine s3 rfl ?_ ?_<;>intro hb<;>subst hb)|refine aS ?_|refine reg (by kernel_rfl) ?_|refine lexE ?_|refine rD (by kernel_rfl) (by kernel_rfl) ?_)
      refine AWp.freeze [0] [(2,.o (.d (iList (sizesN n))))] ⟨⟨_,rfl,.o (.full (by simp) rfl (by simp [Function.comp_def,sizesN]) (by simp))⟩,trivial⟩ ?_
      refine AWp.ret ⟨_,rfl,rfl⟩
end Go.Am
namespace Go.Am
open Go Go.Proofs
set_option maxHeartbeats 1000000
attribute [local irreducible] QOp AOp Lex LexO AWp Spec
variable {TB:Amb}
def decN:List Int→Int→List Int
  | [],_=>[]
  | z::zs,n=>n / prodI zs % z::decN zs n
theorem decN_len:∀(zs:List Int) (n:Int),(decN zs n).length=zs.length
  | [],_=>rfl
  | z::zs,n=>by simp [decN,decN_len zs n]
theorem set_mid {α:Type} (a x:α) (k:Nat) (L:List α):(List.replicate (k+1) a++L).set k x=List.replicate k a++x::L:=by
  rw [List.set_append_left _ _ (by simp),List.replicate_succ',List.set_append_right _ _ (by simp)]
  simp
theorem l4Decode_ok (zs:List Int) (n:Int) (h0:0≤n) (h1:n≤9223372036854775807) (hz:∀z∈zs,0 < z) (hl:zs.length≤1000000):Pure Tryz.prog TB 131 [eInts zs,eI .i64 n] (eInts (decN zs n)):=by
  have hpp:∀k,0 < prodI (zs.drop k):=by
    intro k
    have:∀l:List Int,(∀z∈l,0 < z)→0 < prodI l:=by
      intro l
      induction l with
      | nil=>intro _;simp [prodI]
      | cons a l ih=>intro h;exact Int.mul_pos (h a (by simp)) (ih fun z hz=>h z (by simp [hz]))
    exact this _ fun z h=>hz z (List.mem_of_mem_drop h)
  refine eN Tryz.func131 rfl (by kernel_rfl) rfl ?_;intro Γ hΓ
  (repeat first|refine sN rfl ?_|((first|refine sM rfl ?_ ?_|refine s4 rfl ‹_› rfl ?_ ?_);first|exact tI|omega|(simp only[oZ] at *;omega))|(refine s2 rfl ?_;intro _ _hb)|(refine s3 rfl ?_ ?_<;>intro hb<;>subst hb)|refine aS ?_|refine reg (by kernel_rfl) ?_|refine lexE ?_|refine rD (by kernel_rfl) (by kernel_rfl) ?_)
  (refine popO rfl ?_;refine popS (fun _ _=>q_assign rfl) rfl ?_)
  (repeat first|refine sN rfl ?_|((first|refine sM rfl ?_ ?_|refine s4 rfl ‹_› rfl ?_ ?_);first|exact tI|omega|(simp only[oZ] at *;omega))|(refine s2 rfl ?_;intro _ _hb)|(refine s3 rfl ?_ ?_<;>intro hb<;>subst hb)|refine aS ?_|refine reg (by kernel_rfl) ?_|refine lexE ?_|refine rD (by kernel_rfl) (by kernel_rfl) ?_)
  (refine popO rfl ?_;refine popW ?_ rfl (by rfl);refine n_make rfl rfl (by rfl) (by rfl) (Nat.le_of_ble_eq_true rfl) (by omega) (by omega) (by omega) ?_)
  (repeat first|refine sN rfl ?_|((first|refine sM rfl ?_ ?_|refine s4 rfl ‹_› rfl ?_ ?_);first|exact tI|omega|(simp only[oZ] at *;omega))|(refine s2 rfl ?_;intro _ _hb)|(refine s3 rfl ?_ ?_<;>intro hb<;>subst hb)|refine aS ?_|refine reg (by kernel_rfl) ?_|refine lexE ?_|refine rD (by kernel_rfl) (by kernel_rfl) ?_)
  refine AWp.block ?_
  refine AWp.loopL (α:={k:Nat // k≤zs.length}) (fun ⟨k,hk⟩=>[(0,eInts zs),(1,eI .i64 (n / prodI (zs.drop k))),(5,.o (.arr 0 1 0 zs.length)),(6,eI .i64 ((k:Int) - 1))]) (fun ⟨k,hk⟩=>[(0,.cells 3 1 ((List.replicate k 0++decN (zs.drop k) n).map iRowC))]) 1 (fun ⟨k,hk⟩=>k) (⟨zs.length,by omega⟩) [0] (rl3 hΓ rfl rfl) (by (repeat' first|exact tI|rfl|refine And.intro ?_ ?_)<;>simp[cX,zC,hΓ,decN,prodI]) ?_;rintro ⟨k,hk⟩;(try dsimp only)
  (repeat first|refine sN rfl ?_|((first|refine sM rfl ?_ ?_|refine s4 rfl ‹_› rfl ?_ ?_);first|exact tI|omega|(simp only[oZ] at *;omega))|(refine s2 rfl ?_;intro _ _hb)|(refine s3 rfl ?_ ?_<;>intro hb<;>subst hb)|refine aS ?_|refine reg (by kernel_rfl) ?_|refine lexE ?_|refine rD (by kernel_rfl) (by kernel_rfl) ?_)
  (refine aC rfl ?_ ?_<;>intro hb<;>cases hb)
  · obtain ⟨k,rfl⟩:∃k',k=k'+1:=⟨k - 1,by first|omega|(simp only[oZ] at *;omega)⟩
    obtain ⟨x,hx⟩:=get_some (l:=zs) (k:=k) (by first|omega|(simp only[oZ] at *;omega))
    have hx':(zs.map iRow)[(((k+1:Nat):Int) - 1).toNat]? = some (iRow x):=by simp [hx]
    have hxp:=hz x (List.mem_of_getElem? hx)
    have hd:=drop_some hx
    have hP:=hpp (k+1)
    have h2:0≤n / prodI (zs.drop (k+1)):=Int.ediv_nonneg h0 (by omega)
    have h3:n / prodI (zs.drop (k+1))≤n:=Int.ediv_le_self _ h0
    have hi:((((k+1:Nat):Int) - 1).toNat)=k:=by omega
    refine AWp.skip ?_
    refine AWp.seq (AWp.block ?_)
    (repeat first|refine sN rfl ?_|((first|refine sA rfl ?_ ?_|refine s4 rfl ‹_› rfl ?_ ?_);first|exact tI|omega|(simp only[oZ] at *;omega))|(refine s2 rfl ?_;intro _ _hb)|(refine s3 rfl ?_ ?_<;>intro hb<;>subst hb)|refine aS ?_|refine reg (by kernel_rfl) ?_|refine lexE ?_|refine rD (by kernel_rfl) (by kernel_rfl) ?_)
    (refine popO rfl ?_;refine popW0 ?_ rfl (by rfl);refine n_store (r:=iRowC 0) rfl rfl rfl rfl (by rw [Nat.zero_add,hi,List.getElem?_map,List.getElem?_append_left (by simp)];simp) rfl (Nat.le_of_ble_eq_true rfl) ?_)
    (repeat first|refine sN rfl ?_|((first|refine sA rfl ?_ ?_|refine s4 rfl ‹_› rfl ?_ ?_);first|exact tI|omega|(simp only[oZ] at *;omega))|(refine s2 rfl ?_;intro _ _hb)|(refine s3 rfl ?_ ?_<;>intro hb<;>subst hb)|refine aS ?_|refine reg (by kernel_rfl) ?_|refine lexE ?_|refine rD (by kernel_rfl) (by kernel_rfl) ?_)
    refine ⟨⟨k,by first|omega|(simp only[oZ] at *;omega)⟩,by dsimp only;(first|omega|(simp only[oZ] at *;omega)),[0],?_⟩
    rw [Nat.zero_add,hi]
    have h5:((List.replicate (k+1) (0:Int)++decN (zs.drop (k+1)) n).map iRowC).set k (iRowC (n / prodI (zs.drop (k+1)) % x))=(List.replicate k 0++decN (zs.drop k) n).map iRowC:=by
      rw [←List.map_set,set_mid,hd,decN]
    have h6:n / prodI (zs.drop (k+1)) / x=n / prodI (zs.drop k):=by
      rw [hd,prodI,Int.mul_comm,Int.ediv_ediv_of_nonneg (by omega)]
    have h7:spliceC (iRowC 0) 0 (eC (eI .i64 (n / prodI (zs.drop (k+1)) % x)))=iRowC (n / prodI (zs.drop (k+1)) % x):=rfl
    rw [h7,h5]
    simp[cX,zC,hΓ,h6]
  · obtain rfl:k=0:=by first|omega|(simp only[oZ] at *;omega)
    refine AWp.exit ?_
    (repeat first|refine sN rfl ?_|((first|refine sM rfl ?_ ?_|refine s4 rfl ‹_› rfl ?_ ?_);first|exact tI|omega|(simp only[oZ] at *;omega))|(refine s2 rfl ?_;intro _ _hb)|(refine s3 rfl ?_ ?_<;>intro hb<;>subst hb)|refine aS ?_|refine reg (by kernel_rfl) ?_|refine lexE ?_|refine rD (by kernel_rfl) (by kernel_rfl) ?_)
    refine AWp.freeze [0] [(4,.o (.d (iList (decN zs n))))] ⟨⟨_,rfl,.o (.full (by simp) rfl (by simp [Function.comp_def]) (by simp [decN_len]))⟩,trivial⟩ ?_
    refine AWp.ret ⟨_,rfl,rfl⟩
end Go.Am
namespace Go.Am
open Go
def sysTo (s:Sys) (q l:Int):List Int:=if bitB s.al l.toNat then (s.es.filter fun e=>decide (e.f=q) && decide (e.l=l)).map (·.t) else [q]
theorem befB_trans {a b c:Edg} (h:befB a b=true) (k:befB b c=true):befB a c=true:=by
  unfold befB at *;grind
theorem sysOk_head {s:Sys} (h:sysOk s=true):alphB s.al=true∧1≤s.st∧s.st≤16:=by
  unfold sysOk at h;grind
theorem sysOk_edge {s:Sys} (h:sysOk s=true) {e:Edg} (he:e∈s.es):edgeOk s.al s.st e=true:=by
  obtain ⟨k,hk,rfl⟩:=List.getElem_of_mem he
  unfold sysOk at h
  simp only [Bool.and_eq_true,List.all_eq_true] at h
  have h1:=h.2 k (List.mem_range.2 hk)
  cases k with
  | zero=>rw [sysAt_0 (List.getElem?_eq_getElem hk)] at h1;exact h1
  | succ k=>rw [sysAt_s (List.getElem?_eq_getElem hk) (List.getElem?_eq_getElem (by omega))] at h1;grind
theorem sysOk_sorted {s:Sys} (h:sysOk s=true):s.es.Pairwise fun a b=>befB a b=true:=by
  have key:∀(l:List Edg),(∀(k:Nat) (p e:Edg),l[k]? = some p→l[k+1]? = some e→befB p e=true)→l.Pairwise fun a b=>befB a b=true:=by
    intro l
    induction l with
    | nil=>intro _;exact .nil
    | cons a l ih=>
      intro hl
      have h1:=ih fun k p e hp he=>hl (k+1) p e (by simpa using hp) (by simpa using he)
      refine List.pairwise_cons.2 ⟨fun b hb=>?_,h1⟩
      cases l with
      | nil=>cases hb
      | cons c l=>
        have h2:=hl 0 a c rfl rfl
        rcases List.mem_cons.1 hb with rfl|hb
        · exact h2
        · exact befB_trans h2 ((List.pairwise_cons.1 h1).1 b hb)
  refine key _ fun k p e hp he=>?_
  unfold sysOk at h
  simp only [Bool.and_eq_true,List.all_eq_true] at h
  have h1:=h.2 (k+1) (List.mem_range.2 (List.getElem?_eq_some_iff.1 he).1)
  rw [sysAt_s he hp] at h1
  grind
theorem incr_len:∀(l:List Int) (a b:Int),(a::l).Pairwise (· < ·)→(∀x∈a::l,x < b)→a+((l.length:Int)+1)≤b
  | [],a,b,_,h=>by have:=h a (by simp);simp;omega
  | c::l,a,b,hp,h=>by
    have h1:=incr_len l c b (List.pairwise_cons.1 hp).2 fun x hx=>h x (by simp at hx ⊢;exact .inr hx)
    have h2:=(List.pairwise_cons.1 hp).1 c (by simp)
    simp;omega
theorem sysTo_sorted {s:Sys} (h:sysOk s=true) (q l:Int):(sysTo s q l).Pairwise (· < ·):=by
  unfold sysTo
  split
  · rw [List.pairwise_map]
    refine List.Pairwise.imp_of_mem (fun {a b} ha hb hab=>?_) ((sysOk_sorted h).filter _)
    have h1:=(List.mem_filter.1 ha).2
    have h2:=(List.mem_filter.1 hb).2
    unfold befB at hab
    grind
  · simp
theorem sysTo_in {s:Sys} (h:sysOk s=true) {q l:Int} (h0:0≤q) (h1:q < s.st) {x:Int} (hx:x∈sysTo s q l):0≤x∧x < s.st:=by
  unfold sysTo at hx
  split at hx
  · obtain ⟨e,he,rfl⟩:=List.mem_map.1 hx
    have h2:=sysOk_edge h (List.mem_filter.1 he).1
    unfold edgeOk at h2
    grind
  · simp at hx;subst hx;exact ⟨h0,h1⟩
theorem sysTo_len {s:Sys} (h:sysOk s=true) {q l:Int} (h0:0≤q) (h1:q < s.st):((sysTo s q l).length:Int)≤s.st:=by
  have h2:=sysTo_sorted h q l
  have h3:∀x∈sysTo s q l,0≤x∧x < s.st:=fun x hx=>sysTo_in h h0 h1 hx
  generalize sysTo s q l=m at h2 h3
  cases m with
  | nil=>simp;omega
  | cons a m=>
    have h4:=incr_len m a s.st h2 fun x hx=>(h3 x hx).2
    have h5:=h3 a (by simp)
    simp;omega
theorem goA_in {a:Aut} (h:autOk a=true) {q:Nat} (hq:q < a.nx.length) {l:Int} (h0:0≤l) (h1:l < 6):0≤goA a q l∧goA a q l < a.nx.length:=by
  obtain ⟨row,hr,hl,hx⟩:=autOk_row h hq
  unfold goA
  split
  · rename_i hb
    have hlt:(lettersTo a.al l.toNat).length < row.length:=by rw [hl];exact lettersTo_lt (by omega) hb
    obtain ⟨y,hy⟩:=get_some hlt
    have:=hx _ y hy
    simpa [List.getD,hr,hy] using this
  · omega
structure NetOk (n:Net):Prop where
  ps:∀s∈n.ps,sysOk s=true
  au:∀a∈n.au,autOk a=true
  np:n.ps.length≤3
  na:n.au.length≤2
def choL (n:Net) (st:List Int) (l:Int):List (List Int):=n.ps.zipWith (fun s q=>sysTo s q l) st++n.au.zipWith (fun a q=>[goA a q.toNat l]) (st.drop n.ps.length)
def mixN:List Int→List (List Int)→List Int→List Int
  | z::zs,c::cs,out=>mixN zs cs (out.flatMap fun o=>c.map fun x=>o*z+x)
  | _,_,out=>out
def nextsN (n:Net) (zs st:List Int) (l:Int):List Int:=mixN zs (choL n st l) [0]
inductive ChOk:List Int→List (List Int)→Prop
  | nil:ChOk [] []
  | cons {z:Int} {c:List Int} {zs:List Int} {cs:List (List Int)}:(∀x∈c,0≤x∧x < z)→(c.length:Int)≤z→ChOk zs cs→ChOk (z::zs) (c::cs)
theorem mixN_step:∀ {zs:List Int} {cs:List (List Int)} {k:Nat} {z:Int} {c:List Int} (out:List Int),zs[k]? = some z→cs[k]? = some c→
    mixN (zs.take (k+1)) (cs.take (k+1)) out=(mixN (zs.take k) (cs.take k) out).flatMap fun o=>c.map fun x=>o*z+x
  | [],_,k,z,s,n,hz,_=>by simp at hz
  | a::zs,[],k,z,s,n,_,hs=>by simp at hs
  | a::zs,b::ss,0,z,s,n,hz,hs=>by
    simp at hz hs;subst hz hs;simp [mixN]
  | a::zs,b::ss,k+1,z,s,n,hz,hs=>by
    simp only [List.take_succ_cons,mixN]
    exact mixN_step _ (by simpa using hz) (by simpa using hs)
theorem flat_len {α β:Type} (l:List α) (g:α→List β) (n:Int) (h:∀x∈l,((g x).length:Int)≤n):((l.flatMap g).length:Int)≤l.length*n:=by
  induction l with
  | nil=>simp
  | cons a l ih=>
    have h1:=h a (by simp)
    have h2:=ih fun x hx=>h x (by simp [hx])
    simp only [List.flatMap_cons,List.length_append,List.length_cons]
    have h3:((l.length:Int)+1)*n=l.length*n+n:=by rw [Int.add_mul];simp
    push_cast
    omega
theorem mixN_in {zs:List Int} {cs:List (List Int)} (h:ChOk zs cs):∀(out:List Int) (B:Int),(∀o∈out,0≤o∧o < B)→0≤B→(out.length:Int)≤B→
    (∀v∈mixN zs cs out,0≤v∧v < B*prodI zs)∧((mixN zs cs out).length:Int)≤B*prodI zs:=by
  induction h with
  | nil=>intro out B ho hB hl;simp [mixN,prodI];exact ⟨ho,hl⟩
  | @cons z c zs cs hc hcl _ ih=>
    intro out B ho hB hl
    have hz:0≤z:=by omega
    have h1:=ih (out.flatMap fun o=>c.map fun x=>o*z+x) (B*z) (fun v hv=>by
      obtain ⟨o,ho',hv⟩:=List.mem_flatMap.1 hv
      obtain ⟨x,hx,rfl⟩:=List.mem_map.1 hv
      obtain ⟨h2,h3⟩:=ho o ho'
      obtain ⟨h4,h5⟩:=hc x hx
      have h6:0≤o*z:=Int.mul_nonneg h2 hz
      have h7:(o+1)*z≤B*z:=Int.mul_le_mul_of_nonneg_right (by omega) hz
      rw [Int.add_mul] at h7
      omega) (Int.mul_nonneg hB hz) (by
        have h2:=flat_len out (fun o=>c.map fun x=>o*z+x) z (fun x _=>by simpa using hcl)
        have h3:(out.length:Int)*z≤B*z:=Int.mul_le_mul_of_nonneg_right hl hz
        omega)
    rw [mixN,prodI,←Int.mul_assoc]
    exact h1
theorem ChOk.take {zs:List Int} {cs:List (List Int)} (h:ChOk zs cs):∀k,ChOk (zs.take k) (cs.take k):=by
  induction h with
  | nil=>intro k;simp;exact .nil
  | cons h1 h2 h3 ih=>
    intro k
    cases k with
    | zero=>exact .nil
    | succ k=>exact .cons h1 h2 (ih k)
theorem ChOk.get {zs:List Int} {cs:List (List Int)} (h:ChOk zs cs):∀(k:Nat) (z:Int) (c:List Int),zs[k]? = some z→cs[k]? = some c→(∀x∈c,0≤x∧x < z)∧(c.length:Int)≤z:=by
  induction h with
  | nil=>intro k z s hz;simp at hz
  | cons h0 h1 _ ih=>
    intro k z s hz hs
    cases k with
    | zero=>simp at hz hs;subst hz hs;exact ⟨h0,h1⟩
    | succ k=>exact ih k z s (by simpa using hz) (by simpa using hs)
theorem ChOk.len {zs:List Int} {cs:List (List Int)} (h:ChOk zs cs):zs.length=cs.length:=by
  induction h with
  | nil=>rfl
  | cons _ _ _ ih=>simp [ih]
theorem Fits.split {zs zs' ss:List Int} (h:Fits (zs++zs') ss):Fits zs (ss.take zs.length)∧Fits zs' (ss.drop zs.length):=by
  induction zs generalizing ss with
  | nil=>exact ⟨.nil,h⟩
  | cons a zs ih=>
    cases h with
    | cons h0 h1 h2=>exact ⟨.cons h0 h1 (ih h2).1,(ih h2).2⟩
theorem ChOk.app {zs zs':List Int} {cs cs':List (List Int)} (h:ChOk zs cs) (h':ChOk zs' cs'):ChOk (zs++zs') (cs++cs'):=by
  induction h with
  | nil=>exact h'
  | cons h0 h1 _ ih=>exact .cons h0 h1 ih
theorem zipWith_take {α β γ:Type} (f:α→β→γ):∀(l:List α) (m:List β),l.zipWith f m=l.zipWith f (m.take l.length)
  | [],_=>by simp
  | a::l,[]=>by simp
  | a::l,b::m=>by simp [zipWith_take f l m]
theorem choL_ok {n:Net} (hn:NetOk n) {st:List Int} (hf:Fits (sizesN n) st) {l:Int} (h0:0≤l) (h1:l < 6):ChOk (sizesN n) (choL n st l):=by
  unfold sizesN at *
  obtain ⟨ha,hb⟩:=hf.split
  rw [List.length_map] at ha hb
  unfold choL
  refine ChOk.app ?_ ?_
  · have : n.ps.zipWith (fun s q=>sysTo s q l) st=n.ps.zipWith (fun s q=>sysTo s q l) (st.take n.ps.length):=by
      exact zipWith_take _ _ _
    rw [this]
    have hp:=hn.ps
    generalize st.take n.ps.length=ss at ha
    generalize n.ps=ps at ha hp
    induction ps generalizing ss with
    | nil=>cases ha;exact .nil
    | cons s ps ih=>
      cases ha with
      | cons h2 h3 h4=>
        have hs:=hp s (by simp)
        exact .cons (fun x hx=>sysTo_in hs h2 h3 hx) (sysTo_len hs h2 h3) (ih _ h4 fun t ht=>hp t (by simp [ht]))
  · have hp:=hn.au
    generalize st.drop n.ps.length=ss at hb
    generalize n.au=au at hb hp
    induction au generalizing ss with
    | nil=>cases hb;exact .nil
    | cons s ps ih=>
      cases hb with
      | @cons _ q _ _ h2 h3 h4=>
        have hs:=hp s (by simp)
        dsimp only at h3
        have h5:=goA_in hs (q:=q.toNat) (by omega) h0 h1
        exact .cons (fun x hx=>by simp at hx;subst hx;exact h5) (by dsimp only;simp;omega) (ih _ h4 fun t ht=>hp t (by simp [ht]))
theorem sizes_pos {n:Net} (hn:NetOk n):∀z∈sizesN n,1≤z∧z≤16:=by
  intro z hz
  unfold sizesN at hz
  rcases List.mem_append.1 hz with h|h
  · obtain ⟨s,hs,rfl⟩:=List.mem_map.1 h
    have:=sysOk_head (hn.ps s hs)
    omega
  · obtain ⟨a,ha,rfl⟩:=List.mem_map.1 h
    have:=autOk_head (hn.au a ha)
    omega
theorem prodI_le:∀(l:List Int),(∀z∈l,1≤z∧z≤16)→1≤prodI l∧prodI l≤16 ^ l.length
  | [],_=>by simp [prodI]
  | z::l,h=>by
    obtain ⟨h1,h2⟩:=prodI_le l fun x hx=>h x (by simp [hx])
    obtain ⟨h3,h4⟩:=h z (by simp)
    have h5:z*prodI l≤16*16 ^ l.length:=Int.mul_le_mul h4 h2 (by omega) (by omega)
    have h6:1*1≤z*prodI l:=Int.mul_le_mul h3 h1 (by omega) (by omega)
    have h7:(16:Int) ^ (l.length+1)=16*16 ^ l.length:=by rw [Int.pow_succ,Int.mul_comm]
    simp only [prodI,List.length_cons,h7]
    exact ⟨by simpa using h6,h5⟩
theorem prod_le {n:Net} (hn:NetOk n):1≤prodI (sizesN n)∧prodI (sizesN n)≤1048576:=by
  obtain ⟨h1,h2⟩:=prodI_le _ (sizes_pos hn)
  refine ⟨h1,Int.le_trans h2 ?_⟩
  have h3:(sizesN n).length≤5:=by unfold sizesN;have:=hn.np;have:=hn.na;simp;omega
  generalize (sizesN n).length=k at h3
  have:k=0∨k=1∨k=2∨k=3∨k=4∨k=5:=by omega
  rcases this with rfl|rfl|rfl|rfl|rfl|rfl<;>decide
end Go.Am
