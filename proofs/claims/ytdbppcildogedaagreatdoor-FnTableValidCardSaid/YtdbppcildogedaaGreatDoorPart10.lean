/-
  Letters, more.
-/
import Derived.Test.YtdbppcildogedaaGreatDoorPart9
import Derived.Lib.TrailingZeros
set_option linter.constructorNameAsVariable false
set_option linter.unusedSimpArgs false
set_option linter.unusedVariables false
namespace Go.Am
open Go Go.Proofs
set_option maxHeartbeats 1000000
attribute [local irreducible] QOp AOp Lex LexO AWp Spec
variable {TB:Amb}
theorem l1Text_ok (n:Int) (h0:0≤n) (h1:n < 128):Pure Tryz.prog TB 85 [eI .i64 n] (eT [UInt8.ofNat (97+n.toNat)]):=by
  refine eN Tryz.func85 rfl (by kernel_rfl) rfl ?_;intro Γ hΓ
  (repeat first|refine sN rfl ?_|((first|refine sA rfl ?_ ?_|refine s4 rfl ‹_› rfl ?_ ?_);first|exact tI|omega|simp only[oZ] at *;omega)|refine s2 rfl fun _ _hb=>?_|refine s3 rfl ?_ ?_<;>rintro rfl|refine aU rfl ?_|refine lexE ?_|refine rE (by kernel_rfl) ?_)
  (refine popO rfl ?_;refine popS (fun _ _=>q_textL [UInt8.ofNat (97+n.toNat)] rfl (by
    have h2:(97+n.toNat) % 256=97+n.toNat:=Nat.mod_eq_of_lt (by omega)
    have h3:(97+n:Int)=((97+n.toNat:Nat):Int):=by omega
    simp [byD,h2,h3])) rfl ?_)
  (repeat first|refine sN rfl ?_|((first|refine sA rfl ?_ ?_|refine s4 rfl ‹_› rfl ?_ ?_);first|exact tI|omega|simp only[oZ] at *;omega)|refine s2 rfl fun _ _hb=>?_|refine s3 rfl ?_ ?_<;>rintro rfl|refine aU rfl ?_|refine lexE ?_|refine rE (by kernel_rfl) ?_)
  refine AWp.ret ⟨_,rfl,?_⟩
  rfl
theorem l1Place_ok (s n:Int) (h0:0≤n) (h1:n < 64):Pure Tryz.prog TB 176 [eI .i64 s,eI .i64 n] (eI .i64 (lettersTo s n.toNat).length):=by
  refine eN Tryz.func176 rfl (by kernel_rfl) rfl ?_;intro Γ hΓ
  (repeat first|refine sN rfl ?_|((first|refine sM rfl ?_ ?_|refine s4 rfl ‹_› rfl ?_ ?_);first|exact tI|omega|simp only[oZ] at *;omega)|refine s2 rfl fun _ _hb=>?_|refine s3 rfl ?_ ?_<;>rintro rfl|refine aU rfl ?_|refine lexE ?_|refine rE (by kernel_rfl) ?_)
  refine AWp.block ?_
  refine AWp.loopL (α:={k:Nat // k≤n.toNat}) (fun ⟨k,hk⟩=>[(0,eI .i64 s),(1,eI .i64 n),(5,eI .i64 (lettersTo s k).length),(6,eI .i64 k)]) (fun ⟨k,hk⟩=>[]) 0 (fun ⟨k,hk⟩=>n.toNat - k) (⟨0,by omega⟩) [] (rl3 hΓ rfl rfl) (by (repeat' first|exact tI|rfl|refine And.intro ?_ ?_)<;>simp[cX,zC,hΓ]) ?_;rintro ⟨k,hk⟩;(try dsimp only)
  (repeat first|refine sN rfl ?_|((first|refine sM rfl ?_ ?_|refine s4 rfl ‹_› rfl ?_ ?_);first|exact tI|omega|simp only[oZ] at *;omega)|refine s2 rfl fun _ _hb=>?_|refine s3 rfl ?_ ?_<;>rintro rfl|refine aU rfl ?_|refine lexE ?_|refine rE (by kernel_rfl) ?_)
  (refine aC rfl ?_ ?_<;>rintro ⟨⟩)
  · have hlt:k < n.toNat:=by have:=of_decide_eq_true _hb;omega
    refine AWp.skip ?_
    refine AWp.seq (AWp.block ?_)
    (repeat first|refine sN rfl ?_|((first|refine sM rfl ?_ ?_|refine s4 rfl ‹_› rfl ?_ ?_);first|exact tI|omega|simp only[oZ] at *;omega)|refine s2 rfl fun _ _hb=>?_|refine s3 rfl ?_ ?_<;>rintro rfl|refine aU rfl ?_|refine lexE ?_|refine rE (by kernel_rfl) ?_)
    (refine popO rfl ?_;refine popB (fun _ _=>q_call rfl rfl rfl (l1Has_ok _ _ (by omega) (by omega)) rfl) rfl ?_;intro _ _hb)
    (repeat first|refine sN rfl ?_|((first|refine sM rfl ?_ ?_|refine s4 rfl ‹_› rfl ?_ ?_);first|exact tI|omega|simp only[oZ] at *;omega)|refine s2 rfl fun _ _hb=>?_|refine s3 rfl ?_ ?_<;>rintro rfl|refine aU rfl ?_|refine lexE ?_|refine rE (by kernel_rfl) ?_)
    have hs:=lettersTo_succ s k
    have hl:=lettersTo_len s k
    (refine aC rfl ?_ ?_<;>rintro ⟨⟩)
    · (repeat first|refine sN rfl ?_|((first|refine sM rfl ?_ ?_|refine s4 rfl ‹_› rfl ?_ ?_);first|exact tI|omega|simp only[oZ] at *;omega)|refine s2 rfl fun _ _hb=>?_|refine s3 rfl ?_ ?_<;>rintro rfl|refine aU rfl ?_|refine lexE ?_|refine rE (by kernel_rfl) ?_)
      refine ⟨⟨k+1,by omega⟩,by dsimp only;(first|omega|simp only[oZ] at *;omega),[],?_⟩
      rw [if_pos (by simpa using _hb)] at hs
      simp[cX,zC,hΓ,hs]
    · refine AWp.skip ?_
      (repeat first|refine sN rfl ?_|((first|refine sM rfl ?_ ?_|refine s4 rfl ‹_› rfl ?_ ?_);first|exact tI|omega|simp only[oZ] at *;omega)|refine s2 rfl fun _ _hb=>?_|refine s3 rfl ?_ ?_<;>rintro rfl|refine aU rfl ?_|refine lexE ?_|refine rE (by kernel_rfl) ?_)
      refine ⟨⟨k+1,by omega⟩,by dsimp only;(first|omega|simp only[oZ] at *;omega),[],?_⟩
      rw [if_neg (by simpa using _hb),List.append_nil] at hs
      simp[cX,zC,hΓ,hs]
  · have hk6:k=n.toNat:=by have:=of_decide_eq_false _hb;omega
    subst hk6
    refine AWp.exit ?_
    (repeat first|refine sN rfl ?_|((first|refine sM rfl ?_ ?_|refine s4 rfl ‹_› rfl ?_ ?_);first|exact tI|omega|simp only[oZ] at *;omega)|refine s2 rfl fun _ _hb=>?_|refine s3 rfl ?_ ?_<;>rintro rfl|refine aU rfl ?_|refine lexE ?_|refine rE (by kernel_rfl) ?_)
    refine AWp.ret ⟨_,rfl,rfl⟩
theorem lettersOf_ok (s:Int):Pure Tryz.prog TB 88 [eI .i64 s] (eInts (letters s)):=by
  refine eN Tryz.func88 rfl (by kernel_rfl) rfl ?_;intro Γ hΓ
  (repeat first|refine sN rfl ?_|((first|refine sM rfl ?_ ?_|refine s4 rfl ‹_› rfl ?_ ?_);first|exact tI|omega|simp only[oZ] at *;omega)|refine s2 rfl fun _ _hb=>?_|refine s3 rfl ?_ ?_<;>rintro rfl|refine aU rfl ?_|refine lexE ?_|refine rE (by kernel_rfl) ?_)
  (refine popO rfl ?_;refine popS (fun _ _=>q_assign rfl) rfl ?_)
  (repeat first|refine sN rfl ?_|((first|refine sM rfl ?_ ?_|refine s4 rfl ‹_› rfl ?_ ?_);first|exact tI|omega|simp only[oZ] at *;omega)|refine s2 rfl fun _ _hb=>?_|refine s3 rfl ?_ ?_<;>rintro rfl|refine aU rfl ?_|refine lexE ?_|refine rE (by kernel_rfl) ?_)
  (refine pW rfl ?_ rfl (by rfl);refine n_nil 1 3 ?_)
  (repeat first|refine sN rfl ?_|((first|refine sM rfl ?_ ?_|refine s4 rfl ‹_› rfl ?_ ?_);first|exact tI|omega|simp only[oZ] at *;omega)|refine s2 rfl fun _ _hb=>?_|refine s3 rfl ?_ ?_<;>rintro rfl|refine aU rfl ?_|refine lexE ?_|refine rE (by kernel_rfl) ?_)
  refine AWp.block ?_
  refine AWp.loopL (α:={k:Nat // k≤6}) (fun ⟨k,hk⟩=>[(0,eI .i64 s),(3,.o (.arr 0 1 0 (lettersTo s k).length)),(5,eI .i64 k)]) (fun ⟨k,hk⟩=>[(0,.cells 3 1 ((lettersTo s k).map iRowC))]) 1 (fun ⟨k,hk⟩=>6 - k) (⟨0,by omega⟩) [0] (rl3 hΓ rfl rfl) (by (repeat' first|exact tI|rfl|refine And.intro ?_ ?_)<;>simp[cX,zC,hΓ]) ?_;rintro ⟨k,hk⟩;(try dsimp only)
  (repeat first|refine sN rfl ?_|((first|refine sM rfl ?_ ?_|refine s4 rfl ‹_› rfl ?_ ?_);first|exact tI|omega|simp only[oZ] at *;omega)|refine s2 rfl fun _ _hb=>?_|refine s3 rfl ?_ ?_<;>rintro rfl|refine aU rfl ?_|refine lexE ?_|refine rE (by kernel_rfl) ?_)
  (refine aC rfl ?_ ?_<;>rintro ⟨⟩)
  · have hlt:k < 6:=by have:=of_decide_eq_true _hb;omega
    refine AWp.skip ?_
    refine AWp.seq (AWp.block ?_)
    (repeat first|refine sN rfl ?_|((first|refine sM rfl ?_ ?_|refine s4 rfl ‹_› rfl ?_ ?_);first|exact tI|omega|simp only[oZ] at *;omega)|refine s2 rfl fun _ _hb=>?_|refine s3 rfl ?_ ?_<;>rintro rfl|refine aU rfl ?_|refine lexE ?_|refine rE (by kernel_rfl) ?_)
    (refine popO rfl ?_;refine popB (fun _ _=>q_call rfl rfl rfl (has_ok _ _) rfl) rfl ?_;intro _ _hb)
    (repeat first|refine sN rfl ?_|((first|refine sM rfl ?_ ?_|refine s4 rfl ‹_› rfl ?_ ?_);first|exact tI|omega|simp only[oZ] at *;omega)|refine s2 rfl fun _ _hb=>?_|refine s3 rfl ?_ ?_<;>rintro rfl|refine aU rfl ?_|refine lexE ?_|refine rE (by kernel_rfl) ?_)
    have hs:=lettersTo_succ s k
    have hbb:hasB s k=bitB s k:=by simp [hasB]
    rw [hbb] at _hb
    (refine aC rfl ?_ ?_<;>rintro ⟨⟩)
    · (repeat first|refine sN rfl ?_|((first|refine sA rfl ?_ ?_|refine s4 rfl ‹_› rfl ?_ ?_);first|exact tI|omega|simp only[oZ] at *;omega)|refine s2 rfl fun _ _hb=>?_|refine s3 rfl ?_ ?_<;>rintro rfl|refine aU rfl ?_|refine lexE ?_|refine rE (by kernel_rfl) ?_)
      (refine pW rfl ?_ rfl (by rfl);refine n_append rfl rfl rfl (by first|(simp;done)|(simp;(first|omega|simp only[oZ] at *;omega))) rfl (by intro r hr;simp at hr;subst hr;rfl) (by rfl) (Nat.le_of_ble_eq_true rfl) (by have:=lettersTo_len s k;simp;omega) ?_)
      (repeat first|refine sN rfl ?_|((first|refine sX rfl ?_ ?_|refine s4 rfl ‹_› rfl ?_ ?_);first|exact tI|omega|simp only[oZ] at *;omega)|refine s2 rfl fun _ _hb=>?_|refine s3 rfl ?_ ?_<;>rintro rfl|refine aU rfl ?_|refine lexE ?_|refine rE (by kernel_rfl) ?_)
      refine ⟨⟨k+1,by omega⟩,by dsimp only;(first|omega|simp only[oZ] at *;omega),[1],?_⟩
      rw [if_pos (by simpa using _hb)] at hs
      simp[cX,zC,hΓ,hs]
    · refine AWp.skip ?_
      (repeat first|refine sN rfl ?_|((first|refine sX rfl ?_ ?_|refine s4 rfl ‹_› rfl ?_ ?_);first|exact tI|omega|simp only[oZ] at *;omega)|refine s2 rfl fun _ _hb=>?_|refine s3 rfl ?_ ?_<;>rintro rfl|refine aU rfl ?_|refine lexE ?_|refine rE (by kernel_rfl) ?_)
      refine ⟨⟨k+1,by omega⟩,by dsimp only;(first|omega|simp only[oZ] at *;omega),[0],?_⟩
      rw [if_neg (by simpa using _hb),List.append_nil] at hs
      simp[cX,zC,hΓ,hs]
  · have hk6:k=6:=by have:=of_decide_eq_false _hb;omega
    subst hk6
    refine AWp.exit ?_
    (repeat first|refine sN rfl ?_|((first|refine sX rfl ?_ ?_|refine s4 rfl ‹_› rfl ?_ ?_);first|exact tI|omega|simp only[oZ] at *;omega)|refine s2 rfl fun _ _hb=>?_|refine s3 rfl ?_ ?_<;>rintro rfl|refine aU rfl ?_|refine lexE ?_|refine rE (by kernel_rfl) ?_)
    refine AWp.freeze [0] [(2,.o (.d (iList (lettersTo s 6))))] ⟨⟨_,rfl,.o (.full (by simp) rfl (by simp [Function.comp_def]) (by simp))⟩,trivial⟩ ?_
    refine AWp.ret ⟨_,rfl,rfl⟩
theorem l2Edge_ok (al st:Int) (e:Edg):Pure Tryz.prog TB 144 [eI .i64 al,eI .i64 st,eEdg e] (eB (edgeOk al st e)):=by
  refine eN Tryz.func144 rfl (by kernel_rfl) rfl ?_;intro Γ hΓ
  (repeat' first|refine sN rfl ?_|((first|refine sA rfl ?_ ?_|refine s4 rfl ‹_› rfl ?_ ?_);first|exact tI|omega|simp only[oZ] at *;omega)|refine s2 rfl fun _ _hb=>?_ |(refine sC rfl (l1Has_ok _ _ (by first|omega|simp only[oZ] at *;omega) (by first|omega|simp only[oZ] at *;omega)) ?_;intro _ _hb)|refine s3 rfl ?_ ?_<;>rintro rfl|refine aU rfl ?_|refine lexE ?_|refine rE (by kernel_rfl) ?_|(refine aC rfl ?_ ?_<;>rintro ⟨⟩)|refine aK ?_|refine aE ?_|refine aB ?_|refine AWp.ret ⟨_,rfl,?_⟩)
  all_goals (show E.o _=E.o _;congr;unfold edgeOk;grind)
theorem l2Before_ok (e f:Edg):Pure Tryz.prog TB 145 [eEdg e,eEdg f] (eB (befB e f)):=by
  refine eN Tryz.func145 rfl (by kernel_rfl) rfl ?_;intro Γ hΓ
  (repeat' first|refine sN rfl ?_|((first|refine sA rfl ?_ ?_|refine s4 rfl ‹_› rfl ?_ ?_);first|exact tI|omega|simp only[oZ] at *;omega)|refine s2 rfl fun _ _hb=>?_|refine s3 rfl ?_ ?_<;>rintro rfl|refine aU rfl ?_|refine lexE ?_|refine rE (by kernel_rfl) ?_|(refine aC rfl ?_ ?_<;>rintro ⟨⟩)|refine aK ?_|refine aE ?_|refine aB ?_|refine AWp.ret ⟨_,rfl,?_⟩)
  all_goals (show E.o _=E.o _;congr;unfold befB;grind)
def cmpI (a b:Int):Int:=if a < b then -1 else if a > b then 1 else 0
theorem isNaN_ok (n:Int):Pure Tryz.prog TB 171 [eI .i64 n] (eB false):=by
  refine eN Tryz.func171 rfl (by kernel_rfl) rfl ?_;intro Γ hΓ
  (repeat' first|refine sN rfl ?_|((first|refine sA rfl ?_ ?_|refine s4 rfl ‹_› rfl ?_ ?_);first|exact tI|omega|simp only[oZ] at *;omega)|refine s2 rfl fun _ _hb=>?_|refine s3 rfl ?_ ?_<;>rintro rfl|refine aU rfl ?_|refine lexE ?_|refine rE (by kernel_rfl) ?_|(refine aC rfl ?_ ?_<;>rintro ⟨⟩)|refine aK ?_|refine aE ?_|refine aB ?_|refine AWp.ret ⟨_,rfl,?_⟩)
  all_goals (show E.o _=E.o _;congr;grind)
theorem cmpCompare_ok (a b:Int):Pure Tryz.prog TB 151 [eI .i64 a,eI .i64 b] (eI .i64 (cmpI a b)):=by
  refine eN Tryz.func151 rfl (by kernel_rfl) rfl ?_;intro Γ hΓ
  (repeat' first|refine sN rfl ?_|((first|refine sA rfl ?_ ?_|refine s4 rfl ‹_› rfl ?_ ?_);first|exact tI|omega|simp only[oZ] at *;omega)|refine s2 rfl fun _ _hb=>?_ |refine sP rfl (isNaN_ok _) rfl ?_|refine s3 rfl ?_ ?_<;>rintro rfl|refine aU rfl ?_|refine lexE ?_|refine rE (by kernel_rfl) ?_|(refine aC rfl ?_ ?_<;>rintro ⟨⟩)|refine aK ?_|refine aE ?_|refine aB ?_|refine AWp.ret ⟨_,rfl,?_⟩)
  all_goals (show E.o _=E.o _;congr;unfold cmpI;grind)
theorem isState_ok (s:Sys) (q:Int):Pure Tryz.prog TB 121 [eSys s,eI .i64 q] (eB (decide (0≤q∧q < s.st))):=by
  refine eN Tryz.func121 rfl (by kernel_rfl) rfl ?_;intro Γ hΓ
  (repeat' first|refine sN rfl ?_|((first|refine sA rfl ?_ ?_|refine s4 rfl ‹_› rfl ?_ ?_);first|exact tI|omega|simp only[oZ] at *;omega)|refine s2 rfl fun _ _hb=>?_|refine s3 rfl ?_ ?_<;>rintro rfl|refine aU rfl ?_|refine lexE ?_|refine rE (by kernel_rfl) ?_|(refine aC rfl ?_ ?_<;>rintro ⟨⟩)|refine aK ?_|refine aE ?_|refine aB ?_|refine AWp.ret ⟨_,rfl,?_⟩)
  all_goals (show E.o _=E.o _;congr;grind)
theorem l3Row_ok (row:List Int) (ls n:Int):Pure Tryz.prog TB 117 [eInts row,eI .i64 ls,eI .i64 n] (eB (rowOk ls n row)):=by
  refine eN Tryz.func117 rfl (by kernel_rfl) rfl ?_;intro Γ hΓ
  (repeat' first|refine sN rfl ?_|((first|refine sA rfl ?_ ?_|refine s4 rfl ‹_› rfl ?_ ?_);first|exact tI|omega|simp only[oZ] at *;omega)|refine s2 rfl fun _ _hb=>?_|refine s3 rfl ?_ ?_<;>rintro rfl|refine aU rfl ?_|refine lexE ?_|refine rE (by kernel_rfl) ?_|(refine aC rfl ?_ ?_<;>rintro ⟨⟩)|refine aK ?_|refine aE ?_|refine aB ?_|refine AWp.ret ⟨_,rfl,?_⟩)
  · show E.o _=E.o _;congr;unfold rowOk;grind
  refine AWp.bound 0 rfl fun hB=>?_
  have hB:=hB _ .refl
  rw [List.length_map] at hB
  refine AWp.loopL (α:={k:Nat // k≤row.length∧(row.take k).all (stOk n)=true}) (fun ⟨k,hk,ha⟩=>[(0,eInts row),(2,eI .i64 n),(7,eI .i64 k)]) (fun ⟨k,hk,ha⟩=>[]) 0 (fun ⟨k,hk,ha⟩=>row.length - k) (⟨0,by omega,rfl⟩) [] (rl3 hΓ rfl rfl) (by (repeat' first|exact tI|rfl|refine And.intro ?_ ?_)<;>simp[cX,zC,hΓ]) ?_;rintro ⟨k,hk,ha⟩;(try dsimp only)
  (repeat first|refine sN rfl ?_|((first|refine sA rfl ?_ ?_|refine s4 rfl ‹_› rfl ?_ ?_);first|exact tI|omega|simp only[oZ] at *;omega)|refine s2 rfl fun _ _hb=>?_|refine s3 rfl ?_ ?_<;>rintro rfl|refine aU rfl ?_|refine lexE ?_|refine rE (by kernel_rfl) ?_)
  (refine aC rfl ?_ ?_<;>rintro ⟨⟩)
  · obtain ⟨x,hx⟩:=get_some (l:=row) (k:=k) (by first|omega|simp only[oZ] at *;omega)
    have hx':=get_map (g:=iRow) hx
    (repeat' first|refine sN rfl ?_|((first|refine sA rfl ?_ ?_|refine s4 rfl ‹_› rfl ?_ ?_);first|exact tI|omega|simp only[oZ] at *;omega)|refine s2 rfl fun _ _hb=>?_|refine s3 rfl ?_ ?_<;>rintro rfl|refine aU rfl ?_|refine lexE ?_|refine rE (by kernel_rfl) ?_|(refine aC rfl ?_ ?_<;>rintro ⟨⟩)|refine aK ?_|refine aE ?_|refine aB ?_|refine AWp.ret ⟨_,rfl,?_⟩)
    all_goals first
      | (show E.o _=E.o _;congr;rw [rowOk,all_bad hx (by unfold stOk;grind)];simp;done)
      | (refine ⟨⟨k+1,by first|omega|simp only[oZ] at *;omega,all_step hx ha (by unfold stOk;grind)⟩,by dsimp only;(first|omega|simp only[oZ] at *;omega),[],?_⟩;simp[cX,zC,hΓ];done)
  · (repeat' first|refine sN rfl ?_|((first|refine sA rfl ?_ ?_|refine s4 rfl ‹_› rfl ?_ ?_);first|exact tI|omega|simp only[oZ] at *;omega)|refine s2 rfl fun _ _hb=>?_|refine s3 rfl ?_ ?_<;>rintro rfl|refine aU rfl ?_|refine lexE ?_|refine rE (by kernel_rfl) ?_|(refine aC rfl ?_ ?_<;>rintro ⟨⟩)|refine aK ?_|refine aE ?_|refine aB ?_|refine AWp.ret ⟨_,rfl,?_⟩)
    show E.o _=E.o _;congr;rw [rowOk,all_done ha (by first|omega|simp only[oZ] at *;omega)];grind
theorem autOk_head {a:Aut} (h:autOk a=true):alphB a.al=true∧1≤a.nx.length∧a.nx.length≤12∧a.ac.length=a.nx.length:=by
  unfold autOk at h;grind
theorem specAutomatonValid_ok (a:Aut):Pure Tryz.prog TB 96 [eAut a] (eB (autOk a)):=by
  refine eN Tryz.func96 rfl (by kernel_rfl) rfl ?_;intro Γ hΓ
  (repeat' first|refine sN rfl ?_|((first|refine sA rfl ?_ ?_|refine s4 rfl ‹_› rfl ?_ ?_);first|exact tI|omega|simp only[oZ] at *;omega)|refine s2 rfl fun _ _hb=>?_ |(refine sC rfl (l1Alphabet_ok _) ?_;intro _ _hb)|refine s3 rfl ?_ ?_<;>rintro rfl|refine aU rfl ?_|refine lexE ?_|refine rE (by kernel_rfl) ?_|(refine aC rfl ?_ ?_<;>rintro ⟨⟩)|refine aK ?_|refine aE ?_|refine aB ?_|refine AWp.ret ⟨_,rfl,?_⟩)
  all_goals try (show E.o _=E.o _;congr;unfold autOk;(try simp only [List.length_map] at *);grind)
  refine AWp.bound 1 rfl fun hB=>?_
  have hB:=hB (a.nx.map iiRow) (.p (j:=1) rfl .refl)
  refine AWp.loopL (α:={k:Nat // k≤a.nx.length∧(a.nx.take k).all (rowOk (letters a.al).length a.nx.length)=true}) (fun ⟨k,hk,ha⟩=>[(1,.o (.ip (auRow a))),(3,eI .i64 a.nx.length),(4,eI .i64 k)]) (fun ⟨k,hk,ha⟩=>[]) 0 (fun ⟨k,hk,ha⟩=>a.nx.length - k) (⟨0,by omega,rfl⟩) [] (rl3 hΓ rfl rfl) (by (repeat' first|exact tI|rfl|refine And.intro ?_ ?_)<;>simp[cX,zC,hΓ]) ?_;rintro ⟨k,hk,ha⟩;(try dsimp only)
  (repeat first|refine sN rfl ?_|((first|refine sA rfl ?_ ?_|refine s4 rfl ‹_› rfl ?_ ?_);first|exact tI|omega|simp only[oZ] at *;omega)|refine s2 rfl fun _ _hb=>?_|refine s3 rfl ?_ ?_<;>rintro rfl|refine aU rfl ?_|refine lexE ?_|refine rE (by kernel_rfl) ?_)
  (refine aC rfl ?_ ?_<;>rintro ⟨⟩)
  · obtain ⟨x,hx⟩:=get_some (l:=a.nx) (k:=k) (by first|omega|simp only[oZ] at *;omega)
    have hx':=get_map (g:=iiRow) hx
    (repeat' first|refine sN rfl ?_|((first|refine sA rfl ?_ ?_|refine s4 rfl ‹_› rfl ?_ ?_);first|exact tI|omega|simp only[oZ] at *;omega)|refine s2 rfl fun _ _hb=>?_ |refine sP rfl (l1Letters_ok _) rfl ?_|(refine sC rfl (l3Row_ok _ _ _) ?_;intro _ _hb)|refine s3 rfl ?_ ?_<;>rintro rfl|refine aU rfl ?_|refine lexE ?_|refine rE (by kernel_rfl) ?_|(refine aC rfl ?_ ?_<;>rintro ⟨⟩)|refine aK ?_|refine aE ?_|refine aB ?_|refine AWp.ret ⟨_,rfl,?_⟩)
    all_goals first
      | (have h1:=all_bad (f:=rowOk (letters a.al).length a.nx.length) hx (by grind);(show E.o _=E.o _;congr;unfold autOk;(try simp only [List.length_map] at *);grind);done)
      | (refine ⟨⟨k+1,by first|omega|simp only[oZ] at *;omega,all_step hx ha (by grind)⟩,by dsimp only;(first|omega|simp only[oZ] at *;omega),[],?_⟩;simp[cX,zC,hΓ];done)
  · (repeat' first|refine sN rfl ?_|((first|refine sA rfl ?_ ?_|refine s4 rfl ‹_› rfl ?_ ?_);first|exact tI|omega|simp only[oZ] at *;omega)|refine s2 rfl fun _ _hb=>?_|refine s3 rfl ?_ ?_<;>rintro rfl|refine aU rfl ?_|refine lexE ?_|refine rE (by kernel_rfl) ?_|(refine aC rfl ?_ ?_<;>rintro ⟨⟩)|refine aK ?_|refine aE ?_|refine aB ?_|refine AWp.ret ⟨_,rfl,?_⟩)
    show E.o _=E.o _;congr
    have h1:=all_done ha (by first|omega|simp only[oZ] at *;omega)
    unfold autOk;simp only [List.length_map] at *;grind
def firstNZ:List Int→Int
  | []=>0
  | x::l=>if x≠0 then x else firstNZ l
theorem drop_some {α:Type} {l:List α} {k:Nat} {x:α} (h:l[k]? = some x):l.drop k=x::l.drop (k+1):=by
  obtain ⟨h1,rfl⟩:=List.getElem?_eq_some_iff.1 h
  exact List.drop_eq_getElem_cons h1
theorem cmpOr_ok (l:List Int):Pure Tryz.prog TB 150 [eInts l] (eI .i64 (firstNZ l)):=by
  refine eN Tryz.func150 rfl (by kernel_rfl) rfl ?_;intro Γ hΓ
  refine AWp.bound 0 rfl fun hB=>?_
  have hB:=hB (l.map iRow) .refl
  (repeat' first|refine sN rfl ?_|((first|refine sA rfl ?_ ?_|refine s4 rfl ‹_› rfl ?_ ?_);first|exact tI|omega|simp only[oZ] at *;omega)|refine s2 rfl fun _ _hb=>?_|refine s3 rfl ?_ ?_<;>rintro rfl|refine aU rfl ?_|refine lexE ?_|refine rE (by kernel_rfl) ?_|(refine aC rfl ?_ ?_<;>rintro ⟨⟩)|refine aK ?_|refine aE ?_|refine aB ?_|refine AWp.ret ⟨_,rfl,?_⟩)
  refine AWp.loopL (α:={k:Nat // k≤l.length∧firstNZ l=firstNZ (l.drop k)}) (fun ⟨k,hk,ha⟩=>[(3,eI .i64 0),(6,eInts l),(7,eI .i64 l.length),(8,eI .i64 k)]) (fun ⟨k,hk,ha⟩=>[]) 0 (fun ⟨k,hk,ha⟩=>l.length - k) (⟨0,by omega,rfl⟩) [] (rl3 hΓ rfl rfl) (by (repeat' first|exact tI|rfl|refine And.intro ?_ ?_)<;>simp[cX,zC,hΓ]) ?_;rintro ⟨k,hk,ha⟩;(try dsimp only)
  (repeat first|refine sN rfl ?_|((first|refine sA rfl ?_ ?_|refine s4 rfl ‹_› rfl ?_ ?_);first|exact tI|omega|simp only[oZ] at *;omega)|refine s2 rfl fun _ _hb=>?_|refine s3 rfl ?_ ?_<;>rintro rfl|refine aU rfl ?_|refine lexE ?_|refine rE (by kernel_rfl) ?_)
  (refine aC rfl ?_ ?_<;>rintro ⟨⟩)
  · obtain ⟨x,hx⟩:=get_some (l:=l) (k:=k) (by first|omega|simp only[oZ] at *;omega)
    have hx':=get_map (g:=iRow) hx
    rw [drop_some hx,firstNZ] at ha
    (repeat' first|refine sN rfl ?_|((first|refine sA rfl ?_ ?_|refine s4 rfl ‹_› rfl ?_ ?_);first|exact tI|omega|simp only[oZ] at *;omega)|refine s2 rfl fun _ _hb=>?_|refine s3 rfl ?_ ?_<;>rintro rfl|refine aU rfl ?_|refine lexE ?_|refine rE (by kernel_rfl) ?_|(refine aC rfl ?_ ?_<;>rintro ⟨⟩)|refine aK ?_|refine aE ?_|refine aB ?_|refine AWp.ret ⟨_,rfl,?_⟩)
    · rw [if_pos (by grind)] at ha
      rw [ha]
    · rw [if_neg (by grind)] at ha
      refine ⟨⟨k+1,by first|omega|simp only[oZ] at *;omega,ha⟩,by dsimp only;(first|omega|simp only[oZ] at *;omega),[],?_⟩
      simp[cX,zC,hΓ]
  · (repeat' first|refine sN rfl ?_|((first|refine sA rfl ?_ ?_|refine s4 rfl ‹_› rfl ?_ ?_);first|exact tI|omega|simp only[oZ] at *;omega)|refine s2 rfl fun _ _hb=>?_|refine s3 rfl ?_ ?_<;>rintro rfl|refine aU rfl ?_|refine lexE ?_|refine rE (by kernel_rfl) ?_|(refine aC rfl ?_ ?_<;>rintro ⟨⟩)|refine aK ?_|refine aE ?_|refine aB ?_|refine AWp.ret ⟨_,rfl,?_⟩)
    rw [ha,List.drop_of_length_le (by first|omega|simp only[oZ] at *;omega)];rfl
def cmpE (e f:Edg):Int:=firstNZ [cmpI e.f f.f,cmpI e.l f.l,cmpI e.t f.t]
theorem cmpE_bef (e f:Edg):(0≤cmpE e f)=(befB e f=false):=by
  unfold cmpE befB;simp only [firstNZ,cmpI];grind
theorem compareEdges_ok (e f:Edg):Pure Tryz.prog TB 122 [eEdg e,eEdg f] (eI .i64 (cmpE e f)):=by
  refine eN Tryz.func122 rfl (by kernel_rfl) rfl ?_;intro Γ hΓ
  (repeat' first|refine sN rfl ?_|((first|refine sA rfl ?_ ?_|refine s4 rfl ‹_› rfl ?_ ?_);first|exact tI|omega|simp only[oZ] at *;omega)|refine s2 rfl fun _ _hb=>?_ |refine sP rfl (cmpCompare_ok _ _) rfl ?_|refine sP rfl (cmpOr_ok [cmpI e.f f.f,cmpI e.l f.l,cmpI e.t f.t]) rfl ?_|refine s3 rfl ?_ ?_<;>rintro rfl|refine aU rfl ?_|refine lexE ?_|refine rE (by kernel_rfl) ?_|(refine aC rfl ?_ ?_<;>rintro ⟨⟩)|refine aK ?_|refine aE ?_|refine aB ?_|refine AWp.ret ⟨_,rfl,?_⟩)
  rfl
theorem sysAt_0 {s:Sys} {e:Edg} (h:s.es[0]? = some e):sysAt s 0=edgeOk s.al s.st e:=by
  unfold sysAt;rw [h];simp
theorem sysAt_s {s:Sys} {k:Nat} {e p:Edg} (h:s.es[k+1]? = some e) (hp:s.es[k]? = some p):sysAt s (k+1)=(edgeOk s.al s.st e && befB p e):=by
  unfold sysAt;rw [h];simp [hp]
theorem range_step {k:Nat} {f:Nat→Bool} (h:∀i,i < k→f i=true) (h1:f k=true):∀i,i < k+1→f i=true:=fun i hi=>by
  rcases Nat.lt_succ_iff_lt_or_eq.1 hi with h2|h2
  · exact h i h2
  · rw [h2];exact h1
theorem sysOk_bad {s:Sys} {k:Nat} (hk:k < s.es.length) (h:sysAt s k=false):sysOk s=false:=by
  have h1:(List.range s.es.length).all (sysAt s)=false:=by
    rw [List.all_eq_false];exact ⟨k,List.mem_range.2 hk,by simp [h]⟩
  unfold sysOk;rw [h1];simp
theorem sysOk_good {s:Sys} {k:Nat} (h0:alphB s.al=true) (h1:1≤s.st∧s.st≤16) (hk:s.es.length≤k) (h:∀i,i < k→sysAt s i=true):sysOk s=true:=by
  have h1:(List.range s.es.length).all (sysAt s)=true:=by
    rw [List.all_eq_true];intro i hi;exact h i (by have:=List.mem_range.1 hi;omega)
  unfold sysOk;rw [h1];grind
theorem specSystemValid_ok (s:Sys):Pure Tryz.prog TB 118 [eSys s] (eB (sysOk s)):=by
  refine eN Tryz.func118 rfl (by kernel_rfl) rfl ?_;intro Γ hΓ
  (repeat' first|refine sN rfl ?_|((first|refine sA rfl ?_ ?_|refine s4 rfl ‹_› rfl ?_ ?_);first|exact tI|omega|simp only[oZ] at *;omega)|refine s2 rfl fun _ _hb=>?_ |(refine sC rfl (l1Alphabet_ok _) ?_;intro _ _hb)|refine s3 rfl ?_ ?_<;>rintro rfl|refine aU rfl ?_|refine lexE ?_|refine rE (by kernel_rfl) ?_|(refine aC rfl ?_ ?_<;>rintro ⟨⟩)|refine aK ?_|refine aE ?_|refine aB ?_|refine AWp.ret ⟨_,rfl,?_⟩)
  all_goals try (show E.o _=E.o _;congr;unfold sysOk;(try simp only [List.length_map] at *);grind)
  refine AWp.bound 1 rfl fun hB=>?_
  have hB:=hB (s.es.map edRow) (.p (j:=2) rfl .refl)
  refine AWp.loopL (α:={k:Nat // k≤s.es.length∧∀i,i < k→sysAt s i=true}) (fun ⟨k,hk,ha⟩=>[(1,.o (.ip (syRow s))),(3,eI .i64 k)]) (fun ⟨k,hk,ha⟩=>[]) 0 (fun ⟨k,hk,ha⟩=>s.es.length - k) (⟨0,by omega,by omega⟩) [] (rl3 hΓ rfl rfl) (by (repeat' first|exact tI|rfl|refine And.intro ?_ ?_)<;>simp[cX,zC,hΓ]) ?_;rintro ⟨k,hk,ha⟩;(try dsimp only)
  (repeat first|refine sN rfl ?_|((first|refine sA rfl ?_ ?_|refine s4 rfl ‹_› rfl ?_ ?_);first|exact tI|omega|simp only[oZ] at *;omega)|refine s2 rfl fun _ _hb=>?_|refine s3 rfl ?_ ?_<;>rintro rfl|refine aU rfl ?_|refine lexE ?_|refine rE (by kernel_rfl) ?_)
  (refine aC rfl ?_ ?_<;>rintro ⟨⟩)
  · obtain ⟨e,hx⟩:=get_some (l:=s.es) (k:=k) (by first|omega|simp only[oZ] at *;omega)
    have hx':=get_map (g:=edRow) hx
    cases k with
    | zero=>
      have h1:=sysAt_0 hx
      (repeat' first|refine sN rfl ?_|((first|refine sA rfl ?_ ?_|refine s4 rfl ‹_› rfl ?_ ?_);first|exact tI|omega|simp only[oZ] at *;omega)|refine s2 rfl fun _ _hb=>?_ |(refine sC rfl (l2Edge_ok _ _ e) ?_;intro _ _hb)|(refine sC rfl (l2Before_ok _ _) ?_;intro _ _hb)|refine s3 rfl ?_ ?_<;>rintro rfl|refine aU rfl ?_|refine lexE ?_|refine rE (by kernel_rfl) ?_|(refine aC rfl ?_ ?_<;>rintro ⟨⟩)|refine aK ?_|refine aE ?_|refine aB ?_|refine AWp.ret ⟨_,rfl,?_⟩)
      all_goals first
        | (exfalso;first|omega|simp only[oZ] at *;omega;done)
        | (have h2:=sysOk_bad (s:=s) (k:=0) (by first|omega|simp only[oZ] at *;omega) (by grind);show E.o _=E.o _;congr;exact h2.symm;done)
        | (refine ⟨⟨0+1,by first|omega|simp only[oZ] at *;omega,range_step ha (by grind)⟩,by dsimp only;(first|omega|simp only[oZ] at *;omega),[],?_⟩;simp[cX,zC,hΓ];done)
    | succ k=>
      obtain ⟨p,hp⟩:=get_some (l:=s.es) (k:=k) (by first|omega|simp only[oZ] at *;omega)
      have hp':(s.es.map edRow)[(((k+1:Nat):Int) - 1).toNat]? = some (edRow p):=by simp [hp]
      have h1:=sysAt_s hx hp
      (repeat' first|refine sN rfl ?_|((first|refine sA rfl ?_ ?_|refine s4 rfl ‹_› rfl ?_ ?_);first|exact tI|omega|simp only[oZ] at *;omega)|refine s2 rfl fun _ _hb=>?_ |(refine sC rfl (l2Edge_ok _ _ e) ?_;intro _ _hb)|(refine sC rfl (l2Before_ok p e) ?_;intro _ _hb)|refine s3 rfl ?_ ?_<;>rintro rfl|refine aU rfl ?_|refine lexE ?_|refine rE (by kernel_rfl) ?_|(refine aC rfl ?_ ?_<;>rintro ⟨⟩)|refine aK ?_|refine aE ?_|refine aB ?_|refine AWp.ret ⟨_,rfl,?_⟩)
      all_goals first
        | (exfalso;first|omega|simp only[oZ] at *;omega;done)
        | (have h2:=sysOk_bad (s:=s) (k:=k+1) (by first|omega|simp only[oZ] at *;omega) (by grind);show E.o _=E.o _;congr;exact h2.symm;done)
        | (refine ⟨⟨k+1+1,by first|omega|simp only[oZ] at *;omega,range_step ha (by grind)⟩,by dsimp only;(first|omega|simp only[oZ] at *;omega),[],?_⟩;simp[cX,zC,hΓ];done)
  · (repeat' first|refine sN rfl ?_|((first|refine sA rfl ?_ ?_|refine s4 rfl ‹_› rfl ?_ ?_);first|exact tI|omega|simp only[oZ] at *;omega)|refine s2 rfl fun _ _hb=>?_|refine s3 rfl ?_ ?_<;>rintro rfl|refine aU rfl ?_|refine lexE ?_|refine rE (by kernel_rfl) ?_|(refine aC rfl ?_ ?_<;>rintro ⟨⟩)|refine aK ?_|refine aE ?_|refine aB ?_|refine AWp.ret ⟨_,rfl,?_⟩)
    have h2:=sysOk_good (s:=s) (by grind) (by grind) (by first|omega|simp only[oZ] at *;omega) ha
    show E.o _=E.o _;congr;exact h2.symm
theorem edgeOk_of {s:Sys} {e:Edg}:edgeOk s.al s.st e=(decide (0≤e.f∧e.f < s.st) && decide (0≤e.t∧e.t < s.st) && decide (e.l < 6) && hasB s.al e.l):=by
  unfold edgeOk hasB;grind
theorem implSystemValid_ok (s:Sys):Pure Tryz.prog TB 100 [eSys s] (eB (sysOk s)):=by
  refine eN Tryz.func100 rfl (by kernel_rfl) rfl ?_;intro Γ hΓ
  (repeat' first|refine sN rfl ?_|((first|refine sA rfl ?_ ?_|refine s4 rfl ‹_› rfl ?_ ?_);first|exact tI|omega|simp only[oZ] at *;omega)|refine s2 rfl fun _ _hb=>?_ |(refine sC rfl (isAlphabet_ok _) ?_;intro _ _hb)|refine s3 rfl ?_ ?_<;>rintro rfl|refine aU rfl ?_|refine lexE ?_|refine rE (by kernel_rfl) ?_|(refine aC rfl ?_ ?_<;>rintro ⟨⟩)|refine aK ?_|refine aE ?_|refine aB ?_|refine AWp.ret ⟨_,rfl,?_⟩)
  all_goals try (show E.o _=E.o _;congr;unfold sysOk;(try simp only [List.length_map] at *);grind)
  refine AWp.bound 1 rfl fun hB=>?_
  have hB:=hB (s.es.map edRow) (.p (j:=2) rfl .refl)
  refine AWp.loopL (α:={k:Nat // k≤s.es.length∧∀i,i < k→sysAt s i=true}) (fun ⟨k,hk,ha⟩=>[(1,.o (.ip (syRow s))),(20,.o (.d (edList s.es))),(21,eI .i64 s.es.length),(22,eI .i64 k)]) (fun ⟨k,hk,ha⟩=>[]) 0 (fun ⟨k,hk,ha⟩=>s.es.length - k) (⟨0,by omega,by omega⟩) [] (rl3 hΓ rfl rfl) (by (repeat' first|exact tI|rfl|refine And.intro ?_ ?_)<;>simp[cX,zC,hΓ]) ?_;rintro ⟨k,hk,ha⟩;(try dsimp only)
  (repeat first|refine sN rfl ?_|((first|refine sA rfl ?_ ?_|refine s4 rfl ‹_› rfl ?_ ?_);first|exact tI|omega|simp only[oZ] at *;omega)|refine s2 rfl fun _ _hb=>?_|refine s3 rfl ?_ ?_<;>rintro rfl|refine aU rfl ?_|refine lexE ?_|refine rE (by kernel_rfl) ?_)
  (refine aC rfl ?_ ?_<;>rintro ⟨⟩)
  · obtain ⟨e,hx⟩:=get_some (l:=s.es) (k:=k) (by first|omega|simp only[oZ] at *;omega)
    have hx':=get_map (g:=edRow) hx
    cases k with
    | zero=>
      have h1:=sysAt_0 hx
      rw [edgeOk_of] at h1
      (repeat' first|refine sN rfl ?_|((first|refine sA rfl ?_ ?_|refine s4 rfl ‹_› rfl ?_ ?_);first|exact tI|omega|simp only[oZ] at *;omega)|refine s2 rfl fun _ _hb=>?_ |(refine sC rfl (isState_ok s _) ?_;intro _ _hb)|(refine sC rfl (has_ok _ _) ?_;intro _ _hb)|refine s3 rfl ?_ ?_<;>rintro rfl|refine aU rfl ?_|refine lexE ?_|refine rE (by kernel_rfl) ?_|(refine aC rfl ?_ ?_<;>rintro ⟨⟩)|refine aK ?_|refine aE ?_|refine aB ?_|refine AWp.ret ⟨_,rfl,?_⟩)
      all_goals first
        | (exfalso;first|omega|simp only[oZ] at *;omega;done)
        | (have h2:=sysOk_bad (s:=s) (k:=0) (by first|omega|simp only[oZ] at *;omega) (by grind);show E.o _=E.o _;congr;exact h2.symm;done)
        | (refine ⟨⟨0+1,by first|omega|simp only[oZ] at *;omega,range_step ha (by grind)⟩,by dsimp only;(first|omega|simp only[oZ] at *;omega),[],?_⟩;simp[cX,zC,hΓ];done)
    | succ k=>
      obtain ⟨p,hp⟩:=get_some (l:=s.es) (k:=k) (by first|omega|simp only[oZ] at *;omega)
      have hp':(s.es.map edRow)[(((k+1:Nat):Int) - 1).toNat]? = some (edRow p):=by simp [hp]
      have h1:=sysAt_s hx hp
      have h3:=cmpE_bef p e
      rw [edgeOk_of] at h1
      (repeat' first|refine sN rfl ?_|((first|refine sA rfl ?_ ?_|refine s4 rfl ‹_› rfl ?_ ?_);first|exact tI|omega|simp only[oZ] at *;omega)|refine s2 rfl fun _ _hb=>?_ |(refine sC rfl (isState_ok s _) ?_;intro _ _hb)|(refine sC rfl (has_ok _ _) ?_;intro _ _hb)|refine sP rfl (compareEdges_ok p e) rfl ?_|refine s3 rfl ?_ ?_<;>rintro rfl|refine aU rfl ?_|refine lexE ?_|refine rE (by kernel_rfl) ?_|(refine aC rfl ?_ ?_<;>rintro ⟨⟩)|refine aK ?_|refine aE ?_|refine aB ?_|refine AWp.ret ⟨_,rfl,?_⟩)
      all_goals first
        | (exfalso;first|omega|simp only[oZ] at *;omega;done)
        | (have h2:=sysOk_bad (s:=s) (k:=k+1) (by first|omega|simp only[oZ] at *;omega) (by grind);show E.o _=E.o _;congr;exact h2.symm;done)
        | (refine ⟨⟨k+1+1,by first|omega|simp only[oZ] at *;omega,range_step ha (by grind)⟩,by dsimp only;(first|omega|simp only[oZ] at *;omega),[],?_⟩;simp[cX,zC,hΓ];done)
  · (repeat' first|refine sN rfl ?_|((first|refine sA rfl ?_ ?_|refine s4 rfl ‹_› rfl ?_ ?_);first|exact tI|omega|simp only[oZ] at *;omega)|refine s2 rfl fun _ _hb=>?_|refine s3 rfl ?_ ?_<;>rintro rfl|refine aU rfl ?_|refine lexE ?_|refine rE (by kernel_rfl) ?_|(refine aC rfl ?_ ?_<;>rintro ⟨⟩)|refine aK ?_|refine aE ?_|refine aB ?_|refine AWp.ret ⟨_,rfl,?_⟩)
    have h2:=sysOk_good (s:=s) (by grind) (by grind) (by first|omega|simp only[oZ] at *;omega) ha
    show E.o _=E.o _;congr;exact h2.symm
theorem autOk_bad {a:Aut} {k:Nat} {x:List Int} (hx:a.nx[k]? = some x) (h:rowOk (letters a.al).length a.nx.length x=false):autOk a=false:=by
  have h1:=all_bad (f:=rowOk (letters a.al).length a.nx.length) hx h
  unfold autOk;rw [h1];simp
theorem autOk_good {a:Aut} {k:Nat} (h0:alphB a.al=true) (h1:1≤a.nx.length∧a.nx.length≤12) (h2:a.ac.length=a.nx.length) (hk:a.nx.length≤k) (h:(a.nx.take k).all (rowOk (letters a.al).length a.nx.length)=true):autOk a=true:=by
  have h3:=all_done h hk
  unfold autOk;rw [h3];grind
theorem implAutomatonValid_ok (a:Aut):Pure Tryz.prog TB 46 [eAut a] (eB (autOk a)):=by
  refine eN Tryz.func46 rfl (by kernel_rfl) rfl ?_;intro Γ hΓ
  (repeat' first|refine sN rfl ?_|((first|refine sA rfl ?_ ?_|refine s4 rfl ‹_› rfl ?_ ?_);first|exact tI|omega|simp only[oZ] at *;omega)|refine s2 rfl fun _ _hb=>?_ |(refine sC rfl (isAlphabet_ok _) ?_;intro _ _hb)|refine sP rfl (lettersOf_ok _) rfl ?_|refine s3 rfl ?_ ?_<;>rintro rfl|refine aU rfl ?_|refine lexE ?_|refine rE (by kernel_rfl) ?_|(refine aC rfl ?_ ?_<;>rintro ⟨⟩)|refine aK ?_|refine aE ?_|refine aB ?_|refine AWp.ret ⟨_,rfl,?_⟩)
  all_goals try (show E.o _=E.o _;congr;unfold autOk;(try simp only [List.length_map] at *);grind)
  refine AWp.bound 1 rfl fun hB=>?_
  have hB:=hB (a.nx.map iiRow) (.p (j:=1) rfl .refl)
  refine AWp.loopL (α:={k:Nat // k≤a.nx.length∧(a.nx.take k).all (rowOk (letters a.al).length a.nx.length)=true}) (fun ⟨k,hk,ha⟩=>[(1,.o (.ip (auRow a))),(3,eI .i64 (letters a.al).length),(38,eIntss a.nx),(39,eI .i64 a.nx.length),(40,eI .i64 k)]) (fun ⟨k,hk,ha⟩=>[]) 0 (fun ⟨k,hk,ha⟩=>a.nx.length - k) (⟨0,by omega,rfl⟩) [] (rl3 hΓ rfl rfl) (by (repeat' first|exact tI|rfl|refine And.intro ?_ ?_)<;>simp[cX,zC,hΓ]) ?_;rintro ⟨k,hk,ha⟩;(try dsimp only)
  (repeat first|refine sN rfl ?_|((first|refine sA rfl ?_ ?_|refine s4 rfl ‹_› rfl ?_ ?_);first|exact tI|omega|simp only[oZ] at *;omega)|refine s2 rfl fun _ _hb=>?_|refine s3 rfl ?_ ?_<;>rintro rfl|refine aU rfl ?_|refine lexE ?_|refine rE (by kernel_rfl) ?_)
  (refine aC rfl ?_ ?_<;>rintro ⟨⟩)
  · obtain ⟨x,hx⟩:=get_some (l:=a.nx) (k:=k) (by first|omega|simp only[oZ] at *;omega)
    have hx':=get_map (g:=iiRow) hx
    (repeat' first|refine sN rfl ?_|((first|refine sA rfl ?_ ?_|refine s4 rfl ‹_› rfl ?_ ?_);first|exact tI|omega|simp only[oZ] at *;omega)|refine s2 rfl fun _ _hb=>?_|refine s3 rfl ?_ ?_<;>rintro rfl|refine aU rfl ?_|refine lexE ?_|refine rE (by kernel_rfl) ?_|(refine aC rfl ?_ ?_<;>rintro ⟨⟩)|refine aK ?_|refine aE ?_|refine aB ?_|refine AWp.ret ⟨_,rfl,?_⟩)
    · have h2:=autOk_bad hx (by unfold rowOk;grind)
      show E.o _=E.o _;congr;exact h2.symm
    refine AWp.bound 5 rfl fun hB2=>?_
    have hB2:=hB2 (x.map iRow) .refl
    refine AWp.loopL (α:={j:Nat // j≤x.length∧(x.take j).all (stOk a.nx.length)=true}) (fun ⟨j,hj,hc⟩=>[(1,.o (.ip (auRow a))),(3,eI .i64 (letters a.al).length),(38,eIntss a.nx),(39,eI .i64 a.nx.length),(40,eI .i64 k),(48,eInts x),(49,eI .i64 x.length),(50,eI .i64 j)]) (fun ⟨j,hj,hc⟩=>[]) 0 (fun ⟨j,hj,hc⟩=>x.length - j) (⟨0,by omega,rfl⟩) [] (rl3 hΓ rfl rfl) (by (repeat' first|exact tI|rfl|refine And.intro ?_ ?_)<;>simp[cX,zC,hΓ]) ?_;rintro ⟨j,hj,hc⟩;(try dsimp only)
    (repeat first|refine sN rfl ?_|((first|refine sA rfl ?_ ?_|refine s4 rfl ‹_› rfl ?_ ?_);first|exact tI|omega|simp only[oZ] at *;omega)|refine s2 rfl fun _ _hb=>?_|refine s3 rfl ?_ ?_<;>rintro rfl|refine aU rfl ?_|refine lexE ?_|refine rE (by kernel_rfl) ?_)
    (refine aC rfl ?_ ?_<;>rintro ⟨⟩)
    · obtain ⟨y,hy⟩:=get_some (l:=x) (k:=j) (by first|omega|simp only[oZ] at *;omega)
      have hy':=get_map (g:=iRow) hy
      (repeat' first|refine sN rfl ?_|((first|refine sA rfl ?_ ?_|refine s4 rfl ‹_› rfl ?_ ?_);first|exact tI|omega|simp only[oZ] at *;omega)|refine s2 rfl fun _ _hb=>?_|refine s3 rfl ?_ ?_<;>rintro rfl|refine aU rfl ?_|refine lexE ?_|refine rE (by kernel_rfl) ?_|(refine aC rfl ?_ ?_<;>rintro ⟨⟩)|refine aK ?_|refine aE ?_|refine aB ?_|refine AWp.ret ⟨_,rfl,?_⟩)
      all_goals first
        | (have h2:=autOk_bad hx (by rw [rowOk,all_bad hy (by unfold stOk;grind)];simp);show E.o _=E.o _;congr;exact h2.symm;done)
        | (refine ⟨⟨j+1,by first|omega|simp only[oZ] at *;omega,all_step hy hc (by unfold stOk;grind)⟩,by dsimp only;(first|omega|simp only[oZ] at *;omega),[],?_⟩;simp[cX,zC,hΓ];done)
    · (repeat' first|refine sN rfl ?_|((first|refine sA rfl ?_ ?_|refine s4 rfl ‹_› rfl ?_ ?_);first|exact tI|omega|simp only[oZ] at *;omega)|refine s2 rfl fun _ _hb=>?_|refine s3 rfl ?_ ?_<;>rintro rfl|refine aU rfl ?_|refine lexE ?_|refine rE (by kernel_rfl) ?_|(refine aC rfl ?_ ?_<;>rintro ⟨⟩)|refine aK ?_|refine aE ?_|refine aB ?_|refine AWp.ret ⟨_,rfl,?_⟩)
      have h3:=all_done hc (by first|omega|simp only[oZ] at *;omega)
      refine ⟨⟨k+1,by first|omega|simp only[oZ] at *;omega,all_step hx ha (by rw [rowOk,h3];grind)⟩,by dsimp only;(first|omega|simp only[oZ] at *;omega),[],?_⟩
      simp[cX,zC,hΓ]
  · (repeat' first|refine sN rfl ?_|((first|refine sA rfl ?_ ?_|refine s4 rfl ‹_› rfl ?_ ?_);first|exact tI|omega|simp only[oZ] at *;omega)|refine s2 rfl fun _ _hb=>?_|refine s3 rfl ?_ ?_<;>rintro rfl|refine aU rfl ?_|refine lexE ?_|refine rE (by kernel_rfl) ?_|(refine aC rfl ?_ ?_<;>rintro ⟨⟩)|refine aK ?_|refine aE ?_|refine aB ?_|refine AWp.ret ⟨_,rfl,?_⟩)
    have h2:=autOk_good (a:=a) (by grind) (by grind) (by grind) (by first|omega|simp only[oZ] at *;omega) ha
    show E.o _=E.o _;congr;exact h2.symm
def goA (a:Aut) (q:Nat) (l:Int):Int:=if bitB a.al l.toNat then ((a.nx.getD q []).getD (lettersTo a.al l.toNat).length 0) else q
theorem lettersTo_lt {s:Int} {l k:Nat} (hl:l < k) (hb:bitB s l=true):(lettersTo s l).length < (lettersTo s k).length:=by
  induction k with
  | zero=>omega
  | succ k ih=>
    rw [lettersTo_succ,List.length_append]
    rcases Nat.lt_succ_iff_lt_or_eq.1 hl with h|h
    · have:=ih h;omega
    · subst h;rw [if_pos hb];simp
theorem autOk_row {a:Aut} (h:autOk a=true) {q:Nat} (hq:q < a.nx.length):∃row,a.nx[q]? = some row∧row.length=(letters a.al).length∧∀(i:Nat) (x:Int),row[i]? = some x→0≤x∧x < a.nx.length:=by
  obtain ⟨row,hr⟩:=get_some hq
  refine ⟨row,hr,?_⟩
  unfold autOk at h
  rw [Bool.and_eq_true,List.all_eq_true] at h
  have h1:=h.2 row (List.mem_of_getElem? hr)
  unfold rowOk at h1
  rw [Bool.and_eq_true,List.all_eq_true] at h1
  refine ⟨by grind,fun i x hx=>?_⟩
  have:=h1.2 x (List.mem_of_getElem? hx)
  unfold stOk at this;grind
theorem l3Go_ok (a:Aut) (h:autOk a=true) (q:Nat) (hq:q < a.nx.length) (l:Int) (h0:0≤l) (h1:l < 6):Pure Tryz.prog TB 170 [eAut a,eI .i64 q,eI .i64 l] (eI .i64 (goA a q l)):=by
  refine eN Tryz.func170 rfl (by kernel_rfl) rfl ?_;intro Γ hΓ
  obtain ⟨row,hr,hl,hx⟩:=autOk_row h hq
  have hr':=get_map (g:=iiRow) hr
  by_cases hb:bitB a.al l.toNat=true
  · have hlt:(lettersTo a.al l.toNat).length < row.length:=by rw [hl];exact lettersTo_lt (by omega) hb
    obtain ⟨y,hy⟩:=get_some hlt
    have hy':=get_map (g:=iRow) hy
    (repeat' first|refine sN rfl ?_|((first|refine sA rfl ?_ ?_|refine s4 rfl ‹_› rfl ?_ ?_);first|exact tI|omega|simp only[oZ] at *;omega)|refine s2 rfl fun _ _hb=>?_ |(refine sC rfl (l1Has_ok _ _ (by first|omega|simp only[oZ] at *;omega) (by first|omega|simp only[oZ] at *;omega)) ?_;intro _ _hb)|refine sP rfl (l1Place_ok _ _ (by first|omega|simp only[oZ] at *;omega) (by first|omega|simp only[oZ] at *;omega)) rfl ?_|refine s3 rfl ?_ ?_<;>rintro rfl|refine aU rfl ?_|refine lexE ?_|refine rE (by kernel_rfl) ?_|(refine aC rfl ?_ ?_<;>rintro ⟨⟩)|refine aK ?_|refine aE ?_|refine aB ?_|refine AWp.ret ⟨_,rfl,?_⟩)
    all_goals first
      | (exfalso;grind;done)
      | (show E.o _=E.o _;congr;unfold goA;rw [if_pos hb];simp [List.getD,hr,hy];done)
  · (repeat' first|refine sN rfl ?_|((first|refine sA rfl ?_ ?_|refine s4 rfl ‹_› rfl ?_ ?_);first|exact tI|omega|simp only[oZ] at *;omega)|refine s2 rfl fun _ _hb=>?_ |(refine sC rfl (l1Has_ok _ _ (by first|omega|simp only[oZ] at *;omega) (by first|omega|simp only[oZ] at *;omega)) ?_;intro _ _hb)|refine s3 rfl ?_ ?_<;>rintro rfl|refine aU rfl ?_|refine lexE ?_|refine rE (by kernel_rfl) ?_|(refine aC rfl ?_ ?_<;>rintro ⟨⟩)|refine aK ?_|refine aE ?_|refine aB ?_|refine AWp.ret ⟨_,rfl,?_⟩)
    all_goals first
      | (show E.o _=E.o _;congr;unfold goA;rw [if_neg hb];done)
      | (exfalso;grind;done)
structure Net where
  ps:List Sys
  au:List Aut
  st:List Int
  ls:Int
  kd:Int
  gl:Int
end Go.Am
namespace Go.Am
open Go
inductive Fits:List Int→List Int→Prop
  | nil:Fits [] []
  | cons {z s:Int} {zs ss:List Int}:0≤s→s < z→Fits zs ss→Fits (z::zs) (s::ss)
end Go.Am
namespace Go.Am
open Go Go.Proofs
set_option maxHeartbeats 1000000
attribute [local irreducible] QOp AOp Lex LexO AWp Spec
variable {TB:Amb}
end Go.Am
namespace Go.Am
open Go
theorem befB_trans {a b c:Edg} (h:befB a b=true) (k:befB b c=true):befB a c=true:=by
  unfold befB at *;grind
theorem sysOk_head {s:Sys} (h:sysOk s=true):alphB s.al=true∧1≤s.st∧s.st≤16:=by
  unfold sysOk at h;grind
theorem sysOk_edge {s:Sys} (h:sysOk s=true) {e:Edg} (he:e∈s.es):edgeOk s.al s.st e=true:=by
  obtain ⟨k,hk,rfl⟩:=List.getElem_of_mem he
  unfold sysOk at h
  simp only [Bool.and_eq_true,List.all_eq_true] at h
  have h1:=h.2 k (List.mem_range.2 hk)
  cases k with
  | zero=>rw [sysAt_0 (List.getElem?_eq_getElem hk)] at h1;exact h1
  | succ k=>rw [sysAt_s (List.getElem?_eq_getElem hk) (List.getElem?_eq_getElem (by omega))] at h1;grind
theorem sysOk_sorted {s:Sys} (h:sysOk s=true):s.es.Pairwise fun a b=>befB a b=true:=by
  have key:∀(l:List Edg),(∀(k:Nat) (p e:Edg),l[k]? = some p→l[k+1]? = some e→befB p e=true)→l.Pairwise fun a b=>befB a b=true:=by
    intro l
    induction l with
    | nil=>intro _;exact .nil
    | cons a l ih=>
      intro hl
      have h1:=ih fun k p e hp he=>hl (k+1) p e (by simpa using hp) (by simpa using he)
      refine List.pairwise_cons.2 ⟨fun b hb=>?_,h1⟩
      cases l with
      | nil=>cases hb
      | cons c l=>
        have h2:=hl 0 a c rfl rfl
        rcases List.mem_cons.1 hb with rfl|hb
        · exact h2
        · exact befB_trans h2 ((List.pairwise_cons.1 h1).1 b hb)
  refine key _ fun k p e hp he=>?_
  unfold sysOk at h
  simp only [Bool.and_eq_true,List.all_eq_true] at h
  have h1:=h.2 (k+1) (List.mem_range.2 (List.getElem?_eq_some_iff.1 he).1)
  rw [sysAt_s he hp] at h1
  grind
theorem goA_in {a:Aut} (h:autOk a=true) {q:Nat} (hq:q < a.nx.length) {l:Int} (h0:0≤l) (h1:l < 6):0≤goA a q l∧goA a q l < a.nx.length:=by
  obtain ⟨row,hr,hl,hx⟩:=autOk_row h hq
  unfold goA
  split
  · rename_i hb
    have hlt:(lettersTo a.al l.toNat).length < row.length:=by rw [hl];exact lettersTo_lt (by omega) hb
    obtain ⟨y,hy⟩:=get_some hlt
    have:=hx _ y hy
    simpa [List.getD,hr,hy] using this
  · omega
structure NetOk (n:Net):Prop where
  ps:∀s∈n.ps,sysOk s=true
  au:∀a∈n.au,autOk a=true
  np:n.ps.length≤3
  na:n.au.length≤2
inductive ChOk:List Int→List (List Int)→Prop
  | nil:ChOk [] []
  | cons {z:Int} {c:List Int} {zs:List Int} {cs:List (List Int)}:(∀x∈c,0≤x∧x < z)→(c.length:Int)≤z→ChOk zs cs→ChOk (z::zs) (c::cs)
end Go.Am
namespace Go.Am
open Go Go.Proofs
set_option maxHeartbeats 1000000
attribute [local irreducible] QOp AOp Lex LexO AWp Spec
variable {TB:Amb}
theorem lettersTo_in {s:Int} {k:Nat} {l:Int} (h:l∈lettersTo s k):0≤l∧l < k∧bitB s l.toNat=true:=by
  unfold lettersTo at h
  obtain ⟨i,hi,rfl⟩:=List.mem_map.1 h
  obtain ⟨h1,h2⟩:=List.mem_filter.1 hi
  have:=List.mem_range.1 h1
  exact ⟨Int.natCast_nonneg _,by show ((i:Nat):Int) < k;omega,h2⟩
structure KdOk (n:Net):Prop where
  one:n.kd=0∨n.kd=3∨n.kd=5→1≤n.au.length
  two:n.kd=1∨n.kd=2→2≤n.au.length
def negN (l:List Int):Nat:=l.countP (decide <| · < 0)
structure DistOk (mv:List (List (List Int))) (g:Nat→Bool) (dist:List Int):Prop where
  len:dist.length=mv.length
  zero:∀i,i < mv.length→(dist.getD i 0=0↔g i=true)
  step:∀i,i < mv.length→0 < dist.getD i 0→∃r∈mv.getD i [],∃j∈r,dist.getD j.toNat 0=dist.getD i 0 - 1
  close:∀i,i < mv.length→∀r∈mv.getD i [],∀j∈r,0≤dist.getD j.toNat 0→0≤dist.getD i 0∧dist.getD i 0≤dist.getD j.toNat 0+1
  bound:∀i,i < mv.length→-1≤dist.getD i 0∧dist.getD i 0≤mv.length+1
structure DI (mv:List (List (List Int))) (g:Nat→Bool) (dist:List Int) (d:Int) (more:Bool) (i:Nat):Prop where
  len:dist.length=mv.length
  d1:1≤d
  zero:∀i,i < mv.length→(dist.getD i 0=0↔g i=true)
  step:∀i,i < mv.length→0 < dist.getD i 0→∃r∈mv.getD i [],∃j∈r,dist.getD j.toNat 0=dist.getD i 0 - 1
  lt:∀x,x < mv.length→-1≤dist.getD x 0∧dist.getD x 0≤d
  up:∀x,i≤x→x < mv.length→dist.getD x 0 < d
  last:more=false→∀x,x < mv.length→dist.getD x 0 < d
  close:∀x,x < mv.length→∀r∈mv.getD x [],∀j∈r,0≤dist.getD j.toNat 0→(dist.getD j.toNat 0 < d - 1∨x < i∧dist.getD j.toNat 0=d - 1)→0≤dist.getD x 0∧dist.getD x 0≤dist.getD j.toNat 0+1
structure DHead (mv:List (List (List Int))) (g:Nat→Bool) (dt:List Int) (d:Int) (more:Bool):Prop where
  len:dt.length=mv.length
  d1:1≤d
  d2:d≤mv.length+2
  yes:more=true→DI mv g dt d true 0∧d+negN dt≤mv.length+1
  no:more=false→DistOk mv g dt
structure DMid (mv:List (List (List Int))) (g:Nat→Bool) (dt:List Int) (d:Int) (du:List Int) (m2:Bool) (i:Nat):Prop where
  le:i≤mv.length
  di:DI mv g du d m2 i
  cnt:negN du+(if m2 then 1 else 0)≤negN dt
def AccOk (n:Nat) (acc:List Int):Prop:=acc.Nodup∧∀x∈acc,0≤x∧x < n
end Go.Am
namespace Go.Am
open Go
structure Gr where
  N:Nat
  succ:Int→Int→List Int
  goal:Int→Bool
  ls:List Int
  s0:Int
structure GrOk (g:Gr):Prop where
  s0:0≤g.s0∧g.s0 < g.N
  inn:∀x:Int,0≤x∧x < g.N→∀l∈g.ls,∀y∈g.succ x l,0≤y∧y < g.N
  srt:g.ls.Pairwise (· < ·)
def reach (g:Gr):List Int→Int→Int→Prop
  | [],a,x=>a=x
  | l::w,a,x=>∃y∈g.succ a l,reach g w y x
def over (g:Gr) (w:List Int):Prop:=∀l∈w,l∈g.ls
def llt:List Int→List Int→Prop
  | a::u,b::w=>a < b∨a=b∧llt u w
  | _,_=>False
def slt (u w:List Int):Prop:=u.length < w.length∨u.length=w.length∧llt u w
structure DistG (g:Gr) (dx:Int→Int):Prop where
  zero:∀x:Int,0≤x∧x < g.N→(dx x=0↔g.goal x=true)
  step:∀x:Int,0≤x∧x < g.N→0 < dx x→∃l∈g.ls,∃j∈g.succ x l,dx j=dx x - 1
  close:∀x:Int,0≤x∧x < g.N→∀l∈g.ls,∀j∈g.succ x l,0≤dx j→0≤dx x∧dx x≤dx j+1
structure WInv (g:Gr) (dx:Int→Int) (w:List Int) (at':List Int) (d:Int):Prop where
  ov:over g w
  ne:at'≠[]
  acc:AccOk g.N at'
  mem:∀x,x∈at'↔reach g w g.s0 x∧dx x=d
  len:w.length+d=dx g.s0
  d0:0≤d
  min:∀u,over g u→u.length=w.length→llt u w→∀x,reach g u g.s0 x→dx x≠d
end Go.Am
namespace Go.Am
open Go Go.Proofs
set_option maxHeartbeats 1000000
attribute [local irreducible] QOp AOp Lex LexO AWp Spec
variable {TB:Amb}
theorem letters_sorted (s:Int) (k:Nat):(lettersTo s k).Pairwise (· < ·):=by
  unfold lettersTo
  rw [List.pairwise_map]
  refine (List.pairwise_lt_range.filter _).imp fun {a b} h=>?_
  show ((a:Nat):Int) < ((b:Nat):Int)
  omega
theorem iOr_nat {a b:Nat} (ha:a < 64) (hb:b < 64):iOr .i64 a b=((a ||| b:Nat):Int)∧a ||| b < 64:=by
  have h0:a ||| b < 64:=Nat.or_lt_two_pow (n:=6) ha hb
  refine ⟨?_,h0⟩
  unfold iOr
  have h1:(BitVec.ofInt IntKind.i64.bits (a:Int) ||| BitVec.ofInt IntKind.i64.bits (b:Int)).toNat=a ||| b:=by
    have e:IntKind.i64.bits=64:=rfl
    rw [e]
    simp only [BitVec.toNat_or,BitVec.ofInt_natCast,BitVec.toNat_ofNat]
    rw [Nat.mod_eq_of_lt (by omega),Nat.mod_eq_of_lt (by omega)]
  rw [h1]
  exact IntWalk.i64_in _ (by omega)
end Go.Am
namespace Go.Am
open Go
def setN:List Int→Nat
  | []=>0
  | x::l=>2 ^ x.toNat+setN l
theorem setN_app:∀(l m:List Int),setN (l++m)=setN l+setN m
  | [],m=>by simp [setN]
  | x::l,m=>by simp [setN,setN_app l m,Nat.add_assoc]
theorem setN_lt:∀ {l:List Int} {t:Nat},l.Pairwise (· < ·)→(∀x∈l,0≤x∧x < t)→setN l < 2 ^ t
  | [],t,_,_=>Nat.two_pow_pos t
  | x :: l,t,hp,h=>by
    have key:∀(l:List Int) (a t:Nat),(∀x∈l,(a:Int)≤x∧x < t)→l.Pairwise (· < ·)→a≤t→2 ^ a+setN l≤2 ^ t:=by
      intro l
      induction l with
      | nil=>intro a t _ _ hat;simpa [setN] using Nat.pow_le_pow_right (by omega) hat
      | cons y l ih=>
        intro a t h hp hat
        have hy:=h y (by simp)
        have hp2:=List.pairwise_cons.1 hp
        have h1:=ih (y.toNat+1) t (fun x hx=>by have:=hp2.1 x hx;have:=h x (by simp [hx]);omega) hp2.2 (by omega)
        have h2:2 ^ a≤2 ^ y.toNat:=Nat.pow_le_pow_right (by omega) (by omega)
        rw [Nat.pow_succ] at h1
        simp only [setN];omega
    have hx:=h x (by simp)
    have hp2:=List.pairwise_cons.1 hp
    have h1:=key l (x.toNat+1) t (fun y hy=>by have:=hp2.1 y hy;have:=h y (by simp [hy]);omega) hp2.2 (by omega)
    rw [Nat.pow_succ] at h1
    simp only [setN]
    have:=Nat.two_pow_pos x.toNat
    omega
theorem setN_or {l:List Int} {t:Nat} (hp:l.Pairwise (· < ·)) (h:∀x∈l,0≤x∧x < t):setN l ||| 2 ^ t=setN (l++[(t:Int)]):=by
  have h1:=setN_lt hp h
  rw [setN_app]
  have h2:=Nat.two_pow_add_eq_or_of_lt h1 1
  simp only [Nat.mul_one] at h2
  rw [Nat.or_comm,←h2]
  simp [setN];omega
theorem and_pred:∀(k m:Nat),(2 ^ k*(2*m+1)) &&& (2 ^ k*(2*m+1) - 1)=2 ^ k*(2*m)
  | 0, m=>by
    apply Nat.eq_of_testBit_eq
    intro i
    cases i with
    | zero=>simp
    | succ i=>
      simp only [Nat.pow_zero,Nat.one_mul,Nat.add_sub_cancel]
      have h1:(2*m+1) / 2=m:=by omega
      have h2:2*m / 2=m:=by omega
      rw [Nat.testBit_and,Nat.testBit_succ,Nat.testBit_succ,h1,h2];simp
  | k + 1,m=>by
    have ih:=and_pred k m
    have hp:0 < 2 ^ k*(2*m+1):=Nat.mul_pos (Nat.two_pow_pos k) (by omega)
    have e1:2 ^ (k+1)*(2*m+1)=2*(2 ^ k*(2*m+1)):=by rw [Nat.pow_succ,Nat.mul_comm (2 ^ k) 2,Nat.mul_assoc]
    have e2:2 ^ (k+1)*(2*m)=2*(2 ^ k*(2*m)):=by rw [Nat.pow_succ,Nat.mul_comm (2 ^ k) 2,Nat.mul_assoc]
    rw [e1,e2,←ih]
    generalize 2 ^ k*(2*m+1)=a at hp
    apply Nat.eq_of_testBit_eq
    intro i
    cases i with
    | zero=>simp
    | succ i=>
      have h1:2*a / 2=a:=by omega
      have h2:(2*a - 1) / 2=a - 1:=by omega
      have h3:2*(a &&& (a - 1)) / 2=a &&& (a - 1):=by omega
      rw [Nat.testBit_and,Nat.testBit_succ,Nat.testBit_succ,Nat.testBit_succ,h1,h2,h3,Nat.testBit_and]
theorem setN_split:∀ {l:List Int} {k:Nat},l.Pairwise (· < ·)→(∀x∈l,(k:Int) < x)→∃m,setN l=2 ^ k*(2*m)
  | [],k,_,_=>⟨0,by simp [setN]⟩
  | x :: l,k,hp,h=>by
    have hp2:=List.pairwise_cons.1 hp
    have hx:=h x (by simp)
    obtain ⟨m,hm⟩:=setN_split (l:=l) (k:=k) hp2.2 fun y hy=>by have:=hp2.1 y hy;omega
    refine ⟨2 ^ (x.toNat - k - 1)+m,?_⟩
    have e:x.toNat=k+(1+(x.toNat - k - 1)):=by omega
    have:2 ^ x.toNat=2 ^ k*(2*2 ^ (x.toNat - k - 1)):=by
      conv=>lhs;rw [e,Nat.pow_add,Nat.pow_add]
    simp only [setN,hm,this,←Nat.mul_add]
theorem setN_cons {x:Int} {l:List Int} (hp:(x::l).Pairwise (· < ·)) (h0:0≤x):∃m,setN (x::l)=2 ^ x.toNat*(2*m+1)∧setN l=2 ^ x.toNat*(2*m):=by
  have hp2:=List.pairwise_cons.1 hp
  obtain ⟨m,hm⟩:=setN_split (l:=l) (k:=x.toNat) hp2.2 fun y hy=>by have:=hp2.1 y hy;omega
  exact ⟨m,by simp only [setN,hm];rw [Nat.mul_add];omega,hm⟩
theorem setN_pred {x:Int} {l:List Int} (hp:(x::l).Pairwise (· < ·)) (h0:0≤x):setN (x::l) &&& (setN (x::l) - 1)=setN l:=by
  obtain ⟨m,h1,h2⟩:=setN_cons hp h0
  rw [h1,h2,and_pred]
theorem setN_pos {x:Int} {l:List Int}:0 < setN (x::l):=by
  simp only [setN];have:=Nat.two_pow_pos x.toNat;omega
theorem setN_ctz {x:Int} {l:List Int} (hp:(x::l).Pairwise (· < ·)) (h0:0≤x) (hlt:setN (x::l) < 2 ^ 64):Lib.ctz 64 (setN (x::l))=x.toNat:=by
  obtain ⟨m,h1,_⟩:=setN_cons hp h0
  have h2:=Lib.lowest_bit 64 _ (by have:=setN_pos (x:=x) (l:=l);omega) hlt
  have h3:=Lib.and_neg 64 x.toNat m (by rw [←h1];exact hlt)
  rw [←h1,h2.1] at h3
  exact (Nat.pow_right_inj (by omega)).1 h3
end Go.Am
namespace Go.Am
open Go Go.Proofs
set_option maxHeartbeats 1000000
attribute [local irreducible] QOp AOp Lex LexO AWp Spec
variable {TB:Amb}
theorem tab1_at (i:Nat) (h:i < 64):tabdeBruijn64tab[i]? = some (.int .u8 (Lib.deBruijn64tab.getD i 0:Nat)):=by
  have e:tabdeBruijn64tab=Lib.deBruijn64tab.map fun n=>Value.int .u8 (n:Nat):=rfl
  have hl:Lib.deBruijn64tab.length=64:=rfl
  rw [e,List.getElem?_map,List.getElem?_eq_getElem (by omega)]
  simp [List.getD,hl,h]
theorem tz_key (x a:Nat) (hx:x < 18446744073709551616) (hx0:x≠0) (hlow:x &&& (18446744073709551616 - x)=a) :
    (IntKind.u64.wrap (iAnd .u64 (x:Int) (IntKind.u64.wrap (-(x:Int)))*285870213051353865)).fdiv (2 ^ (min (58:Int).toNat IntKind.u64.bits))=((a*285870213051353865 % 18446744073709551616 / 288230376151711744:Nat):Int):=by
  have w64:∀n:Int,IntKind.u64.wrap n=n % 18446744073709551616:=fun n=>by simp [IntKind.wrap,IntKind.signed,IntKind.bits]
  have e1:IntKind.u64.wrap (-(x:Int))=((18446744073709551616 - x:Nat):Int):=by rw [w64];omega
  have e2:iAnd .u64 (x:Int) ((18446744073709551616 - x:Nat):Int)=(a:Int):=by
    unfold iAnd
    have e:IntKind.u64.bits=64:=rfl
    rw [e]
    have h1:(BitVec.ofInt 64 (x:Int) &&& BitVec.ofInt 64 ((18446744073709551616 - x:Nat):Int)).toNat=a:=by
      simp only [BitVec.toNat_and,BitVec.ofInt_natCast,BitVec.toNat_ofNat]
      rw [Nat.mod_eq_of_lt (by omega),Nat.mod_eq_of_lt (by omega),hlow]
    rw [h1,w64]
    have h2:a≤x:=by rw [←hlow];exact Nat.and_le_left
    omega
  rw [e1,e2,w64]
  have e3:(2:Int) ^ (min (58:Int).toNat IntKind.u64.bits)=288230376151711744:=rfl
  rw [e3,Int.fdiv_eq_ediv_of_nonneg _ (by omega)]
  omega
theorem tz64_ok [Tabs TB] (x:Nat) (hx0:x≠0) (hx:x < 18446744073709551616):Pure Tryz.prog TB 178 [eI .u64 x] (eI .i64 (Lib.ctz 64 x)):=by
  obtain ⟨hlow,hk⟩:=Lib.lowest_bit 64 x hx0 hx
  obtain ⟨hi,htab⟩:=Lib.deBruijn64_at _ hk
  have hkey:=tz_key x _ hx hx0 hlow
  have htv:=tab1_at _ hi
  rw [htab] at htv
  generalize Lib.ctz 64 x=cz at *
  generalize 2 ^ cz*285870213051353865 % 18446744073709551616 / 288230376151711744=idx at *
  refine eN Tryz.func178 rfl (by kernel_rfl) rfl ?_;intro Γ hΓ
  (repeat' first|refine sN rfl ?_|((first|refine sA rfl ?_ ?_|refine s4 rfl ‹_› rfl ?_ ?_);first|exact tI|omega|simp only[oZ] at *;omega)|refine s2 rfl fun _ _hb=>?_|(refine popO rfl ?_;refine gA rfl ?_;first|refine gS (fun _ _=>q_neg rfl rfl) ?_|refine gS (fun _ _=>q_mul rfl rfl rfl) ?_)|refine s3 rfl ?_ ?_<;>rintro rfl|refine aU rfl ?_|refine lexE ?_|refine rE (by kernel_rfl) ?_|(refine aC rfl ?_ ?_<;>rintro ⟨⟩)|refine aK ?_|refine aE ?_|refine aB ?_|refine AWp.ret ⟨_,rfl,?_⟩)
  · exfalso;first|omega|simp only[oZ] at *;omega
  rw [hkey]
  clear hkey hlow htab
  (repeat' first|refine sN rfl ?_|((first|refine sA rfl ?_ ?_|refine s4 rfl ‹_› rfl ?_ ?_);first|exact tI|omega|simp only[oZ] at *;omega)|refine s2 rfl fun _ _hb=>?_|(refine popO rfl ?_;refine gA rfl ?_;first|refine gS (fun _ _=>q_indexG (v:=.int .u8 ((cz:Nat):Int)) rfl (by omega) (by omega) (by rw [Int.toNat_natCast];exact htv)) ?_)|refine s3 rfl ?_ ?_<;>rintro rfl|refine aU rfl ?_|refine lexE ?_|refine rE (by kernel_rfl) ?_|(refine aC rfl ?_ ?_<;>rintro ⟨⟩)|refine aK ?_|refine aE ?_|refine aB ?_|refine AWp.ret ⟨_,rfl,?_⟩)
  rfl
theorem tz_ok [Tabs TB] (x:Nat) (hx0:x≠0) (hx:x < 18446744073709551616):Pure Tryz.prog TB 175 [eI .u64 x] (eI .i64 (Lib.ctz 64 x)):=by
  refine eN Tryz.func175 rfl (by kernel_rfl) rfl ?_;intro Γ hΓ
  (repeat' first|refine sN rfl ?_|((first|refine sA rfl ?_ ?_|refine s4 rfl ‹_› rfl ?_ ?_);first|exact tI|omega|simp only[oZ] at *;omega)|refine s2 rfl fun _ _hb=>?_ |refine sP rfl (tz64_ok x hx0 hx) rfl ?_|refine s3 rfl ?_ ?_<;>rintro rfl|refine aU rfl ?_|refine lexE ?_|refine rE (by kernel_rfl) ?_|(refine aC rfl ?_ ?_<;>rintro ⟨⟩)|refine aK ?_|refine aE ?_|refine aB ?_|refine AWp.ret ⟨_,rfl,?_⟩)
  all_goals rfl
theorem iAnd_pred {x:Int} {l:List Int} (hp:(x::l).Pairwise (· < ·)) (h0:0≤x) (hlt:setN (x::l) < 2 ^ 62):iAnd .i64 (setN (x::l):Nat) ((setN (x::l):Nat) - 1)=(setN l:Nat):=by
  have h1:=setN_pred hp h0
  have h2:=setN_pos (x:=x) (l:=l)
  have h3:setN l≤setN (x::l):=Nat.le_add_left _ _
  generalize setN (x::l)=a at *
  have e1:((a:Nat):Int) - 1=((a - 1:Nat):Int):=by omega
  rw [e1]
  unfold iAnd
  have e:IntKind.i64.bits=64:=rfl
  rw [e]
  have h4:(BitVec.ofInt 64 (a:Int) &&& BitVec.ofInt 64 ((a - 1:Nat):Int)).toNat=setN l:=by
    simp only [BitVec.toNat_and,BitVec.ofInt_natCast,BitVec.toNat_ofNat]
    rw [Nat.mod_eq_of_lt (by omega),Nat.mod_eq_of_lt (by omega),h1]
  rw [h4]
  exact IntWalk.i64_in _ (by omega)
theorem renL_d (r:Nat→Nat):∀ds:List D,C.renL r (ds.map .d)=ds.map .d
  | []=>rfl
  | d::l=>by simp [C.renL,C.ren,renL_d r l]
def toL (es:List Edg) (f l:Nat):List Int:=(es.filter fun e:Edg=>decide (e.f=(f:Int)) && decide (e.l=(l:Int))).map (·.t)
def mvRow (es:List Edg):List D:=(List.range 96).map fun i=>iD (setN (toL es (i / 6) (i % 6)):Nat)
theorem mvRow_get {es:List Edg} {i:Nat} (h:i < 96):(mvRow es)[i]? = some (iD (setN (toL es (i / 6) (i % 6)):Nat)):=by simp [mvRow,h]
theorem toL_app (es:List Edg) (e:Edg) (f l:Nat):toL (es++[e]) f l=toL es f l++if e.f=(f:Int)∧e.l=(l:Int) then [e.t] else []:=by
  simp only [toL,List.filter_append,List.map_append,List.filter_cons,List.filter_nil]
  grind
theorem splice_set {r:List C} {j:Nat} {c:C} (h:j < r.length):spliceC r j [c]=r.set j c:=by
  unfold spliceC
  rw [List.set_eq_take_append_cons_drop,if_pos h]
  simp
theorem mvRow_step {es:List Edg} {e:Edg} {v:Int} (h0:0≤e.f∧e.f < 16) (h1:0≤e.l∧e.l < 6) (hv:v=(setN (toL (es++[e]) e.f.toNat e.l.toNat):Nat)) :
    spliceC ((mvRow es).map .d) (0+e.f.toNat*6+e.l.toNat*1) (eC (eI .i64 v))=(mvRow (es++[e])).map .d:=by
  have hj:0+e.f.toNat*6+e.l.toNat*1 < 96:=by omega
  have:eC (eI .i64 v)=[C.d (iD v)]:=rfl
  rw [this,splice_set (by simp [mvRow];omega),←List.map_set]
  congr 1
  apply List.ext_getElem?
  intro i
  by_cases hi:i < 96
  · rw [mvRow_get hi]
    by_cases hij:0+e.f.toNat*6+e.l.toNat*1=i
    · subst hij
      rw [List.getElem?_set_self (by simp [mvRow];omega),hv]
      have e1:(0+e.f.toNat*6+e.l.toNat*1) / 6=e.f.toNat:=by omega
      have e2:(0+e.f.toNat*6+e.l.toNat*1) % 6=e.l.toNat:=by omega
      rw [e1,e2]
    · rw [List.getElem?_set_ne hij,mvRow_get hi,toL_app,if_neg (by omega),List.append_nil]
  · rw [List.getElem?_eq_none (by simp [mvRow];omega),List.getElem?_eq_none (by simp [mvRow];omega)]
theorem toL_sorted {s:Sys} (h:sysOk s=true) (k f l:Nat):(toL (s.es.take k) f l).Pairwise (· < ·):=by
  unfold toL
  rw [List.pairwise_map]
  refine List.Pairwise.imp_of_mem (fun {a b} ha hb hab=>?_) (((sysOk_sorted h).sublist (List.take_sublist k s.es)).filter _)
  have h1:=(List.mem_filter.1 ha).2
  have h2:=(List.mem_filter.1 hb).2
  unfold befB at hab
  grind
theorem toL_in {s:Sys} (h:sysOk s=true) {k f l:Nat} {x:Int} (hx:x∈toL (s.es.take k) f l):0≤x∧x < 16:=by
  unfold toL at hx
  obtain ⟨e,he,rfl⟩:=List.mem_map.1 hx
  have h2:=sysOk_edge h (List.mem_of_mem_take (List.mem_filter.1 he).1)
  have h3:=sysOk_head h
  unfold edgeOk at h2
  grind
theorem iOr_set {a t:Nat} (ha:a < 2 ^ 16) (ht:t < 16):iOr .i64 (a:Nat) ((2 ^ t:Nat):Int)=((a ||| 2 ^ t:Nat):Int):=by
  have h2:2 ^ t < 2 ^ 16:=Nat.pow_lt_pow_right (by omega) ht
  have h0:a ||| 2 ^ t < 2 ^ 16:=Nat.or_lt_two_pow ha h2
  unfold iOr
  have h1:(BitVec.ofInt IntKind.i64.bits (a:Int) ||| BitVec.ofInt IntKind.i64.bits ((2 ^ t:Nat):Int)).toNat=a ||| 2 ^ t:=by
    have e:IntKind.i64.bits=64:=rfl
    rw [e]
    simp only [BitVec.toNat_or,BitVec.ofInt_natCast,BitVec.toNat_ofNat]
    rw [Nat.mod_eq_of_lt (by omega),Nat.mod_eq_of_lt (by omega)]
  rw [h1]
  exact IntWalk.i64_in _ (by omega)
theorem shl_one {t:Int} (h0:0≤t) (h1:t < 16):IntKind.i64.wrap (1*2 ^ (min t.toNat IntKind.i64.bits))=((2 ^ t.toNat:Nat):Int):=by
  have e:min t.toNat IntKind.i64.bits=t.toNat:=by
    have:IntKind.i64.bits=64:=rfl
    omega
  rw [e,Int.one_mul]
  have h2:2 ^ t.toNat < 2 ^ 16:=Nat.pow_lt_pow_right (by omega) (by omega)
  have h3:(2:Int) ^ t.toNat=((2 ^ t.toNat:Nat):Int):=by push_cast;rfl
  rw [h3]
  generalize 2 ^ t.toNat=p at *
  exact IntWalk.i64_in _ (by omega)
theorem movesOf_ok (s:Sys) (h:sysOk s=true):Pure Tryz.prog TB 110 [eSys s] (.o (.ip (mvRow s.es))):=by
  refine eN Tryz.func110 rfl (by kernel_rfl) rfl ?_;intro Γ hΓ
  (repeat first|refine sN rfl ?_|((first|refine sA rfl ?_ ?_|refine s4 rfl ‹_› rfl ?_ ?_);first|exact tI|omega|simp only[oZ] at *;omega)|refine s2 rfl fun _ _hb=>?_|refine s3 rfl ?_ ?_<;>rintro rfl|refine aU rfl ?_|refine lexE ?_|refine rE (by kernel_rfl) ?_)
  refine AWp.bound 8 rfl fun hB0=>?_
  have hB:=hB0 (s.es.map edRow) .refl
  refine AWp.block ?_
  refine AWp.loopL (α:={k:Nat // k≤s.es.length}) (fun ⟨k,hk⟩=>[(3,.o (.ptr 0 96 0 0)),(8,eEdgs s.es),(9,eI .i64 s.es.length),(10,eI .i64 k)]) (fun ⟨k,hk⟩=>[(0,.cells 160 96 [(mvRow (s.es.take k)).map .d])]) 1 (fun ⟨k,hk⟩=>s.es.length - k) (⟨0,by omega⟩) [0] (rl3 hΓ rfl rfl) (by (repeat' first|exact tI|rfl|refine And.intro ?_ ?_)<;>simp[cX,zC,hΓ]) ?_;rintro ⟨k,hk⟩;(try dsimp only)
  (repeat first|refine sN rfl ?_|((first|refine sM rfl ?_ ?_|refine s4 rfl ‹_› rfl ?_ ?_);first|exact tI|omega|simp only[oZ] at *;omega)|refine s2 rfl fun _ _hb=>?_|refine s3 rfl ?_ ?_<;>rintro rfl|refine aU rfl ?_|refine lexE ?_|refine rE (by kernel_rfl) ?_)
  (refine aC rfl ?_ ?_<;>rintro ⟨⟩)
  · obtain ⟨e,he⟩:=get_some (l:=s.es) (k:=k) (by first|omega|simp only[oZ] at *;omega)
    have he':=get_map (g:=edRow) he
    have heo:=sysOk_edge h (List.mem_of_getElem? he)
    have hh:=sysOk_head h
    unfold edgeOk at heo
    simp only [Bool.and_eq_true,decide_eq_true_eq] at heo
    obtain ⟨⟨hf0,hf1,ht0,ht1,hl0,hl1⟩,hbit⟩:=heo
    have hj96:0+e.f.toNat*6+e.l.toNat*1+1≤96:=by omega
    have hshl:=shl_one ht0 (by omega)
    have htk:s.es.take (k+1)=s.es.take k++[e]:=by rw [List.take_add_one,he];rfl
    have hap:toL (s.es.take (k+1)) e.f.toNat e.l.toNat=toL (s.es.take k) e.f.toNat e.l.toNat++[e.t]:=by
      rw [htk,toL_app,if_pos (by omega)]
    have hbnd:∀x∈toL (s.es.take k) e.f.toNat e.l.toNat,0≤x∧x < e.t.toNat:=by
      intro x hx
      have h1:=toL_sorted h (k+1) e.f.toNat e.l.toNat
      rw [hap,List.pairwise_append] at h1
      have h2:=h1.2.2 x hx e.t (by simp)
      have h3:=toL_in h hx
      omega
    have hor1:=setN_or (toL_sorted h k e.f.toNat e.l.toNat) hbnd
    have hlt:=setN_lt (t:=16) (toL_sorted h k e.f.toNat e.l.toNat) fun x hx=>toL_in h hx
    have hor:=iOr_set hlt (t:=e.t.toNat) (by omega)
    have et:((e.t.toNat:Nat):Int)=e.t:=by omega
    rw [hor1,et,←hap,htk] at hor
    have hstep:=mvRow_step (es:=s.es.take k) (e:=e) ⟨hf0,by omega⟩ ⟨hl0,hl1⟩ rfl
    rw [←hor] at hstep
    have hld:((mvRow (s.es.take k)).map C.d)[0+e.f.toNat*6+e.l.toNat*1]? = some (.d (iD (setN (toL (s.es.take k) e.f.toNat e.l.toNat):Nat))):=by
      have e1:(0+e.f.toNat*6+e.l.toNat*1) / 6=e.f.toNat:=by omega
      have e2:(0+e.f.toNat*6+e.l.toNat*1) % 6=e.l.toNat:=by omega
      rw [List.getElem?_map,mvRow_get (by omega),e1,e2];rfl
    refine AWp.skip ?_
    refine AWp.seq (AWp.block ?_)
    (repeat first|refine sN rfl ?_|((first|refine sA rfl ?_ ?_|refine s4 rfl ‹_› rfl ?_ ?_);first|exact tI|omega|simp only[oZ] at *;omega)|refine s2 rfl fun _ _hb=>?_|refine s3 rfl ?_ ?_<;>rintro rfl|refine aU rfl ?_|refine lexE ?_)
    refine rG (flN [16]) (by kernel_rfl) ?_
    (repeat first|refine sN rfl ?_|((first|refine sA rfl ?_ ?_|refine s4 rfl ‹_› rfl ?_ ?_);first|exact tI|omega|simp only[oZ] at *;omega)|refine s2 rfl fun _ _hb=>?_|(refine popO rfl ?_;refine gA rfl ?_;first|refine gS (fun _ _=>q_shl rfl rfl (by first|omega|simp only[oZ] at *;omega) hshl) ?_|refine gQ (q_loadP rfl rfl rfl hld) (by rfl) ?_)|refine s3 rfl ?_ ?_<;>rintro rfl|refine aU rfl ?_|refine lexE ?_|refine rE (by kernel_rfl) ?_)
    (refine popO rfl ?_;refine popW0 ?_ rfl (by rfl);refine n_store rfl rfl rfl rfl (rfl) rfl (hj96) ?_)
    (repeat first|refine sN rfl ?_|((first|refine sA rfl ?_ ?_|refine s4 rfl ‹_› rfl ?_ ?_);first|exact tI|omega|simp only[oZ] at *;omega)|refine s2 rfl fun _ _hb=>?_|refine s3 rfl ?_ ?_<;>rintro rfl|refine aU rfl ?_|refine lexE ?_)
    refine ⟨⟨k+1,by first|omega|simp only[oZ] at *;omega⟩,by dsimp only;(first|omega|simp only[oZ] at *;omega),[0],?_⟩
    rw [hstep,←htk]
    simp[cX,zC,hΓ,List.set_cons_zero,renL_d]
  · obtain rfl:k=s.es.length:=by first|omega|simp only[oZ] at *;omega
    refine AWp.exit ?_
    rw [List.take_length]
    (repeat first|refine sN rfl ?_|((first|refine sM rfl ?_ ?_|refine s4 rfl ‹_› rfl ?_ ?_);first|exact tI|omega|simp only[oZ] at *;omega)|refine s2 rfl fun _ _hb=>?_|refine s3 rfl ?_ ?_<;>rintro rfl|refine aU rfl ?_|refine lexE ?_|refine rE (by kernel_rfl) ?_)
    refine AWp.freeze [0] [(2,.o (.ip (mvRow s.es)))] ⟨⟨_,rfl,.o (.ptr (by simp) rfl rfl rfl)⟩,trivial⟩ ?_
    refine AWp.ret ⟨_,rfl,rfl⟩
end Go.Am
