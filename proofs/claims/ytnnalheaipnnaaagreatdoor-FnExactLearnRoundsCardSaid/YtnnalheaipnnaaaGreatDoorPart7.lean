/-
  What all rows share: how the arguments read, what a law that computes true leaves, a world that holds the tables.
-/
import Derived.Test.YtnnalheaipnnaaaGreatDoorCards
import Derived.Test.YtnnalheaipnnaaaGreatDoorTie
import Derived.Test.YtnnalheaipnnaaaGreatDoorPart5
import Derived.Test.YtnnalheaipnnaaaGreatDoorPart6
import Derived.WalkKit
set_option linter.constructorNameAsVariable false
set_option linter.unusedSimpArgs false
set_option linter.unusedVariables false
namespace Go.Proofs.YtnnalheaipnnaaaGreatDoor
open Go Go.Am Go.ChangeShapes Go.WideShapes Go.ChangeAt Go.RowKit

theorem own : ownKnob Tryz.prog.godebug = none := by kernel_rfl
theorem laidOut : laidOutB Tryz.prog = true := by kernel_rfl
section
variable {w : World}
theorem rdAut : Rd Tryz.prog w 25 3 auRow :=
  Rd.map (fun y : Int × List (List Int) × List Bool => (⟨y.1, y.2.1, y.2.2⟩ : Aut)) (fun _ => rfl) (rd_struct3 (k0 := 1) (k1 := 1) (k2 := 1) Tryz.underlying25 ⟨rfl, rfl, rfl⟩ ⟨by kernel_rfl, by kernel_rfl, by kernel_rfl, by kernel_rfl⟩ (rd_int Tryz.underlying3) (rd_slice Tryz.underlying22 (by kernel_rfl) (by decide) (rd_slice Tryz.underlying46 (by kernel_rfl) (by decide) (rd_int Tryz.underlying3))) (rd_slice Tryz.underlying23 (by kernel_rfl) (by decide) (rd_bool Tryz.underlying4)))
end

/-- A law that computes true, from memory that holds its tables. -/
theorem calls_true {f : FuncId} {W : World} {TB : List (Nat × Obj)} {es : List E} {vs : Array Value} (h : Pure Tryz.prog TB f es (eB true)) (ht : ∀ x ∈ TB, below W x.1 ∧ W.heap[x.1]? = some x.2) (ha : ARel (baseV W) es vs) :
    Calls Tryz.prog f vs W fun e W' => e = .returned (.bool true) ∧ SameOld W W' := by
  have hg : Am.Good TB (baseV W) [] 0 := ⟨fun _ h => h, store_none, ht, rfl⟩
  refine (h.2 (baseV W) vs hg ha).mono ?_
  rintro e W' ⟨V', v, x, σ', rfl, rfl, hi, hx, rfl⟩
  have hv : v = .bool true := CRel.val hx
  subst hv
  exact ⟨rfl, hi.os, hi.output, hi.ext.size, fun b hb => hi.old b hb fun ⟨_, _, h, _⟩ => by cases h⟩

def putTab (l : List Value) : Obj → Obj
  | .cells _ t frozen => .cells l.toArray t frozen
  | o => o
/-- A world for the witnesses: the settled one, the tables holding what their initialisers lay. -/
noncomputable def laidWorld (os : Os) : World :=
  { World.holding Tryz.prog os ⟨#[], #[], []⟩ with heap := (((World.holding Tryz.prog os ⟨#[], #[], []⟩).heap.modify 0 (putTab tabdeBruijn32tab)).modify 1 (putTab tabdeBruijn64tab)) }
end Go.Proofs.YtnnalheaipnnaaaGreatDoor
/-
  Letters.
-/
namespace Go.Am
open Go Go.Proofs
attribute [local irreducible] QOp AOp Lex LexO AWp Spec
variable {TB : List (Nat × Obj)}
theorem isAlphabet_ok (n : Int) : Pure Tryz.prog TB 101 [eI .i64 n] (eB (alphB n)) := by
  refine Spec.of Tryz.func101 rfl (by kernel_rfl) (Nat.le_of_ble_eq_true rfl) ?_; intro Γ hΓ
  (repeat' (first | (first | (refine popO rfl ?_; first | (refine gA rfl ?_; first | refine yLm rfl rfl ?_ | ((first | refine yQ (md := false) rfl ?_ ?_ | refine yL rfl rfl (by assumption) rfl rfl ?_ ?_ | refine yT rfl rfl (by assumption) rfl ?_ ?_); (first | exact True.intro | omega | (simp only [oZ] at *; omega))) | (refine yB rfl ?_; intro _ _hb) | refine yU (sl := true) rfl ?_ | refine yM rfl rfl (by assumption) rfl rfl rfl ?_ | refine yV rfl rfl rfl rfl (by assumption) rfl rfl rfl rfl ?_ ) | refine popN rfl ?_ | (refine yG rfl rfl ?_ ?_ <;> intro hb <;> subst hb)) | refine AWp.seq ?_ | refine reg (by kernel_rfl) ?_ | refine lexE ?_ | refine regD (flN []) mixed (by kernel_rfl) (by kernel_rfl) ?_) | (refine AWp.cond rfl (fun hb => ?_) (fun hb => ?_) <;> cases hb) | refine AWp.skip ?_ | refine AWp.exit ?_ | refine AWp.block ?_ | refine AWp.ret ⟨_, rfl, ?_⟩))
  all_goals (show E.o _ = E.o _; congr; unfold alphB; grind)
theorem l1Alphabet_ok (n : Int) : Pure Tryz.prog TB 19 [eI .i64 n] (eB (alphB n)) := by
  refine Spec.of Tryz.func19 rfl (by kernel_rfl) (Nat.le_of_ble_eq_true rfl) ?_; intro Γ hΓ
  (repeat' (first | (first | (refine popO rfl ?_; first | (refine gA rfl ?_; first | refine yLm rfl rfl ?_ | ((first | refine yQ (md := false) rfl ?_ ?_ | refine yL rfl rfl (by assumption) rfl rfl ?_ ?_ | refine yT rfl rfl (by assumption) rfl ?_ ?_); (first | exact True.intro | omega | (simp only [oZ] at *; omega))) | (refine yB rfl ?_; intro _ _hb) | refine yU (sl := true) rfl ?_ | refine yM rfl rfl (by assumption) rfl rfl rfl ?_ | refine yV rfl rfl rfl rfl (by assumption) rfl rfl rfl rfl ?_ ) | refine popN rfl ?_ | (refine yG rfl rfl ?_ ?_ <;> intro hb <;> subst hb)) | refine AWp.seq ?_ | refine reg (by kernel_rfl) ?_ | refine lexE ?_ | refine regD (flN []) mixed (by kernel_rfl) (by kernel_rfl) ?_) | (refine AWp.cond rfl (fun hb => ?_) (fun hb => ?_) <;> cases hb) | refine AWp.skip ?_ | refine AWp.exit ?_ | refine AWp.block ?_ | refine AWp.ret ⟨_, rfl, ?_⟩))
  all_goals (show E.o _ = E.o _; congr; unfold alphB; grind)
theorem l1Has_ok (s n : Int) (h0 : 0 ≤ n) (h1 : n < 64) : Pure Tryz.prog TB 33 [eI .i64 s, eI .i64 n] (eB (bitB s n.toNat)) := by
  refine Spec.of Tryz.func33 rfl (by kernel_rfl) (Nat.le_of_ble_eq_true rfl) ?_; intro Γ hΓ
  (repeat' (first | (first | (refine popO rfl ?_; first | (refine gA rfl ?_; first | refine yLm rfl rfl ?_ | ((first | refine yQ (md := false) rfl ?_ ?_ | refine yL rfl rfl (by assumption) rfl rfl ?_ ?_ | refine yT rfl rfl (by assumption) rfl ?_ ?_); (first | exact True.intro | omega | (simp only [oZ] at *; omega))) | (refine yB rfl ?_; intro _ _hb) | refine yU (sl := true) rfl ?_ | refine yM rfl rfl (by assumption) rfl rfl rfl ?_ | refine yV rfl rfl rfl rfl (by assumption) rfl rfl rfl rfl ?_ ) | refine popN rfl ?_ | (refine yG rfl rfl ?_ ?_ <;> intro hb <;> subst hb)) | refine AWp.seq ?_ | refine reg (by kernel_rfl) ?_ | refine lexE ?_ | refine regD (flN []) mixed (by kernel_rfl) (by kernel_rfl) ?_) | (refine AWp.cond rfl (fun hb => ?_) (fun hb => ?_) <;> cases hb) | refine AWp.skip ?_ | refine AWp.exit ?_ | refine AWp.block ?_ | refine AWp.ret ⟨_, rfl, ?_⟩))
  subst _hb; rfl
theorem has_ok (s n : Int) : Pure Tryz.prog TB 86 [eI .i64 s, eI .i64 n] (eB (hasB s n)) := by
  refine Spec.of Tryz.func86 rfl (by kernel_rfl) (Nat.le_of_ble_eq_true rfl) ?_; intro Γ hΓ
  (repeat' (first | (first | (refine popO rfl ?_; first | (refine gA rfl ?_; first | refine yLm rfl rfl ?_ | ((first | refine yQ (md := false) rfl ?_ ?_ | refine yL rfl rfl (by assumption) rfl rfl ?_ ?_ | refine yT rfl rfl (by assumption) rfl ?_ ?_); (first | exact True.intro | omega | (simp only [oZ] at *; omega))) | (refine yB rfl ?_; intro _ _hb) | refine yU (sl := true) rfl ?_ | refine yM rfl rfl (by assumption) rfl rfl rfl ?_ | refine yV rfl rfl rfl rfl (by assumption) rfl rfl rfl rfl ?_ ) | refine popN rfl ?_ | (refine yG rfl rfl ?_ ?_ <;> intro hb <;> subst hb)) | refine AWp.seq ?_ | refine reg (by kernel_rfl) ?_ | refine lexE ?_ | refine regD (flN []) mixed (by kernel_rfl) (by kernel_rfl) ?_) | (refine AWp.cond rfl (fun hb => ?_) (fun hb => ?_) <;> cases hb) | refine AWp.skip ?_ | refine AWp.exit ?_ | refine AWp.block ?_ | refine AWp.ret ⟨_, rfl, ?_⟩))
  all_goals (show E.o _ = E.o _; congr; unfold hasB bitB; have : IntKind.i64.bits = 64 := rfl; grind)
theorem l1Letters_ok (s : Int) : Pure Tryz.prog TB 21 [eI .i64 s] (eInts (letters s)) := by
  refine Spec.of Tryz.func21 rfl (by kernel_rfl) (Nat.le_of_ble_eq_true rfl) ?_; intro Γ hΓ
  (repeat (first | (refine popO rfl ?_; first | (refine gA rfl ?_; first | refine yLm rfl rfl ?_ | ((first | refine yQ (md := false) rfl ?_ ?_ | refine yL rfl rfl (by assumption) rfl rfl ?_ ?_ | refine yT rfl rfl (by assumption) rfl ?_ ?_); (first | exact True.intro | omega | (simp only [oZ] at *; omega))) | (refine yB rfl ?_; intro _ _hb) | refine yU (sl := false) rfl ?_ | refine yM rfl rfl (by assumption) rfl rfl rfl ?_ | refine yV rfl rfl rfl rfl (by assumption) rfl rfl rfl rfl ?_ ) | refine popN rfl ?_ | (refine yG rfl rfl ?_ ?_ <;> intro hb <;> subst hb)) | refine AWp.seq ?_ | refine reg (by kernel_rfl) ?_ | refine lexE ?_ | refine regD (flN []) mixed (by kernel_rfl) (by kernel_rfl) ?_))
  (refine popO rfl ?_; refine popW ?_ rfl (by rfl); refine n_sliceB rfl rfl rfl rfl (by simp) (by rfl) (by rfl) (by rfl) (by rfl) ?_)
  (repeat (first | (refine popO rfl ?_; first | (refine gA rfl ?_; first | refine yLm rfl rfl ?_ | ((first | refine yQ (md := false) rfl ?_ ?_ | refine yL rfl rfl (by assumption) rfl rfl ?_ ?_ | refine yT rfl rfl (by assumption) rfl ?_ ?_); (first | exact True.intro | omega | (simp only [oZ] at *; omega))) | (refine yB rfl ?_; intro _ _hb) | refine yU (sl := false) rfl ?_ | refine yM rfl rfl (by assumption) rfl rfl rfl ?_ | refine yV rfl rfl rfl rfl (by assumption) rfl rfl rfl rfl ?_ ) | refine popN rfl ?_ | (refine yG rfl rfl ?_ ?_ <;> intro hb <;> subst hb)) | refine AWp.seq ?_ | refine reg (by kernel_rfl) ?_ | refine lexE ?_ | refine regD (flN []) mixed (by kernel_rfl) (by kernel_rfl) ?_))
  refine AWp.block ?_
  refine AWp.loopL (α := {k : Nat // k ≤ 6}) (fun ⟨k, hk⟩ => [(0, eI .i64 s), (3, .o (.arr 0 1 0 (lettersTo s k).length)), (4, eI .i64 k)]) (fun ⟨k, hk⟩ => [(0, .cells 3 1 ((lettersTo s k).map iRowC))]) 1 (fun ⟨k, hk⟩ => 6 - k) (⟨0, by omega⟩) [0] (by first | (simp [hΓ]; done) | (rw [hΓ]; decide)) (by (repeat' (first | exact trivial | rfl | refine And.intro ?_ ?_)) <;> simp [EnvSub, StoreSub, look_cons, nm, E.ren, C.ren, C.renL, O.ren, killc, kill0, Function.comp_def, argsFrom, zC, hΓ]) ?_; rintro ⟨k, hk⟩; try dsimp only
  (repeat (first | (refine popO rfl ?_; first | (refine gA rfl ?_; first | refine yLm rfl rfl ?_ | ((first | refine yQ (md := false) rfl ?_ ?_ | refine yL rfl rfl (by assumption) rfl rfl ?_ ?_ | refine yT rfl rfl (by assumption) rfl ?_ ?_); (first | exact True.intro | omega | (simp only [oZ] at *; omega))) | (refine yB rfl ?_; intro _ _hb) | refine yU (sl := false) rfl ?_ | refine yM rfl rfl (by assumption) rfl rfl rfl ?_ | refine yV rfl rfl rfl rfl (by assumption) rfl rfl rfl rfl ?_ ) | refine popN rfl ?_ | (refine yG rfl rfl ?_ ?_ <;> intro hb <;> subst hb)) | refine AWp.seq ?_ | refine reg (by kernel_rfl) ?_ | refine lexE ?_ | refine regD (flN []) mixed (by kernel_rfl) (by kernel_rfl) ?_))
  (refine AWp.cond rfl (fun hb => ?_) (fun hb => ?_) <;> cases hb)
  · have hlt : k < 6 := by have := of_decide_eq_true _hb; omega
    refine AWp.skip ?_
    refine AWp.seq (AWp.block ?_)
    (repeat (first | (refine popO rfl ?_; first | (refine gA rfl ?_; first | refine yLm rfl rfl ?_ | ((first | refine yQ (md := false) rfl ?_ ?_ | refine yL rfl rfl (by assumption) rfl rfl ?_ ?_ | refine yT rfl rfl (by assumption) rfl ?_ ?_); (first | exact True.intro | omega | (simp only [oZ] at *; omega))) | (refine yB rfl ?_; intro _ _hb) | refine yU (sl := false) rfl ?_ | refine yM rfl rfl (by assumption) rfl rfl rfl ?_ | refine yV rfl rfl rfl rfl (by assumption) rfl rfl rfl rfl ?_ ) | refine popN rfl ?_ | (refine yG rfl rfl ?_ ?_ <;> intro hb <;> subst hb)) | refine AWp.seq ?_ | refine reg (by kernel_rfl) ?_ | refine lexE ?_ | refine regD (flN []) mixed (by kernel_rfl) (by kernel_rfl) ?_))
    (refine popO rfl ?_; refine popB (fun _ _ => q_call rfl rfl rfl (l1Has_ok _ _ (by omega) (by omega)) rfl) rfl ?_; intro _ _hb)
    (repeat (first | (refine popO rfl ?_; first | (refine gA rfl ?_; first | refine yLm rfl rfl ?_ | ((first | refine yQ (md := false) rfl ?_ ?_ | refine yL rfl rfl (by assumption) rfl rfl ?_ ?_ | refine yT rfl rfl (by assumption) rfl ?_ ?_); (first | exact True.intro | omega | (simp only [oZ] at *; omega))) | (refine yB rfl ?_; intro _ _hb) | refine yU (sl := false) rfl ?_ | refine yM rfl rfl (by assumption) rfl rfl rfl ?_ | refine yV rfl rfl rfl rfl (by assumption) rfl rfl rfl rfl ?_ ) | refine popN rfl ?_ | (refine yG rfl rfl ?_ ?_ <;> intro hb <;> subst hb)) | refine AWp.seq ?_ | refine reg (by kernel_rfl) ?_ | refine lexE ?_ | refine regD (flN []) mixed (by kernel_rfl) (by kernel_rfl) ?_))
    have hs := lettersTo_succ s k
    (refine AWp.cond rfl (fun hb => ?_) (fun hb => ?_) <;> cases hb)
    · (repeat (first | (refine popO rfl ?_; first | (refine gA rfl ?_; first | refine yLm rfl rfl ?_ | ((first | refine yQ (md := false) rfl ?_ ?_ | refine yL rfl rfl (by assumption) rfl rfl ?_ ?_ | refine yT rfl rfl (by assumption) rfl ?_ ?_); (first | exact True.intro | omega | (simp only [oZ] at *; omega))) | (refine yB rfl ?_; intro _ _hb) | refine yU (sl := true) rfl ?_ | refine yM rfl rfl (by assumption) rfl rfl rfl ?_ | refine yV rfl rfl rfl rfl (by assumption) rfl rfl rfl rfl ?_ ) | refine popN rfl ?_ | (refine yG rfl rfl ?_ ?_ <;> intro hb <;> subst hb)) | refine AWp.seq ?_ | refine reg (by kernel_rfl) ?_ | refine lexE ?_ | refine regD (flN []) mixed (by kernel_rfl) (by kernel_rfl) ?_))
      (refine popO rfl ?_; refine popW ?_ rfl (by rfl); refine n_append rfl rfl rfl (by first | (simp; done) | (simp; (first | omega | (simp only [oZ] at *; omega)))) rfl (by intro r hr; simp at hr; subst hr; rfl) (by rfl) (Nat.le_of_ble_eq_true rfl) (by have := lettersTo_len s k; simp; omega) ?_)
      (repeat (first | (refine popO rfl ?_; first | (refine gA rfl ?_; first | refine yLm rfl rfl ?_ | ((first | refine yQ (md := false) rfl ?_ ?_ | refine yL rfl rfl (by assumption) rfl rfl ?_ ?_ | refine yT rfl rfl (by assumption) rfl ?_ ?_); (first | exact True.intro | omega | (simp only [oZ] at *; omega))) | (refine yB rfl ?_; intro _ _hb) | refine yU (sl := false) rfl ?_ | refine yM rfl rfl (by assumption) rfl rfl rfl ?_ | refine yV rfl rfl rfl rfl (by assumption) rfl rfl rfl rfl ?_ ) | refine popN rfl ?_ | (refine yG rfl rfl ?_ ?_ <;> intro hb <;> subst hb)) | refine AWp.seq ?_ | refine reg (by kernel_rfl) ?_ | refine lexE ?_ | refine regD (flN []) mixed (by kernel_rfl) (by kernel_rfl) ?_))
      refine ⟨⟨k + 1, by omega⟩, by dsimp only; (first | omega | (simp only [oZ] at *; omega)), [1], ?_⟩
      rw [if_pos (by simpa using _hb)] at hs
      simp [EnvSub, StoreSub, look_cons, nm, E.ren, C.ren, C.renL, O.ren, killc, kill0, Function.comp_def, argsFrom, zC, hΓ, hs]
    · refine AWp.skip ?_
      (repeat (first | (refine popO rfl ?_; first | (refine gA rfl ?_; first | refine yLm rfl rfl ?_ | ((first | refine yQ (md := false) rfl ?_ ?_ | refine yL rfl rfl (by assumption) rfl rfl ?_ ?_ | refine yT rfl rfl (by assumption) rfl ?_ ?_); (first | exact True.intro | omega | (simp only [oZ] at *; omega))) | (refine yB rfl ?_; intro _ _hb) | refine yU (sl := false) rfl ?_ | refine yM rfl rfl (by assumption) rfl rfl rfl ?_ | refine yV rfl rfl rfl rfl (by assumption) rfl rfl rfl rfl ?_ ) | refine popN rfl ?_ | (refine yG rfl rfl ?_ ?_ <;> intro hb <;> subst hb)) | refine AWp.seq ?_ | refine reg (by kernel_rfl) ?_ | refine lexE ?_ | refine regD (flN []) mixed (by kernel_rfl) (by kernel_rfl) ?_))
      refine ⟨⟨k + 1, by omega⟩, by dsimp only; (first | omega | (simp only [oZ] at *; omega)), [0], ?_⟩
      rw [if_neg (by simpa using _hb), List.append_nil] at hs
      simp [EnvSub, StoreSub, look_cons, nm, E.ren, C.ren, C.renL, O.ren, killc, kill0, Function.comp_def, argsFrom, zC, hΓ, hs]
  · have hk6 : k = 6 := by have := of_decide_eq_false _hb; omega
    subst hk6
    refine AWp.exit ?_
    (repeat (first | (refine popO rfl ?_; first | (refine gA rfl ?_; first | refine yLm rfl rfl ?_ | ((first | refine yQ (md := false) rfl ?_ ?_ | refine yL rfl rfl (by assumption) rfl rfl ?_ ?_ | refine yT rfl rfl (by assumption) rfl ?_ ?_); (first | exact True.intro | omega | (simp only [oZ] at *; omega))) | (refine yB rfl ?_; intro _ _hb) | refine yU (sl := false) rfl ?_ | refine yM rfl rfl (by assumption) rfl rfl rfl ?_ | refine yV rfl rfl rfl rfl (by assumption) rfl rfl rfl rfl ?_ ) | refine popN rfl ?_ | (refine yG rfl rfl ?_ ?_ <;> intro hb <;> subst hb)) | refine AWp.seq ?_ | refine reg (by kernel_rfl) ?_ | refine lexE ?_ | refine regD (flN []) mixed (by kernel_rfl) (by kernel_rfl) ?_))
    refine AWp.freeze [0] [(2, .o (.d (iList (lettersTo s 6))))] ⟨⟨_, rfl, .o (.full (by simp) rfl (by simp [Function.comp_def]) (by simp))⟩, trivial⟩ ?_
    refine AWp.ret ⟨_, rfl, rfl⟩
end Go.Am
/-
  Letters, more.
-/
namespace Go.Am
open Go Go.Proofs
attribute [local irreducible] QOp AOp Lex LexO AWp Spec
variable {TB : List (Nat × Obj)}

theorem letterByte_ok (n : Int) (h0 : 0 ≤ n) (h1 : n < 128) : Pure Tryz.prog TB 55 [eI .i64 n] (eI .u8 (97 + n)) := by
  refine Spec.of Tryz.func55 rfl (by kernel_rfl) (Nat.le_of_ble_eq_true rfl) ?_; intro Γ hΓ
  (repeat' (first | (first | (refine popO rfl ?_; first | (refine gA rfl ?_; first | refine yLm rfl rfl ?_ | ((first | refine yQ (md := false) rfl ?_ ?_ | refine yL rfl rfl (by assumption) rfl rfl ?_ ?_ | refine yT rfl rfl (by assumption) rfl ?_ ?_); (first | exact True.intro | omega | (simp only [oZ] at *; omega))) | (refine yB rfl ?_; intro _ _hb) | refine yU (sl := true) rfl ?_ | refine yM rfl rfl (by assumption) rfl rfl rfl ?_ | refine yV rfl rfl rfl rfl (by assumption) rfl rfl rfl rfl ?_ ) | refine popN rfl ?_ | (refine yG rfl rfl ?_ ?_ <;> intro hb <;> subst hb)) | refine AWp.seq ?_ | refine reg (by kernel_rfl) ?_ | refine lexE ?_ | refine regD (flN []) mixed (by kernel_rfl) (by kernel_rfl) ?_) | (refine AWp.cond rfl (fun hb => ?_) (fun hb => ?_) <;> cases hb) | refine AWp.skip ?_ | refine AWp.exit ?_ | refine AWp.block ?_ | refine AWp.ret ⟨_, rfl, ?_⟩))
  rfl
theorem l1Text_ok (n : Int) (h0 : 0 ≤ n) (h1 : n < 128) : Pure Tryz.prog TB 40 [eI .i64 n] (eT [UInt8.ofNat (97 + n.toNat)]) := by
  refine Spec.of Tryz.func40 rfl (by kernel_rfl) (Nat.le_of_ble_eq_true rfl) ?_; intro Γ hΓ
  (repeat (first | (refine popO rfl ?_; first | (refine gA rfl ?_; first | refine yLm rfl rfl ?_ | ((first | refine yQ (md := false) rfl ?_ ?_ | refine yL rfl rfl (by assumption) rfl rfl ?_ ?_ | refine yT rfl rfl (by assumption) rfl ?_ ?_); (first | exact True.intro | omega | (simp only [oZ] at *; omega))) | (refine yB rfl ?_; intro _ _hb) | refine yU (sl := true) rfl ?_ | refine yM rfl rfl (by assumption) rfl rfl rfl ?_ | refine yV rfl rfl rfl rfl (by assumption) rfl rfl rfl rfl ?_ ) | refine popN rfl ?_ | (refine yG rfl rfl ?_ ?_ <;> intro hb <;> subst hb)) | refine AWp.seq ?_ | refine reg (by kernel_rfl) ?_ | refine lexE ?_ | refine regD (flN []) mixed (by kernel_rfl) (by kernel_rfl) ?_))
  (refine popO rfl ?_; refine popS (fun _ _ => q_textL [UInt8.ofNat (97 + n.toNat)] rfl (by
    have h2 : (97 + n.toNat) % 256 = 97 + n.toNat := Nat.mod_eq_of_lt (by omega)
    have h3 : (97 + n : Int) = ((97 + n.toNat : Nat) : Int) := by omega
    simp [byD, h2, h3])) rfl ?_)
  (repeat (first | (refine popO rfl ?_; first | (refine gA rfl ?_; first | refine yLm rfl rfl ?_ | ((first | refine yQ (md := false) rfl ?_ ?_ | refine yL rfl rfl (by assumption) rfl rfl ?_ ?_ | refine yT rfl rfl (by assumption) rfl ?_ ?_); (first | exact True.intro | omega | (simp only [oZ] at *; omega))) | (refine yB rfl ?_; intro _ _hb) | refine yU (sl := true) rfl ?_ | refine yM rfl rfl (by assumption) rfl rfl rfl ?_ | refine yV rfl rfl rfl rfl (by assumption) rfl rfl rfl rfl ?_ ) | refine popN rfl ?_ | (refine yG rfl rfl ?_ ?_ <;> intro hb <;> subst hb)) | refine AWp.seq ?_ | refine reg (by kernel_rfl) ?_ | refine lexE ?_ | refine regD (flN []) mixed (by kernel_rfl) (by kernel_rfl) ?_))
  refine AWp.ret ⟨_, rfl, ?_⟩
  rfl
theorem l1Place_ok (s n : Int) (h0 : 0 ≤ n) (h1 : n < 64) : Pure Tryz.prog TB 100 [eI .i64 s, eI .i64 n] (eI .i64 (lettersTo s n.toNat).length) := by
  refine Spec.of Tryz.func100 rfl (by kernel_rfl) (Nat.le_of_ble_eq_true rfl) ?_; intro Γ hΓ
  (repeat (first | (refine popO rfl ?_; first | (refine gA rfl ?_; first | refine yLm rfl rfl ?_ | ((first | refine yQ (md := true) rfl ?_ ?_ | refine yL rfl rfl (by assumption) rfl rfl ?_ ?_ | refine yT rfl rfl (by assumption) rfl ?_ ?_); (first | exact True.intro | omega | (simp only [oZ] at *; omega))) | (refine yB rfl ?_; intro _ _hb) | refine yU (sl := false) rfl ?_ | refine yM rfl rfl (by assumption) rfl rfl rfl ?_ | refine yV rfl rfl rfl rfl (by assumption) rfl rfl rfl rfl ?_ ) | refine popN rfl ?_ | (refine yG rfl rfl ?_ ?_ <;> intro hb <;> subst hb)) | refine AWp.seq ?_ | refine reg (by kernel_rfl) ?_ | refine lexE ?_ | refine regD (flN []) mixed (by kernel_rfl) (by kernel_rfl) ?_))
  refine AWp.block ?_
  refine AWp.loopL (α := {k : Nat // k ≤ n.toNat}) (fun ⟨k, hk⟩ => [(0, eI .i64 s), (1, eI .i64 n), (5, eI .i64 (lettersTo s k).length), (6, eI .i64 k)]) (fun ⟨k, hk⟩ => []) 0 (fun ⟨k, hk⟩ => n.toNat - k) (⟨0, by omega⟩) [] (by first | (simp [hΓ]; done) | (rw [hΓ]; decide)) (by (repeat' (first | exact trivial | rfl | refine And.intro ?_ ?_)) <;> simp [EnvSub, StoreSub, look_cons, nm, E.ren, C.ren, C.renL, O.ren, killc, kill0, Function.comp_def, argsFrom, zC, hΓ]) ?_; rintro ⟨k, hk⟩; try dsimp only
  (repeat (first | (refine popO rfl ?_; first | (refine gA rfl ?_; first | refine yLm rfl rfl ?_ | ((first | refine yQ (md := true) rfl ?_ ?_ | refine yL rfl rfl (by assumption) rfl rfl ?_ ?_ | refine yT rfl rfl (by assumption) rfl ?_ ?_); (first | exact True.intro | omega | (simp only [oZ] at *; omega))) | (refine yB rfl ?_; intro _ _hb) | refine yU (sl := false) rfl ?_ | refine yM rfl rfl (by assumption) rfl rfl rfl ?_ | refine yV rfl rfl rfl rfl (by assumption) rfl rfl rfl rfl ?_ ) | refine popN rfl ?_ | (refine yG rfl rfl ?_ ?_ <;> intro hb <;> subst hb)) | refine AWp.seq ?_ | refine reg (by kernel_rfl) ?_ | refine lexE ?_ | refine regD (flN []) mixed (by kernel_rfl) (by kernel_rfl) ?_))
  (refine AWp.cond rfl (fun hb => ?_) (fun hb => ?_) <;> cases hb)
  · have hlt : k < n.toNat := by have := of_decide_eq_true _hb; omega
    refine AWp.skip ?_
    refine AWp.seq (AWp.block ?_)
    (repeat (first | (refine popO rfl ?_; first | (refine gA rfl ?_; first | refine yLm rfl rfl ?_ | ((first | refine yQ (md := true) rfl ?_ ?_ | refine yL rfl rfl (by assumption) rfl rfl ?_ ?_ | refine yT rfl rfl (by assumption) rfl ?_ ?_); (first | exact True.intro | omega | (simp only [oZ] at *; omega))) | (refine yB rfl ?_; intro _ _hb) | refine yU (sl := false) rfl ?_ | refine yM rfl rfl (by assumption) rfl rfl rfl ?_ | refine yV rfl rfl rfl rfl (by assumption) rfl rfl rfl rfl ?_ ) | refine popN rfl ?_ | (refine yG rfl rfl ?_ ?_ <;> intro hb <;> subst hb)) | refine AWp.seq ?_ | refine reg (by kernel_rfl) ?_ | refine lexE ?_ | refine regD (flN []) mixed (by kernel_rfl) (by kernel_rfl) ?_))
    (refine popO rfl ?_; refine popB (fun _ _ => q_call rfl rfl rfl (l1Has_ok _ _ (by omega) (by omega)) rfl) rfl ?_; intro _ _hb)
    (repeat (first | (refine popO rfl ?_; first | (refine gA rfl ?_; first | refine yLm rfl rfl ?_ | ((first | refine yQ (md := true) rfl ?_ ?_ | refine yL rfl rfl (by assumption) rfl rfl ?_ ?_ | refine yT rfl rfl (by assumption) rfl ?_ ?_); (first | exact True.intro | omega | (simp only [oZ] at *; omega))) | (refine yB rfl ?_; intro _ _hb) | refine yU (sl := false) rfl ?_ | refine yM rfl rfl (by assumption) rfl rfl rfl ?_ | refine yV rfl rfl rfl rfl (by assumption) rfl rfl rfl rfl ?_ ) | refine popN rfl ?_ | (refine yG rfl rfl ?_ ?_ <;> intro hb <;> subst hb)) | refine AWp.seq ?_ | refine reg (by kernel_rfl) ?_ | refine lexE ?_ | refine regD (flN []) mixed (by kernel_rfl) (by kernel_rfl) ?_))
    have hs := lettersTo_succ s k
    have hl := lettersTo_len s k
    (refine AWp.cond rfl (fun hb => ?_) (fun hb => ?_) <;> cases hb)
    · (repeat (first | (refine popO rfl ?_; first | (refine gA rfl ?_; first | refine yLm rfl rfl ?_ | ((first | refine yQ (md := true) rfl ?_ ?_ | refine yL rfl rfl (by assumption) rfl rfl ?_ ?_ | refine yT rfl rfl (by assumption) rfl ?_ ?_); (first | exact True.intro | omega | (simp only [oZ] at *; omega))) | (refine yB rfl ?_; intro _ _hb) | refine yU (sl := false) rfl ?_ | refine yM rfl rfl (by assumption) rfl rfl rfl ?_ | refine yV rfl rfl rfl rfl (by assumption) rfl rfl rfl rfl ?_ ) | refine popN rfl ?_ | (refine yG rfl rfl ?_ ?_ <;> intro hb <;> subst hb)) | refine AWp.seq ?_ | refine reg (by kernel_rfl) ?_ | refine lexE ?_ | refine regD (flN []) mixed (by kernel_rfl) (by kernel_rfl) ?_))
      refine ⟨⟨k + 1, by omega⟩, by dsimp only; (first | omega | (simp only [oZ] at *; omega)), [], ?_⟩
      rw [if_pos (by simpa using _hb)] at hs
      simp [EnvSub, StoreSub, look_cons, nm, E.ren, C.ren, C.renL, O.ren, killc, kill0, Function.comp_def, argsFrom, zC, hΓ, hs]
    · refine AWp.skip ?_
      (repeat (first | (refine popO rfl ?_; first | (refine gA rfl ?_; first | refine yLm rfl rfl ?_ | ((first | refine yQ (md := true) rfl ?_ ?_ | refine yL rfl rfl (by assumption) rfl rfl ?_ ?_ | refine yT rfl rfl (by assumption) rfl ?_ ?_); (first | exact True.intro | omega | (simp only [oZ] at *; omega))) | (refine yB rfl ?_; intro _ _hb) | refine yU (sl := false) rfl ?_ | refine yM rfl rfl (by assumption) rfl rfl rfl ?_ | refine yV rfl rfl rfl rfl (by assumption) rfl rfl rfl rfl ?_ ) | refine popN rfl ?_ | (refine yG rfl rfl ?_ ?_ <;> intro hb <;> subst hb)) | refine AWp.seq ?_ | refine reg (by kernel_rfl) ?_ | refine lexE ?_ | refine regD (flN []) mixed (by kernel_rfl) (by kernel_rfl) ?_))
      refine ⟨⟨k + 1, by omega⟩, by dsimp only; (first | omega | (simp only [oZ] at *; omega)), [], ?_⟩
      rw [if_neg (by simpa using _hb), List.append_nil] at hs
      simp [EnvSub, StoreSub, look_cons, nm, E.ren, C.ren, C.renL, O.ren, killc, kill0, Function.comp_def, argsFrom, zC, hΓ, hs]
  · have hk6 : k = n.toNat := by have := of_decide_eq_false _hb; omega
    subst hk6
    refine AWp.exit ?_
    (repeat (first | (refine popO rfl ?_; first | (refine gA rfl ?_; first | refine yLm rfl rfl ?_ | ((first | refine yQ (md := true) rfl ?_ ?_ | refine yL rfl rfl (by assumption) rfl rfl ?_ ?_ | refine yT rfl rfl (by assumption) rfl ?_ ?_); (first | exact True.intro | omega | (simp only [oZ] at *; omega))) | (refine yB rfl ?_; intro _ _hb) | refine yU (sl := false) rfl ?_ | refine yM rfl rfl (by assumption) rfl rfl rfl ?_ | refine yV rfl rfl rfl rfl (by assumption) rfl rfl rfl rfl ?_ ) | refine popN rfl ?_ | (refine yG rfl rfl ?_ ?_ <;> intro hb <;> subst hb)) | refine AWp.seq ?_ | refine reg (by kernel_rfl) ?_ | refine lexE ?_ | refine regD (flN []) mixed (by kernel_rfl) (by kernel_rfl) ?_))
    refine AWp.ret ⟨_, rfl, rfl⟩
theorem lettersOf_ok (s : Int) : Pure Tryz.prog TB 53 [eI .i64 s] (eInts (letters s)) := by
  refine Spec.of Tryz.func53 rfl (by kernel_rfl) (Nat.le_of_ble_eq_true rfl) ?_; intro Γ hΓ
  (repeat (first | (refine popO rfl ?_; first | (refine gA rfl ?_; first | refine yLm rfl rfl ?_ | ((first | refine yQ (md := true) rfl ?_ ?_ | refine yL rfl rfl (by assumption) rfl rfl ?_ ?_ | refine yT rfl rfl (by assumption) rfl ?_ ?_); (first | exact True.intro | omega | (simp only [oZ] at *; omega))) | (refine yB rfl ?_; intro _ _hb) | refine yU (sl := false) rfl ?_ | refine yM rfl rfl (by assumption) rfl rfl rfl ?_ | refine yV rfl rfl rfl rfl (by assumption) rfl rfl rfl rfl ?_ ) | refine popN rfl ?_ | (refine yG rfl rfl ?_ ?_ <;> intro hb <;> subst hb)) | refine AWp.seq ?_ | refine reg (by kernel_rfl) ?_ | refine lexE ?_ | refine regD (flN []) mixed (by kernel_rfl) (by kernel_rfl) ?_))
  (refine popO rfl ?_; refine popS (fun _ _ => q_assign rfl) rfl ?_)
  (repeat (first | (refine popO rfl ?_; first | (refine gA rfl ?_; first | refine yLm rfl rfl ?_ | ((first | refine yQ (md := true) rfl ?_ ?_ | refine yL rfl rfl (by assumption) rfl rfl ?_ ?_ | refine yT rfl rfl (by assumption) rfl ?_ ?_); (first | exact True.intro | omega | (simp only [oZ] at *; omega))) | (refine yB rfl ?_; intro _ _hb) | refine yU (sl := false) rfl ?_ | refine yM rfl rfl (by assumption) rfl rfl rfl ?_ | refine yV rfl rfl rfl rfl (by assumption) rfl rfl rfl rfl ?_ ) | refine popN rfl ?_ | (refine yG rfl rfl ?_ ?_ <;> intro hb <;> subst hb)) | refine AWp.seq ?_ | refine reg (by kernel_rfl) ?_ | refine lexE ?_ | refine regD (flN []) mixed (by kernel_rfl) (by kernel_rfl) ?_))
  (refine popO rfl ?_; refine popW ?_ rfl (by rfl); refine n_nil 1 3 ?_)
  (repeat (first | (refine popO rfl ?_; first | (refine gA rfl ?_; first | refine yLm rfl rfl ?_ | ((first | refine yQ (md := true) rfl ?_ ?_ | refine yL rfl rfl (by assumption) rfl rfl ?_ ?_ | refine yT rfl rfl (by assumption) rfl ?_ ?_); (first | exact True.intro | omega | (simp only [oZ] at *; omega))) | (refine yB rfl ?_; intro _ _hb) | refine yU (sl := false) rfl ?_ | refine yM rfl rfl (by assumption) rfl rfl rfl ?_ | refine yV rfl rfl rfl rfl (by assumption) rfl rfl rfl rfl ?_ ) | refine popN rfl ?_ | (refine yG rfl rfl ?_ ?_ <;> intro hb <;> subst hb)) | refine AWp.seq ?_ | refine reg (by kernel_rfl) ?_ | refine lexE ?_ | refine regD (flN []) mixed (by kernel_rfl) (by kernel_rfl) ?_))
  refine AWp.block ?_
  refine AWp.loopL (α := {k : Nat // k ≤ 6}) (fun ⟨k, hk⟩ => [(0, eI .i64 s), (3, .o (.arr 0 1 0 (lettersTo s k).length)), (5, eI .i64 k)]) (fun ⟨k, hk⟩ => [(0, .cells 3 1 ((lettersTo s k).map iRowC))]) 1 (fun ⟨k, hk⟩ => 6 - k) (⟨0, by omega⟩) [0] (by first | (simp [hΓ]; done) | (rw [hΓ]; decide)) (by (repeat' (first | exact trivial | rfl | refine And.intro ?_ ?_)) <;> simp [EnvSub, StoreSub, look_cons, nm, E.ren, C.ren, C.renL, O.ren, killc, kill0, Function.comp_def, argsFrom, zC, hΓ]) ?_; rintro ⟨k, hk⟩; try dsimp only
  (repeat (first | (refine popO rfl ?_; first | (refine gA rfl ?_; first | refine yLm rfl rfl ?_ | ((first | refine yQ (md := true) rfl ?_ ?_ | refine yL rfl rfl (by assumption) rfl rfl ?_ ?_ | refine yT rfl rfl (by assumption) rfl ?_ ?_); (first | exact True.intro | omega | (simp only [oZ] at *; omega))) | (refine yB rfl ?_; intro _ _hb) | refine yU (sl := false) rfl ?_ | refine yM rfl rfl (by assumption) rfl rfl rfl ?_ | refine yV rfl rfl rfl rfl (by assumption) rfl rfl rfl rfl ?_ ) | refine popN rfl ?_ | (refine yG rfl rfl ?_ ?_ <;> intro hb <;> subst hb)) | refine AWp.seq ?_ | refine reg (by kernel_rfl) ?_ | refine lexE ?_ | refine regD (flN []) mixed (by kernel_rfl) (by kernel_rfl) ?_))
  (refine AWp.cond rfl (fun hb => ?_) (fun hb => ?_) <;> cases hb)
  · have hlt : k < 6 := by have := of_decide_eq_true _hb; omega
    refine AWp.skip ?_
    refine AWp.seq (AWp.block ?_)
    (repeat (first | (refine popO rfl ?_; first | (refine gA rfl ?_; first | refine yLm rfl rfl ?_ | ((first | refine yQ (md := true) rfl ?_ ?_ | refine yL rfl rfl (by assumption) rfl rfl ?_ ?_ | refine yT rfl rfl (by assumption) rfl ?_ ?_); (first | exact True.intro | omega | (simp only [oZ] at *; omega))) | (refine yB rfl ?_; intro _ _hb) | refine yU (sl := false) rfl ?_ | refine yM rfl rfl (by assumption) rfl rfl rfl ?_ | refine yV rfl rfl rfl rfl (by assumption) rfl rfl rfl rfl ?_ ) | refine popN rfl ?_ | (refine yG rfl rfl ?_ ?_ <;> intro hb <;> subst hb)) | refine AWp.seq ?_ | refine reg (by kernel_rfl) ?_ | refine lexE ?_ | refine regD (flN []) mixed (by kernel_rfl) (by kernel_rfl) ?_))
    (refine popO rfl ?_; refine popB (fun _ _ => q_call rfl rfl rfl (has_ok _ _) rfl) rfl ?_; intro _ _hb)
    (repeat (first | (refine popO rfl ?_; first | (refine gA rfl ?_; first | refine yLm rfl rfl ?_ | ((first | refine yQ (md := true) rfl ?_ ?_ | refine yL rfl rfl (by assumption) rfl rfl ?_ ?_ | refine yT rfl rfl (by assumption) rfl ?_ ?_); (first | exact True.intro | omega | (simp only [oZ] at *; omega))) | (refine yB rfl ?_; intro _ _hb) | refine yU (sl := false) rfl ?_ | refine yM rfl rfl (by assumption) rfl rfl rfl ?_ | refine yV rfl rfl rfl rfl (by assumption) rfl rfl rfl rfl ?_ ) | refine popN rfl ?_ | (refine yG rfl rfl ?_ ?_ <;> intro hb <;> subst hb)) | refine AWp.seq ?_ | refine reg (by kernel_rfl) ?_ | refine lexE ?_ | refine regD (flN []) mixed (by kernel_rfl) (by kernel_rfl) ?_))
    have hs := lettersTo_succ s k
    have hbb : hasB s k = bitB s k := by simp [hasB]
    rw [hbb] at _hb
    (refine AWp.cond rfl (fun hb => ?_) (fun hb => ?_) <;> cases hb)
    · (repeat (first | (refine popO rfl ?_; first | (refine gA rfl ?_; first | refine yLm rfl rfl ?_ | ((first | refine yQ (md := false) rfl ?_ ?_ | refine yL rfl rfl (by assumption) rfl rfl ?_ ?_ | refine yT rfl rfl (by assumption) rfl ?_ ?_); (first | exact True.intro | omega | (simp only [oZ] at *; omega))) | (refine yB rfl ?_; intro _ _hb) | refine yU (sl := true) rfl ?_ | refine yM rfl rfl (by assumption) rfl rfl rfl ?_ | refine yV rfl rfl rfl rfl (by assumption) rfl rfl rfl rfl ?_ ) | refine popN rfl ?_ | (refine yG rfl rfl ?_ ?_ <;> intro hb <;> subst hb)) | refine AWp.seq ?_ | refine reg (by kernel_rfl) ?_ | refine lexE ?_ | refine regD (flN []) mixed (by kernel_rfl) (by kernel_rfl) ?_))
      (refine popO rfl ?_; refine popW ?_ rfl (by rfl); refine n_append rfl rfl rfl (by first | (simp; done) | (simp; (first | omega | (simp only [oZ] at *; omega)))) rfl (by intro r hr; simp at hr; subst hr; rfl) (by rfl) (Nat.le_of_ble_eq_true rfl) (by have := lettersTo_len s k; simp; omega) ?_)
      (repeat (first | (refine popO rfl ?_; first | (refine gA rfl ?_; first | refine yLm rfl rfl ?_ | ((first | refine yQ (md := false) rfl ?_ ?_ | refine yL rfl rfl (by assumption) rfl rfl ?_ ?_ | refine yT rfl rfl (by assumption) rfl ?_ ?_); (first | exact True.intro | omega | (simp only [oZ] at *; omega))) | (refine yB rfl ?_; intro _ _hb) | refine yU (sl := false) rfl ?_ | refine yM rfl rfl (by assumption) rfl rfl rfl ?_ | refine yV rfl rfl rfl rfl (by assumption) rfl rfl rfl rfl ?_ ) | refine popN rfl ?_ | (refine yG rfl rfl ?_ ?_ <;> intro hb <;> subst hb)) | refine AWp.seq ?_ | refine reg (by kernel_rfl) ?_ | refine lexE ?_ | refine regD (flN []) mixed (by kernel_rfl) (by kernel_rfl) ?_))
      refine ⟨⟨k + 1, by omega⟩, by dsimp only; (first | omega | (simp only [oZ] at *; omega)), [1], ?_⟩
      rw [if_pos (by simpa using _hb)] at hs
      simp [EnvSub, StoreSub, look_cons, nm, E.ren, C.ren, C.renL, O.ren, killc, kill0, Function.comp_def, argsFrom, zC, hΓ, hs]
    · refine AWp.skip ?_
      (repeat (first | (refine popO rfl ?_; first | (refine gA rfl ?_; first | refine yLm rfl rfl ?_ | ((first | refine yQ (md := false) rfl ?_ ?_ | refine yL rfl rfl (by assumption) rfl rfl ?_ ?_ | refine yT rfl rfl (by assumption) rfl ?_ ?_); (first | exact True.intro | omega | (simp only [oZ] at *; omega))) | (refine yB rfl ?_; intro _ _hb) | refine yU (sl := false) rfl ?_ | refine yM rfl rfl (by assumption) rfl rfl rfl ?_ | refine yV rfl rfl rfl rfl (by assumption) rfl rfl rfl rfl ?_ ) | refine popN rfl ?_ | (refine yG rfl rfl ?_ ?_ <;> intro hb <;> subst hb)) | refine AWp.seq ?_ | refine reg (by kernel_rfl) ?_ | refine lexE ?_ | refine regD (flN []) mixed (by kernel_rfl) (by kernel_rfl) ?_))
      refine ⟨⟨k + 1, by omega⟩, by dsimp only; (first | omega | (simp only [oZ] at *; omega)), [0], ?_⟩
      rw [if_neg (by simpa using _hb), List.append_nil] at hs
      simp [EnvSub, StoreSub, look_cons, nm, E.ren, C.ren, C.renL, O.ren, killc, kill0, Function.comp_def, argsFrom, zC, hΓ, hs]
  · have hk6 : k = 6 := by have := of_decide_eq_false _hb; omega
    subst hk6
    refine AWp.exit ?_
    (repeat (first | (refine popO rfl ?_; first | (refine gA rfl ?_; first | refine yLm rfl rfl ?_ | ((first | refine yQ (md := false) rfl ?_ ?_ | refine yL rfl rfl (by assumption) rfl rfl ?_ ?_ | refine yT rfl rfl (by assumption) rfl ?_ ?_); (first | exact True.intro | omega | (simp only [oZ] at *; omega))) | (refine yB rfl ?_; intro _ _hb) | refine yU (sl := false) rfl ?_ | refine yM rfl rfl (by assumption) rfl rfl rfl ?_ | refine yV rfl rfl rfl rfl (by assumption) rfl rfl rfl rfl ?_ ) | refine popN rfl ?_ | (refine yG rfl rfl ?_ ?_ <;> intro hb <;> subst hb)) | refine AWp.seq ?_ | refine reg (by kernel_rfl) ?_ | refine lexE ?_ | refine regD (flN []) mixed (by kernel_rfl) (by kernel_rfl) ?_))
    refine AWp.freeze [0] [(2, .o (.d (iList (lettersTo s 6))))] ⟨⟨_, rfl, .o (.full (by simp) rfl (by simp [Function.comp_def]) (by simp))⟩, trivial⟩ ?_
    refine AWp.ret ⟨_, rfl, rfl⟩
end Go.Am
/-
  Systems.
-/
namespace Go.Am
open Go Go.Proofs
attribute [local irreducible] QOp AOp Lex LexO AWp Spec
variable {TB : List (Nat × Obj)}

end Go.Am
/-
  Rows and automata.
-/
namespace Go.Am
open Go Go.Proofs
attribute [local irreducible] QOp AOp Lex LexO AWp Spec
variable {TB : List (Nat × Obj)}

theorem l3Row_ok (row : List Int) (ls n : Int) : Pure Tryz.prog TB 20 [eInts row, eI .i64 ls, eI .i64 n] (eB (rowOk ls n row)) := by
  refine Spec.of Tryz.func20 rfl (by kernel_rfl) (Nat.le_of_ble_eq_true rfl) ?_; intro Γ hΓ
  (repeat' (first | (first | (refine popO rfl ?_; first | (refine gA rfl ?_; first | refine yLm rfl rfl ?_ | ((first | refine yQ (md := false) rfl ?_ ?_ | refine yL rfl rfl (by assumption) rfl rfl ?_ ?_ | refine yT rfl rfl (by assumption) rfl ?_ ?_); (first | exact True.intro | omega | (simp only [oZ] at *; omega))) | (refine yB rfl ?_; intro _ _hb) | refine yU (sl := true) rfl ?_ | refine yM rfl rfl (by assumption) rfl rfl rfl ?_ | refine yV rfl rfl rfl rfl (by assumption) rfl rfl rfl rfl ?_ ) | refine popN rfl ?_ | (refine yG rfl rfl ?_ ?_ <;> intro hb <;> subst hb)) | refine AWp.seq ?_ | refine reg (by kernel_rfl) ?_ | refine lexE ?_ | refine regD (flN []) mixed (by kernel_rfl) (by kernel_rfl) ?_) | (refine AWp.cond rfl (fun hb => ?_) (fun hb => ?_) <;> cases hb) | refine AWp.skip ?_ | refine AWp.exit ?_ | refine AWp.block ?_ | refine AWp.ret ⟨_, rfl, ?_⟩))
  · show E.o _ = E.o _; congr; unfold rowOk; grind
  refine AWp.bound 0 rfl fun hB => ?_
  have hB := hB _ .refl
  rw [List.length_map] at hB
  refine AWp.loopL (α := {k : Nat // k ≤ row.length ∧ (row.take k).all (stOk n) = true}) (fun ⟨k, hk, ha⟩ => [(0, eInts row), (2, eI .i64 n), (7, eI .i64 k)]) (fun ⟨k, hk, ha⟩ => []) 0 (fun ⟨k, hk, ha⟩ => row.length - k) (⟨0, by omega, rfl⟩) [] (by first | (simp [hΓ]; done) | (rw [hΓ]; decide)) (by (repeat' (first | exact trivial | rfl | refine And.intro ?_ ?_)) <;> simp [EnvSub, StoreSub, look_cons, nm, E.ren, C.ren, C.renL, O.ren, killc, kill0, Function.comp_def, argsFrom, zC, hΓ]) ?_; rintro ⟨k, hk, ha⟩; try dsimp only
  (repeat (first | (refine popO rfl ?_; first | (refine gA rfl ?_; first | refine yLm rfl rfl ?_ | ((first | refine yQ (md := false) rfl ?_ ?_ | refine yL rfl rfl (by assumption) rfl rfl ?_ ?_ | refine yT rfl rfl (by assumption) rfl ?_ ?_); (first | exact True.intro | omega | (simp only [oZ] at *; omega))) | (refine yB rfl ?_; intro _ _hb) | refine yU (sl := true) rfl ?_ | refine yM rfl rfl (by assumption) rfl rfl rfl ?_ | refine yV rfl rfl rfl rfl (by assumption) rfl rfl rfl rfl ?_ ) | refine popN rfl ?_ | (refine yG rfl rfl ?_ ?_ <;> intro hb <;> subst hb)) | refine AWp.seq ?_ | refine reg (by kernel_rfl) ?_ | refine lexE ?_ | refine regD (flN []) mixed (by kernel_rfl) (by kernel_rfl) ?_))
  (refine AWp.cond rfl (fun hb => ?_) (fun hb => ?_) <;> cases hb)
  · obtain ⟨x, hx⟩ := get_some (l := row) (k := k) (by first | omega | (simp only [oZ] at *; omega))
    have hx' := get_map (g := iRow) hx
    (repeat' (first | (first | (refine popO rfl ?_; first | (refine gA rfl ?_; first | refine yLm rfl rfl ?_ | ((first | refine yQ (md := false) rfl ?_ ?_ | refine yL rfl rfl (by assumption) rfl rfl ?_ ?_ | refine yT rfl rfl (by assumption) rfl ?_ ?_); (first | exact True.intro | omega | (simp only [oZ] at *; omega))) | (refine yB rfl ?_; intro _ _hb) | refine yU (sl := true) rfl ?_ | refine yM rfl rfl (by assumption) rfl rfl rfl ?_ | refine yV rfl rfl rfl rfl (by assumption) rfl rfl rfl rfl ?_ ) | refine popN rfl ?_ | (refine yG rfl rfl ?_ ?_ <;> intro hb <;> subst hb)) | refine AWp.seq ?_ | refine reg (by kernel_rfl) ?_ | refine lexE ?_ | refine regD (flN []) mixed (by kernel_rfl) (by kernel_rfl) ?_) | (refine AWp.cond rfl (fun hb => ?_) (fun hb => ?_) <;> cases hb) | refine AWp.skip ?_ | refine AWp.exit ?_ | refine AWp.block ?_ | refine AWp.ret ⟨_, rfl, ?_⟩))
    all_goals first
      | (show E.o _ = E.o _; congr; rw [rowOk, all_bad hx (by unfold stOk; grind)]; simp; done)
      | (refine ⟨⟨k + 1, by first | omega | (simp only [oZ] at *; omega), all_step hx ha (by unfold stOk; grind)⟩, by dsimp only; (first | omega | (simp only [oZ] at *; omega)), [], ?_⟩; simp [EnvSub, StoreSub, look_cons, nm, E.ren, C.ren, C.renL, O.ren, killc, kill0, Function.comp_def, argsFrom, zC, hΓ]; done)
  · (repeat' (first | (first | (refine popO rfl ?_; first | (refine gA rfl ?_; first | refine yLm rfl rfl ?_ | ((first | refine yQ (md := false) rfl ?_ ?_ | refine yL rfl rfl (by assumption) rfl rfl ?_ ?_ | refine yT rfl rfl (by assumption) rfl ?_ ?_); (first | exact True.intro | omega | (simp only [oZ] at *; omega))) | (refine yB rfl ?_; intro _ _hb) | refine yU (sl := true) rfl ?_ | refine yM rfl rfl (by assumption) rfl rfl rfl ?_ | refine yV rfl rfl rfl rfl (by assumption) rfl rfl rfl rfl ?_ ) | refine popN rfl ?_ | (refine yG rfl rfl ?_ ?_ <;> intro hb <;> subst hb)) | refine AWp.seq ?_ | refine reg (by kernel_rfl) ?_ | refine lexE ?_ | refine regD (flN []) mixed (by kernel_rfl) (by kernel_rfl) ?_) | (refine AWp.cond rfl (fun hb => ?_) (fun hb => ?_) <;> cases hb) | refine AWp.skip ?_ | refine AWp.exit ?_ | refine AWp.block ?_ | refine AWp.ret ⟨_, rfl, ?_⟩))
    show E.o _ = E.o _; congr; rw [rowOk, all_done ha (by first | omega | (simp only [oZ] at *; omega))]; grind
end Go.Am
/-
  Automata and systems are valid.
-/
namespace Go.Am
open Go Go.Proofs
attribute [local irreducible] QOp AOp Lex LexO AWp Spec
variable {TB : List (Nat × Obj)}

theorem autOk_head {a : Aut} (h : autOk a = true) : alphB a.al = true ∧ 1 ≤ a.nx.length ∧ a.nx.length ≤ 12 ∧ a.ac.length = a.nx.length := by
  unfold autOk at h; grind
theorem specAutomatonValid_ok (a : Aut) : Pure Tryz.prog TB 11 [eAut a] (eB (autOk a)) := by
  refine Spec.of Tryz.func11 rfl (by kernel_rfl) (Nat.le_of_ble_eq_true rfl) ?_; intro Γ hΓ
  (repeat' (first | (first | (refine popO rfl ?_; first | (refine gA rfl ?_; first | refine yLm rfl rfl ?_ | ((first | refine yQ (md := false) rfl ?_ ?_ | refine yL rfl rfl (by assumption) rfl rfl ?_ ?_ | refine yT rfl rfl (by assumption) rfl ?_ ?_); (first | exact True.intro | omega | (simp only [oZ] at *; omega))) | (refine yB rfl ?_; intro _ _hb) | refine yU (sl := true) rfl ?_ | refine yM rfl rfl (by assumption) rfl rfl rfl ?_ | refine yV rfl rfl rfl rfl (by assumption) rfl rfl rfl rfl ?_ | (refine yC rfl rfl rfl (l1Alphabet_ok _) ?_; intro _ _hb) ) | refine popN rfl ?_ | (refine yG rfl rfl ?_ ?_ <;> intro hb <;> subst hb)) | refine AWp.seq ?_ | refine reg (by kernel_rfl) ?_ | refine lexE ?_ | refine regD (flN []) mixed (by kernel_rfl) (by kernel_rfl) ?_) | (refine AWp.cond rfl (fun hb => ?_) (fun hb => ?_) <;> cases hb) | refine AWp.skip ?_ | refine AWp.exit ?_ | refine AWp.block ?_ | refine AWp.ret ⟨_, rfl, ?_⟩))
  all_goals try (show E.o _ = E.o _; congr; unfold autOk; (try simp only [List.length_map] at *); grind)
  refine AWp.bound 1 rfl fun hB => ?_
  have hB := hB (a.nx.map iiRow) (.p (j := 1) rfl .refl)
  refine AWp.loopL (α := {k : Nat // k ≤ a.nx.length ∧ (a.nx.take k).all (rowOk (letters a.al).length a.nx.length) = true}) (fun ⟨k, hk, ha⟩ => [(1, .o (.ip (auRow a))), (3, eI .i64 a.nx.length), (4, eI .i64 k)]) (fun ⟨k, hk, ha⟩ => []) 0 (fun ⟨k, hk, ha⟩ => a.nx.length - k) (⟨0, by omega, rfl⟩) [] (by first | (simp [hΓ]; done) | (rw [hΓ]; decide)) (by (repeat' (first | exact trivial | rfl | refine And.intro ?_ ?_)) <;> simp [EnvSub, StoreSub, look_cons, nm, E.ren, C.ren, C.renL, O.ren, killc, kill0, Function.comp_def, argsFrom, zC, hΓ]) ?_; rintro ⟨k, hk, ha⟩; try dsimp only
  (repeat (first | (refine popO rfl ?_; first | (refine gA rfl ?_; first | refine yLm rfl rfl ?_ | ((first | refine yQ (md := false) rfl ?_ ?_ | refine yL rfl rfl (by assumption) rfl rfl ?_ ?_ | refine yT rfl rfl (by assumption) rfl ?_ ?_); (first | exact True.intro | omega | (simp only [oZ] at *; omega))) | (refine yB rfl ?_; intro _ _hb) | refine yU (sl := true) rfl ?_ | refine yM rfl rfl (by assumption) rfl rfl rfl ?_ | refine yV rfl rfl rfl rfl (by assumption) rfl rfl rfl rfl ?_ ) | refine popN rfl ?_ | (refine yG rfl rfl ?_ ?_ <;> intro hb <;> subst hb)) | refine AWp.seq ?_ | refine reg (by kernel_rfl) ?_ | refine lexE ?_ | refine regD (flN []) mixed (by kernel_rfl) (by kernel_rfl) ?_))
  (refine AWp.cond rfl (fun hb => ?_) (fun hb => ?_) <;> cases hb)
  · obtain ⟨x, hx⟩ := get_some (l := a.nx) (k := k) (by first | omega | (simp only [oZ] at *; omega))
    have hx' := get_map (g := iiRow) hx
    (repeat' (first | (first | (refine popO rfl ?_; first | (refine gA rfl ?_; first | refine yLm rfl rfl ?_ | ((first | refine yQ (md := false) rfl ?_ ?_ | refine yL rfl rfl (by assumption) rfl rfl ?_ ?_ | refine yT rfl rfl (by assumption) rfl ?_ ?_); (first | exact True.intro | omega | (simp only [oZ] at *; omega))) | (refine yB rfl ?_; intro _ _hb) | refine yU (sl := true) rfl ?_ | refine yM rfl rfl (by assumption) rfl rfl rfl ?_ | refine yV rfl rfl rfl rfl (by assumption) rfl rfl rfl rfl ?_ | refine yP rfl rfl rfl (l1Letters_ok _) rfl ?_ | (refine yC rfl rfl rfl (l3Row_ok _ _ _) ?_; intro _ _hb) ) | refine popN rfl ?_ | (refine yG rfl rfl ?_ ?_ <;> intro hb <;> subst hb)) | refine AWp.seq ?_ | refine reg (by kernel_rfl) ?_ | refine lexE ?_ | refine regD (flN []) mixed (by kernel_rfl) (by kernel_rfl) ?_) | (refine AWp.cond rfl (fun hb => ?_) (fun hb => ?_) <;> cases hb) | refine AWp.skip ?_ | refine AWp.exit ?_ | refine AWp.block ?_ | refine AWp.ret ⟨_, rfl, ?_⟩))
    all_goals first
      | (have h1 := all_bad (f := rowOk (letters a.al).length a.nx.length) hx (by grind); (show E.o _ = E.o _; congr; unfold autOk; (try simp only [List.length_map] at *); grind); done)
      | (refine ⟨⟨k + 1, by first | omega | (simp only [oZ] at *; omega), all_step hx ha (by grind)⟩, by dsimp only; (first | omega | (simp only [oZ] at *; omega)), [], ?_⟩; simp [EnvSub, StoreSub, look_cons, nm, E.ren, C.ren, C.renL, O.ren, killc, kill0, Function.comp_def, argsFrom, zC, hΓ]; done)
  · (repeat' (first | (first | (refine popO rfl ?_; first | (refine gA rfl ?_; first | refine yLm rfl rfl ?_ | ((first | refine yQ (md := false) rfl ?_ ?_ | refine yL rfl rfl (by assumption) rfl rfl ?_ ?_ | refine yT rfl rfl (by assumption) rfl ?_ ?_); (first | exact True.intro | omega | (simp only [oZ] at *; omega))) | (refine yB rfl ?_; intro _ _hb) | refine yU (sl := true) rfl ?_ | refine yM rfl rfl (by assumption) rfl rfl rfl ?_ | refine yV rfl rfl rfl rfl (by assumption) rfl rfl rfl rfl ?_ ) | refine popN rfl ?_ | (refine yG rfl rfl ?_ ?_ <;> intro hb <;> subst hb)) | refine AWp.seq ?_ | refine reg (by kernel_rfl) ?_ | refine lexE ?_ | refine regD (flN []) mixed (by kernel_rfl) (by kernel_rfl) ?_) | (refine AWp.cond rfl (fun hb => ?_) (fun hb => ?_) <;> cases hb) | refine AWp.skip ?_ | refine AWp.exit ?_ | refine AWp.block ?_ | refine AWp.ret ⟨_, rfl, ?_⟩))
    show E.o _ = E.o _; congr
    have h1 := all_done ha (by first | omega | (simp only [oZ] at *; omega))
    unfold autOk; simp only [List.length_map] at *; grind
end Go.Am
/-
  Systems are valid.
-/
namespace Go.Am
open Go Go.Proofs
attribute [local irreducible] QOp AOp Lex LexO AWp Spec
variable {TB : List (Nat × Obj)}

theorem drop_some {α : Type} {l : List α} {k : Nat} {x : α} (h : l[k]? = some x) : l.drop k = x :: l.drop (k + 1) := by
  obtain ⟨h1, rfl⟩ := List.getElem?_eq_some_iff.1 h
  exact List.drop_eq_getElem_cons h1
theorem sysAt_0 {s : Sys} {e : Edg} (h : s.es[0]? = some e) : sysAt s 0 = edgeOk s.al s.st e := by
  unfold sysAt; rw [h]; simp
theorem sysAt_s {s : Sys} {k : Nat} {e p : Edg} (h : s.es[k + 1]? = some e) (hp : s.es[k]? = some p) : sysAt s (k + 1) = (edgeOk s.al s.st e && befB p e) := by
  unfold sysAt; rw [h]; simp [hp]
end Go.Am
/-
  Systems and automata are valid, the program's way.
-/
namespace Go.Am
open Go Go.Proofs
attribute [local irreducible] QOp AOp Lex LexO AWp Spec
variable {TB : List (Nat × Obj)}

end Go.Am
/-
  Automata are valid, the program's way; three things together; steps of automata.
-/
namespace Go.Am
open Go Go.Proofs
attribute [local irreducible] QOp AOp Lex LexO AWp Spec
variable {TB : List (Nat × Obj)}

theorem autOk_bad {a : Aut} {k : Nat} {x : List Int} (hx : a.nx[k]? = some x) (h : rowOk (letters a.al).length a.nx.length x = false) : autOk a = false := by
  have h1 := all_bad (f := rowOk (letters a.al).length a.nx.length) hx h
  unfold autOk; rw [h1]; simp
theorem autOk_good {a : Aut} {k : Nat} (h0 : alphB a.al = true) (h1 : 1 ≤ a.nx.length ∧ a.nx.length ≤ 12) (h2 : a.ac.length = a.nx.length) (hk : a.nx.length ≤ k) (h : (a.nx.take k).all (rowOk (letters a.al).length a.nx.length) = true) : autOk a = true := by
  have h3 := all_done h hk
  unfold autOk; rw [h3]; grind
theorem implAutomatonValid_ok (a : Aut) : Pure Tryz.prog TB 78 [eAut a] (eB (autOk a)) := by
  refine Spec.of Tryz.func78 rfl (by kernel_rfl) (Nat.le_of_ble_eq_true rfl) ?_; intro Γ hΓ
  (repeat' (first | (first | (refine popO rfl ?_; first | (refine gA rfl ?_; first | refine yLm rfl rfl ?_ | ((first | refine yQ (md := false) rfl ?_ ?_ | refine yL rfl rfl (by assumption) rfl rfl ?_ ?_ | refine yT rfl rfl (by assumption) rfl ?_ ?_); (first | exact True.intro | omega | (simp only [oZ] at *; omega))) | (refine yB rfl ?_; intro _ _hb) | refine yU (sl := true) rfl ?_ | refine yM rfl rfl (by assumption) rfl rfl rfl ?_ | refine yV rfl rfl rfl rfl (by assumption) rfl rfl rfl rfl ?_ | (refine yC rfl rfl rfl (isAlphabet_ok _) ?_; intro _ _hb) | refine yP rfl rfl rfl (lettersOf_ok _) rfl ?_ ) | refine popN rfl ?_ | (refine yG rfl rfl ?_ ?_ <;> intro hb <;> subst hb)) | refine AWp.seq ?_ | refine reg (by kernel_rfl) ?_ | refine lexE ?_ | refine regD (flN []) mixed (by kernel_rfl) (by kernel_rfl) ?_) | (refine AWp.cond rfl (fun hb => ?_) (fun hb => ?_) <;> cases hb) | refine AWp.skip ?_ | refine AWp.exit ?_ | refine AWp.block ?_ | refine AWp.ret ⟨_, rfl, ?_⟩))
  all_goals try (show E.o _ = E.o _; congr; unfold autOk; (try simp only [List.length_map] at *); grind)
  refine AWp.bound 1 rfl fun hB => ?_
  have hB := hB (a.nx.map iiRow) (.p (j := 1) rfl .refl)
  refine AWp.loopL (α := {k : Nat // k ≤ a.nx.length ∧ (a.nx.take k).all (rowOk (letters a.al).length a.nx.length) = true}) (fun ⟨k, hk, ha⟩ => [(1, .o (.ip (auRow a))), (3, eI .i64 (letters a.al).length), (38, eIntss a.nx), (39, eI .i64 a.nx.length), (40, eI .i64 k)]) (fun ⟨k, hk, ha⟩ => []) 0 (fun ⟨k, hk, ha⟩ => a.nx.length - k) (⟨0, by omega, rfl⟩) [] (by first | (simp [hΓ]; done) | (rw [hΓ]; decide)) (by (repeat' (first | exact trivial | rfl | refine And.intro ?_ ?_)) <;> simp [EnvSub, StoreSub, look_cons, nm, E.ren, C.ren, C.renL, O.ren, killc, kill0, Function.comp_def, argsFrom, zC, hΓ]) ?_; rintro ⟨k, hk, ha⟩; try dsimp only
  (repeat (first | (refine popO rfl ?_; first | (refine gA rfl ?_; first | refine yLm rfl rfl ?_ | ((first | refine yQ (md := false) rfl ?_ ?_ | refine yL rfl rfl (by assumption) rfl rfl ?_ ?_ | refine yT rfl rfl (by assumption) rfl ?_ ?_); (first | exact True.intro | omega | (simp only [oZ] at *; omega))) | (refine yB rfl ?_; intro _ _hb) | refine yU (sl := true) rfl ?_ | refine yM rfl rfl (by assumption) rfl rfl rfl ?_ | refine yV rfl rfl rfl rfl (by assumption) rfl rfl rfl rfl ?_ ) | refine popN rfl ?_ | (refine yG rfl rfl ?_ ?_ <;> intro hb <;> subst hb)) | refine AWp.seq ?_ | refine reg (by kernel_rfl) ?_ | refine lexE ?_ | refine regD (flN []) mixed (by kernel_rfl) (by kernel_rfl) ?_))
  (refine AWp.cond rfl (fun hb => ?_) (fun hb => ?_) <;> cases hb)
  · obtain ⟨x, hx⟩ := get_some (l := a.nx) (k := k) (by first | omega | (simp only [oZ] at *; omega))
    have hx' := get_map (g := iiRow) hx
    (repeat' (first | (first | (refine popO rfl ?_; first | (refine gA rfl ?_; first | refine yLm rfl rfl ?_ | ((first | refine yQ (md := false) rfl ?_ ?_ | refine yL rfl rfl (by assumption) rfl rfl ?_ ?_ | refine yT rfl rfl (by assumption) rfl ?_ ?_); (first | exact True.intro | omega | (simp only [oZ] at *; omega))) | (refine yB rfl ?_; intro _ _hb) | refine yU (sl := true) rfl ?_ | refine yM rfl rfl (by assumption) rfl rfl rfl ?_ | refine yV rfl rfl rfl rfl (by assumption) rfl rfl rfl rfl ?_ ) | refine popN rfl ?_ | (refine yG rfl rfl ?_ ?_ <;> intro hb <;> subst hb)) | refine AWp.seq ?_ | refine reg (by kernel_rfl) ?_ | refine lexE ?_ | refine regD (flN []) mixed (by kernel_rfl) (by kernel_rfl) ?_) | (refine AWp.cond rfl (fun hb => ?_) (fun hb => ?_) <;> cases hb) | refine AWp.skip ?_ | refine AWp.exit ?_ | refine AWp.block ?_ | refine AWp.ret ⟨_, rfl, ?_⟩))
    · have h2 := autOk_bad hx (by unfold rowOk; grind)
      show E.o _ = E.o _; congr; exact h2.symm
    refine AWp.bound 5 rfl fun hB2 => ?_
    have hB2 := hB2 (x.map iRow) .refl
    refine AWp.loopL (α := {j : Nat // j ≤ x.length ∧ (x.take j).all (stOk a.nx.length) = true}) (fun ⟨j, hj, hc⟩ => [(1, .o (.ip (auRow a))), (3, eI .i64 (letters a.al).length), (38, eIntss a.nx), (39, eI .i64 a.nx.length), (40, eI .i64 k), (48, eInts x), (49, eI .i64 x.length), (50, eI .i64 j)]) (fun ⟨j, hj, hc⟩ => []) 0 (fun ⟨j, hj, hc⟩ => x.length - j) (⟨0, by omega, rfl⟩) [] (by first | (simp [hΓ]; done) | (rw [hΓ]; decide)) (by (repeat' (first | exact trivial | rfl | refine And.intro ?_ ?_)) <;> simp [EnvSub, StoreSub, look_cons, nm, E.ren, C.ren, C.renL, O.ren, killc, kill0, Function.comp_def, argsFrom, zC, hΓ]) ?_; rintro ⟨j, hj, hc⟩; try dsimp only
    (repeat (first | (refine popO rfl ?_; first | (refine gA rfl ?_; first | refine yLm rfl rfl ?_ | ((first | refine yQ (md := false) rfl ?_ ?_ | refine yL rfl rfl (by assumption) rfl rfl ?_ ?_ | refine yT rfl rfl (by assumption) rfl ?_ ?_); (first | exact True.intro | omega | (simp only [oZ] at *; omega))) | (refine yB rfl ?_; intro _ _hb) | refine yU (sl := true) rfl ?_ | refine yM rfl rfl (by assumption) rfl rfl rfl ?_ | refine yV rfl rfl rfl rfl (by assumption) rfl rfl rfl rfl ?_ ) | refine popN rfl ?_ | (refine yG rfl rfl ?_ ?_ <;> intro hb <;> subst hb)) | refine AWp.seq ?_ | refine reg (by kernel_rfl) ?_ | refine lexE ?_ | refine regD (flN []) mixed (by kernel_rfl) (by kernel_rfl) ?_))
    (refine AWp.cond rfl (fun hb => ?_) (fun hb => ?_) <;> cases hb)
    · obtain ⟨y, hy⟩ := get_some (l := x) (k := j) (by first | omega | (simp only [oZ] at *; omega))
      have hy' := get_map (g := iRow) hy
      (repeat' (first | (first | (refine popO rfl ?_; first | (refine gA rfl ?_; first | refine yLm rfl rfl ?_ | ((first | refine yQ (md := false) rfl ?_ ?_ | refine yL rfl rfl (by assumption) rfl rfl ?_ ?_ | refine yT rfl rfl (by assumption) rfl ?_ ?_); (first | exact True.intro | omega | (simp only [oZ] at *; omega))) | (refine yB rfl ?_; intro _ _hb) | refine yU (sl := true) rfl ?_ | refine yM rfl rfl (by assumption) rfl rfl rfl ?_ | refine yV rfl rfl rfl rfl (by assumption) rfl rfl rfl rfl ?_ ) | refine popN rfl ?_ | (refine yG rfl rfl ?_ ?_ <;> intro hb <;> subst hb)) | refine AWp.seq ?_ | refine reg (by kernel_rfl) ?_ | refine lexE ?_ | refine regD (flN []) mixed (by kernel_rfl) (by kernel_rfl) ?_) | (refine AWp.cond rfl (fun hb => ?_) (fun hb => ?_) <;> cases hb) | refine AWp.skip ?_ | refine AWp.exit ?_ | refine AWp.block ?_ | refine AWp.ret ⟨_, rfl, ?_⟩))
      all_goals first
        | (have h2 := autOk_bad hx (by rw [rowOk, all_bad hy (by unfold stOk; grind)]; simp); show E.o _ = E.o _; congr; exact h2.symm; done)
        | (refine ⟨⟨j + 1, by first | omega | (simp only [oZ] at *; omega), all_step hy hc (by unfold stOk; grind)⟩, by dsimp only; (first | omega | (simp only [oZ] at *; omega)), [], ?_⟩; simp [EnvSub, StoreSub, look_cons, nm, E.ren, C.ren, C.renL, O.ren, killc, kill0, Function.comp_def, argsFrom, zC, hΓ]; done)
    · (repeat' (first | (first | (refine popO rfl ?_; first | (refine gA rfl ?_; first | refine yLm rfl rfl ?_ | ((first | refine yQ (md := false) rfl ?_ ?_ | refine yL rfl rfl (by assumption) rfl rfl ?_ ?_ | refine yT rfl rfl (by assumption) rfl ?_ ?_); (first | exact True.intro | omega | (simp only [oZ] at *; omega))) | (refine yB rfl ?_; intro _ _hb) | refine yU (sl := true) rfl ?_ | refine yM rfl rfl (by assumption) rfl rfl rfl ?_ | refine yV rfl rfl rfl rfl (by assumption) rfl rfl rfl rfl ?_ ) | refine popN rfl ?_ | (refine yG rfl rfl ?_ ?_ <;> intro hb <;> subst hb)) | refine AWp.seq ?_ | refine reg (by kernel_rfl) ?_ | refine lexE ?_ | refine regD (flN []) mixed (by kernel_rfl) (by kernel_rfl) ?_) | (refine AWp.cond rfl (fun hb => ?_) (fun hb => ?_) <;> cases hb) | refine AWp.skip ?_ | refine AWp.exit ?_ | refine AWp.block ?_ | refine AWp.ret ⟨_, rfl, ?_⟩))
      have h3 := all_done hc (by first | omega | (simp only [oZ] at *; omega))
      refine ⟨⟨k + 1, by first | omega | (simp only [oZ] at *; omega), all_step hx ha (by rw [rowOk, h3]; grind)⟩, by dsimp only; (first | omega | (simp only [oZ] at *; omega)), [], ?_⟩
      simp [EnvSub, StoreSub, look_cons, nm, E.ren, C.ren, C.renL, O.ren, killc, kill0, Function.comp_def, argsFrom, zC, hΓ]
  · (repeat' (first | (first | (refine popO rfl ?_; first | (refine gA rfl ?_; first | refine yLm rfl rfl ?_ | ((first | refine yQ (md := false) rfl ?_ ?_ | refine yL rfl rfl (by assumption) rfl rfl ?_ ?_ | refine yT rfl rfl (by assumption) rfl ?_ ?_); (first | exact True.intro | omega | (simp only [oZ] at *; omega))) | (refine yB rfl ?_; intro _ _hb) | refine yU (sl := true) rfl ?_ | refine yM rfl rfl (by assumption) rfl rfl rfl ?_ | refine yV rfl rfl rfl rfl (by assumption) rfl rfl rfl rfl ?_ ) | refine popN rfl ?_ | (refine yG rfl rfl ?_ ?_ <;> intro hb <;> subst hb)) | refine AWp.seq ?_ | refine reg (by kernel_rfl) ?_ | refine lexE ?_ | refine regD (flN []) mixed (by kernel_rfl) (by kernel_rfl) ?_) | (refine AWp.cond rfl (fun hb => ?_) (fun hb => ?_) <;> cases hb) | refine AWp.skip ?_ | refine AWp.exit ?_ | refine AWp.block ?_ | refine AWp.ret ⟨_, rfl, ?_⟩))
    have h2 := autOk_good (a := a) (by grind) (by grind) (by grind) (by first | omega | (simp only [oZ] at *; omega)) ha
    show E.o _ = E.o _; congr; exact h2.symm
/-- A letter's row: where an automaton goes. -/
def goA (a : Aut) (q : Nat) (l : Int) : Int := if bitB a.al l.toNat then ((a.nx.getD q []).getD (lettersTo a.al l.toNat).length 0) else q
theorem lettersTo_lt {s : Int} {l k : Nat} (hl : l < k) (hb : bitB s l = true) : (lettersTo s l).length < (lettersTo s k).length := by
  induction k with
  | zero => omega
  | succ k ih =>
    rw [lettersTo_succ, List.length_append]
    rcases Nat.lt_succ_iff_lt_or_eq.1 hl with h | h
    · have := ih h; omega
    · subst h; rw [if_pos hb]; simp
theorem autOk_row {a : Aut} (h : autOk a = true) {q : Nat} (hq : q < a.nx.length) : ∃ row, a.nx[q]? = some row ∧ row.length = (letters a.al).length ∧ ∀ (i : Nat) (x : Int), row[i]? = some x → 0 ≤ x ∧ x < a.nx.length := by
  obtain ⟨row, hr⟩ := get_some hq
  refine ⟨row, hr, ?_⟩
  unfold autOk at h
  rw [Bool.and_eq_true, List.all_eq_true] at h
  have h1 := h.2 row (List.mem_of_getElem? hr)
  unfold rowOk at h1
  rw [Bool.and_eq_true, List.all_eq_true] at h1
  refine ⟨by grind, fun i x hx => ?_⟩
  have := h1.2 x (List.mem_of_getElem? hx)
  unfold stOk at this; grind
theorem l3Go_ok (a : Aut) (h : autOk a = true) (q : Nat) (hq : q < a.nx.length) (l : Int) (h0 : 0 ≤ l) (h1 : l < 6) : Pure Tryz.prog TB 75 [eAut a, eI .i64 q, eI .i64 l] (eI .i64 (goA a q l)) := by
  refine Spec.of Tryz.func75 rfl (by kernel_rfl) (Nat.le_of_ble_eq_true rfl) ?_; intro Γ hΓ
  obtain ⟨row, hr, hl, hx⟩ := autOk_row h hq
  have hr' := get_map (g := iiRow) hr
  by_cases hb : bitB a.al l.toNat = true
  · have hlt : (lettersTo a.al l.toNat).length < row.length := by rw [hl]; exact lettersTo_lt (by omega) hb
    obtain ⟨y, hy⟩ := get_some hlt
    have hy' := get_map (g := iRow) hy
    (repeat' (first | (first | (refine popO rfl ?_; first | (refine gA rfl ?_; first | refine yLm rfl rfl ?_ | ((first | refine yQ (md := false) rfl ?_ ?_ | refine yL rfl rfl (by assumption) rfl rfl ?_ ?_ | refine yT rfl rfl (by assumption) rfl ?_ ?_); (first | exact True.intro | omega | (simp only [oZ] at *; omega))) | (refine yB rfl ?_; intro _ _hb) | refine yU (sl := true) rfl ?_ | refine yM rfl rfl (by assumption) rfl rfl rfl ?_ | refine yV rfl rfl rfl rfl (by assumption) rfl rfl rfl rfl ?_ | (refine yC rfl rfl rfl (l1Has_ok _ _ (by first | omega | (simp only [oZ] at *; omega)) (by first | omega | (simp only [oZ] at *; omega))) ?_; intro _ _hb) | refine yP rfl rfl rfl (l1Place_ok _ _ (by first | omega | (simp only [oZ] at *; omega)) (by first | omega | (simp only [oZ] at *; omega))) rfl ?_ ) | refine popN rfl ?_ | (refine yG rfl rfl ?_ ?_ <;> intro hb <;> subst hb)) | refine AWp.seq ?_ | refine reg (by kernel_rfl) ?_ | refine lexE ?_ | refine regD (flN []) mixed (by kernel_rfl) (by kernel_rfl) ?_) | (refine AWp.cond rfl (fun hb => ?_) (fun hb => ?_) <;> cases hb) | refine AWp.skip ?_ | refine AWp.exit ?_ | refine AWp.block ?_ | refine AWp.ret ⟨_, rfl, ?_⟩))
    all_goals first
      | (exfalso; grind; done)
      | (show E.o _ = E.o _; congr; unfold goA; rw [if_pos hb]; simp [List.getD, hr, hy]; done)
  · (repeat' (first | (first | (refine popO rfl ?_; first | (refine gA rfl ?_; first | refine yLm rfl rfl ?_ | ((first | refine yQ (md := false) rfl ?_ ?_ | refine yL rfl rfl (by assumption) rfl rfl ?_ ?_ | refine yT rfl rfl (by assumption) rfl ?_ ?_); (first | exact True.intro | omega | (simp only [oZ] at *; omega))) | (refine yB rfl ?_; intro _ _hb) | refine yU (sl := true) rfl ?_ | refine yM rfl rfl (by assumption) rfl rfl rfl ?_ | refine yV rfl rfl rfl rfl (by assumption) rfl rfl rfl rfl ?_ | (refine yC rfl rfl rfl (l1Has_ok _ _ (by first | omega | (simp only [oZ] at *; omega)) (by first | omega | (simp only [oZ] at *; omega))) ?_; intro _ _hb) ) | refine popN rfl ?_ | (refine yG rfl rfl ?_ ?_ <;> intro hb <;> subst hb)) | refine AWp.seq ?_ | refine reg (by kernel_rfl) ?_ | refine lexE ?_ | refine regD (flN []) mixed (by kernel_rfl) (by kernel_rfl) ?_) | (refine AWp.cond rfl (fun hb => ?_) (fun hb => ?_) <;> cases hb) | refine AWp.skip ?_ | refine AWp.exit ?_ | refine AWp.block ?_ | refine AWp.ret ⟨_, rfl, ?_⟩))
    all_goals first
      | (show E.o _ = E.o _; congr; unfold goA; rw [if_neg hb]; done)
      | (exfalso; grind; done)
end Go.Am
/-
  The parts of the reference's search, 1.
-/
namespace Go.Am
open Go Go.Proofs
attribute [local irreducible] QOp AOp Lex LexO AWp Spec
variable {TB : List (Nat × Obj)}

structure Net where
  ps : List Sys
  au : List Aut
  st : List Int
  ls : Int
  kd : Int
  gl : Int
abbrev nRow (n : Net) : List D := [syList n.ps, auList n.au, iList n.st, iD n.ls, iD n.kd, iD n.gl]
abbrev eNet (n : Net) : E := .a [.d (syList n.ps), .d (auList n.au), .d (iList n.st), .d (iD n.ls), .d (iD n.kd), .d (iD n.gl)]

theorem l4In_ok (l : List Int) (n : Int) : Pure Tryz.prog TB 97 [eInts l, eI .i64 n] (eB (decide (n ∈ l))) := by
  refine Spec.of Tryz.func97 rfl (by kernel_rfl) (Nat.le_of_ble_eq_true rfl) ?_; intro Γ hΓ
  refine AWp.bound 0 rfl fun hB => ?_
  have hB := hB (l.map iRow) .refl
  (repeat' (first | (first | (refine popO rfl ?_; first | (refine gA rfl ?_; first | refine yLm rfl rfl ?_ | ((first | refine yQ (md := false) rfl ?_ ?_ | refine yL rfl rfl (by assumption) rfl rfl ?_ ?_ | refine yT rfl rfl (by assumption) rfl ?_ ?_); (first | exact True.intro | omega | (simp only [oZ] at *; omega))) | (refine yB rfl ?_; intro _ _hb) | refine yU (sl := true) rfl ?_ | refine yM rfl rfl (by assumption) rfl rfl rfl ?_ | refine yV rfl rfl rfl rfl (by assumption) rfl rfl rfl rfl ?_ ) | refine popN rfl ?_ | (refine yG rfl rfl ?_ ?_ <;> intro hb <;> subst hb)) | refine AWp.seq ?_ | refine reg (by kernel_rfl) ?_ | refine lexE ?_ | refine regD (flN []) mixed (by kernel_rfl) (by kernel_rfl) ?_) | (refine AWp.cond rfl (fun hb => ?_) (fun hb => ?_) <;> cases hb) | refine AWp.skip ?_ | refine AWp.exit ?_ | refine AWp.block ?_ | refine AWp.ret ⟨_, rfl, ?_⟩))
  refine AWp.loopL (α := {k : Nat // k ≤ l.length ∧ n ∉ l.take k}) (fun ⟨k, hk, ha⟩ => [(0, eInts l), (1, eI .i64 n), (5, eI .i64 k)]) (fun ⟨k, hk, ha⟩ => []) 0 (fun ⟨k, hk, ha⟩ => l.length - k) (⟨0, by omega, by simp⟩) [] (by first | (simp [hΓ]; done) | (rw [hΓ]; decide)) (by (repeat' (first | exact trivial | rfl | refine And.intro ?_ ?_)) <;> simp [EnvSub, StoreSub, look_cons, nm, E.ren, C.ren, C.renL, O.ren, killc, kill0, Function.comp_def, argsFrom, zC, hΓ]) ?_; rintro ⟨k, hk, ha⟩; try dsimp only
  (repeat (first | (refine popO rfl ?_; first | (refine gA rfl ?_; first | refine yLm rfl rfl ?_ | ((first | refine yQ (md := false) rfl ?_ ?_ | refine yL rfl rfl (by assumption) rfl rfl ?_ ?_ | refine yT rfl rfl (by assumption) rfl ?_ ?_); (first | exact True.intro | omega | (simp only [oZ] at *; omega))) | (refine yB rfl ?_; intro _ _hb) | refine yU (sl := true) rfl ?_ | refine yM rfl rfl (by assumption) rfl rfl rfl ?_ | refine yV rfl rfl rfl rfl (by assumption) rfl rfl rfl rfl ?_ ) | refine popN rfl ?_ | (refine yG rfl rfl ?_ ?_ <;> intro hb <;> subst hb)) | refine AWp.seq ?_ | refine reg (by kernel_rfl) ?_ | refine lexE ?_ | refine regD (flN []) mixed (by kernel_rfl) (by kernel_rfl) ?_))
  (refine AWp.cond rfl (fun hb => ?_) (fun hb => ?_) <;> cases hb)
  · obtain ⟨x, hx⟩ := get_some (l := l) (k := k) (by first | omega | (simp only [oZ] at *; omega))
    have hx' := get_map (g := iRow) hx
    (repeat' (first | (first | (refine popO rfl ?_; first | (refine gA rfl ?_; first | refine yLm rfl rfl ?_ | ((first | refine yQ (md := false) rfl ?_ ?_ | refine yL rfl rfl (by assumption) rfl rfl ?_ ?_ | refine yT rfl rfl (by assumption) rfl ?_ ?_); (first | exact True.intro | omega | (simp only [oZ] at *; omega))) | (refine yB rfl ?_; intro _ _hb) | refine yU (sl := true) rfl ?_ | refine yM rfl rfl (by assumption) rfl rfl rfl ?_ | refine yV rfl rfl rfl rfl (by assumption) rfl rfl rfl rfl ?_ ) | refine popN rfl ?_ | (refine yG rfl rfl ?_ ?_ <;> intro hb <;> subst hb)) | refine AWp.seq ?_ | refine reg (by kernel_rfl) ?_ | refine lexE ?_ | refine regD (flN []) mixed (by kernel_rfl) (by kernel_rfl) ?_) | (refine AWp.cond rfl (fun hb => ?_) (fun hb => ?_) <;> cases hb) | refine AWp.skip ?_ | refine AWp.exit ?_ | refine AWp.block ?_ | refine AWp.ret ⟨_, rfl, ?_⟩))
    · have h1 := List.mem_of_getElem? hx
      show E.o _ = E.o _; congr; grind
    · refine ⟨⟨k + 1, by first | omega | (simp only [oZ] at *; omega), by rw [List.take_add_one, hx]; grind⟩, by dsimp only; (first | omega | (simp only [oZ] at *; omega)), [], ?_⟩
      simp [EnvSub, StoreSub, look_cons, nm, E.ren, C.ren, C.renL, O.ren, killc, kill0, Function.comp_def, argsFrom, zC, hΓ]
  · (repeat' (first | (first | (refine popO rfl ?_; first | (refine gA rfl ?_; first | refine yLm rfl rfl ?_ | ((first | refine yQ (md := false) rfl ?_ ?_ | refine yL rfl rfl (by assumption) rfl rfl ?_ ?_ | refine yT rfl rfl (by assumption) rfl ?_ ?_); (first | exact True.intro | omega | (simp only [oZ] at *; omega))) | (refine yB rfl ?_; intro _ _hb) | refine yU (sl := true) rfl ?_ | refine yM rfl rfl (by assumption) rfl rfl rfl ?_ | refine yV rfl rfl rfl rfl (by assumption) rfl rfl rfl rfl ?_ ) | refine popN rfl ?_ | (refine yG rfl rfl ?_ ?_ <;> intro hb <;> subst hb)) | refine AWp.seq ?_ | refine reg (by kernel_rfl) ?_ | refine lexE ?_ | refine regD (flN []) mixed (by kernel_rfl) (by kernel_rfl) ?_) | (refine AWp.cond rfl (fun hb => ?_) (fun hb => ?_) <;> cases hb) | refine AWp.skip ?_ | refine AWp.exit ?_ | refine AWp.block ?_ | refine AWp.ret ⟨_, rfl, ?_⟩))
    rw [List.take_of_length_le (by first | omega | (simp only [oZ] at *; omega))] at ha
    show E.o _ = E.o _; congr; grind
/-- Mixed digits: the node of a list of states. -/
def encN : List Int → List Int → Int → Int
  | z :: zs, s :: ss, n => encN zs ss (n * z + s)
  | _, _, n => n
end Go.Am
/-
  The parts of the reference's search, 2.
-/
namespace Go.Am
open Go Go.Proofs
attribute [local irreducible] QOp AOp Lex LexO AWp Spec
variable {TB : List (Nat × Obj)}

theorem any_step {α : Type} {l : List α} {f : α → Bool} {k : Nat} {x : α} (h : l[k]? = some x) (h1 : (l.take k).any f = false) (h2 : f x = false) : (l.take (k + 1)).any f = false := by
  rw [List.take_add_one, h]; simp [List.any_append, h1, h2]
theorem any_hit {α : Type} {l : List α} {f : α → Bool} {k : Nat} {x : α} (h : l[k]? = some x) (h2 : f x = true) : l.any f = true := by
  rw [List.any_eq_true]; exact ⟨x, List.mem_of_getElem? h, h2⟩
theorem any_done {α : Type} {l : List α} {f : α → Bool} {k : Nat} (h : (l.take k).any f = false) (hk : l.length ≤ k) : l.any f = false := by
  rwa [List.take_of_length_le hk] at h

def atD (dist : List Int) (d v : Int) : Bool := decide (dist.getD v.toNat 0 = d)
def nearB (mv : List (List Int)) (dist : List Int) (d : Int) : Bool := mv.any fun r => r.any (atD dist d)
def InR (n : Nat) (v : Int) : Prop := 0 ≤ v ∧ v < n
theorem l4Near_ok (mv : List (List Int)) (dist : List Int) (d : Int) (hin : ∀ r ∈ mv, ∀ v ∈ r, InR dist.length v) : Pure Tryz.prog TB 96 [eIntss mv, eInts dist, eI .i64 d] (eB (nearB mv dist d)) := by
  refine Spec.of Tryz.func96 rfl (by kernel_rfl) (Nat.le_of_ble_eq_true rfl) ?_; intro Γ hΓ
  refine AWp.bound 0 rfl fun hB0 => ?_
  have hB := hB0 (mv.map iiRow) .refl
  (repeat' (first | (first | (refine popO rfl ?_; first | (refine gA rfl ?_; first | refine yLm rfl rfl ?_ | ((first | refine yQ (md := false) rfl ?_ ?_ | refine yL rfl rfl (by assumption) rfl rfl ?_ ?_ | refine yT rfl rfl (by assumption) rfl ?_ ?_); (first | exact True.intro | omega | (simp only [oZ] at *; omega))) | (refine yB rfl ?_; intro _ _hb) | refine yU (sl := true) rfl ?_ | refine yM rfl rfl (by assumption) rfl rfl rfl ?_ | refine yV rfl rfl rfl rfl (by assumption) rfl rfl rfl rfl ?_ ) | refine popN rfl ?_ | (refine yG rfl rfl ?_ ?_ <;> intro hb <;> subst hb)) | refine AWp.seq ?_ | refine reg (by kernel_rfl) ?_ | refine lexE ?_ | refine regD (flN []) mixed (by kernel_rfl) (by kernel_rfl) ?_) | (refine AWp.cond rfl (fun hb => ?_) (fun hb => ?_) <;> cases hb) | refine AWp.skip ?_ | refine AWp.exit ?_ | refine AWp.block ?_ | refine AWp.ret ⟨_, rfl, ?_⟩))
  refine AWp.loopL (α := {k : Nat // k ≤ mv.length ∧ (mv.take k).any (fun r => r.any (atD dist d)) = false}) (fun ⟨k, hk, ha⟩ => [(0, eIntss mv), (1, eInts dist), (2, eI .i64 d), (7, eI .i64 k)]) (fun ⟨k, hk, ha⟩ => []) 0 (fun ⟨k, hk, ha⟩ => mv.length - k) (⟨0, by omega, by simp⟩) [] (by first | (simp [hΓ]; done) | (rw [hΓ]; decide)) (by (repeat' (first | exact trivial | rfl | refine And.intro ?_ ?_)) <;> simp [EnvSub, StoreSub, look_cons, nm, E.ren, C.ren, C.renL, O.ren, killc, kill0, Function.comp_def, argsFrom, zC, hΓ]) ?_; rintro ⟨k, hk, ha⟩; try dsimp only
  (repeat (first | (refine popO rfl ?_; first | (refine gA rfl ?_; first | refine yLm rfl rfl ?_ | ((first | refine yQ (md := false) rfl ?_ ?_ | refine yL rfl rfl (by assumption) rfl rfl ?_ ?_ | refine yT rfl rfl (by assumption) rfl ?_ ?_); (first | exact True.intro | omega | (simp only [oZ] at *; omega))) | (refine yB rfl ?_; intro _ _hb) | refine yU (sl := true) rfl ?_ | refine yM rfl rfl (by assumption) rfl rfl rfl ?_ | refine yV rfl rfl rfl rfl (by assumption) rfl rfl rfl rfl ?_ ) | refine popN rfl ?_ | (refine yG rfl rfl ?_ ?_ <;> intro hb <;> subst hb)) | refine AWp.seq ?_ | refine reg (by kernel_rfl) ?_ | refine lexE ?_ | refine regD (flN []) mixed (by kernel_rfl) (by kernel_rfl) ?_))
  (refine AWp.cond rfl (fun hb => ?_) (fun hb => ?_) <;> cases hb)
  · obtain ⟨x, hx⟩ := get_some (l := mv) (k := k) (by first | omega | (simp only [oZ] at *; omega))
    have hx' := get_map (g := iiRow) hx
    have hBx := hB0 (x.map iRow) (.l (i := k) (j := 0) (r := iiRow x) (by simp [hx]) rfl .refl)
    have hin := hin x (List.mem_of_getElem? hx)
    (repeat' (first | (first | (refine popO rfl ?_; first | (refine gA rfl ?_; first | refine yLm rfl rfl ?_ | ((first | refine yQ (md := false) rfl ?_ ?_ | refine yL rfl rfl (by assumption) rfl rfl ?_ ?_ | refine yT rfl rfl (by assumption) rfl ?_ ?_); (first | exact True.intro | omega | (simp only [oZ] at *; omega))) | (refine yB rfl ?_; intro _ _hb) | refine yU (sl := true) rfl ?_ | refine yM rfl rfl (by assumption) rfl rfl rfl ?_ | refine yV rfl rfl rfl rfl (by assumption) rfl rfl rfl rfl ?_ ) | refine popN rfl ?_ | (refine yG rfl rfl ?_ ?_ <;> intro hb <;> subst hb)) | refine AWp.seq ?_ | refine reg (by kernel_rfl) ?_ | refine lexE ?_ | refine regD (flN []) mixed (by kernel_rfl) (by kernel_rfl) ?_) | (refine AWp.cond rfl (fun hb => ?_) (fun hb => ?_) <;> cases hb) | refine AWp.skip ?_ | refine AWp.exit ?_ | refine AWp.block ?_ | refine AWp.ret ⟨_, rfl, ?_⟩))
    refine AWp.loopL (α := {j : Nat // j ≤ x.length ∧ (x.take j).any (atD dist d) = false}) (fun ⟨j, hj, hc⟩ => [(0, eIntss mv), (1, eInts dist), (2, eI .i64 d), (7, eI .i64 k), (8, eI .i64 j)]) (fun ⟨j, hj, hc⟩ => []) 0 (fun ⟨j, hj, hc⟩ => x.length - j) (⟨0, by omega, by simp⟩) [] (by first | (simp [hΓ]; done) | (rw [hΓ]; decide)) (by (repeat' (first | exact trivial | rfl | refine And.intro ?_ ?_)) <;> simp [EnvSub, StoreSub, look_cons, nm, E.ren, C.ren, C.renL, O.ren, killc, kill0, Function.comp_def, argsFrom, zC, hΓ]) ?_; rintro ⟨j, hj, hc⟩; try dsimp only
    (repeat (first | (refine popO rfl ?_; first | (refine gA rfl ?_; first | refine yLm rfl rfl ?_ | ((first | refine yQ (md := false) rfl ?_ ?_ | refine yL rfl rfl (by assumption) rfl rfl ?_ ?_ | refine yT rfl rfl (by assumption) rfl ?_ ?_); (first | exact True.intro | omega | (simp only [oZ] at *; omega))) | (refine yB rfl ?_; intro _ _hb) | refine yU (sl := true) rfl ?_ | refine yM rfl rfl (by assumption) rfl rfl rfl ?_ | refine yV rfl rfl rfl rfl (by assumption) rfl rfl rfl rfl ?_ ) | refine popN rfl ?_ | (refine yG rfl rfl ?_ ?_ <;> intro hb <;> subst hb)) | refine AWp.seq ?_ | refine reg (by kernel_rfl) ?_ | refine lexE ?_ | refine regD (flN []) mixed (by kernel_rfl) (by kernel_rfl) ?_))
    (refine AWp.cond rfl (fun hb => ?_) (fun hb => ?_) <;> cases hb)
    · obtain ⟨y, hy⟩ := get_some (l := x) (k := j) (by first | omega | (simp only [oZ] at *; omega))
      have hy' := get_map (g := iRow) hy
      obtain ⟨h1, h2⟩ := hin y (List.mem_of_getElem? hy)
      obtain ⟨z, hz⟩ := get_some (l := dist) (k := y.toNat) (by omega)
      have hz' : (dist.map iRow)[y.toNat]? = some (iRow z) := by simp [hz]
      have hat : atD dist d y = decide (z = d) := by simp [atD, hz]
      (repeat' (first | (first | (refine popO rfl ?_; first | (refine gA rfl ?_; first | refine yLm rfl rfl ?_ | ((first | refine yQ (md := false) rfl ?_ ?_ | refine yL rfl rfl (by assumption) rfl rfl ?_ ?_ | refine yT rfl rfl (by assumption) rfl ?_ ?_); (first | exact True.intro | omega | (simp only [oZ] at *; omega))) | (refine yB rfl ?_; intro _ _hb) | refine yU (sl := true) rfl ?_ | refine yM rfl rfl (by assumption) rfl rfl rfl ?_ | refine yV rfl rfl rfl rfl (by assumption) rfl rfl rfl rfl ?_ ) | refine popN rfl ?_ | (refine yG rfl rfl ?_ ?_ <;> intro hb <;> subst hb)) | refine AWp.seq ?_ | refine reg (by kernel_rfl) ?_ | refine lexE ?_ | refine regD (flN []) mixed (by kernel_rfl) (by kernel_rfl) ?_) | (refine AWp.cond rfl (fun hb => ?_) (fun hb => ?_) <;> cases hb) | refine AWp.skip ?_ | refine AWp.exit ?_ | refine AWp.block ?_ | refine AWp.ret ⟨_, rfl, ?_⟩))
      all_goals first
        | (have h3 := any_hit hx (f := fun r => r.any (atD dist d)) (any_hit hy (by rw [hat]; grind)); show E.o _ = E.o _; congr; unfold nearB; rw [h3]; done)
        | (refine ⟨⟨j + 1, by first | omega | (simp only [oZ] at *; omega), any_step hy hc (by rw [hat]; grind)⟩, by dsimp only; (first | omega | (simp only [oZ] at *; omega)), [], ?_⟩; simp [EnvSub, StoreSub, look_cons, nm, E.ren, C.ren, C.renL, O.ren, killc, kill0, Function.comp_def, argsFrom, zC, hΓ]; done)
    · (repeat' (first | (first | (refine popO rfl ?_; first | (refine gA rfl ?_; first | refine yLm rfl rfl ?_ | ((first | refine yQ (md := false) rfl ?_ ?_ | refine yL rfl rfl (by assumption) rfl rfl ?_ ?_ | refine yT rfl rfl (by assumption) rfl ?_ ?_); (first | exact True.intro | omega | (simp only [oZ] at *; omega))) | (refine yB rfl ?_; intro _ _hb) | refine yU (sl := true) rfl ?_ | refine yM rfl rfl (by assumption) rfl rfl rfl ?_ | refine yV rfl rfl rfl rfl (by assumption) rfl rfl rfl rfl ?_ ) | refine popN rfl ?_ | (refine yG rfl rfl ?_ ?_ <;> intro hb <;> subst hb)) | refine AWp.seq ?_ | refine reg (by kernel_rfl) ?_ | refine lexE ?_ | refine regD (flN []) mixed (by kernel_rfl) (by kernel_rfl) ?_) | (refine AWp.cond rfl (fun hb => ?_) (fun hb => ?_) <;> cases hb) | refine AWp.skip ?_ | refine AWp.exit ?_ | refine AWp.block ?_ | refine AWp.ret ⟨_, rfl, ?_⟩))
      refine ⟨⟨k + 1, by first | omega | (simp only [oZ] at *; omega), any_step hx ha (any_done hc (by first | omega | (simp only [oZ] at *; omega)))⟩, by dsimp only; (first | omega | (simp only [oZ] at *; omega)), [], ?_⟩
      simp [EnvSub, StoreSub, look_cons, nm, E.ren, C.ren, C.renL, O.ren, killc, kill0, Function.comp_def, argsFrom, zC, hΓ]
  · (repeat' (first | (first | (refine popO rfl ?_; first | (refine gA rfl ?_; first | refine yLm rfl rfl ?_ | ((first | refine yQ (md := false) rfl ?_ ?_ | refine yL rfl rfl (by assumption) rfl rfl ?_ ?_ | refine yT rfl rfl (by assumption) rfl ?_ ?_); (first | exact True.intro | omega | (simp only [oZ] at *; omega))) | (refine yB rfl ?_; intro _ _hb) | refine yU (sl := true) rfl ?_ | refine yM rfl rfl (by assumption) rfl rfl rfl ?_ | refine yV rfl rfl rfl rfl (by assumption) rfl rfl rfl rfl ?_ ) | refine popN rfl ?_ | (refine yG rfl rfl ?_ ?_ <;> intro hb <;> subst hb)) | refine AWp.seq ?_ | refine reg (by kernel_rfl) ?_ | refine lexE ?_ | refine regD (flN []) mixed (by kernel_rfl) (by kernel_rfl) ?_) | (refine AWp.cond rfl (fun hb => ?_) (fun hb => ?_) <;> cases hb) | refine AWp.skip ?_ | refine AWp.exit ?_ | refine AWp.block ?_ | refine AWp.ret ⟨_, rfl, ?_⟩))
    have h1 := any_done ha (by first | omega | (simp only [oZ] at *; omega))
    show E.o _ = E.o _; congr; unfold nearB; rw [h1]
end Go.Am
/-
  Mixed digits.
-/
namespace Go.Am
open Go

inductive Fits : List Int → List Int → Prop
  | nil : Fits [] []
  | cons {z s : Int} {zs ss : List Int} : 0 ≤ s → s < z → Fits zs ss → Fits (z :: zs) (s :: ss)
def prodI : List Int → Int
  | [] => 1
  | z :: zs => z * prodI zs
theorem Fits.len {zs ss : List Int} (h : Fits zs ss) : zs.length = ss.length := by
  induction h with
  | nil => rfl
  | cons _ _ _ ih => simp [ih]
theorem Fits.pos {zs ss : List Int} (h : Fits zs ss) : 1 ≤ prodI zs := by
  induction h with
  | nil => simp [prodI]
  | @cons z s zs ss h0 h1 _ ih =>
    have : 1 * 1 ≤ z * prodI zs := Int.mul_le_mul (by omega) ih (by omega) (by omega)
    simpa [prodI] using this
theorem Fits.enc {zs ss : List Int} (h : Fits zs ss) : ∀ n : Int, 0 ≤ n → 0 ≤ encN zs ss n ∧ encN zs ss n < (n + 1) * prodI zs := by
  induction h with
  | nil => intro n hn; simp [encN, prodI]; omega
  | @cons z s zs ss h0 h1 h2 ih =>
    intro n hn
    have hz : 0 ≤ n * z := Int.mul_nonneg hn (by omega)
    obtain ⟨h3, h4⟩ := ih (n * z + s) (by omega)
    refine ⟨h3, Int.lt_of_lt_of_le h4 ?_⟩
    rw [prodI, ← Int.mul_assoc]
    refine Int.mul_le_mul_of_nonneg_right ?_ (by have := h2.pos; omega)
    rw [Int.add_mul]; omega
theorem Fits.take {zs ss : List Int} (h : Fits zs ss) : ∀ k, Fits (zs.take k) (ss.take k) ∧ prodI (zs.take k) ≤ prodI zs := by
  induction h with
  | nil => intro k; simp; exact .nil
  | @cons z s zs ss h0 h1 h2 ih =>
    intro k
    cases k with
    | zero =>
      have := (Fits.cons h0 h1 h2).pos
      exact ⟨.nil, by simpa [prodI] using this⟩
    | succ k =>
      obtain ⟨h3, h4⟩ := ih k
      exact ⟨.cons h0 h1 h3, by simp only [List.take_succ_cons, prodI]; exact Int.mul_le_mul_of_nonneg_left h4 (by omega)⟩
theorem Fits.get {zs ss : List Int} (h : Fits zs ss) : ∀ (k : Nat) (z s : Int), zs[k]? = some z → ss[k]? = some s → 0 ≤ s ∧ s < z := by
  induction h with
  | nil => intro k z s hz; simp at hz
  | cons h0 h1 _ ih =>
    intro k z s hz hs
    cases k with
    | zero => simp at hz hs; subst hz hs; exact ⟨h0, h1⟩
    | succ k => exact ih k z s (by simpa using hz) (by simpa using hs)
theorem encN_step : ∀ {zs ss : List Int} {k : Nat} {z s : Int} (n : Int), zs[k]? = some z → ss[k]? = some s → encN (zs.take (k + 1)) (ss.take (k + 1)) n = encN (zs.take k) (ss.take k) n * z + s
  | [], _, k, z, s, n, hz, _ => by simp at hz
  | a :: zs, [], k, z, s, n, _, hs => by simp at hs
  | a :: zs, b :: ss, 0, z, s, n, hz, hs => by
    simp at hz hs; subst hz hs; simp [encN]
  | a :: zs, b :: ss, k + 1, z, s, n, hz, hs => by
    simp only [List.take_succ_cons, encN]
    exact encN_step _ (by simpa using hz) (by simpa using hs)
end Go.Am
/-
  The parts of the reference's search, 3.
-/
namespace Go.Am
open Go Go.Proofs
attribute [local irreducible] QOp AOp Lex LexO AWp Spec
variable {TB : List (Nat × Obj)}

theorem l4Ok_ok (n : Net) (st : List Int) (i : Nat) (a : Aut) (q : Int) (b : Bool) (ha : n.au[i]? = some a) (hs : st[n.ps.length + i]? = some q) (h0 : 0 ≤ q) (hb : a.ac[q.toNat]? = some b) : Pure Tryz.prog TB 95 [eNet n, eInts st, eI .i64 i] (eB b) := by
  refine Spec.of Tryz.func95 rfl (by kernel_rfl) (Nat.le_of_ble_eq_true rfl) ?_; intro Γ hΓ
  refine AWp.bound 1 rfl fun hB0 => ?_
  have hB := hB0 (st.map iRow) .refl
  have h1 := (List.getElem?_eq_some_iff.1 hs).1
  have ha' := get_map (g := auRow) ha
  have hs' : (st.map iRow)[((n.ps.length : Int) + (i : Int)).toNat]? = some (iRow q) := by
    have : ((n.ps.length : Int) + (i : Int)).toNat = n.ps.length + i := by omega
    rw [this]; simp [hs]
  have hb' : (a.ac.map bRow)[q.toNat]? = some (bRow b) := by simp [hb]
  (repeat' (first | (first | (refine popO rfl ?_; first | (refine gA rfl ?_; first | refine yLm rfl rfl ?_ | ((first | refine yQ (md := false) rfl ?_ ?_ | refine yL rfl rfl (by assumption) rfl rfl ?_ ?_ | refine yT rfl rfl (by assumption) rfl ?_ ?_); (first | exact True.intro | omega | (simp only [oZ] at *; omega))) | (refine yB rfl ?_; intro _ _hb) | refine yU (sl := true) rfl ?_ | refine yM rfl rfl (by assumption) rfl rfl rfl ?_ | refine yV rfl rfl rfl rfl (by assumption) rfl rfl rfl rfl ?_ ) | refine popN rfl ?_ | (refine yG rfl rfl ?_ ?_ <;> intro hb <;> subst hb)) | refine AWp.seq ?_ | refine reg (by kernel_rfl) ?_ | refine lexE ?_ | refine regD (flN []) mixed (by kernel_rfl) (by kernel_rfl) ?_) | (refine AWp.cond rfl (fun hb => ?_) (fun hb => ?_) <;> cases hb) | refine AWp.skip ?_ | refine AWp.exit ?_ | refine AWp.block ?_ | refine AWp.ret ⟨_, rfl, ?_⟩))
  rfl
/-- The node that the digits make. -/
theorem l4Encode_ok (zs ss : List Int) (hf : Fits zs ss) (hp : prodI zs ≤ 4611686018427387904) : Pure Tryz.prog TB 71 [eInts zs, eInts ss] (eI .i64 (encN zs ss 0)) := by
  refine Spec.of Tryz.func71 rfl (by kernel_rfl) (Nat.le_of_ble_eq_true rfl) ?_; intro Γ hΓ
  refine AWp.bound 0 rfl fun hB0 => ?_
  have hB := hB0 (zs.map iRow) .refl
  have hlen := hf.len
  (repeat' (first | (first | (refine popO rfl ?_; first | (refine gA rfl ?_; first | refine yLm rfl rfl ?_ | ((first | refine yQ (md := false) rfl ?_ ?_ | refine yL rfl rfl (by assumption) rfl rfl ?_ ?_ | refine yT rfl rfl (by assumption) rfl ?_ ?_); (first | exact True.intro | omega | (simp only [oZ] at *; omega))) | (refine yB rfl ?_; intro _ _hb) | refine yU (sl := true) rfl ?_ | refine yM rfl rfl (by assumption) rfl rfl rfl ?_ | refine yV rfl rfl rfl rfl (by assumption) rfl rfl rfl rfl ?_ ) | refine popN rfl ?_ | (refine yG rfl rfl ?_ ?_ <;> intro hb <;> subst hb)) | refine AWp.seq ?_ | refine reg (by kernel_rfl) ?_ | refine lexE ?_ | refine regD (flN []) mixed (by kernel_rfl) (by kernel_rfl) ?_) | (refine AWp.cond rfl (fun hb => ?_) (fun hb => ?_) <;> cases hb) | refine AWp.skip ?_ | refine AWp.exit ?_ | refine AWp.block ?_ | refine AWp.ret ⟨_, rfl, ?_⟩))
  refine AWp.loopL (α := {k : Nat // k ≤ zs.length}) (fun ⟨k, hk⟩ => [(0, eInts zs), (1, eInts ss), (5, eI .i64 (encN (zs.take k) (ss.take k) 0)), (6, eI .i64 k)]) (fun ⟨k, hk⟩ => []) 0 (fun ⟨k, hk⟩ => zs.length - k) (⟨0, by omega⟩) [] (by first | (simp [hΓ]; done) | (rw [hΓ]; decide)) (by (repeat' (first | exact trivial | rfl | refine And.intro ?_ ?_)) <;> simp [EnvSub, StoreSub, look_cons, nm, E.ren, C.ren, C.renL, O.ren, killc, kill0, Function.comp_def, argsFrom, zC, hΓ]) ?_; rintro ⟨k, hk⟩; try dsimp only
  (repeat (first | (refine popO rfl ?_; first | (refine gA rfl ?_; first | refine yLm rfl rfl ?_ | ((first | refine yQ (md := false) rfl ?_ ?_ | refine yL rfl rfl (by assumption) rfl rfl ?_ ?_ | refine yT rfl rfl (by assumption) rfl ?_ ?_); (first | exact True.intro | omega | (simp only [oZ] at *; omega))) | (refine yB rfl ?_; intro _ _hb) | refine yU (sl := true) rfl ?_ | refine yM rfl rfl (by assumption) rfl rfl rfl ?_ | refine yV rfl rfl rfl rfl (by assumption) rfl rfl rfl rfl ?_ ) | refine popN rfl ?_ | (refine yG rfl rfl ?_ ?_ <;> intro hb <;> subst hb)) | refine AWp.seq ?_ | refine reg (by kernel_rfl) ?_ | refine lexE ?_ | refine regD (flN []) mixed (by kernel_rfl) (by kernel_rfl) ?_))
  (refine AWp.cond rfl (fun hb => ?_) (fun hb => ?_) <;> cases hb)
  · obtain ⟨x, hx⟩ := get_some (l := zs) (k := k) (by first | omega | (simp only [oZ] at *; omega))
    have hx' := get_map (g := iRow) hx
    obtain ⟨y, hy⟩ := get_some (l := ss) (k := k) (by first | omega | (simp only [oZ] at *; omega))
    have hy' := get_map (g := iRow) hy
    have h1 := (hf.take k).1.enc 0 (by omega)
    have h2 := (hf.take (k + 1)).1.enc 0 (by omega)
    have h3 := (hf.take (k + 1)).2
    have h4 := encN_step 0 hx hy
    have h6 := hf.get k x y hx hy
    have h5 : 0 ≤ encN (zs.take k) (ss.take k) 0 * x := Int.mul_nonneg h1.1 (by omega)
    (repeat' (first | (first | (refine popO rfl ?_; first | (refine gA rfl ?_; first | refine yLm rfl rfl ?_ | ((first | refine yQ (md := false) rfl ?_ ?_ | refine yL rfl rfl (by assumption) rfl rfl ?_ ?_ | refine yT rfl rfl (by assumption) rfl ?_ ?_); (first | exact True.intro | omega | (simp only [oZ] at *; omega))) | (refine yB rfl ?_; intro _ _hb) | refine yU (sl := true) rfl ?_ | refine yM rfl rfl (by assumption) rfl rfl rfl ?_ | refine yV rfl rfl rfl rfl (by assumption) rfl rfl rfl rfl ?_ ) | refine popN rfl ?_ | (refine yG rfl rfl ?_ ?_ <;> intro hb <;> subst hb)) | refine AWp.seq ?_ | refine reg (by kernel_rfl) ?_ | refine lexE ?_ | refine regD (flN []) mixed (by kernel_rfl) (by kernel_rfl) ?_) | (refine AWp.cond rfl (fun hb => ?_) (fun hb => ?_) <;> cases hb) | refine AWp.skip ?_ | refine AWp.exit ?_ | refine AWp.block ?_ | refine AWp.ret ⟨_, rfl, ?_⟩))
    refine ⟨⟨k + 1, by first | omega | (simp only [oZ] at *; omega)⟩, by dsimp only; (first | omega | (simp only [oZ] at *; omega)), [], ?_⟩
    simp [EnvSub, StoreSub, look_cons, nm, E.ren, C.ren, C.renL, O.ren, killc, kill0, Function.comp_def, argsFrom, zC, hΓ, h4]
  · (repeat' (first | (first | (refine popO rfl ?_; first | (refine gA rfl ?_; first | refine yLm rfl rfl ?_ | ((first | refine yQ (md := false) rfl ?_ ?_ | refine yL rfl rfl (by assumption) rfl rfl ?_ ?_ | refine yT rfl rfl (by assumption) rfl ?_ ?_); (first | exact True.intro | omega | (simp only [oZ] at *; omega))) | (refine yB rfl ?_; intro _ _hb) | refine yU (sl := true) rfl ?_ | refine yM rfl rfl (by assumption) rfl rfl rfl ?_ | refine yV rfl rfl rfl rfl (by assumption) rfl rfl rfl rfl ?_ ) | refine popN rfl ?_ | (refine yG rfl rfl ?_ ?_ <;> intro hb <;> subst hb)) | refine AWp.seq ?_ | refine reg (by kernel_rfl) ?_ | refine lexE ?_ | refine regD (flN []) mixed (by kernel_rfl) (by kernel_rfl) ?_) | (refine AWp.cond rfl (fun hb => ?_) (fun hb => ?_) <;> cases hb) | refine AWp.skip ?_ | refine AWp.exit ?_ | refine AWp.block ?_ | refine AWp.ret ⟨_, rfl, ?_⟩))
    rw [List.take_of_length_le (by first | omega | (simp only [oZ] at *; omega)), List.take_of_length_le (by first | omega | (simp only [oZ] at *; omega))]
end Go.Am
