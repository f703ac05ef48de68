/-
  Comparisons; the law.
-/
import Derived.Test.YtilhofhoebpcgaaDoorPart19
import Derived.Test.YtilhofhoebpcgaaDoorPart5
import Derived.ProofKit
import Derived.OpenShut
import Derived.WideKeyArgs
import Derived.Deep.DeepHandedRow
import Derived.Lib.LaidTab
namespace Go.Am
open Go Go.Proofs
set_option linter.unusedSimpArgs false
set_option linter.unusedVariables false
attribute [local irreducible] QOp AOp Lex LexO AWp Spec
variable {TB : List (Nat × Obj)}

theorem eqIntS_ok (l : List Int) : Pure Tryd.prog TB 45 [eInts l, eInts l] (eB true) := by
  refine Spec.of Tryd.func45 rfl (by kernel_rfl) (Nat.le_of_ble_eq_true rfl) ?_; intro Γ hΓ
  refine AWp.bound 0 rfl fun hB0 => ?_
  have hB := hB0 (l.map iRow) .refl
  (repeat' (first | (first | (refine popO rfl ?_; first | (refine gA rfl ?_; first | refine yLm rfl rfl ?_ | ((first | refine yQ (md := false) rfl ?_ ?_ | refine yL rfl rfl (by assumption) rfl rfl ?_ ?_ | refine yT rfl rfl (by assumption) rfl ?_ ?_); (first | exact True.intro | omega | (simp only [oA, oB, oC, oD, oE, oF, oG] at *; omega))) | (refine yB rfl ?_; intro _ _hb) | refine yS rfl rfl ?_ | refine yM rfl rfl (by assumption) rfl rfl rfl ?_ | refine yZ rfl rfl rfl rfl rfl rfl ?_ | refine yY rfl rfl rfl ?_ | refine yO rfl rfl rfl ?_ | refine yW rfl rfl ?_ | refine yV rfl rfl rfl rfl (by assumption) rfl rfl rfl rfl ?_ ) | refine popN rfl ?_ | (refine yG rfl rfl ?_ ?_ <;> intro hb <;> subst hb)) | refine AWp.seq ?_ | refine reg (by kernel_rfl) ?_ | refine lexE ?_ | refine regD (noisy []) mixed (by kernel_rfl) (by kernel_rfl) ?_) | (refine AWp.cond rfl (fun hb => ?_) (fun hb => ?_) <;> cases hb) | refine AWp.skip ?_ | refine AWp.exit ?_ | refine AWp.block ?_ | refine AWp.ret ⟨_, rfl, ?_⟩))
  all_goals try (exfalso; first | omega | (simp only [oA, oB, oC, oD, oE, oF, oG] at *; omega); done)
  refine AWp.loopL (α := {k : Nat // k ≤ l.length}) (fun ⟨k, hk⟩ => [(0, eInts l), (1, eInts l), (5, eI .i64 k)]) (fun ⟨k, hk⟩ => []) 0 (fun ⟨k, hk⟩ => l.length - k) (⟨0, by omega⟩) [] (by first | (simp [hΓ]; done) | (rw [hΓ]; decide)) (by (repeat' (first | exact trivial | rfl | refine And.intro ?_ ?_)) <;> simp [EnvSub, StoreSub, look_cons, nm, E.ren, C.ren, C.renL, O.ren, killc, kill0, Function.comp_def, argsFrom, zC, hΓ]) ?_; rintro ⟨k, hk⟩; try dsimp only
  (repeat (first | (refine popO rfl ?_; first | (refine gA rfl ?_; first | refine yLm rfl rfl ?_ | ((first | refine yQ (md := false) rfl ?_ ?_ | refine yL rfl rfl (by assumption) rfl rfl ?_ ?_ | refine yT rfl rfl (by assumption) rfl ?_ ?_); (first | exact True.intro | omega | (simp only [oA, oB, oC, oD, oE, oF, oG] at *; omega))) | (refine yB rfl ?_; intro _ _hb) | refine yS rfl rfl ?_ | refine yM rfl rfl (by assumption) rfl rfl rfl ?_ | refine yZ rfl rfl rfl rfl rfl rfl ?_ | refine yY rfl rfl rfl ?_ | refine yO rfl rfl rfl ?_ | refine yW rfl rfl ?_ | refine yV rfl rfl rfl rfl (by assumption) rfl rfl rfl rfl ?_ ) | refine popN rfl ?_ | (refine yG rfl rfl ?_ ?_ <;> intro hb <;> subst hb)) | refine AWp.seq ?_ | refine reg (by kernel_rfl) ?_ | refine lexE ?_ | refine regD (noisy []) mixed (by kernel_rfl) (by kernel_rfl) ?_))
  (refine AWp.cond rfl (fun hb => ?_) (fun hb => ?_) <;> cases hb)
  · obtain ⟨x, hx⟩ := get_some (l := l) (k := k) (by first | omega | (simp only [oA, oB, oC, oD, oE, oF, oG] at *; omega))
    have hx' := get_map (g := iRow) hx
    (repeat' (first | (first | (refine popO rfl ?_; first | (refine gA rfl ?_; first | refine yLm rfl rfl ?_ | ((first | refine yQ (md := false) rfl ?_ ?_ | refine yL rfl rfl (by assumption) rfl rfl ?_ ?_ | refine yT rfl rfl (by assumption) rfl ?_ ?_); (first | exact True.intro | omega | (simp only [oA, oB, oC, oD, oE, oF, oG] at *; omega))) | (refine yB rfl ?_; intro _ _hb) | refine yS rfl rfl ?_ | refine yM rfl rfl (by assumption) rfl rfl rfl ?_ | refine yZ rfl rfl rfl rfl rfl rfl ?_ | refine yY rfl rfl rfl ?_ | refine yO rfl rfl rfl ?_ | refine yW rfl rfl ?_ | refine yV rfl rfl rfl rfl (by assumption) rfl rfl rfl rfl ?_ ) | refine popN rfl ?_ | (refine yG rfl rfl ?_ ?_ <;> intro hb <;> subst hb)) | refine AWp.seq ?_ | refine reg (by kernel_rfl) ?_ | refine lexE ?_ | refine regD (noisy []) mixed (by kernel_rfl) (by kernel_rfl) ?_) | (refine AWp.cond rfl (fun hb => ?_) (fun hb => ?_) <;> cases hb) | refine AWp.skip ?_ | refine AWp.exit ?_ | refine AWp.block ?_ | refine AWp.ret ⟨_, rfl, ?_⟩))
    all_goals first
      | (exfalso; revert _hb; simp; done)
      | (exfalso; first | omega | (simp only [oA, oB, oC, oD, oE, oF, oG] at *; omega); done)
      | (refine ⟨⟨k + 1, by first | omega | (simp only [oA, oB, oC, oD, oE, oF, oG] at *; omega)⟩, by dsimp only; (first | omega | (simp only [oA, oB, oC, oD, oE, oF, oG] at *; omega)), [], ?_⟩; simp [EnvSub, StoreSub, look_cons, nm, E.ren, C.ren, C.renL, O.ren, killc, kill0, Function.comp_def, argsFrom, zC, hΓ]; done)
  · (repeat' (first | (first | (refine popO rfl ?_; first | (refine gA rfl ?_; first | refine yLm rfl rfl ?_ | ((first | refine yQ (md := false) rfl ?_ ?_ | refine yL rfl rfl (by assumption) rfl rfl ?_ ?_ | refine yT rfl rfl (by assumption) rfl ?_ ?_); (first | exact True.intro | omega | (simp only [oA, oB, oC, oD, oE, oF, oG] at *; omega))) | (refine yB rfl ?_; intro _ _hb) | refine yS rfl rfl ?_ | refine yM rfl rfl (by assumption) rfl rfl rfl ?_ | refine yZ rfl rfl rfl rfl rfl rfl ?_ | refine yY rfl rfl rfl ?_ | refine yO rfl rfl rfl ?_ | refine yW rfl rfl ?_ | refine yV rfl rfl rfl rfl (by assumption) rfl rfl rfl rfl ?_ ) | refine popN rfl ?_ | (refine yG rfl rfl ?_ ?_ <;> intro hb <;> subst hb)) | refine AWp.seq ?_ | refine reg (by kernel_rfl) ?_ | refine lexE ?_ | refine regD (noisy []) mixed (by kernel_rfl) (by kernel_rfl) ?_) | (refine AWp.cond rfl (fun hb => ?_) (fun hb => ?_) <;> cases hb) | refine AWp.skip ?_ | refine AWp.exit ?_ | refine AWp.block ?_ | refine AWp.ret ⟨_, rfl, ?_⟩))
    all_goals rfl
theorem eqBoolS_ok (l : List Bool) : Pure Tryd.prog TB 28 [eBools l, eBools l] (eB true) := by
  refine Spec.of Tryd.func28 rfl (by kernel_rfl) (Nat.le_of_ble_eq_true rfl) ?_; intro Γ hΓ
  refine AWp.bound 0 rfl fun hB0 => ?_
  have hB := hB0 (l.map bRow) .refl
  (repeat' (first | (first | (refine popO rfl ?_; first | (refine gA rfl ?_; first | refine yLm rfl rfl ?_ | ((first | refine yQ (md := false) rfl ?_ ?_ | refine yL rfl rfl (by assumption) rfl rfl ?_ ?_ | refine yT rfl rfl (by assumption) rfl ?_ ?_); (first | exact True.intro | omega | (simp only [oA, oB, oC, oD, oE, oF, oG] at *; omega))) | (refine yB rfl ?_; intro _ _hb) | refine yS rfl rfl ?_ | refine yM rfl rfl (by assumption) rfl rfl rfl ?_ | refine yZ rfl rfl rfl rfl rfl rfl ?_ | refine yY rfl rfl rfl ?_ | refine yO rfl rfl rfl ?_ | refine yW rfl rfl ?_ | refine yV rfl rfl rfl rfl (by assumption) rfl rfl rfl rfl ?_ ) | refine popN rfl ?_ | (refine yG rfl rfl ?_ ?_ <;> intro hb <;> subst hb)) | refine AWp.seq ?_ | refine reg (by kernel_rfl) ?_ | refine lexE ?_ | refine regD (noisy []) mixed (by kernel_rfl) (by kernel_rfl) ?_) | (refine AWp.cond rfl (fun hb => ?_) (fun hb => ?_) <;> cases hb) | refine AWp.skip ?_ | refine AWp.exit ?_ | refine AWp.block ?_ | refine AWp.ret ⟨_, rfl, ?_⟩))
  all_goals try (exfalso; first | omega | (simp only [oA, oB, oC, oD, oE, oF, oG] at *; omega); done)
  refine AWp.loopL (α := {k : Nat // k ≤ l.length}) (fun ⟨k, hk⟩ => [(0, eBools l), (1, eBools l), (5, eI .i64 k)]) (fun ⟨k, hk⟩ => []) 0 (fun ⟨k, hk⟩ => l.length - k) (⟨0, by omega⟩) [] (by first | (simp [hΓ]; done) | (rw [hΓ]; decide)) (by (repeat' (first | exact trivial | rfl | refine And.intro ?_ ?_)) <;> simp [EnvSub, StoreSub, look_cons, nm, E.ren, C.ren, C.renL, O.ren, killc, kill0, Function.comp_def, argsFrom, zC, hΓ]) ?_; rintro ⟨k, hk⟩; try dsimp only
  (repeat (first | (refine popO rfl ?_; first | (refine gA rfl ?_; first | refine yLm rfl rfl ?_ | ((first | refine yQ (md := false) rfl ?_ ?_ | refine yL rfl rfl (by assumption) rfl rfl ?_ ?_ | refine yT rfl rfl (by assumption) rfl ?_ ?_); (first | exact True.intro | omega | (simp only [oA, oB, oC, oD, oE, oF, oG] at *; omega))) | (refine yB rfl ?_; intro _ _hb) | refine yS rfl rfl ?_ | refine yM rfl rfl (by assumption) rfl rfl rfl ?_ | refine yZ rfl rfl rfl rfl rfl rfl ?_ | refine yY rfl rfl rfl ?_ | refine yO rfl rfl rfl ?_ | refine yW rfl rfl ?_ | refine yV rfl rfl rfl rfl (by assumption) rfl rfl rfl rfl ?_ ) | refine popN rfl ?_ | (refine yG rfl rfl ?_ ?_ <;> intro hb <;> subst hb)) | refine AWp.seq ?_ | refine reg (by kernel_rfl) ?_ | refine lexE ?_ | refine regD (noisy []) mixed (by kernel_rfl) (by kernel_rfl) ?_))
  (refine AWp.cond rfl (fun hb => ?_) (fun hb => ?_) <;> cases hb)
  · obtain ⟨x, hx⟩ := get_some (l := l) (k := k) (by first | omega | (simp only [oA, oB, oC, oD, oE, oF, oG] at *; omega))
    have hx' := get_map (g := bRow) hx
    (repeat' (first | (first | (refine popO rfl ?_; first | (refine gA rfl ?_; first | refine yLm rfl rfl ?_ | ((first | refine yQ (md := false) rfl ?_ ?_ | refine yL rfl rfl (by assumption) rfl rfl ?_ ?_ | refine yT rfl rfl (by assumption) rfl ?_ ?_); (first | exact True.intro | omega | (simp only [oA, oB, oC, oD, oE, oF, oG] at *; omega))) | (refine yB rfl ?_; intro _ _hb) | refine yS rfl rfl ?_ | refine yM rfl rfl (by assumption) rfl rfl rfl ?_ | refine yZ rfl rfl rfl rfl rfl rfl ?_ | refine yY rfl rfl rfl ?_ | refine yO rfl rfl rfl ?_ | refine yW rfl rfl ?_ | refine yV rfl rfl rfl rfl (by assumption) rfl rfl rfl rfl ?_ ) | refine popN rfl ?_ | (refine yG rfl rfl ?_ ?_ <;> intro hb <;> subst hb)) | refine AWp.seq ?_ | refine reg (by kernel_rfl) ?_ | refine lexE ?_ | refine regD (noisy []) mixed (by kernel_rfl) (by kernel_rfl) ?_) | (refine AWp.cond rfl (fun hb => ?_) (fun hb => ?_) <;> cases hb) | refine AWp.skip ?_ | refine AWp.exit ?_ | refine AWp.block ?_ | refine AWp.ret ⟨_, rfl, ?_⟩))
    all_goals first
      | (exfalso; revert _hb; simp; done)
      | (exfalso; first | omega | (simp only [oA, oB, oC, oD, oE, oF, oG] at *; omega); done)
      | (refine ⟨⟨k + 1, by first | omega | (simp only [oA, oB, oC, oD, oE, oF, oG] at *; omega)⟩, by dsimp only; (first | omega | (simp only [oA, oB, oC, oD, oE, oF, oG] at *; omega)), [], ?_⟩; simp [EnvSub, StoreSub, look_cons, nm, E.ren, C.ren, C.renL, O.ren, killc, kill0, Function.comp_def, argsFrom, zC, hΓ]; done)
  · (repeat' (first | (first | (refine popO rfl ?_; first | (refine gA rfl ?_; first | refine yLm rfl rfl ?_ | ((first | refine yQ (md := false) rfl ?_ ?_ | refine yL rfl rfl (by assumption) rfl rfl ?_ ?_ | refine yT rfl rfl (by assumption) rfl ?_ ?_); (first | exact True.intro | omega | (simp only [oA, oB, oC, oD, oE, oF, oG] at *; omega))) | (refine yB rfl ?_; intro _ _hb) | refine yS rfl rfl ?_ | refine yM rfl rfl (by assumption) rfl rfl rfl ?_ | refine yZ rfl rfl rfl rfl rfl rfl ?_ | refine yY rfl rfl rfl ?_ | refine yO rfl rfl rfl ?_ | refine yW rfl rfl ?_ | refine yV rfl rfl rfl rfl (by assumption) rfl rfl rfl rfl ?_ ) | refine popN rfl ?_ | (refine yG rfl rfl ?_ ?_ <;> intro hb <;> subst hb)) | refine AWp.seq ?_ | refine reg (by kernel_rfl) ?_ | refine lexE ?_ | refine regD (noisy []) mixed (by kernel_rfl) (by kernel_rfl) ?_) | (refine AWp.cond rfl (fun hb => ?_) (fun hb => ?_) <;> cases hb) | refine AWp.skip ?_ | refine AWp.exit ?_ | refine AWp.block ?_ | refine AWp.ret ⟨_, rfl, ?_⟩))
    all_goals rfl
theorem eqIntSS_ok (l : List (List Int)) : Pure Tryd.prog TB 27 [eIntss l, eIntss l] (eB true) := by
  refine Spec.of Tryd.func27 rfl (by kernel_rfl) (Nat.le_of_ble_eq_true rfl) ?_; intro Γ hΓ
  refine AWp.bound 0 rfl fun hB0 => ?_
  have hB := hB0 (l.map iiRow) .refl
  (repeat' (first | (first | (refine popO rfl ?_; first | (refine gA rfl ?_; first | refine yLm rfl rfl ?_ | ((first | refine yQ (md := false) rfl ?_ ?_ | refine yL rfl rfl (by assumption) rfl rfl ?_ ?_ | refine yT rfl rfl (by assumption) rfl ?_ ?_); (first | exact True.intro | omega | (simp only [oA, oB, oC, oD, oE, oF, oG] at *; omega))) | (refine yB rfl ?_; intro _ _hb) | refine yS rfl rfl ?_ | refine yM rfl rfl (by assumption) rfl rfl rfl ?_ | refine yZ rfl rfl rfl rfl rfl rfl ?_ | refine yY rfl rfl rfl ?_ | refine yO rfl rfl rfl ?_ | refine yW rfl rfl ?_ | refine yV rfl rfl rfl rfl (by assumption) rfl rfl rfl rfl ?_ ) | refine popN rfl ?_ | (refine yG rfl rfl ?_ ?_ <;> intro hb <;> subst hb)) | refine AWp.seq ?_ | refine reg (by kernel_rfl) ?_ | refine lexE ?_ | refine regD (noisy []) mixed (by kernel_rfl) (by kernel_rfl) ?_) | (refine AWp.cond rfl (fun hb => ?_) (fun hb => ?_) <;> cases hb) | refine AWp.skip ?_ | refine AWp.exit ?_ | refine AWp.block ?_ | refine AWp.ret ⟨_, rfl, ?_⟩))
  all_goals try (exfalso; first | omega | (simp only [oA, oB, oC, oD, oE, oF, oG] at *; omega); done)
  refine AWp.loopL (α := {k : Nat // k ≤ l.length}) (fun ⟨k, hk⟩ => [(0, eIntss l), (1, eIntss l), (5, eI .i64 k)]) (fun ⟨k, hk⟩ => []) 0 (fun ⟨k, hk⟩ => l.length - k) (⟨0, by omega⟩) [] (by first | (simp [hΓ]; done) | (rw [hΓ]; decide)) (by (repeat' (first | exact trivial | rfl | refine And.intro ?_ ?_)) <;> simp [EnvSub, StoreSub, look_cons, nm, E.ren, C.ren, C.renL, O.ren, killc, kill0, Function.comp_def, argsFrom, zC, hΓ]) ?_; rintro ⟨k, hk⟩; try dsimp only
  (repeat (first | (refine popO rfl ?_; first | (refine gA rfl ?_; first | refine yLm rfl rfl ?_ | ((first | refine yQ (md := false) rfl ?_ ?_ | refine yL rfl rfl (by assumption) rfl rfl ?_ ?_ | refine yT rfl rfl (by assumption) rfl ?_ ?_); (first | exact True.intro | omega | (simp only [oA, oB, oC, oD, oE, oF, oG] at *; omega))) | (refine yB rfl ?_; intro _ _hb) | refine yS rfl rfl ?_ | refine yM rfl rfl (by assumption) rfl rfl rfl ?_ | refine yZ rfl rfl rfl rfl rfl rfl ?_ | refine yY rfl rfl rfl ?_ | refine yO rfl rfl rfl ?_ | refine yW rfl rfl ?_ | refine yV rfl rfl rfl rfl (by assumption) rfl rfl rfl rfl ?_ ) | refine popN rfl ?_ | (refine yG rfl rfl ?_ ?_ <;> intro hb <;> subst hb)) | refine AWp.seq ?_ | refine reg (by kernel_rfl) ?_ | refine lexE ?_ | refine regD (noisy []) mixed (by kernel_rfl) (by kernel_rfl) ?_))
  (refine AWp.cond rfl (fun hb => ?_) (fun hb => ?_) <;> cases hb)
  · obtain ⟨x, hx⟩ := get_some (l := l) (k := k) (by first | omega | (simp only [oA, oB, oC, oD, oE, oF, oG] at *; omega))
    have hx' := get_map (g := iiRow) hx
    (repeat' (first | (first | (refine popO rfl ?_; first | (refine gA rfl ?_; first | refine yLm rfl rfl ?_ | ((first | refine yQ (md := false) rfl ?_ ?_ | refine yL rfl rfl (by assumption) rfl rfl ?_ ?_ | refine yT rfl rfl (by assumption) rfl ?_ ?_); (first | exact True.intro | omega | (simp only [oA, oB, oC, oD, oE, oF, oG] at *; omega))) | (refine yB rfl ?_; intro _ _hb) | refine yS rfl rfl ?_ | refine yM rfl rfl (by assumption) rfl rfl rfl ?_ | refine yZ rfl rfl rfl rfl rfl rfl ?_ | refine yY rfl rfl rfl ?_ | refine yO rfl rfl rfl ?_ | refine yW rfl rfl ?_ | refine yV rfl rfl rfl rfl (by assumption) rfl rfl rfl rfl ?_ | refine yP rfl rfl rfl (eqIntS_ok x) rfl ?_ ) | refine popN rfl ?_ | (refine yG rfl rfl ?_ ?_ <;> intro hb <;> subst hb)) | refine AWp.seq ?_ | refine reg (by kernel_rfl) ?_ | refine lexE ?_ | refine regD (noisy []) mixed (by kernel_rfl) (by kernel_rfl) ?_) | (refine AWp.cond rfl (fun hb => ?_) (fun hb => ?_) <;> cases hb) | refine AWp.skip ?_ | refine AWp.exit ?_ | refine AWp.block ?_ | refine AWp.ret ⟨_, rfl, ?_⟩))
    all_goals first
      | (exfalso; revert _hb; simp; done)
      | (exfalso; first | omega | (simp only [oA, oB, oC, oD, oE, oF, oG] at *; omega); done)
      | (refine ⟨⟨k + 1, by first | omega | (simp only [oA, oB, oC, oD, oE, oF, oG] at *; omega)⟩, by dsimp only; (first | omega | (simp only [oA, oB, oC, oD, oE, oF, oG] at *; omega)), [], ?_⟩; simp [EnvSub, StoreSub, look_cons, nm, E.ren, C.ren, C.renL, O.ren, killc, kill0, Function.comp_def, argsFrom, zC, hΓ]; done)
  · (repeat' (first | (first | (refine popO rfl ?_; first | (refine gA rfl ?_; first | refine yLm rfl rfl ?_ | ((first | refine yQ (md := false) rfl ?_ ?_ | refine yL rfl rfl (by assumption) rfl rfl ?_ ?_ | refine yT rfl rfl (by assumption) rfl ?_ ?_); (first | exact True.intro | omega | (simp only [oA, oB, oC, oD, oE, oF, oG] at *; omega))) | (refine yB rfl ?_; intro _ _hb) | refine yS rfl rfl ?_ | refine yM rfl rfl (by assumption) rfl rfl rfl ?_ | refine yZ rfl rfl rfl rfl rfl rfl ?_ | refine yY rfl rfl rfl ?_ | refine yO rfl rfl rfl ?_ | refine yW rfl rfl ?_ | refine yV rfl rfl rfl rfl (by assumption) rfl rfl rfl rfl ?_ ) | refine popN rfl ?_ | (refine yG rfl rfl ?_ ?_ <;> intro hb <;> subst hb)) | refine AWp.seq ?_ | refine reg (by kernel_rfl) ?_ | refine lexE ?_ | refine regD (noisy []) mixed (by kernel_rfl) (by kernel_rfl) ?_) | (refine AWp.cond rfl (fun hb => ?_) (fun hb => ?_) <;> cases hb) | refine AWp.skip ?_ | refine AWp.exit ?_ | refine AWp.block ?_ | refine AWp.ret ⟨_, rfl, ?_⟩))
    all_goals rfl
theorem eqEdge_ok (e : Edg) : Pure Tryd.prog TB 44 [eEdg e, eEdg e] (eB true) := by
  refine Spec.of Tryd.func44 rfl (by kernel_rfl) (Nat.le_of_ble_eq_true rfl) ?_; intro Γ hΓ
  (repeat' (first | (first | (refine popO rfl ?_; first | (refine gA rfl ?_; first | refine yLm rfl rfl ?_ | ((first | refine yQ (md := false) rfl ?_ ?_ | refine yL rfl rfl (by assumption) rfl rfl ?_ ?_ | refine yT rfl rfl (by assumption) rfl ?_ ?_); (first | exact True.intro | omega | (simp only [oA, oB, oC, oD, oE, oF, oG] at *; omega))) | (refine yB rfl ?_; intro _ _hb) | refine yS rfl rfl ?_ | refine yM rfl rfl (by assumption) rfl rfl rfl ?_ | refine yZ rfl rfl rfl rfl rfl rfl ?_ | refine yY rfl rfl rfl ?_ | refine yO rfl rfl rfl ?_ | refine yW rfl rfl ?_ | refine yV rfl rfl rfl rfl (by assumption) rfl rfl rfl rfl ?_ ) | refine popN rfl ?_ | (refine yG rfl rfl ?_ ?_ <;> intro hb <;> subst hb)) | refine AWp.seq ?_ | refine reg (by kernel_rfl) ?_ | refine lexE ?_ | refine regD (noisy []) mixed (by kernel_rfl) (by kernel_rfl) ?_) | (refine AWp.cond rfl (fun hb => ?_) (fun hb => ?_) <;> cases hb) | refine AWp.skip ?_ | refine AWp.exit ?_ | refine AWp.block ?_ | refine AWp.ret ⟨_, rfl, ?_⟩))
  all_goals first
    | rfl
    | (exfalso; first | omega | (simp only [oA, oB, oC, oD, oE, oF, oG] at *; omega); done)
theorem eqEdgeS_ok (l : List Edg) : Pure Tryd.prog TB 26 [eEdgs l, eEdgs l] (eB true) := by
  refine Spec.of Tryd.func26 rfl (by kernel_rfl) (Nat.le_of_ble_eq_true rfl) ?_; intro Γ hΓ
  refine AWp.bound 0 rfl fun hB0 => ?_
  have hB := hB0 (l.map edRow) .refl
  (repeat' (first | (first | (refine popO rfl ?_; first | (refine gA rfl ?_; first | refine yLm rfl rfl ?_ | ((first | refine yQ (md := false) rfl ?_ ?_ | refine yL rfl rfl (by assumption) rfl rfl ?_ ?_ | refine yT rfl rfl (by assumption) rfl ?_ ?_); (first | exact True.intro | omega | (simp only [oA, oB, oC, oD, oE, oF, oG] at *; omega))) | (refine yB rfl ?_; intro _ _hb) | refine yS rfl rfl ?_ | refine yM rfl rfl (by assumption) rfl rfl rfl ?_ | refine yZ rfl rfl rfl rfl rfl rfl ?_ | refine yY rfl rfl rfl ?_ | refine yO rfl rfl rfl ?_ | refine yW rfl rfl ?_ | refine yV rfl rfl rfl rfl (by assumption) rfl rfl rfl rfl ?_ ) | refine popN rfl ?_ | (refine yG rfl rfl ?_ ?_ <;> intro hb <;> subst hb)) | refine AWp.seq ?_ | refine reg (by kernel_rfl) ?_ | refine lexE ?_ | refine regD (noisy []) mixed (by kernel_rfl) (by kernel_rfl) ?_) | (refine AWp.cond rfl (fun hb => ?_) (fun hb => ?_) <;> cases hb) | refine AWp.skip ?_ | refine AWp.exit ?_ | refine AWp.block ?_ | refine AWp.ret ⟨_, rfl, ?_⟩))
  all_goals try (exfalso; first | omega | (simp only [oA, oB, oC, oD, oE, oF, oG] at *; omega); done)
  refine AWp.loopL (α := {k : Nat // k ≤ l.length}) (fun ⟨k, hk⟩ => [(0, eEdgs l), (1, eEdgs l), (5, eI .i64 k)]) (fun ⟨k, hk⟩ => []) 0 (fun ⟨k, hk⟩ => l.length - k) (⟨0, by omega⟩) [] (by first | (simp [hΓ]; done) | (rw [hΓ]; decide)) (by (repeat' (first | exact trivial | rfl | refine And.intro ?_ ?_)) <;> simp [EnvSub, StoreSub, look_cons, nm, E.ren, C.ren, C.renL, O.ren, killc, kill0, Function.comp_def, argsFrom, zC, hΓ]) ?_; rintro ⟨k, hk⟩; try dsimp only
  (repeat (first | (refine popO rfl ?_; first | (refine gA rfl ?_; first | refine yLm rfl rfl ?_ | ((first | refine yQ (md := false) rfl ?_ ?_ | refine yL rfl rfl (by assumption) rfl rfl ?_ ?_ | refine yT rfl rfl (by assumption) rfl ?_ ?_); (first | exact True.intro | omega | (simp only [oA, oB, oC, oD, oE, oF, oG] at *; omega))) | (refine yB rfl ?_; intro _ _hb) | refine yS rfl rfl ?_ | refine yM rfl rfl (by assumption) rfl rfl rfl ?_ | refine yZ rfl rfl rfl rfl rfl rfl ?_ | refine yY rfl rfl rfl ?_ | refine yO rfl rfl rfl ?_ | refine yW rfl rfl ?_ | refine yV rfl rfl rfl rfl (by assumption) rfl rfl rfl rfl ?_ ) | refine popN rfl ?_ | (refine yG rfl rfl ?_ ?_ <;> intro hb <;> subst hb)) | refine AWp.seq ?_ | refine reg (by kernel_rfl) ?_ | refine lexE ?_ | refine regD (noisy []) mixed (by kernel_rfl) (by kernel_rfl) ?_))
  (refine AWp.cond rfl (fun hb => ?_) (fun hb => ?_) <;> cases hb)
  · obtain ⟨x, hx⟩ := get_some (l := l) (k := k) (by first | omega | (simp only [oA, oB, oC, oD, oE, oF, oG] at *; omega))
    have hx' := get_map (g := edRow) hx
    (repeat' (first | (first | (refine popO rfl ?_; first | (refine gA rfl ?_; first | refine yLm rfl rfl ?_ | ((first | refine yQ (md := false) rfl ?_ ?_ | refine yL rfl rfl (by assumption) rfl rfl ?_ ?_ | refine yT rfl rfl (by assumption) rfl ?_ ?_); (first | exact True.intro | omega | (simp only [oA, oB, oC, oD, oE, oF, oG] at *; omega))) | (refine yB rfl ?_; intro _ _hb) | refine yS rfl rfl ?_ | refine yM rfl rfl (by assumption) rfl rfl rfl ?_ | refine yZ rfl rfl rfl rfl rfl rfl ?_ | refine yY rfl rfl rfl ?_ | refine yO rfl rfl rfl ?_ | refine yW rfl rfl ?_ | refine yV rfl rfl rfl rfl (by assumption) rfl rfl rfl rfl ?_ | refine yP rfl rfl rfl (eqEdge_ok x) rfl ?_ ) | refine popN rfl ?_ | (refine yG rfl rfl ?_ ?_ <;> intro hb <;> subst hb)) | refine AWp.seq ?_ | refine reg (by kernel_rfl) ?_ | refine lexE ?_ | refine regD (noisy []) mixed (by kernel_rfl) (by kernel_rfl) ?_) | (refine AWp.cond rfl (fun hb => ?_) (fun hb => ?_) <;> cases hb) | refine AWp.skip ?_ | refine AWp.exit ?_ | refine AWp.block ?_ | refine AWp.ret ⟨_, rfl, ?_⟩))
    all_goals first
      | (exfalso; revert _hb; simp; done)
      | (exfalso; first | omega | (simp only [oA, oB, oC, oD, oE, oF, oG] at *; omega); done)
      | (refine ⟨⟨k + 1, by first | omega | (simp only [oA, oB, oC, oD, oE, oF, oG] at *; omega)⟩, by dsimp only; (first | omega | (simp only [oA, oB, oC, oD, oE, oF, oG] at *; omega)), [], ?_⟩; simp [EnvSub, StoreSub, look_cons, nm, E.ren, C.ren, C.renL, O.ren, killc, kill0, Function.comp_def, argsFrom, zC, hΓ]; done)
  · (repeat' (first | (first | (refine popO rfl ?_; first | (refine gA rfl ?_; first | refine yLm rfl rfl ?_ | ((first | refine yQ (md := false) rfl ?_ ?_ | refine yL rfl rfl (by assumption) rfl rfl ?_ ?_ | refine yT rfl rfl (by assumption) rfl ?_ ?_); (first | exact True.intro | omega | (simp only [oA, oB, oC, oD, oE, oF, oG] at *; omega))) | (refine yB rfl ?_; intro _ _hb) | refine yS rfl rfl ?_ | refine yM rfl rfl (by assumption) rfl rfl rfl ?_ | refine yZ rfl rfl rfl rfl rfl rfl ?_ | refine yY rfl rfl rfl ?_ | refine yO rfl rfl rfl ?_ | refine yW rfl rfl ?_ | refine yV rfl rfl rfl rfl (by assumption) rfl rfl rfl rfl ?_ ) | refine popN rfl ?_ | (refine yG rfl rfl ?_ ?_ <;> intro hb <;> subst hb)) | refine AWp.seq ?_ | refine reg (by kernel_rfl) ?_ | refine lexE ?_ | refine regD (noisy []) mixed (by kernel_rfl) (by kernel_rfl) ?_) | (refine AWp.cond rfl (fun hb => ?_) (fun hb => ?_) <;> cases hb) | refine AWp.skip ?_ | refine AWp.exit ?_ | refine AWp.block ?_ | refine AWp.ret ⟨_, rfl, ?_⟩))
    all_goals rfl
theorem eqSystem_ok (s : Sys) : Pure Tryd.prog TB 10 [eSys s, eSys s] (eB true) := by
  refine Spec.of Tryd.func10 rfl (by kernel_rfl) (Nat.le_of_ble_eq_true rfl) ?_; intro Γ hΓ
  (repeat' (first | (first | (refine popO rfl ?_; first | (refine gA rfl ?_; first | refine yLm rfl rfl ?_ | ((first | refine yQ (md := false) rfl ?_ ?_ | refine yL rfl rfl (by assumption) rfl rfl ?_ ?_ | refine yT rfl rfl (by assumption) rfl ?_ ?_); (first | exact True.intro | omega | (simp only [oA, oB, oC, oD, oE, oF, oG] at *; omega))) | (refine yB rfl ?_; intro _ _hb) | refine yS rfl rfl ?_ | refine yM rfl rfl (by assumption) rfl rfl rfl ?_ | refine yZ rfl rfl rfl rfl rfl rfl ?_ | refine yY rfl rfl rfl ?_ | refine yO rfl rfl rfl ?_ | refine yW rfl rfl ?_ | refine yV rfl rfl rfl rfl (by assumption) rfl rfl rfl rfl ?_ | refine yP rfl rfl rfl (eqEdgeS_ok s.es) rfl ?_ ) | refine popN rfl ?_ | (refine yG rfl rfl ?_ ?_ <;> intro hb <;> subst hb)) | refine AWp.seq ?_ | refine reg (by kernel_rfl) ?_ | refine lexE ?_ | refine regD (noisy []) mixed (by kernel_rfl) (by kernel_rfl) ?_) | (refine AWp.cond rfl (fun hb => ?_) (fun hb => ?_) <;> cases hb) | refine AWp.skip ?_ | refine AWp.exit ?_ | refine AWp.block ?_ | refine AWp.ret ⟨_, rfl, ?_⟩))
  all_goals first
    | rfl
    | (exfalso; first | omega | (simp only [oA, oB, oC, oD, oE, oF, oG] at *; omega); done)
    | (exfalso; revert _hb; simp; done)
theorem eqAutomaton_ok (a : Aut) : Pure Tryd.prog TB 11 [eAut a, eAut a] (eB true) := by
  refine Spec.of Tryd.func11 rfl (by kernel_rfl) (Nat.le_of_ble_eq_true rfl) ?_; intro Γ hΓ
  (repeat' (first | (first | (refine popO rfl ?_; first | (refine gA rfl ?_; first | refine yLm rfl rfl ?_ | ((first | refine yQ (md := false) rfl ?_ ?_ | refine yL rfl rfl (by assumption) rfl rfl ?_ ?_ | refine yT rfl rfl (by assumption) rfl ?_ ?_); (first | exact True.intro | omega | (simp only [oA, oB, oC, oD, oE, oF, oG] at *; omega))) | (refine yB rfl ?_; intro _ _hb) | refine yS rfl rfl ?_ | refine yM rfl rfl (by assumption) rfl rfl rfl ?_ | refine yZ rfl rfl rfl rfl rfl rfl ?_ | refine yY rfl rfl rfl ?_ | refine yO rfl rfl rfl ?_ | refine yW rfl rfl ?_ | refine yV rfl rfl rfl rfl (by assumption) rfl rfl rfl rfl ?_ | refine yP rfl rfl rfl (eqIntSS_ok a.nx) rfl ?_ | refine yP rfl rfl rfl (eqBoolS_ok a.ac) rfl ?_ ) | refine popN rfl ?_ | (refine yG rfl rfl ?_ ?_ <;> intro hb <;> subst hb)) | refine AWp.seq ?_ | refine reg (by kernel_rfl) ?_ | refine lexE ?_ | refine regD (noisy []) mixed (by kernel_rfl) (by kernel_rfl) ?_) | (refine AWp.cond rfl (fun hb => ?_) (fun hb => ?_) <;> cases hb) | refine AWp.skip ?_ | refine AWp.exit ?_ | refine AWp.block ?_ | refine AWp.ret ⟨_, rfl, ?_⟩))
  all_goals first
    | rfl
    | (exfalso; first | omega | (simp only [oA, oB, oC, oD, oE, oF, oG] at *; omega); done)
    | (exfalso; revert _hb; simp; done)
theorem law_ok [Tabs TB] (s t : Sys) (p a : Aut) : Pure Tryd.prog TB 3 [eSys s, eSys t, eAut p, eAut a] (eB true) := by
  have h1 := szN_le (n := s.es.length) (left := 1048576) (by omega)
  have h2 := fun h => szN_le (n := t.es.length) (left := szN s.es.length 1048576) h
  have h3 := fun h => szA_le (a := p) (left := szN t.es.length (szN s.es.length 1048576)) h
  have h4 := fun h => szA_le (a := a) (left := szA p (szN t.es.length (szN s.es.length 1048576))) h
  refine Spec.of Tryd.func3 rfl (by kernel_rfl) (Nat.le_of_ble_eq_true rfl) ?_; intro Γ hΓ
  (repeat (first | (refine popO rfl ?_; first | (refine gA rfl ?_; first | refine yLm rfl rfl ?_ | ((first | refine yQ (md := false) rfl ?_ ?_ | refine yL rfl rfl (by assumption) rfl rfl ?_ ?_ | refine yT rfl rfl (by assumption) rfl ?_ ?_); (first | exact True.intro | omega | (simp only [oA, oB, oC, oD, oE, oF, oG] at *; omega))) | (refine yB rfl ?_; intro _ _hb) | refine yS rfl rfl ?_ | refine yM rfl rfl (by assumption) rfl rfl rfl ?_ | refine yZ rfl rfl rfl rfl rfl rfl ?_ | refine yY rfl rfl rfl ?_ | refine yO rfl rfl rfl ?_ | refine yW rfl rfl ?_ | refine yV rfl rfl rfl rfl (by assumption) rfl rfl rfl rfl ?_ | refine yP rfl rfl rfl (szSystem_ok s 1048576 (by omega) (by omega)) rfl ?_ ) | refine popN rfl ?_ | (refine yG rfl rfl ?_ ?_ <;> intro hb <;> subst hb)) | refine AWp.seq ?_ | refine reg (by kernel_rfl) ?_ | refine lexE ?_))
  (refine AWp.cond rfl (fun hb => ?_) (fun hb => ?_) <;> cases hb)
  · (repeat' (first | (first | (refine popO rfl ?_; first | (refine gA rfl ?_; first | refine yLm rfl rfl ?_ | ((first | refine yQ (md := false) rfl ?_ ?_ | refine yL rfl rfl (by assumption) rfl rfl ?_ ?_ | refine yT rfl rfl (by assumption) rfl ?_ ?_); (first | exact True.intro | omega | (simp only [oA, oB, oC, oD, oE, oF, oG] at *; omega))) | (refine yB rfl ?_; intro _ _hb) | refine yS rfl rfl ?_ | refine yM rfl rfl (by assumption) rfl rfl rfl ?_ | refine yZ rfl rfl rfl rfl rfl rfl ?_ | refine yY rfl rfl rfl ?_ | refine yO rfl rfl rfl ?_ | refine yW rfl rfl ?_ | refine yV rfl rfl rfl rfl (by assumption) rfl rfl rfl rfl ?_ ) | refine popN rfl ?_ | (refine yG rfl rfl ?_ ?_ <;> intro hb <;> subst hb)) | refine AWp.seq ?_ | refine reg (by kernel_rfl) ?_ | refine lexE ?_ | refine regD (noisy []) mixed (by kernel_rfl) (by kernel_rfl) ?_) | (refine AWp.cond rfl (fun hb => ?_) (fun hb => ?_) <;> cases hb) | refine AWp.skip ?_ | refine AWp.exit ?_ | refine AWp.block ?_ | refine AWp.ret ⟨_, rfl, ?_⟩))
    rfl
  have k1 : 0 ≤ szN s.es.length 1048576 := by first | omega | (simp only [oA, oB, oC, oD, oE, oF, oG] at *; omega)
  have h2 := h2 k1
  have h3 := h3
  refine AWp.skip ?_
  (repeat (first | (refine popO rfl ?_; first | (refine gA rfl ?_; first | refine yLm rfl rfl ?_ | ((first | refine yQ (md := false) rfl ?_ ?_ | refine yL rfl rfl (by assumption) rfl rfl ?_ ?_ | refine yT rfl rfl (by assumption) rfl ?_ ?_); (first | exact True.intro | omega | (simp only [oA, oB, oC, oD, oE, oF, oG] at *; omega))) | (refine yB rfl ?_; intro _ _hb) | refine yS rfl rfl ?_ | refine yM rfl rfl (by assumption) rfl rfl rfl ?_ | refine yZ rfl rfl rfl rfl rfl rfl ?_ | refine yY rfl rfl rfl ?_ | refine yO rfl rfl rfl ?_ | refine yW rfl rfl ?_ | refine yV rfl rfl rfl rfl (by assumption) rfl rfl rfl rfl ?_ | refine yP rfl rfl rfl (szSystem_ok t (szN s.es.length 1048576) (by omega) (by omega)) rfl ?_ ) | refine popN rfl ?_ | (refine yG rfl rfl ?_ ?_ <;> intro hb <;> subst hb)) | refine AWp.seq ?_ | refine reg (by kernel_rfl) ?_ | refine lexE ?_))
  (refine AWp.cond rfl (fun hb => ?_) (fun hb => ?_) <;> cases hb)
  · (repeat' (first | (first | (refine popO rfl ?_; first | (refine gA rfl ?_; first | refine yLm rfl rfl ?_ | ((first | refine yQ (md := false) rfl ?_ ?_ | refine yL rfl rfl (by assumption) rfl rfl ?_ ?_ | refine yT rfl rfl (by assumption) rfl ?_ ?_); (first | exact True.intro | omega | (simp only [oA, oB, oC, oD, oE, oF, oG] at *; omega))) | (refine yB rfl ?_; intro _ _hb) | refine yS rfl rfl ?_ | refine yM rfl rfl (by assumption) rfl rfl rfl ?_ | refine yZ rfl rfl rfl rfl rfl rfl ?_ | refine yY rfl rfl rfl ?_ | refine yO rfl rfl rfl ?_ | refine yW rfl rfl ?_ | refine yV rfl rfl rfl rfl (by assumption) rfl rfl rfl rfl ?_ ) | refine popN rfl ?_ | (refine yG rfl rfl ?_ ?_ <;> intro hb <;> subst hb)) | refine AWp.seq ?_ | refine reg (by kernel_rfl) ?_ | refine lexE ?_ | refine regD (noisy []) mixed (by kernel_rfl) (by kernel_rfl) ?_) | (refine AWp.cond rfl (fun hb => ?_) (fun hb => ?_) <;> cases hb) | refine AWp.skip ?_ | refine AWp.exit ?_ | refine AWp.block ?_ | refine AWp.ret ⟨_, rfl, ?_⟩))
    rfl
  have k2 : 0 ≤ szN t.es.length (szN s.es.length 1048576) := by first | omega | (simp only [oA, oB, oC, oD, oE, oF, oG] at *; omega)
  have h3 := h3 k2
  refine AWp.skip ?_
  (repeat (first | (refine popO rfl ?_; first | (refine gA rfl ?_; first | refine yLm rfl rfl ?_ | ((first | refine yQ (md := false) rfl ?_ ?_ | refine yL rfl rfl (by assumption) rfl rfl ?_ ?_ | refine yT rfl rfl (by assumption) rfl ?_ ?_); (first | exact True.intro | omega | (simp only [oA, oB, oC, oD, oE, oF, oG] at *; omega))) | (refine yB rfl ?_; intro _ _hb) | refine yS rfl rfl ?_ | refine yM rfl rfl (by assumption) rfl rfl rfl ?_ | refine yZ rfl rfl rfl rfl rfl rfl ?_ | refine yY rfl rfl rfl ?_ | refine yO rfl rfl rfl ?_ | refine yW rfl rfl ?_ | refine yV rfl rfl rfl rfl (by assumption) rfl rfl rfl rfl ?_ | refine yP rfl rfl rfl (szAutomaton_ok p (szN t.es.length (szN s.es.length 1048576)) (by omega) (by omega)) rfl ?_ ) | refine popN rfl ?_ | (refine yG rfl rfl ?_ ?_ <;> intro hb <;> subst hb)) | refine AWp.seq ?_ | refine reg (by kernel_rfl) ?_ | refine lexE ?_))
  (refine AWp.cond rfl (fun hb => ?_) (fun hb => ?_) <;> cases hb)
  · (repeat' (first | (first | (refine popO rfl ?_; first | (refine gA rfl ?_; first | refine yLm rfl rfl ?_ | ((first | refine yQ (md := false) rfl ?_ ?_ | refine yL rfl rfl (by assumption) rfl rfl ?_ ?_ | refine yT rfl rfl (by assumption) rfl ?_ ?_); (first | exact True.intro | omega | (simp only [oA, oB, oC, oD, oE, oF, oG] at *; omega))) | (refine yB rfl ?_; intro _ _hb) | refine yS rfl rfl ?_ | refine yM rfl rfl (by assumption) rfl rfl rfl ?_ | refine yZ rfl rfl rfl rfl rfl rfl ?_ | refine yY rfl rfl rfl ?_ | refine yO rfl rfl rfl ?_ | refine yW rfl rfl ?_ | refine yV rfl rfl rfl rfl (by assumption) rfl rfl rfl rfl ?_ ) | refine popN rfl ?_ | (refine yG rfl rfl ?_ ?_ <;> intro hb <;> subst hb)) | refine AWp.seq ?_ | refine reg (by kernel_rfl) ?_ | refine lexE ?_ | refine regD (noisy []) mixed (by kernel_rfl) (by kernel_rfl) ?_) | (refine AWp.cond rfl (fun hb => ?_) (fun hb => ?_) <;> cases hb) | refine AWp.skip ?_ | refine AWp.exit ?_ | refine AWp.block ?_ | refine AWp.ret ⟨_, rfl, ?_⟩))
    rfl
  have k3 : 0 ≤ szA p (szN t.es.length (szN s.es.length 1048576)) := by first | omega | (simp only [oA, oB, oC, oD, oE, oF, oG] at *; omega)
  have h4 := h4 k3
  refine AWp.skip ?_
  (repeat (first | (refine popO rfl ?_; first | (refine gA rfl ?_; first | refine yLm rfl rfl ?_ | ((first | refine yQ (md := false) rfl ?_ ?_ | refine yL rfl rfl (by assumption) rfl rfl ?_ ?_ | refine yT rfl rfl (by assumption) rfl ?_ ?_); (first | exact True.intro | omega | (simp only [oA, oB, oC, oD, oE, oF, oG] at *; omega))) | (refine yB rfl ?_; intro _ _hb) | refine yS rfl rfl ?_ | refine yM rfl rfl (by assumption) rfl rfl rfl ?_ | refine yZ rfl rfl rfl rfl rfl rfl ?_ | refine yY rfl rfl rfl ?_ | refine yO rfl rfl rfl ?_ | refine yW rfl rfl ?_ | refine yV rfl rfl rfl rfl (by assumption) rfl rfl rfl rfl ?_ | refine yP rfl rfl rfl (szAutomaton_ok a (szA p (szN t.es.length (szN s.es.length 1048576))) (by omega) (by omega)) rfl ?_ ) | refine popN rfl ?_ | (refine yG rfl rfl ?_ ?_ <;> intro hb <;> subst hb)) | refine AWp.seq ?_ | refine reg (by kernel_rfl) ?_ | refine lexE ?_))
  (refine AWp.cond rfl (fun hb => ?_) (fun hb => ?_) <;> cases hb)
  · (repeat' (first | (first | (refine popO rfl ?_; first | (refine gA rfl ?_; first | refine yLm rfl rfl ?_ | ((first | refine yQ (md := false) rfl ?_ ?_ | refine yL rfl rfl (by assumption) rfl rfl ?_ ?_ | refine yT rfl rfl (by assumption) rfl ?_ ?_); (first | exact True.intro | omega | (simp only [oA, oB, oC, oD, oE, oF, oG] at *; omega))) | (refine yB rfl ?_; intro _ _hb) | refine yS rfl rfl ?_ | refine yM rfl rfl (by assumption) rfl rfl rfl ?_ | refine yZ rfl rfl rfl rfl rfl rfl ?_ | refine yY rfl rfl rfl ?_ | refine yO rfl rfl rfl ?_ | refine yW rfl rfl ?_ | refine yV rfl rfl rfl rfl (by assumption) rfl rfl rfl rfl ?_ ) | refine popN rfl ?_ | (refine yG rfl rfl ?_ ?_ <;> intro hb <;> subst hb)) | refine AWp.seq ?_ | refine reg (by kernel_rfl) ?_ | refine lexE ?_ | refine regD (noisy []) mixed (by kernel_rfl) (by kernel_rfl) ?_) | (refine AWp.cond rfl (fun hb => ?_) (fun hb => ?_) <;> cases hb) | refine AWp.skip ?_ | refine AWp.exit ?_ | refine AWp.block ?_ | refine AWp.ret ⟨_, rfl, ?_⟩))
    rfl
  have k4 : 0 ≤ szA a (szA p (szN t.es.length (szN s.es.length 1048576))) := by first | omega | (simp only [oA, oB, oC, oD, oE, oF, oG] at *; omega)
  refine AWp.skip ?_
  have hs1 := h1.2.2 k1
  have hs2 := h2.2.2 k2
  obtain ⟨hp1, hp2, hp3⟩ := h3.2.2 k3
  obtain ⟨ha1, ha2, ha3⟩ := h4.2.2 k4
  have c1 := toSystem_ok (TB := TB) s (by omega)
  have c2 := toSystem_ok (TB := TB) t (by omega)
  have c3 := toAutomaton_ok (TB := TB) p (by omega) (by omega) (fun r hr => by have := hp3 r hr; omega)
  have c4 := toAutomaton_ok (TB := TB) a (by omega) (by omega) (fun r hr => by have := ha3 r hr; omega)
  (repeat' (first | (first | (refine popO rfl ?_; first | (refine gA rfl ?_; first | refine yLm rfl rfl ?_ | ((first | refine yQ (md := false) rfl ?_ ?_ | refine yL rfl rfl (by assumption) rfl rfl ?_ ?_ | refine yT rfl rfl (by assumption) rfl ?_ ?_); (first | exact True.intro | omega | (simp only [oA, oB, oC, oD, oE, oF, oG] at *; omega))) | (refine yB rfl ?_; intro _ _hb) | refine yS rfl rfl ?_ | refine yM rfl rfl (by assumption) rfl rfl rfl ?_ | refine yZ rfl rfl rfl rfl rfl rfl ?_ | refine yY rfl rfl rfl ?_ | refine yO rfl rfl rfl ?_ | refine yW rfl rfl ?_ | refine yV rfl rfl rfl rfl (by assumption) rfl rfl rfl rfl ?_ | refine yP rfl rfl rfl (c1) rfl ?_ | refine yP rfl rfl rfl (c2) rfl ?_ | refine yP rfl rfl rfl (c3) rfl ?_ | refine yP rfl rfl rfl (c4) rfl ?_ | refine yP rfl rfl rfl (specAssumptionFault_ok s t p a) rfl ?_ | refine yP rfl rfl rfl (implAssumptionFault_ok s t p a) rfl ?_ | refine yP rfl rfl rfl (eqSystem_ok s) rfl ?_ | refine yP rfl rfl rfl (eqSystem_ok t) rfl ?_ | refine yP rfl rfl rfl (eqAutomaton_ok p) rfl ?_ | refine yP rfl rfl rfl (eqAutomaton_ok a) rfl ?_ ) | refine popN rfl ?_ | (refine yG rfl rfl ?_ ?_ <;> intro hb <;> subst hb)) | refine AWp.seq ?_ | refine reg (by kernel_rfl) ?_ | refine lexE ?_ | refine regD (noisy []) mixed (by kernel_rfl) (by kernel_rfl) ?_) | (refine AWp.cond rfl (fun hb => ?_) (fun hb => ?_) <;> cases hb) | refine AWp.skip ?_ | refine AWp.exit ?_ | refine AWp.block ?_ | refine AWp.ret ⟨_, rfl, ?_⟩))
  all_goals first
    | rfl
    | (exfalso; revert _hb; simp; done)
end Go.Am
/-
  From the form's readings to the machine's data, and back behind a call.
-/
namespace Go.Am
open Go Go.ChangeShapes Go.WideShapes Go.RowKit

def below (w : World) (b : Nat) : Prop := b < w.heap.size
/-- What reads at type t reads as f's cells. -/
def Rd {α : Type} (P : Program) (w : World) (t : TypeId) (k : Nat) (f : α → List D) : Prop :=
  ∀ {H : Type} (enc : TypeId × Value → H) (fuel : Nat) (cs : List Value) (x : DataW H × List MemPlace), DataW.trod enc P w 0 (fun _ => true) true fuel t cs = some x →
    ∃ y : α, cs.length = k ∧ (f y).length = k ∧ ∀ (j : Nat) c d, cs[j]? = some c → (f y)[j]? = some d → DRel (below w) w d c
section
variable {P : Program} {w : World} {t e : TypeId} {k : Nat}
theorem Rd.map {α β : Type} {f : α → List D} {f' : β → List D} (g : α → β) (hg : ∀ y, f y = f' (g y)) (h : Rd P w t k f) : Rd P w t k f' := fun enc fuel cs x hx => by
  obtain ⟨y, h1, h2, h3⟩ := h enc fuel cs x hx
  exact ⟨g y, h1, by rw [← hg]; exact h2, by rw [← hg]; exact h3⟩
theorem one_cell {c0 : Value} {d0 : D} (h : DRel (below w) w d0 c0) : ∀ (j : Nat) c d, [c0][j]? = some c → [d0][j]? = some d → DRel (below w) w d c := by
  intro j c d hc hd
  match j with
  | 0 => simp at hc hd; subst hc; subst hd; exact h
  | j + 1 => simp at hc
theorem rd_int (ht : P.underlying t = some (.int .i64)) : Rd P w t 1 (fun n : Int => [.v (.int .i64 n)]) := fun enc fuel cs x hx => by
  obtain ⟨n, rfl, _, _⟩ := DataW.trod_int ht hx
  exact ⟨n, rfl, rfl, one_cell (.v rfl)⟩
theorem rd_u8 (ht : P.underlying t = some (.int .u8)) : Rd P w t 1 (fun n : UInt8 => [.v (.int .u8 n.toNat)]) := fun enc fuel cs x hx => by
  obtain ⟨n, rfl, _, hw⟩ := DataW.trod_int ht hx
  have hb := bounds_u8 hw
  refine ⟨UInt8.ofNat n.toNat, rfl, rfl, one_cell ?_⟩
  have : ((UInt8.ofNat n.toNat).toNat : Int) = n := by
    simp
    omega
  rw [this]
  exact .v rfl
theorem rd_bool (ht : P.underlying t = some .bool) : Rd P w t 1 (fun b : Bool => [.v (.bool b)]) := fun enc fuel cs x hx => by
  obtain ⟨b, rfl, _⟩ := DataW.trod_bool ht hx
  exact ⟨b, rfl, rfl, one_cell (.v rfl)⟩
theorem rd_text (ht : P.underlying t = some .string) : Rd P w t 1 (fun s : List UInt8 => [.v (.string ⟨s.toArray⟩)]) := fun enc fuel cs x hx => by
  obtain ⟨s, rfl, _, _⟩ := DataW.trod_string ht hx
  refine ⟨s.data.toList, rfl, rfl, one_cell ?_⟩
  have : (⟨s.data.toList.toArray⟩ : ByteArray) = s := by cases s; simp
  rw [this]
  exact .v rfl
theorem cells_get {a : Addr} {n : Nat} {cs : List Value} (h : w.cells? 0 a n = some cs) : cs.length = n ∧ ∀ (j : Nat) c, cs[j]? = some c → w.cell? (a.add j) = some c := by
  unfold World.cells? at h
  rw [if_pos (Nat.zero_le _)] at h
  have hl := mapM_some_length h
  simp at hl
  refine ⟨hl, fun j c hc => ?_⟩
  have hlt := (List.getElem?_eq_some_iff.1 hc).1
  have := mapM_some_get h j j (by rw [List.getElem?_range (by omega)])
  rw [this]; exact hc
theorem rd_slice {α : Type} {f : α → List D} (ht : P.underlying t = some (.slice e)) (hk : P.cellsOf e = k) (h0 : 0 < k) (hf : Rd P w e k f) : Rd P w t 1 (fun l : List α => [.l (l.map f)]) := fun enc fuel cs x hx => by
  rcases DataW.trod_slice ht hx with ⟨rfl, _⟩ | ⟨a, len, cap, elems, rest, n, rfl, rfl, _, _, hlc, hcm, hel, hget, _, _⟩
  · exact ⟨[], rfl, rfl, one_cell .nil⟩
  · rw [hk] at hget
    rcases Nat.eq_zero_or_pos len with hl0 | hl0
    · subst hl0
      exact ⟨[], rfl, rfl, one_cell (.e hcm)⟩
    have key : ∀ i, i < len → ∃ (y : α) (cs : List Value), w.cells? 0 (a.add (i * k)) k = some cs ∧ cs.length = k ∧ (f y).length = k ∧ ∀ (j : Nat) c d, cs[j]? = some c → (f y)[j]? = some d → DRel (below w) w d c := by
      intro i hi
      have h1 := hget i hi
      have hie : i < elems.length := by omega
      rw [List.getElem?_eq_getElem hie] at h1
      simp only [Option.bind_eq_some_iff] at h1
      obtain ⟨cs, h2, h3⟩ := h1
      obtain ⟨y, h4, h5, h6⟩ := hf enc n cs _ h3
      exact ⟨y, cs, h2, h4, h5, h6⟩
    -- the address is plain
    obtain ⟨b, o, rfl, hb⟩ : ∃ b o, a = ⟨b, o, none⟩ ∧ b < w.heap.size := by
      obtain ⟨y, cs, h2, h4, _, _⟩ := key 0 hl0
      have h7 := (cells_get h2).2 0 (cs[0]'(by omega)) (by simp)
      rw [Nat.zero_mul] at h7
      have h8 : ∀ a : Addr, a.add 0 = a := fun a => by simp [Addr.add]
      rw [h8, h8] at h7
      unfold World.cell? at h7
      obtain ⟨b, o, sp⟩ := a
      split at h7
      · rename_i c _ _ hh
        split at h7
        · cases h7
        · rename_i hs
          cases sp with
          | none => exact ⟨b, o, rfl, (Array.getElem?_eq_some_iff.1 hh).1⟩
          | some s => simp at hs
      · cases h7
    have hlist : ∀ m, m ≤ len → ∃ l : List α, l.length = m ∧ ∀ (i : Nat) y, l[i]? = some y → (f y).length = k ∧ ∀ (j : Nat) d, (f y)[j]? = some d → ∃ c, w.cell? ⟨b, o + i * k + j, none⟩ = some c ∧ DRel (below w) w d c := by
      intro m
      induction m with
      | zero => intro _; exact ⟨[], rfl, fun i y h => by simp at h⟩
      | succ m ih =>
        intro hm
        obtain ⟨l, hl, hall⟩ := ih (by omega)
        obtain ⟨y, cs, h2, h4, h5, h6⟩ := key m (by omega)
        refine ⟨l ++ [y], by simp [hl], fun i z hz => ?_⟩
        by_cases hi : i < l.length
        · rw [List.getElem?_append_left hi] at hz; exact hall i z hz
        · rw [List.getElem?_append_right (by omega)] at hz
          have hi0 : i = m := by
            have := (List.getElem?_eq_some_iff.1 hz).1
            simp at this; omega
          subst hi0
          rw [hl, Nat.sub_self] at hz
          simp at hz
          subst hz
          refine ⟨h5, fun j d hj => ?_⟩
          have hjl : j < cs.length := by rw [h4, ← h5]; exact (List.getElem?_eq_some_iff.1 hj).1
          have h7 := (cells_get h2).2 j cs[j] (List.getElem?_eq_getElem hjl)
          rw [addr_add, addr_add] at h7
          exact ⟨cs[j], h7, h6 j _ d (List.getElem?_eq_getElem hjl) hj⟩
    obtain ⟨l, hl, hall⟩ := hlist len (Nat.le_refl _)
    refine ⟨l, rfl, rfl, one_cell ?_⟩
    have hll : (l.map f).length = len := by simp [hl]
    rw [← hll]
    refine .l (b := b) (o := o) (k := k) (vs := fun i j => (w.cell? ⟨b, o + i * k + j, none⟩).getD undef) hb (by simpa [hl] using hlc) hcm (fun i r hr => ?_) (fun i r j d hr hd => ?_) (fun i r j d hr hd => ?_)
    all_goals
      rw [List.getElem?_map, Option.map_eq_some_iff] at hr
      obtain ⟨y, hy, rfl⟩ := hr
    · exact (hall i y hy).1
    · obtain ⟨c, h1, _⟩ := (hall i y hy).2 j d hd
      rw [h1]; rfl
    · obtain ⟨c, h1, h2⟩ := (hall i y hy).2 j d hd
      rw [h1]; exact h2
theorem app_rel {cs : List Value} {l m : List D} {k : Nat} (hl : l.length = k) (h1 : ∀ (j : Nat) c d, (cs.take k)[j]? = some c → l[j]? = some d → DRel (below w) w d c) (h2 : ∀ (j : Nat) c d, (cs.drop k)[j]? = some c → m[j]? = some d → DRel (below w) w d c) :
    ∀ (j : Nat) c d, cs[j]? = some c → (l ++ m)[j]? = some d → DRel (below w) w d c := by
  intro j c d hc hd
  by_cases hj : j < k
  · rw [List.getElem?_append_left (by omega)] at hd
    exact h1 j c d (by rw [List.getElem?_take, if_pos hj]; exact hc) hd
  · rw [List.getElem?_append_right (by omega), hl] at hd
    refine h2 (j - k) c d ?_ hd
    rw [List.getElem?_drop]
    have : k + (j - k) = j := by omega
    rw [this]; exact hc
/-- A struct, field behind field. -/
theorem rd_struct2 {α0 α1 : Type} {f0 : α0 → List D} {f1 : α1 → List D} {k0 k1 : Nat} {a0 a1 : Field} (ht : P.underlying t = some (.struct #[a0, a1])) (ho : a0.offset = 0 ∧ a1.offset = k0) (hc : P.cellsOf a0.type = k0 ∧ P.cellsOf a1.type = k1 ∧ P.cellsOf t = k0 + k1)
    (h0 : Rd P w a0.type k0 f0) (h1 : Rd P w a1.type k1 f1) : Rd P w t (k0 + k1) (fun y : α0 × α1 => f0 y.1 ++ f1 y.2) := fun enc fuel cs x hx => by
  obtain ⟨xs, n, _, _, hl, hxl, hget⟩ := DataW.trod_struct ht hx
  have hs : xs.length = 2 := hxl
  have e0 := hget 0 a0 rfl
  have e1 := hget 1 a1 rfl
  rw [List.getElem?_eq_getElem (by omega)] at e0 e1
  rw [ho.1, hc.1] at e0
  rw [ho.2, hc.2.1] at e1
  obtain ⟨y0, p1, p2, p3⟩ := h0 enc n _ _ e0
  obtain ⟨y1, q1, q2, q3⟩ := h1 enc n _ _ e1
  rw [List.drop_zero] at p3
  rw [List.take_of_length_le (by simp; omega)] at q3
  exact ⟨(y0, y1), by rw [hl, hc.2.2], by simp [p2, q2], app_rel p2 p3 q3⟩
theorem rd_struct3 {α0 α1 α2 : Type} {f0 : α0 → List D} {f1 : α1 → List D} {f2 : α2 → List D} {k0 k1 k2 : Nat} {a0 a1 a2 : Field} (ht : P.underlying t = some (.struct #[a0, a1, a2])) (ho : a0.offset = 0 ∧ a1.offset = k0 ∧ a2.offset = k0 + k1)
    (hc : P.cellsOf a0.type = k0 ∧ P.cellsOf a1.type = k1 ∧ P.cellsOf a2.type = k2 ∧ P.cellsOf t = k0 + k1 + k2) (h0 : Rd P w a0.type k0 f0) (h1 : Rd P w a1.type k1 f1) (h2 : Rd P w a2.type k2 f2) :
    Rd P w t (k0 + k1 + k2) (fun y : α0 × α1 × α2 => f0 y.1 ++ (f1 y.2.1 ++ f2 y.2.2)) := fun enc fuel cs x hx => by
  obtain ⟨xs, n, _, _, hl, hxl, hget⟩ := DataW.trod_struct ht hx
  have hs : xs.length = 3 := hxl
  have e0 := hget 0 a0 rfl
  have e1 := hget 1 a1 rfl
  have e2 := hget 2 a2 rfl
  rw [List.getElem?_eq_getElem (by omega)] at e0 e1 e2
  rw [ho.1, hc.1] at e0
  rw [ho.2.1, hc.2.1] at e1
  rw [ho.2.2, hc.2.2.1] at e2
  obtain ⟨y0, p1, p2, p3⟩ := h0 enc n _ _ e0
  obtain ⟨y1, q1, q2, q3⟩ := h1 enc n _ _ e1
  obtain ⟨y2, r1, r2, r3⟩ := h2 enc n _ _ e2
  rw [List.drop_zero] at p3
  rw [List.take_of_length_le (by simp; omega)] at r3
  refine ⟨(y0, y1, y2), by rw [hl, hc.2.2.2], by simp [p2, q2, r2]; omega, app_rel p2 p3 (app_rel q2 q3 ?_)⟩
  rw [List.drop_drop]; exact r3
end

/-- What is in memory ahead of a call. -/
def baseV (w : World) : View := ⟨below w, id, fun _ => 0, fun _ => True, 0, w⟩
section
variable {P : Program} {w : World} {t : TypeId} {k : Nat} {H : Type} {enc : TypeId × Value → H}
theorem okWide_agg {fs : Array Field} {base : Nat} {v : Value} (ht : P.underlying t = some (.struct fs)) (h : Value.okWide P w .any base t v) : ∃ cs, v = .agg cs := by
  unfold Value.okWide at h
  rw [ht] at h
  obtain ⟨cs, h, _⟩ := h
  exact ⟨cs, h⟩
/-- An argument that is a struct. -/
theorem arg_agg {α : Type} {f : α → List D} (h : Rd P w t k f) {v : Value} {d : DataW H} {ps : List MemPlace} (hv : ∃ cs, v = .agg cs) (hd : DataW.Trod enc P w 0 (fun _ => true) true t v d ps) : ∃ y, ERel (baseV w) (.a ((f y).map .d)) v := by
  obtain ⟨cs, rfl⟩ := hv
  obtain ⟨n, hn⟩ := hd
  obtain ⟨y, h1, h2, h3⟩ := h enc n _ _ hn
  refine ⟨y, cs, rfl, by simp only [List.length_map, h2, ← h1]; exact (Array.length_toList).symm, fun j c v hj hv => ?_⟩
  rw [List.getElem?_map, Option.map_eq_some_iff] at hj
  obtain ⟨d, hd, rfl⟩ := hj
  exact .d (h3 j v d (by simpa [Value.cells] using hv) hd)
theorem arg_int {v : Value} {d : DataW H} {ps : List MemPlace} {base : Nat} (ht : P.underlying t = some (.int .i64)) (hv : Value.okWide P w .any base t v) (hd : DataW.Trod enc P w 0 (fun _ => true) true t v d ps) : ∃ n : Int, ERel (baseV w) (eI .i64 n) v := by
  obtain ⟨m, hm⟩ := hd
  obtain ⟨n, hc, _, _⟩ := DataW.trod_int ht hm
  refine ⟨n, ?_⟩
  have : v = .int .i64 n := by
    unfold Value.okWide Cell.okWide Cell.ok at hv
    simp only [ht] at hv
    split at hv <;> simp_all [Value.cells]
  subst this
  exact .d (.v rfl)
theorem arg_text {v : Value} {d : DataW H} {ps : List MemPlace} {base : Nat} (ht : P.underlying t = some .string) (hv : Value.okWide P w .any base t v) (hd : DataW.Trod enc P w 0 (fun _ => true) true t v d ps) : ∃ s : List UInt8, ERel (baseV w) (eT s) v := by
  obtain ⟨m, hm⟩ := hd
  obtain ⟨s, hc, _, _⟩ := DataW.trod_string ht hm
  refine ⟨s.data.toList, ?_⟩
  have : v = .string s := by
    unfold Value.okWide Cell.okWide Cell.ok at hv
    simp only [ht] at hv
    split at hv <;> simp_all [Value.cells]
  subst this
  have h0 : (⟨s.data.toList.toArray⟩ : ByteArray) = s := by cases s; simp
  have h1 : eT s.data.toList = .o (.d (.v (.string ⟨s.data.toList.toArray⟩))) := rfl
  rw [h1, h0]
  exact .d (.v rfl)
theorem arg_list {α : Type} {f : α → List D} {e : TypeId} (ht : P.underlying t = some (.slice e)) (h : Rd P w t 1 (fun l : List α => [.l (l.map f)])) {v : Value} {d : DataW H} {ps : List MemPlace} {base : Nat} (hv : Value.okWide P w .any base t v) (hd : DataW.Trod enc P w 0 (fun _ => true) true t v d ps) :
    ∃ l : List α, ERel (baseV w) (.o (.d (.l (l.map f)))) v := by
  obtain ⟨m, hm⟩ := hd
  obtain ⟨l, h1, h2, h3⟩ := h enc m _ _ hm
  refine ⟨l, ?_⟩
  have : v.cells.toList = [v] := by
    unfold Value.okWide Cell.okWide Cell.ok at hv
    simp only [ht] at hv
    split at hv <;> simp_all [Value.cells]
  rw [this] at h3
  exact .d (h3 0 v _ rfl rfl)

/-! Behind the call. -/
structure SameOld (W W' : World) : Prop where
  os : W'.os = W.os
  output : W'.output = W.output
  size : W.heap.size ≤ W'.heap.size
  old : ∀ b, b < W.heap.size → W'.heap[b]? = W.heap[b]?
theorem SameOld.sameAt {W W' : World} (h : SameOld W W') {p : MemPlace} (hp : p.block < W.heap.size) : W.sameAt W' p := by
  cases p with
  | cell b off => show W'.cell? _ = W.cell? _; simp only [World.cell?, h.old b hp]
  | map b => exact h.old b hp
theorem SameOld.kept {W W' : World} (h : SameOld W W') (may : MemPlace → Prop) : W.keptBut W' may := by
  refine ⟨h.os, h.output, fun i hi => ?_⟩
  rw [h.old i hi]
  split
  · rename_i h1 h2
    rw [h1] at h2
    injection h2 with h2; injection h2 with h3 h4 h5
    exact ⟨h4.symm, h5.symm, by rw [h3], fun j _ => by rw [h3]⟩
  · rename_i h1 h2
    rw [h1] at h2
    injection h2 with h2; injection h2 with h3 h4
    exact .inr ⟨h3.symm, h4.symm⟩
  · rfl
theorem trodAll_same {W W' : World} (hl : laidOutB P = true) (h : SameOld W W') {sp : Nat → Bool} : ∀ {ts : List TypeId} {vs : List Value} {ds : List (DataW H)} {ps : List MemPlace}, (ts.all fun t => P.readableRec t && decide (t < P.types.size)) = true →
    DataW.TrodAll enc P W 0 (fun _ => true) true ts vs ds ps → (∀ p ∈ ps, p.block < W.heap.size) → (∀ p ∈ ps, sp p.block = true) → DataW.TrodAll enc P W' 0 sp true ts vs ds ps
  | [], vs, ds, ps, _, h1, _, _ => by obtain ⟨rfl, rfl, rfl⟩ := trodAll_nil h1; exact rfl
  | t :: ts, vs, ds, ps, ha, h1, h2, h3 => by
    obtain ⟨v, vs', d, ds', p, q, rfl, rfl, rfl, h4, h5⟩ := trodAll_cons h1
    simp only [List.all_cons, Bool.and_eq_true, decide_eq_true_eq] at ha
    refine ⟨p, q, Go.WideElems.Trod_stays hl ha.1.1 ha.1.2 h4 (fun x hx => h.sameAt (h2 x (List.mem_append_left _ hx))) (fun x hx => h3 x (List.mem_append_left _ hx)), trodAll_same hl h (by simpa using ha.2) h5 (fun x hx => h2 x (List.mem_append_right _ hx)) (fun x hx => h3 x (List.mem_append_right _ hx)), rfl⟩
/-- What a law's row asks behind the call: true; memory as it was. -/
theorem post_true {f : Func} {s : ChangeSpec} {again : Bool} {W W' : World} {args : Array Value} {ds gs : List (DataW H)} {before : List MemPlace} {tb : TypeId} (hl : laidOutB P = true) (hts : (f.params.toList.all fun t => P.readableRec t && decide (t < P.types.size)) = true)
    (hW : DataW.Whole enc P f.params.toList s.vars false W args.toList ds gs before) (hs : SameOld W W') (hv : s.vars = []) (hr : f.resultTypes = #[tb]) (htb : P.underlying tb = some .bool) (hone : (Value.bool true).resultList 1 = [.bool true])
    (hfn : s.fn H (ds ++ gs) = { results := [.lit (.bool true)], args := ds }) : s.post enc P f false true false again W args (.bool true) W' := by
  have hlt := hW.lt
  have hW' := hW
  obtain ⟨p, q, hA, hV, he, hz, hn⟩ := hW
  rw [hv] at hV
  obtain ⟨rfl, rfl⟩ := trodVars_none hV
  rw [List.append_nil] at he
  subst he
  have hres : ∀ (b : Nat) (sp : Nat → Bool) (hd : Bool), DataW.TrodAll enc P W' b sp hd f.resultTypes.toList ((Value.bool true).resultList f.resultTypes.size) (s.fn H (ds ++ [])).results [] := fun b sp hd => by
    rw [hr, hfn]
    show DataW.TrodAll enc P W' b sp hd [tb] ((Value.bool true).resultList 1) [.lit (.bool true)] []
    rw [hone]
    exact trodAll_mk1 (RowKit.shut_bool htb true)
  have hargs : ∀ sp : Nat → Bool, (∀ x ∈ before, sp x.block = true) → DataW.TrodAll enc P W' 0 sp true f.params.toList args.toList (s.fn H (ds ++ [])).args before := fun sp hsp => by
    rw [hfn]
    exact trodAll_same hl hs hts hA hlt hsp
  have hvars : ∀ sp : Nat → Bool, DataW.TrodVars enc P W' sp s.vars (s.fn H (ds ++ [])).vars [] := fun sp => by
    rw [hv, hfn]; exact rfl
  refine ⟨ds, [], before, [], before, [], hW', hres _ _ _, hargs _ fun x hx => by simpa using hlt x hx, hvars _, hs.kept _, fun _ => ?_⟩
  refine ⟨ok_one hr hone (okWide_bool_mk htb true), _, _, ([] ++ before) ++ [], ⟨[] ++ before, [], trodAll_append (hargs _ (fun _ _ => rfl)) (hres _ _ _), hvars _, rfl, ?_, fun ha => by cases ha⟩, fun x hx _ => by simpa using hx⟩
  intro b off hp
  have hp' : MemPlace.cell b off ∈ before := by simpa using hp
  have h1 := hz b off hp'
  have h2 : b < W.heap.size := hlt _ hp'
  simpa [World.frozen?, hs.old b h2] using h1
end
end Go.Am
