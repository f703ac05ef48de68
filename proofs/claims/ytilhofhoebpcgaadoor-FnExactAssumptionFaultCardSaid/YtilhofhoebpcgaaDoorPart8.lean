/-
  Systems are valid.
-/
import Derived.Test.YtilhofhoebpcgaaDoorPart7
namespace Go.Am
open Go Go.Proofs
set_option linter.unusedSimpArgs false
set_option linter.unusedVariables false
attribute [local irreducible] QOp AOp Lex LexO AWp Spec
variable {TB : List (Nat × Obj)}

def firstNZ : List Int → Int
  | [] => 0
  | x :: l => if x ≠ 0 then x else firstNZ l
theorem drop_some {α : Type} {l : List α} {k : Nat} {x : α} (h : l[k]? = some x) : l.drop k = x :: l.drop (k + 1) := by
  obtain ⟨h1, rfl⟩ := List.getElem?_eq_some_iff.1 h
  exact List.drop_eq_getElem_cons h1
theorem cmpOr_ok (l : List Int) : Pure Tryd.prog TB 66 [eInts l] (eI .i64 (firstNZ l)) := by
  refine Spec.of Tryd.func66 rfl (by kernel_rfl) (Nat.le_of_ble_eq_true rfl) ?_; intro Γ hΓ
  refine AWp.bound 0 rfl fun hB => ?_
  have hB := hB (l.map iRow) .refl
  (repeat' (first | (first | (refine popO rfl ?_; first | (refine gA rfl ?_; first | refine yLm rfl rfl ?_ | ((first | refine yQ (md := false) rfl ?_ ?_ | refine yL rfl rfl (by assumption) rfl rfl ?_ ?_ | refine yT rfl rfl (by assumption) rfl ?_ ?_); (first | exact True.intro | omega | (simp only [oA, oB, oC, oD, oE, oF, oG] at *; omega))) | (refine yB rfl ?_; intro _ _hb) | refine yS rfl rfl ?_ | refine yM rfl rfl (by assumption) rfl rfl rfl ?_ | refine yZ rfl rfl rfl rfl rfl rfl ?_ | refine yY rfl rfl rfl ?_ | refine yO rfl rfl rfl ?_ | refine yW rfl rfl ?_ | refine yV rfl rfl rfl rfl (by assumption) rfl rfl rfl rfl ?_ ) | refine popN rfl ?_ | (refine yG rfl rfl ?_ ?_ <;> intro hb <;> subst hb)) | refine AWp.seq ?_ | refine reg (by kernel_rfl) ?_ | refine lexE ?_ | refine regD (noisy []) mixed (by kernel_rfl) (by kernel_rfl) ?_) | (refine AWp.cond rfl (fun hb => ?_) (fun hb => ?_) <;> cases hb) | refine AWp.skip ?_ | refine AWp.exit ?_ | refine AWp.block ?_ | refine AWp.ret ⟨_, rfl, ?_⟩))
  refine AWp.loopL (α := {k : Nat // k ≤ l.length ∧ firstNZ l = firstNZ (l.drop k)}) (fun ⟨k, hk, ha⟩ => [(3, eI .i64 0), (6, eInts l), (7, eI .i64 l.length), (8, eI .i64 k)]) (fun ⟨k, hk, ha⟩ => []) 0 (fun ⟨k, hk, ha⟩ => l.length - k) (⟨0, by omega, rfl⟩) [] (by first | (simp [hΓ]; done) | (rw [hΓ]; decide)) (by (repeat' (first | exact trivial | rfl | refine And.intro ?_ ?_)) <;> simp [EnvSub, StoreSub, look_cons, nm, E.ren, C.ren, C.renL, O.ren, killc, kill0, Function.comp_def, argsFrom, zC, hΓ]) ?_; rintro ⟨k, hk, ha⟩; try dsimp only
  (repeat (first | (refine popO rfl ?_; first | (refine gA rfl ?_; first | refine yLm rfl rfl ?_ | ((first | refine yQ (md := false) rfl ?_ ?_ | refine yL rfl rfl (by assumption) rfl rfl ?_ ?_ | refine yT rfl rfl (by assumption) rfl ?_ ?_); (first | exact True.intro | omega | (simp only [oA, oB, oC, oD, oE, oF, oG] at *; omega))) | (refine yB rfl ?_; intro _ _hb) | refine yS rfl rfl ?_ | refine yM rfl rfl (by assumption) rfl rfl rfl ?_ | refine yZ rfl rfl rfl rfl rfl rfl ?_ | refine yY rfl rfl rfl ?_ | refine yO rfl rfl rfl ?_ | refine yW rfl rfl ?_ | refine yV rfl rfl rfl rfl (by assumption) rfl rfl rfl rfl ?_ ) | refine popN rfl ?_ | (refine yG rfl rfl ?_ ?_ <;> intro hb <;> subst hb)) | refine AWp.seq ?_ | refine reg (by kernel_rfl) ?_ | refine lexE ?_ | refine regD (noisy []) mixed (by kernel_rfl) (by kernel_rfl) ?_))
  (refine AWp.cond rfl (fun hb => ?_) (fun hb => ?_) <;> cases hb)
  · obtain ⟨x, hx⟩ := get_some (l := l) (k := k) (by first | omega | (simp only [oA, oB, oC, oD, oE, oF, oG] at *; omega))
    have hx' := get_map (g := iRow) hx
    rw [drop_some hx, firstNZ] at ha
    (repeat' (first | (first | (refine popO rfl ?_; first | (refine gA rfl ?_; first | refine yLm rfl rfl ?_ | ((first | refine yQ (md := false) rfl ?_ ?_ | refine yL rfl rfl (by assumption) rfl rfl ?_ ?_ | refine yT rfl rfl (by assumption) rfl ?_ ?_); (first | exact True.intro | omega | (simp only [oA, oB, oC, oD, oE, oF, oG] at *; omega))) | (refine yB rfl ?_; intro _ _hb) | refine yS rfl rfl ?_ | refine yM rfl rfl (by assumption) rfl rfl rfl ?_ | refine yZ rfl rfl rfl rfl rfl rfl ?_ | refine yY rfl rfl rfl ?_ | refine yO rfl rfl rfl ?_ | refine yW rfl rfl ?_ | refine yV rfl rfl rfl rfl (by assumption) rfl rfl rfl rfl ?_ ) | refine popN rfl ?_ | (refine yG rfl rfl ?_ ?_ <;> intro hb <;> subst hb)) | refine AWp.seq ?_ | refine reg (by kernel_rfl) ?_ | refine lexE ?_ | refine regD (noisy []) mixed (by kernel_rfl) (by kernel_rfl) ?_) | (refine AWp.cond rfl (fun hb => ?_) (fun hb => ?_) <;> cases hb) | refine AWp.skip ?_ | refine AWp.exit ?_ | refine AWp.block ?_ | refine AWp.ret ⟨_, rfl, ?_⟩))
    · rw [if_pos (by grind)] at ha
      rw [ha]
    · rw [if_neg (by grind)] at ha
      refine ⟨⟨k + 1, by first | omega | (simp only [oA, oB, oC, oD, oE, oF, oG] at *; omega), ha⟩, by dsimp only; (first | omega | (simp only [oA, oB, oC, oD, oE, oF, oG] at *; omega)), [], ?_⟩
      simp [EnvSub, StoreSub, look_cons, nm, E.ren, C.ren, C.renL, O.ren, killc, kill0, Function.comp_def, argsFrom, zC, hΓ]
  · (repeat' (first | (first | (refine popO rfl ?_; first | (refine gA rfl ?_; first | refine yLm rfl rfl ?_ | ((first | refine yQ (md := false) rfl ?_ ?_ | refine yL rfl rfl (by assumption) rfl rfl ?_ ?_ | refine yT rfl rfl (by assumption) rfl ?_ ?_); (first | exact True.intro | omega | (simp only [oA, oB, oC, oD, oE, oF, oG] at *; omega))) | (refine yB rfl ?_; intro _ _hb) | refine yS rfl rfl ?_ | refine yM rfl rfl (by assumption) rfl rfl rfl ?_ | refine yZ rfl rfl rfl rfl rfl rfl ?_ | refine yY rfl rfl rfl ?_ | refine yO rfl rfl rfl ?_ | refine yW rfl rfl ?_ | refine yV rfl rfl rfl rfl (by assumption) rfl rfl rfl rfl ?_ ) | refine popN rfl ?_ | (refine yG rfl rfl ?_ ?_ <;> intro hb <;> subst hb)) | refine AWp.seq ?_ | refine reg (by kernel_rfl) ?_ | refine lexE ?_ | refine regD (noisy []) mixed (by kernel_rfl) (by kernel_rfl) ?_) | (refine AWp.cond rfl (fun hb => ?_) (fun hb => ?_) <;> cases hb) | refine AWp.skip ?_ | refine AWp.exit ?_ | refine AWp.block ?_ | refine AWp.ret ⟨_, rfl, ?_⟩))
    rw [ha, List.drop_of_length_le (by first | omega | (simp only [oA, oB, oC, oD, oE, oF, oG] at *; omega))]; rfl
def cmpE (e f : Edg) : Int := firstNZ [cmpI e.f f.f, cmpI e.l f.l, cmpI e.t f.t]
theorem cmpE_bef (e f : Edg) : (0 ≤ cmpE e f) = (befB e f = false) := by
  unfold cmpE befB; simp only [firstNZ, cmpI]; grind
theorem compareEdges_ok (e f : Edg) : Pure Tryd.prog TB 54 [eEdg e, eEdg f] (eI .i64 (cmpE e f)) := by
  refine Spec.of Tryd.func54 rfl (by kernel_rfl) (Nat.le_of_ble_eq_true rfl) ?_; intro Γ hΓ
  (repeat' (first | (first | (refine popO rfl ?_; first | (refine gA rfl ?_; first | refine yLm rfl rfl ?_ | ((first | refine yQ (md := false) rfl ?_ ?_ | refine yL rfl rfl (by assumption) rfl rfl ?_ ?_ | refine yT rfl rfl (by assumption) rfl ?_ ?_); (first | exact True.intro | omega | (simp only [oA, oB, oC, oD, oE, oF, oG] at *; omega))) | (refine yB rfl ?_; intro _ _hb) | refine yS rfl rfl ?_ | refine yM rfl rfl (by assumption) rfl rfl rfl ?_ | refine yZ rfl rfl rfl rfl rfl rfl ?_ | refine yY rfl rfl rfl ?_ | refine yO rfl rfl rfl ?_ | refine yW rfl rfl ?_ | refine yV rfl rfl rfl rfl (by assumption) rfl rfl rfl rfl ?_ | refine yP rfl rfl rfl (cmpCompare_ok _ _) rfl ?_ | refine yP rfl rfl rfl (cmpOr_ok [cmpI e.f f.f, cmpI e.l f.l, cmpI e.t f.t]) rfl ?_ ) | refine popN rfl ?_ | (refine yG rfl rfl ?_ ?_ <;> intro hb <;> subst hb)) | refine AWp.seq ?_ | refine reg (by kernel_rfl) ?_ | refine lexE ?_ | refine regD (noisy []) mixed (by kernel_rfl) (by kernel_rfl) ?_) | (refine AWp.cond rfl (fun hb => ?_) (fun hb => ?_) <;> cases hb) | refine AWp.skip ?_ | refine AWp.exit ?_ | refine AWp.block ?_ | refine AWp.ret ⟨_, rfl, ?_⟩))
  rfl
theorem sysAt_0 {s : Sys} {e : Edg} (h : s.es[0]? = some e) : sysAt s 0 = edgeOk s.al s.st e := by
  unfold sysAt; rw [h]; simp
theorem sysAt_s {s : Sys} {k : Nat} {e p : Edg} (h : s.es[k + 1]? = some e) (hp : s.es[k]? = some p) : sysAt s (k + 1) = (edgeOk s.al s.st e && befB p e) := by
  unfold sysAt; rw [h]; simp [hp]
theorem range_step {k : Nat} {f : Nat → Bool} (h : ∀ i, i < k → f i = true) (h1 : f k = true) : ∀ i, i < k + 1 → f i = true := fun i hi => by
  rcases Nat.lt_succ_iff_lt_or_eq.1 hi with h2 | h2
  · exact h i h2
  · rw [h2]; exact h1
theorem sysOk_bad {s : Sys} {k : Nat} (hk : k < s.es.length) (h : sysAt s k = false) : sysOk s = false := by
  have h1 : (List.range s.es.length).all (sysAt s) = false := by
    rw [List.all_eq_false]; exact ⟨k, List.mem_range.2 hk, by simp [h]⟩
  unfold sysOk; rw [h1]; simp
theorem sysOk_good {s : Sys} {k : Nat} (h0 : alphB s.al = true) (h1 : 1 ≤ s.st ∧ s.st ≤ 16) (hk : s.es.length ≤ k) (h : ∀ i, i < k → sysAt s i = true) : sysOk s = true := by
  have h1 : (List.range s.es.length).all (sysAt s) = true := by
    rw [List.all_eq_true]; intro i hi; exact h i (by have := List.mem_range.1 hi; omega)
  unfold sysOk; rw [h1]; grind
theorem specSystemValid_ok (s : Sys) : Pure Tryd.prog TB 30 [eSys s] (eB (sysOk s)) := by
  refine Spec.of Tryd.func30 rfl (by kernel_rfl) (Nat.le_of_ble_eq_true rfl) ?_; intro Γ hΓ
  (repeat' (first | (first | (refine popO rfl ?_; first | (refine gA rfl ?_; first | refine yLm rfl rfl ?_ | ((first | refine yQ (md := false) rfl ?_ ?_ | refine yL rfl rfl (by assumption) rfl rfl ?_ ?_ | refine yT rfl rfl (by assumption) rfl ?_ ?_); (first | exact True.intro | omega | (simp only [oA, oB, oC, oD, oE, oF, oG] at *; omega))) | (refine yB rfl ?_; intro _ _hb) | refine yS rfl rfl ?_ | refine yM rfl rfl (by assumption) rfl rfl rfl ?_ | refine yZ rfl rfl rfl rfl rfl rfl ?_ | refine yY rfl rfl rfl ?_ | refine yO rfl rfl rfl ?_ | refine yW rfl rfl ?_ | refine yV rfl rfl rfl rfl (by assumption) rfl rfl rfl rfl ?_ | (refine yC rfl rfl rfl (l1Alphabet_ok _) ?_; intro _ _hb) ) | refine popN rfl ?_ | (refine yG rfl rfl ?_ ?_ <;> intro hb <;> subst hb)) | refine AWp.seq ?_ | refine reg (by kernel_rfl) ?_ | refine lexE ?_ | refine regD (noisy []) mixed (by kernel_rfl) (by kernel_rfl) ?_) | (refine AWp.cond rfl (fun hb => ?_) (fun hb => ?_) <;> cases hb) | refine AWp.skip ?_ | refine AWp.exit ?_ | refine AWp.block ?_ | refine AWp.ret ⟨_, rfl, ?_⟩))
  all_goals try (show E.o _ = E.o _; congr; unfold sysOk; (try simp only [List.length_map] at *); grind)
  refine AWp.bound 1 rfl fun hB => ?_
  have hB := hB (s.es.map edRow) (.p (j := 2) rfl .refl)
  refine AWp.loopL (α := {k : Nat // k ≤ s.es.length ∧ ∀ i, i < k → sysAt s i = true}) (fun ⟨k, hk, ha⟩ => [(1, .o (.ip (syRow s))), (3, eI .i64 k)]) (fun ⟨k, hk, ha⟩ => []) 0 (fun ⟨k, hk, ha⟩ => s.es.length - k) (⟨0, by omega, by omega⟩) [] (by first | (simp [hΓ]; done) | (rw [hΓ]; decide)) (by (repeat' (first | exact trivial | rfl | refine And.intro ?_ ?_)) <;> simp [EnvSub, StoreSub, look_cons, nm, E.ren, C.ren, C.renL, O.ren, killc, kill0, Function.comp_def, argsFrom, zC, hΓ]) ?_; rintro ⟨k, hk, ha⟩; try dsimp only
  (repeat (first | (refine popO rfl ?_; first | (refine gA rfl ?_; first | refine yLm rfl rfl ?_ | ((first | refine yQ (md := false) rfl ?_ ?_ | refine yL rfl rfl (by assumption) rfl rfl ?_ ?_ | refine yT rfl rfl (by assumption) rfl ?_ ?_); (first | exact True.intro | omega | (simp only [oA, oB, oC, oD, oE, oF, oG] at *; omega))) | (refine yB rfl ?_; intro _ _hb) | refine yS rfl rfl ?_ | refine yM rfl rfl (by assumption) rfl rfl rfl ?_ | refine yZ rfl rfl rfl rfl rfl rfl ?_ | refine yY rfl rfl rfl ?_ | refine yO rfl rfl rfl ?_ | refine yW rfl rfl ?_ | refine yV rfl rfl rfl rfl (by assumption) rfl rfl rfl rfl ?_ ) | refine popN rfl ?_ | (refine yG rfl rfl ?_ ?_ <;> intro hb <;> subst hb)) | refine AWp.seq ?_ | refine reg (by kernel_rfl) ?_ | refine lexE ?_ | refine regD (noisy []) mixed (by kernel_rfl) (by kernel_rfl) ?_))
  (refine AWp.cond rfl (fun hb => ?_) (fun hb => ?_) <;> cases hb)
  · obtain ⟨e, hx⟩ := get_some (l := s.es) (k := k) (by first | omega | (simp only [oA, oB, oC, oD, oE, oF, oG] at *; omega))
    have hx' := get_map (g := edRow) hx
    cases k with
    | zero =>
      have h1 := sysAt_0 hx
      (repeat' (first | (first | (refine popO rfl ?_; first | (refine gA rfl ?_; first | refine yLm rfl rfl ?_ | ((first | refine yQ (md := false) rfl ?_ ?_ | refine yL rfl rfl (by assumption) rfl rfl ?_ ?_ | refine yT rfl rfl (by assumption) rfl ?_ ?_); (first | exact True.intro | omega | (simp only [oA, oB, oC, oD, oE, oF, oG] at *; omega))) | (refine yB rfl ?_; intro _ _hb) | refine yS rfl rfl ?_ | refine yM rfl rfl (by assumption) rfl rfl rfl ?_ | refine yZ rfl rfl rfl rfl rfl rfl ?_ | refine yY rfl rfl rfl ?_ | refine yO rfl rfl rfl ?_ | refine yW rfl rfl ?_ | refine yV rfl rfl rfl rfl (by assumption) rfl rfl rfl rfl ?_ | (refine yC rfl rfl rfl (l2Edge_ok _ _ e) ?_; intro _ _hb) | (refine yC rfl rfl rfl (l2Before_ok _ _) ?_; intro _ _hb) ) | refine popN rfl ?_ | (refine yG rfl rfl ?_ ?_ <;> intro hb <;> subst hb)) | refine AWp.seq ?_ | refine reg (by kernel_rfl) ?_ | refine lexE ?_ | refine regD (noisy []) mixed (by kernel_rfl) (by kernel_rfl) ?_) | (refine AWp.cond rfl (fun hb => ?_) (fun hb => ?_) <;> cases hb) | refine AWp.skip ?_ | refine AWp.exit ?_ | refine AWp.block ?_ | refine AWp.ret ⟨_, rfl, ?_⟩))
      all_goals first
        | (exfalso; first | omega | (simp only [oA, oB, oC, oD, oE, oF, oG] at *; omega); done)
        | (have h2 := sysOk_bad (s := s) (k := 0) (by first | omega | (simp only [oA, oB, oC, oD, oE, oF, oG] at *; omega)) (by grind); show E.o _ = E.o _; congr; exact h2.symm; done)
        | (refine ⟨⟨0 + 1, by first | omega | (simp only [oA, oB, oC, oD, oE, oF, oG] at *; omega), range_step ha (by grind)⟩, by dsimp only; (first | omega | (simp only [oA, oB, oC, oD, oE, oF, oG] at *; omega)), [], ?_⟩; simp [EnvSub, StoreSub, look_cons, nm, E.ren, C.ren, C.renL, O.ren, killc, kill0, Function.comp_def, argsFrom, zC, hΓ]; done)
    | succ k =>
      obtain ⟨p, hp⟩ := get_some (l := s.es) (k := k) (by first | omega | (simp only [oA, oB, oC, oD, oE, oF, oG] at *; omega))
      have hp' : (s.es.map edRow)[(((k + 1 : Nat) : Int) - 1).toNat]? = some (edRow p) := by simp [hp]
      have h1 := sysAt_s hx hp
      (repeat' (first | (first | (refine popO rfl ?_; first | (refine gA rfl ?_; first | refine yLm rfl rfl ?_ | ((first | refine yQ (md := false) rfl ?_ ?_ | refine yL rfl rfl (by assumption) rfl rfl ?_ ?_ | refine yT rfl rfl (by assumption) rfl ?_ ?_); (first | exact True.intro | omega | (simp only [oA, oB, oC, oD, oE, oF, oG] at *; omega))) | (refine yB rfl ?_; intro _ _hb) | refine yS rfl rfl ?_ | refine yM rfl rfl (by assumption) rfl rfl rfl ?_ | refine yZ rfl rfl rfl rfl rfl rfl ?_ | refine yY rfl rfl rfl ?_ | refine yO rfl rfl rfl ?_ | refine yW rfl rfl ?_ | refine yV rfl rfl rfl rfl (by assumption) rfl rfl rfl rfl ?_ | (refine yC rfl rfl rfl (l2Edge_ok _ _ e) ?_; intro _ _hb) | (refine yC rfl rfl rfl (l2Before_ok p e) ?_; intro _ _hb) ) | refine popN rfl ?_ | (refine yG rfl rfl ?_ ?_ <;> intro hb <;> subst hb)) | refine AWp.seq ?_ | refine reg (by kernel_rfl) ?_ | refine lexE ?_ | refine regD (noisy []) mixed (by kernel_rfl) (by kernel_rfl) ?_) | (refine AWp.cond rfl (fun hb => ?_) (fun hb => ?_) <;> cases hb) | refine AWp.skip ?_ | refine AWp.exit ?_ | refine AWp.block ?_ | refine AWp.ret ⟨_, rfl, ?_⟩))
      all_goals first
        | (exfalso; first | omega | (simp only [oA, oB, oC, oD, oE, oF, oG] at *; omega); done)
        | (have h2 := sysOk_bad (s := s) (k := k + 1) (by first | omega | (simp only [oA, oB, oC, oD, oE, oF, oG] at *; omega)) (by grind); show E.o _ = E.o _; congr; exact h2.symm; done)
        | (refine ⟨⟨k + 1 + 1, by first | omega | (simp only [oA, oB, oC, oD, oE, oF, oG] at *; omega), range_step ha (by grind)⟩, by dsimp only; (first | omega | (simp only [oA, oB, oC, oD, oE, oF, oG] at *; omega)), [], ?_⟩; simp [EnvSub, StoreSub, look_cons, nm, E.ren, C.ren, C.renL, O.ren, killc, kill0, Function.comp_def, argsFrom, zC, hΓ]; done)
  · (repeat' (first | (first | (refine popO rfl ?_; first | (refine gA rfl ?_; first | refine yLm rfl rfl ?_ | ((first | refine yQ (md := false) rfl ?_ ?_ | refine yL rfl rfl (by assumption) rfl rfl ?_ ?_ | refine yT rfl rfl (by assumption) rfl ?_ ?_); (first | exact True.intro | omega | (simp only [oA, oB, oC, oD, oE, oF, oG] at *; omega))) | (refine yB rfl ?_; intro _ _hb) | refine yS rfl rfl ?_ | refine yM rfl rfl (by assumption) rfl rfl rfl ?_ | refine yZ rfl rfl rfl rfl rfl rfl ?_ | refine yY rfl rfl rfl ?_ | refine yO rfl rfl rfl ?_ | refine yW rfl rfl ?_ | refine yV rfl rfl rfl rfl (by assumption) rfl rfl rfl rfl ?_ ) | refine popN rfl ?_ | (refine yG rfl rfl ?_ ?_ <;> intro hb <;> subst hb)) | refine AWp.seq ?_ | refine reg (by kernel_rfl) ?_ | refine lexE ?_ | refine regD (noisy []) mixed (by kernel_rfl) (by kernel_rfl) ?_) | (refine AWp.cond rfl (fun hb => ?_) (fun hb => ?_) <;> cases hb) | refine AWp.skip ?_ | refine AWp.exit ?_ | refine AWp.block ?_ | refine AWp.ret ⟨_, rfl, ?_⟩))
    have h2 := sysOk_good (s := s) (by grind) (by grind) (by first | omega | (simp only [oA, oB, oC, oD, oE, oF, oG] at *; omega)) ha
    show E.o _ = E.o _; congr; exact h2.symm
end Go.Am
/-
  Systems and automata are valid, the program's way.
-/
namespace Go.Am
open Go Go.Proofs
set_option linter.unusedSimpArgs false
set_option linter.unusedVariables false
attribute [local irreducible] QOp AOp Lex LexO AWp Spec
variable {TB : List (Nat × Obj)}

theorem edgeOk_of {s : Sys} {e : Edg} : edgeOk s.al s.st e = (decide (0 ≤ e.f ∧ e.f < s.st) && decide (0 ≤ e.t ∧ e.t < s.st) && decide (e.l < 6) && hasB s.al e.l) := by
  unfold edgeOk hasB; grind
theorem implSystemValid_ok (s : Sys) : Pure Tryd.prog TB 39 [eSys s] (eB (sysOk s)) := by
  refine Spec.of Tryd.func39 rfl (by kernel_rfl) (Nat.le_of_ble_eq_true rfl) ?_; intro Γ hΓ
  (repeat' (first | (first | (refine popO rfl ?_; first | (refine gA rfl ?_; first | refine yLm rfl rfl ?_ | ((first | refine yQ (md := false) rfl ?_ ?_ | refine yL rfl rfl (by assumption) rfl rfl ?_ ?_ | refine yT rfl rfl (by assumption) rfl ?_ ?_); (first | exact True.intro | omega | (simp only [oA, oB, oC, oD, oE, oF, oG] at *; omega))) | (refine yB rfl ?_; intro _ _hb) | refine yS rfl rfl ?_ | refine yM rfl rfl (by assumption) rfl rfl rfl ?_ | refine yZ rfl rfl rfl rfl rfl rfl ?_ | refine yY rfl rfl rfl ?_ | refine yO rfl rfl rfl ?_ | refine yW rfl rfl ?_ | refine yV rfl rfl rfl rfl (by assumption) rfl rfl rfl rfl ?_ | (refine yC rfl rfl rfl (isAlphabet_ok _) ?_; intro _ _hb) ) | refine popN rfl ?_ | (refine yG rfl rfl ?_ ?_ <;> intro hb <;> subst hb)) | refine AWp.seq ?_ | refine reg (by kernel_rfl) ?_ | refine lexE ?_ | refine regD (noisy []) mixed (by kernel_rfl) (by kernel_rfl) ?_) | (refine AWp.cond rfl (fun hb => ?_) (fun hb => ?_) <;> cases hb) | refine AWp.skip ?_ | refine AWp.exit ?_ | refine AWp.block ?_ | refine AWp.ret ⟨_, rfl, ?_⟩))
  all_goals try (show E.o _ = E.o _; congr; unfold sysOk; (try simp only [List.length_map] at *); grind)
  refine AWp.bound 1 rfl fun hB => ?_
  have hB := hB (s.es.map edRow) (.p (j := 2) rfl .refl)
  refine AWp.loopL (α := {k : Nat // k ≤ s.es.length ∧ ∀ i, i < k → sysAt s i = true}) (fun ⟨k, hk, ha⟩ => [(1, .o (.ip (syRow s))), (20, .o (.d (edList s.es))), (21, eI .i64 s.es.length), (22, eI .i64 k)]) (fun ⟨k, hk, ha⟩ => []) 0 (fun ⟨k, hk, ha⟩ => s.es.length - k) (⟨0, by omega, by omega⟩) [] (by first | (simp [hΓ]; done) | (rw [hΓ]; decide)) (by (repeat' (first | exact trivial | rfl | refine And.intro ?_ ?_)) <;> simp [EnvSub, StoreSub, look_cons, nm, E.ren, C.ren, C.renL, O.ren, killc, kill0, Function.comp_def, argsFrom, zC, hΓ]) ?_; rintro ⟨k, hk, ha⟩; try dsimp only
  (repeat (first | (refine popO rfl ?_; first | (refine gA rfl ?_; first | refine yLm rfl rfl ?_ | ((first | refine yQ (md := false) rfl ?_ ?_ | refine yL rfl rfl (by assumption) rfl rfl ?_ ?_ | refine yT rfl rfl (by assumption) rfl ?_ ?_); (first | exact True.intro | omega | (simp only [oA, oB, oC, oD, oE, oF, oG] at *; omega))) | (refine yB rfl ?_; intro _ _hb) | refine yS rfl rfl ?_ | refine yM rfl rfl (by assumption) rfl rfl rfl ?_ | refine yZ rfl rfl rfl rfl rfl rfl ?_ | refine yY rfl rfl rfl ?_ | refine yO rfl rfl rfl ?_ | refine yW rfl rfl ?_ | refine yV rfl rfl rfl rfl (by assumption) rfl rfl rfl rfl ?_ ) | refine popN rfl ?_ | (refine yG rfl rfl ?_ ?_ <;> intro hb <;> subst hb)) | refine AWp.seq ?_ | refine reg (by kernel_rfl) ?_ | refine lexE ?_ | refine regD (noisy []) mixed (by kernel_rfl) (by kernel_rfl) ?_))
  (refine AWp.cond rfl (fun hb => ?_) (fun hb => ?_) <;> cases hb)
  · obtain ⟨e, hx⟩ := get_some (l := s.es) (k := k) (by first | omega | (simp only [oA, oB, oC, oD, oE, oF, oG] at *; omega))
    have hx' := get_map (g := edRow) hx
    cases k with
    | zero =>
      have h1 := sysAt_0 hx
      rw [edgeOk_of] at h1
      (repeat' (first | (first | (refine popO rfl ?_; first | (refine gA rfl ?_; first | refine yLm rfl rfl ?_ | ((first | refine yQ (md := false) rfl ?_ ?_ | refine yL rfl rfl (by assumption) rfl rfl ?_ ?_ | refine yT rfl rfl (by assumption) rfl ?_ ?_); (first | exact True.intro | omega | (simp only [oA, oB, oC, oD, oE, oF, oG] at *; omega))) | (refine yB rfl ?_; intro _ _hb) | refine yS rfl rfl ?_ | refine yM rfl rfl (by assumption) rfl rfl rfl ?_ | refine yZ rfl rfl rfl rfl rfl rfl ?_ | refine yY rfl rfl rfl ?_ | refine yO rfl rfl rfl ?_ | refine yW rfl rfl ?_ | refine yV rfl rfl rfl rfl (by assumption) rfl rfl rfl rfl ?_ | (refine yC rfl rfl rfl (isState_ok s _) ?_; intro _ _hb) | (refine yC rfl rfl rfl (has_ok _ _) ?_; intro _ _hb) ) | refine popN rfl ?_ | (refine yG rfl rfl ?_ ?_ <;> intro hb <;> subst hb)) | refine AWp.seq ?_ | refine reg (by kernel_rfl) ?_ | refine lexE ?_ | refine regD (noisy []) mixed (by kernel_rfl) (by kernel_rfl) ?_) | (refine AWp.cond rfl (fun hb => ?_) (fun hb => ?_) <;> cases hb) | refine AWp.skip ?_ | refine AWp.exit ?_ | refine AWp.block ?_ | refine AWp.ret ⟨_, rfl, ?_⟩))
      all_goals first
        | (exfalso; first | omega | (simp only [oA, oB, oC, oD, oE, oF, oG] at *; omega); done)
        | (have h2 := sysOk_bad (s := s) (k := 0) (by first | omega | (simp only [oA, oB, oC, oD, oE, oF, oG] at *; omega)) (by grind); show E.o _ = E.o _; congr; exact h2.symm; done)
        | (refine ⟨⟨0 + 1, by first | omega | (simp only [oA, oB, oC, oD, oE, oF, oG] at *; omega), range_step ha (by grind)⟩, by dsimp only; (first | omega | (simp only [oA, oB, oC, oD, oE, oF, oG] at *; omega)), [], ?_⟩; simp [EnvSub, StoreSub, look_cons, nm, E.ren, C.ren, C.renL, O.ren, killc, kill0, Function.comp_def, argsFrom, zC, hΓ]; done)
    | succ k =>
      obtain ⟨p, hp⟩ := get_some (l := s.es) (k := k) (by first | omega | (simp only [oA, oB, oC, oD, oE, oF, oG] at *; omega))
      have hp' : (s.es.map edRow)[(((k + 1 : Nat) : Int) - 1).toNat]? = some (edRow p) := by simp [hp]
      have h1 := sysAt_s hx hp
      have h3 := cmpE_bef p e
      rw [edgeOk_of] at h1
      (repeat' (first | (first | (refine popO rfl ?_; first | (refine gA rfl ?_; first | refine yLm rfl rfl ?_ | ((first | refine yQ (md := false) rfl ?_ ?_ | refine yL rfl rfl (by assumption) rfl rfl ?_ ?_ | refine yT rfl rfl (by assumption) rfl ?_ ?_); (first | exact True.intro | omega | (simp only [oA, oB, oC, oD, oE, oF, oG] at *; omega))) | (refine yB rfl ?_; intro _ _hb) | refine yS rfl rfl ?_ | refine yM rfl rfl (by assumption) rfl rfl rfl ?_ | refine yZ rfl rfl rfl rfl rfl rfl ?_ | refine yY rfl rfl rfl ?_ | refine yO rfl rfl rfl ?_ | refine yW rfl rfl ?_ | refine yV rfl rfl rfl rfl (by assumption) rfl rfl rfl rfl ?_ | (refine yC rfl rfl rfl (isState_ok s _) ?_; intro _ _hb) | (refine yC rfl rfl rfl (has_ok _ _) ?_; intro _ _hb) | refine yP rfl rfl rfl (compareEdges_ok p e) rfl ?_ ) | refine popN rfl ?_ | (refine yG rfl rfl ?_ ?_ <;> intro hb <;> subst hb)) | refine AWp.seq ?_ | refine reg (by kernel_rfl) ?_ | refine lexE ?_ | refine regD (noisy []) mixed (by kernel_rfl) (by kernel_rfl) ?_) | (refine AWp.cond rfl (fun hb => ?_) (fun hb => ?_) <;> cases hb) | refine AWp.skip ?_ | refine AWp.exit ?_ | refine AWp.block ?_ | refine AWp.ret ⟨_, rfl, ?_⟩))
      all_goals first
        | (exfalso; first | omega | (simp only [oA, oB, oC, oD, oE, oF, oG] at *; omega); done)
        | (have h2 := sysOk_bad (s := s) (k := k + 1) (by first | omega | (simp only [oA, oB, oC, oD, oE, oF, oG] at *; omega)) (by grind); show E.o _ = E.o _; congr; exact h2.symm; done)
        | (refine ⟨⟨k + 1 + 1, by first | omega | (simp only [oA, oB, oC, oD, oE, oF, oG] at *; omega), range_step ha (by grind)⟩, by dsimp only; (first | omega | (simp only [oA, oB, oC, oD, oE, oF, oG] at *; omega)), [], ?_⟩; simp [EnvSub, StoreSub, look_cons, nm, E.ren, C.ren, C.renL, O.ren, killc, kill0, Function.comp_def, argsFrom, zC, hΓ]; done)
  · (repeat' (first | (first | (refine popO rfl ?_; first | (refine gA rfl ?_; first | refine yLm rfl rfl ?_ | ((first | refine yQ (md := false) rfl ?_ ?_ | refine yL rfl rfl (by assumption) rfl rfl ?_ ?_ | refine yT rfl rfl (by assumption) rfl ?_ ?_); (first | exact True.intro | omega | (simp only [oA, oB, oC, oD, oE, oF, oG] at *; omega))) | (refine yB rfl ?_; intro _ _hb) | refine yS rfl rfl ?_ | refine yM rfl rfl (by assumption) rfl rfl rfl ?_ | refine yZ rfl rfl rfl rfl rfl rfl ?_ | refine yY rfl rfl rfl ?_ | refine yO rfl rfl rfl ?_ | refine yW rfl rfl ?_ | refine yV rfl rfl rfl rfl (by assumption) rfl rfl rfl rfl ?_ ) | refine popN rfl ?_ | (refine yG rfl rfl ?_ ?_ <;> intro hb <;> subst hb)) | refine AWp.seq ?_ | refine reg (by kernel_rfl) ?_ | refine lexE ?_ | refine regD (noisy []) mixed (by kernel_rfl) (by kernel_rfl) ?_) | (refine AWp.cond rfl (fun hb => ?_) (fun hb => ?_) <;> cases hb) | refine AWp.skip ?_ | refine AWp.exit ?_ | refine AWp.block ?_ | refine AWp.ret ⟨_, rfl, ?_⟩))
    have h2 := sysOk_good (s := s) (by grind) (by grind) (by first | omega | (simp only [oA, oB, oC, oD, oE, oF, oG] at *; omega)) ha
    show E.o _ = E.o _; congr; exact h2.symm
end Go.Am
/-
  Automata are valid, the program's way; three things together; steps of automata.
-/
namespace Go.Am
open Go Go.Proofs
set_option linter.unusedSimpArgs false
set_option linter.unusedVariables false
attribute [local irreducible] QOp AOp Lex LexO AWp Spec
variable {TB : List (Nat × Obj)}

theorem autOk_bad {a : Aut} {k : Nat} {x : List Int} (hx : a.nx[k]? = some x) (h : rowOk (letters a.al).length a.nx.length x = false) : autOk a = false := by
  have h1 := all_bad (f := rowOk (letters a.al).length a.nx.length) hx h
  unfold autOk; rw [h1]; simp
theorem autOk_good {a : Aut} {k : Nat} (h0 : alphB a.al = true) (h1 : 1 ≤ a.nx.length ∧ a.nx.length ≤ 12) (h2 : a.ac.length = a.nx.length) (hk : a.nx.length ≤ k) (h : (a.nx.take k).all (rowOk (letters a.al).length a.nx.length) = true) : autOk a = true := by
  have h3 := all_done h hk
  unfold autOk; rw [h3]; grind
theorem implAutomatonValid_ok (a : Aut) : Pure Tryd.prog TB 23 [eAut a] (eB (autOk a)) := by
  refine Spec.of Tryd.func23 rfl (by kernel_rfl) (Nat.le_of_ble_eq_true rfl) ?_; intro Γ hΓ
  (repeat' (first | (first | (refine popO rfl ?_; first | (refine gA rfl ?_; first | refine yLm rfl rfl ?_ | ((first | refine yQ (md := false) rfl ?_ ?_ | refine yL rfl rfl (by assumption) rfl rfl ?_ ?_ | refine yT rfl rfl (by assumption) rfl ?_ ?_); (first | exact True.intro | omega | (simp only [oA, oB, oC, oD, oE, oF, oG] at *; omega))) | (refine yB rfl ?_; intro _ _hb) | refine yS rfl rfl ?_ | refine yM rfl rfl (by assumption) rfl rfl rfl ?_ | refine yZ rfl rfl rfl rfl rfl rfl ?_ | refine yY rfl rfl rfl ?_ | refine yO rfl rfl rfl ?_ | refine yW rfl rfl ?_ | refine yV rfl rfl rfl rfl (by assumption) rfl rfl rfl rfl ?_ | (refine yC rfl rfl rfl (isAlphabet_ok _) ?_; intro _ _hb) | refine yP rfl rfl rfl (lettersOf_ok _) rfl ?_ ) | refine popN rfl ?_ | (refine yG rfl rfl ?_ ?_ <;> intro hb <;> subst hb)) | refine AWp.seq ?_ | refine reg (by kernel_rfl) ?_ | refine lexE ?_ | refine regD (noisy []) mixed (by kernel_rfl) (by kernel_rfl) ?_) | (refine AWp.cond rfl (fun hb => ?_) (fun hb => ?_) <;> cases hb) | refine AWp.skip ?_ | refine AWp.exit ?_ | refine AWp.block ?_ | refine AWp.ret ⟨_, rfl, ?_⟩))
  all_goals try (show E.o _ = E.o _; congr; unfold autOk; (try simp only [List.length_map] at *); grind)
  refine AWp.bound 1 rfl fun hB => ?_
  have hB := hB (a.nx.map iiRow) (.p (j := 1) rfl .refl)
  refine AWp.loopL (α := {k : Nat // k ≤ a.nx.length ∧ (a.nx.take k).all (rowOk (letters a.al).length a.nx.length) = true}) (fun ⟨k, hk, ha⟩ => [(1, .o (.ip (auRow a))), (3, eI .i64 (letters a.al).length), (38, eIntss a.nx), (39, eI .i64 a.nx.length), (40, eI .i64 k)]) (fun ⟨k, hk, ha⟩ => []) 0 (fun ⟨k, hk, ha⟩ => a.nx.length - k) (⟨0, by omega, rfl⟩) [] (by first | (simp [hΓ]; done) | (rw [hΓ]; decide)) (by (repeat' (first | exact trivial | rfl | refine And.intro ?_ ?_)) <;> simp [EnvSub, StoreSub, look_cons, nm, E.ren, C.ren, C.renL, O.ren, killc, kill0, Function.comp_def, argsFrom, zC, hΓ]) ?_; rintro ⟨k, hk, ha⟩; try dsimp only
  (repeat (first | (refine popO rfl ?_; first | (refine gA rfl ?_; first | refine yLm rfl rfl ?_ | ((first | refine yQ (md := false) rfl ?_ ?_ | refine yL rfl rfl (by assumption) rfl rfl ?_ ?_ | refine yT rfl rfl (by assumption) rfl ?_ ?_); (first | exact True.intro | omega | (simp only [oA, oB, oC, oD, oE, oF, oG] at *; omega))) | (refine yB rfl ?_; intro _ _hb) | refine yS rfl rfl ?_ | refine yM rfl rfl (by assumption) rfl rfl rfl ?_ | refine yZ rfl rfl rfl rfl rfl rfl ?_ | refine yY rfl rfl rfl ?_ | refine yO rfl rfl rfl ?_ | refine yW rfl rfl ?_ | refine yV rfl rfl rfl rfl (by assumption) rfl rfl rfl rfl ?_ ) | refine popN rfl ?_ | (refine yG rfl rfl ?_ ?_ <;> intro hb <;> subst hb)) | refine AWp.seq ?_ | refine reg (by kernel_rfl) ?_ | refine lexE ?_ | refine regD (noisy []) mixed (by kernel_rfl) (by kernel_rfl) ?_))
  (refine AWp.cond rfl (fun hb => ?_) (fun hb => ?_) <;> cases hb)
  · obtain ⟨x, hx⟩ := get_some (l := a.nx) (k := k) (by first | omega | (simp only [oA, oB, oC, oD, oE, oF, oG] at *; omega))
    have hx' := get_map (g := iiRow) hx
    (repeat' (first | (first | (refine popO rfl ?_; first | (refine gA rfl ?_; first | refine yLm rfl rfl ?_ | ((first | refine yQ (md := false) rfl ?_ ?_ | refine yL rfl rfl (by assumption) rfl rfl ?_ ?_ | refine yT rfl rfl (by assumption) rfl ?_ ?_); (first | exact True.intro | omega | (simp only [oA, oB, oC, oD, oE, oF, oG] at *; omega))) | (refine yB rfl ?_; intro _ _hb) | refine yS rfl rfl ?_ | refine yM rfl rfl (by assumption) rfl rfl rfl ?_ | refine yZ rfl rfl rfl rfl rfl rfl ?_ | refine yY rfl rfl rfl ?_ | refine yO rfl rfl rfl ?_ | refine yW rfl rfl ?_ | refine yV rfl rfl rfl rfl (by assumption) rfl rfl rfl rfl ?_ ) | refine popN rfl ?_ | (refine yG rfl rfl ?_ ?_ <;> intro hb <;> subst hb)) | refine AWp.seq ?_ | refine reg (by kernel_rfl) ?_ | refine lexE ?_ | refine regD (noisy []) mixed (by kernel_rfl) (by kernel_rfl) ?_) | (refine AWp.cond rfl (fun hb => ?_) (fun hb => ?_) <;> cases hb) | refine AWp.skip ?_ | refine AWp.exit ?_ | refine AWp.block ?_ | refine AWp.ret ⟨_, rfl, ?_⟩))
    · have h2 := autOk_bad hx (by unfold rowOk; grind)
      show E.o _ = E.o _; congr; exact h2.symm
    refine AWp.bound 5 rfl fun hB2 => ?_
    have hB2 := hB2 (x.map iRow) .refl
    refine AWp.loopL (α := {j : Nat // j ≤ x.length ∧ (x.take j).all (stOk a.nx.length) = true}) (fun ⟨j, hj, hc⟩ => [(1, .o (.ip (auRow a))), (3, eI .i64 (letters a.al).length), (38, eIntss a.nx), (39, eI .i64 a.nx.length), (40, eI .i64 k), (48, eInts x), (49, eI .i64 x.length), (50, eI .i64 j)]) (fun ⟨j, hj, hc⟩ => []) 0 (fun ⟨j, hj, hc⟩ => x.length - j) (⟨0, by omega, rfl⟩) [] (by first | (simp [hΓ]; done) | (rw [hΓ]; decide)) (by (repeat' (first | exact trivial | rfl | refine And.intro ?_ ?_)) <;> simp [EnvSub, StoreSub, look_cons, nm, E.ren, C.ren, C.renL, O.ren, killc, kill0, Function.comp_def, argsFrom, zC, hΓ]) ?_; rintro ⟨j, hj, hc⟩; try dsimp only
    (repeat (first | (refine popO rfl ?_; first | (refine gA rfl ?_; first | refine yLm rfl rfl ?_ | ((first | refine yQ (md := false) rfl ?_ ?_ | refine yL rfl rfl (by assumption) rfl rfl ?_ ?_ | refine yT rfl rfl (by assumption) rfl ?_ ?_); (first | exact True.intro | omega | (simp only [oA, oB, oC, oD, oE, oF, oG] at *; omega))) | (refine yB rfl ?_; intro _ _hb) | refine yS rfl rfl ?_ | refine yM rfl rfl (by assumption) rfl rfl rfl ?_ | refine yZ rfl rfl rfl rfl rfl rfl ?_ | refine yY rfl rfl rfl ?_ | refine yO rfl rfl rfl ?_ | refine yW rfl rfl ?_ | refine yV rfl rfl rfl rfl (by assumption) rfl rfl rfl rfl ?_ ) | refine popN rfl ?_ | (refine yG rfl rfl ?_ ?_ <;> intro hb <;> subst hb)) | refine AWp.seq ?_ | refine reg (by kernel_rfl) ?_ | refine lexE ?_ | refine regD (noisy []) mixed (by kernel_rfl) (by kernel_rfl) ?_))
    (refine AWp.cond rfl (fun hb => ?_) (fun hb => ?_) <;> cases hb)
    · obtain ⟨y, hy⟩ := get_some (l := x) (k := j) (by first | omega | (simp only [oA, oB, oC, oD, oE, oF, oG] at *; omega))
      have hy' := get_map (g := iRow) hy
      (repeat' (first | (first | (refine popO rfl ?_; first | (refine gA rfl ?_; first | refine yLm rfl rfl ?_ | ((first | refine yQ (md := false) rfl ?_ ?_ | refine yL rfl rfl (by assumption) rfl rfl ?_ ?_ | refine yT rfl rfl (by assumption) rfl ?_ ?_); (first | exact True.intro | omega | (simp only [oA, oB, oC, oD, oE, oF, oG] at *; omega))) | (refine yB rfl ?_; intro _ _hb) | refine yS rfl rfl ?_ | refine yM rfl rfl (by assumption) rfl rfl rfl ?_ | refine yZ rfl rfl rfl rfl rfl rfl ?_ | refine yY rfl rfl rfl ?_ | refine yO rfl rfl rfl ?_ | refine yW rfl rfl ?_ | refine yV rfl rfl rfl rfl (by assumption) rfl rfl rfl rfl ?_ ) | refine popN rfl ?_ | (refine yG rfl rfl ?_ ?_ <;> intro hb <;> subst hb)) | refine AWp.seq ?_ | refine reg (by kernel_rfl) ?_ | refine lexE ?_ | refine regD (noisy []) mixed (by kernel_rfl) (by kernel_rfl) ?_) | (refine AWp.cond rfl (fun hb => ?_) (fun hb => ?_) <;> cases hb) | refine AWp.skip ?_ | refine AWp.exit ?_ | refine AWp.block ?_ | refine AWp.ret ⟨_, rfl, ?_⟩))
      all_goals first
        | (have h2 := autOk_bad hx (by rw [rowOk, all_bad hy (by unfold stOk; grind)]; simp); show E.o _ = E.o _; congr; exact h2.symm; done)
        | (refine ⟨⟨j + 1, by first | omega | (simp only [oA, oB, oC, oD, oE, oF, oG] at *; omega), all_step hy hc (by unfold stOk; grind)⟩, by dsimp only; (first | omega | (simp only [oA, oB, oC, oD, oE, oF, oG] at *; omega)), [], ?_⟩; simp [EnvSub, StoreSub, look_cons, nm, E.ren, C.ren, C.renL, O.ren, killc, kill0, Function.comp_def, argsFrom, zC, hΓ]; done)
    · (repeat' (first | (first | (refine popO rfl ?_; first | (refine gA rfl ?_; first | refine yLm rfl rfl ?_ | ((first | refine yQ (md := false) rfl ?_ ?_ | refine yL rfl rfl (by assumption) rfl rfl ?_ ?_ | refine yT rfl rfl (by assumption) rfl ?_ ?_); (first | exact True.intro | omega | (simp only [oA, oB, oC, oD, oE, oF, oG] at *; omega))) | (refine yB rfl ?_; intro _ _hb) | refine yS rfl rfl ?_ | refine yM rfl rfl (by assumption) rfl rfl rfl ?_ | refine yZ rfl rfl rfl rfl rfl rfl ?_ | refine yY rfl rfl rfl ?_ | refine yO rfl rfl rfl ?_ | refine yW rfl rfl ?_ | refine yV rfl rfl rfl rfl (by assumption) rfl rfl rfl rfl ?_ ) | refine popN rfl ?_ | (refine yG rfl rfl ?_ ?_ <;> intro hb <;> subst hb)) | refine AWp.seq ?_ | refine reg (by kernel_rfl) ?_ | refine lexE ?_ | refine regD (noisy []) mixed (by kernel_rfl) (by kernel_rfl) ?_) | (refine AWp.cond rfl (fun hb => ?_) (fun hb => ?_) <;> cases hb) | refine AWp.skip ?_ | refine AWp.exit ?_ | refine AWp.block ?_ | refine AWp.ret ⟨_, rfl, ?_⟩))
      have h3 := all_done hc (by first | omega | (simp only [oA, oB, oC, oD, oE, oF, oG] at *; omega))
      refine ⟨⟨k + 1, by first | omega | (simp only [oA, oB, oC, oD, oE, oF, oG] at *; omega), all_step hx ha (by rw [rowOk, h3]; grind)⟩, by dsimp only; (first | omega | (simp only [oA, oB, oC, oD, oE, oF, oG] at *; omega)), [], ?_⟩
      simp [EnvSub, StoreSub, look_cons, nm, E.ren, C.ren, C.renL, O.ren, killc, kill0, Function.comp_def, argsFrom, zC, hΓ]
  · (repeat' (first | (first | (refine popO rfl ?_; first | (refine gA rfl ?_; first | refine yLm rfl rfl ?_ | ((first | refine yQ (md := false) rfl ?_ ?_ | refine yL rfl rfl (by assumption) rfl rfl ?_ ?_ | refine yT rfl rfl (by assumption) rfl ?_ ?_); (first | exact True.intro | omega | (simp only [oA, oB, oC, oD, oE, oF, oG] at *; omega))) | (refine yB rfl ?_; intro _ _hb) | refine yS rfl rfl ?_ | refine yM rfl rfl (by assumption) rfl rfl rfl ?_ | refine yZ rfl rfl rfl rfl rfl rfl ?_ | refine yY rfl rfl rfl ?_ | refine yO rfl rfl rfl ?_ | refine yW rfl rfl ?_ | refine yV rfl rfl rfl rfl (by assumption) rfl rfl rfl rfl ?_ ) | refine popN rfl ?_ | (refine yG rfl rfl ?_ ?_ <;> intro hb <;> subst hb)) | refine AWp.seq ?_ | refine reg (by kernel_rfl) ?_ | refine lexE ?_ | refine regD (noisy []) mixed (by kernel_rfl) (by kernel_rfl) ?_) | (refine AWp.cond rfl (fun hb => ?_) (fun hb => ?_) <;> cases hb) | refine AWp.skip ?_ | refine AWp.exit ?_ | refine AWp.block ?_ | refine AWp.ret ⟨_, rfl, ?_⟩))
    have h2 := autOk_good (a := a) (by grind) (by grind) (by grind) (by first | omega | (simp only [oA, oB, oC, oD, oE, oF, oG] at *; omega)) ha
    show E.o _ = E.o _; congr; exact h2.symm
theorem l8Three_ok (s : Sys) (a b : Aut) : Pure Tryd.prog TB 35 [eSys s, eAut a, eAut b] (eB (sysOk s && autOk a && autOk b)) := by
  refine Spec.of Tryd.func35 rfl (by kernel_rfl) (Nat.le_of_ble_eq_true rfl) ?_; intro Γ hΓ
  (repeat' (first | (first | (refine popO rfl ?_; first | (refine gA rfl ?_; first | refine yLm rfl rfl ?_ | ((first | refine yQ (md := false) rfl ?_ ?_ | refine yL rfl rfl (by assumption) rfl rfl ?_ ?_ | refine yT rfl rfl (by assumption) rfl ?_ ?_); (first | exact True.intro | omega | (simp only [oA, oB, oC, oD, oE, oF, oG] at *; omega))) | (refine yB rfl ?_; intro _ _hb) | refine yS rfl rfl ?_ | refine yM rfl rfl (by assumption) rfl rfl rfl ?_ | refine yZ rfl rfl rfl rfl rfl rfl ?_ | refine yY rfl rfl rfl ?_ | refine yO rfl rfl rfl ?_ | refine yW rfl rfl ?_ | refine yV rfl rfl rfl rfl (by assumption) rfl rfl rfl rfl ?_ | (refine yC rfl rfl rfl (specSystemValid_ok s) ?_; intro _ _hb) | (refine yC rfl rfl rfl (specAutomatonValid_ok a) ?_; intro _ _hb) | (refine yC rfl rfl rfl (specAutomatonValid_ok b) ?_; intro _ _hb) ) | refine popN rfl ?_ | (refine yG rfl rfl ?_ ?_ <;> intro hb <;> subst hb)) | refine AWp.seq ?_ | refine reg (by kernel_rfl) ?_ | refine lexE ?_ | refine regD (noisy []) mixed (by kernel_rfl) (by kernel_rfl) ?_) | (refine AWp.cond rfl (fun hb => ?_) (fun hb => ?_) <;> cases hb) | refine AWp.skip ?_ | refine AWp.exit ?_ | refine AWp.block ?_ | refine AWp.ret ⟨_, rfl, ?_⟩))
  all_goals (show E.o _ = E.o _; congr; grind)

/-- A letter's row: where an automaton goes. -/
def goA (a : Aut) (q : Nat) (l : Int) : Int := if bitB a.al l.toNat then ((a.nx.getD q []).getD (lettersTo a.al l.toNat).length 0) else q
theorem lettersTo_lt {s : Int} {l k : Nat} (hl : l < k) (hb : bitB s l = true) : (lettersTo s l).length < (lettersTo s k).length := by
  induction k with
  | zero => omega
  | succ k ih =>
    rw [lettersTo_succ, List.length_append]
    rcases Nat.lt_succ_iff_lt_or_eq.1 hl with h | h
    · have := ih h; omega
    · subst h; rw [if_pos hb]; simp
theorem autOk_row {a : Aut} (h : autOk a = true) {q : Nat} (hq : q < a.nx.length) : ∃ row, a.nx[q]? = some row ∧ row.length = (letters a.al).length ∧ ∀ (i : Nat) (x : Int), row[i]? = some x → 0 ≤ x ∧ x < a.nx.length := by
  obtain ⟨row, hr⟩ := get_some hq
  refine ⟨row, hr, ?_⟩
  unfold autOk at h
  rw [Bool.and_eq_true, List.all_eq_true] at h
  have h1 := h.2 row (List.mem_of_getElem? hr)
  unfold rowOk at h1
  rw [Bool.and_eq_true, List.all_eq_true] at h1
  refine ⟨by grind, fun i x hx => ?_⟩
  have := h1.2 x (List.mem_of_getElem? hx)
  unfold stOk at this; grind
theorem l3Go_ok (a : Aut) (h : autOk a = true) (q : Nat) (hq : q < a.nx.length) (l : Int) (h0 : 0 ≤ l) (h1 : l < 6) : Pure Tryd.prog TB 92 [eAut a, eI .i64 q, eI .i64 l] (eI .i64 (goA a q l)) := by
  refine Spec.of Tryd.func92 rfl (by kernel_rfl) (Nat.le_of_ble_eq_true rfl) ?_; intro Γ hΓ
  obtain ⟨row, hr, hl, hx⟩ := autOk_row h hq
  have hr' := get_map (g := iiRow) hr
  by_cases hb : bitB a.al l.toNat = true
  · have hlt : (lettersTo a.al l.toNat).length < row.length := by rw [hl]; exact lettersTo_lt (by omega) hb
    obtain ⟨y, hy⟩ := get_some hlt
    have hy' := get_map (g := iRow) hy
    (repeat' (first | (first | (refine popO rfl ?_; first | (refine gA rfl ?_; first | refine yLm rfl rfl ?_ | ((first | refine yQ (md := false) rfl ?_ ?_ | refine yL rfl rfl (by assumption) rfl rfl ?_ ?_ | refine yT rfl rfl (by assumption) rfl ?_ ?_); (first | exact True.intro | omega | (simp only [oA, oB, oC, oD, oE, oF, oG] at *; omega))) | (refine yB rfl ?_; intro _ _hb) | refine yS rfl rfl ?_ | refine yM rfl rfl (by assumption) rfl rfl rfl ?_ | refine yZ rfl rfl rfl rfl rfl rfl ?_ | refine yY rfl rfl rfl ?_ | refine yO rfl rfl rfl ?_ | refine yW rfl rfl ?_ | refine yV rfl rfl rfl rfl (by assumption) rfl rfl rfl rfl ?_ | (refine yC rfl rfl rfl (l1Has_ok _ _ (by first | omega | (simp only [oA, oB, oC, oD, oE, oF, oG] at *; omega)) (by first | omega | (simp only [oA, oB, oC, oD, oE, oF, oG] at *; omega))) ?_; intro _ _hb) | refine yP rfl rfl rfl (l1Place_ok _ _ (by first | omega | (simp only [oA, oB, oC, oD, oE, oF, oG] at *; omega)) (by first | omega | (simp only [oA, oB, oC, oD, oE, oF, oG] at *; omega))) rfl ?_ ) | refine popN rfl ?_ | (refine yG rfl rfl ?_ ?_ <;> intro hb <;> subst hb)) | refine AWp.seq ?_ | refine reg (by kernel_rfl) ?_ | refine lexE ?_ | refine regD (noisy []) mixed (by kernel_rfl) (by kernel_rfl) ?_) | (refine AWp.cond rfl (fun hb => ?_) (fun hb => ?_) <;> cases hb) | refine AWp.skip ?_ | refine AWp.exit ?_ | refine AWp.block ?_ | refine AWp.ret ⟨_, rfl, ?_⟩))
    all_goals first
      | (exfalso; grind; done)
      | (show E.o _ = E.o _; congr; unfold goA; rw [if_pos hb]; simp [List.getD, hr, hy]; done)
  · (repeat' (first | (first | (refine popO rfl ?_; first | (refine gA rfl ?_; first | refine yLm rfl rfl ?_ | ((first | refine yQ (md := false) rfl ?_ ?_ | refine yL rfl rfl (by assumption) rfl rfl ?_ ?_ | refine yT rfl rfl (by assumption) rfl ?_ ?_); (first | exact True.intro | omega | (simp only [oA, oB, oC, oD, oE, oF, oG] at *; omega))) | (refine yB rfl ?_; intro _ _hb) | refine yS rfl rfl ?_ | refine yM rfl rfl (by assumption) rfl rfl rfl ?_ | refine yZ rfl rfl rfl rfl rfl rfl ?_ | refine yY rfl rfl rfl ?_ | refine yO rfl rfl rfl ?_ | refine yW rfl rfl ?_ | refine yV rfl rfl rfl rfl (by assumption) rfl rfl rfl rfl ?_ | (refine yC rfl rfl rfl (l1Has_ok _ _ (by first | omega | (simp only [oA, oB, oC, oD, oE, oF, oG] at *; omega)) (by first | omega | (simp only [oA, oB, oC, oD, oE, oF, oG] at *; omega))) ?_; intro _ _hb) ) | refine popN rfl ?_ | (refine yG rfl rfl ?_ ?_ <;> intro hb <;> subst hb)) | refine AWp.seq ?_ | refine reg (by kernel_rfl) ?_ | refine lexE ?_ | refine regD (noisy []) mixed (by kernel_rfl) (by kernel_rfl) ?_) | (refine AWp.cond rfl (fun hb => ?_) (fun hb => ?_) <;> cases hb) | refine AWp.skip ?_ | refine AWp.exit ?_ | refine AWp.block ?_ | refine AWp.ret ⟨_, rfl, ?_⟩))
    all_goals first
      | (show E.o _ = E.o _; congr; unfold goA; rw [if_neg hb]; done)
      | (exfalso; grind; done)
end Go.Am
/-
  The parts of the reference's search, 1.
-/
namespace Go.Am
open Go Go.Proofs
set_option linter.unusedSimpArgs false
set_option linter.unusedVariables false
attribute [local irreducible] QOp AOp Lex LexO AWp Spec
variable {TB : List (Nat × Obj)}

structure Net where
  ps : List Sys
  au : List Aut
  st : List Int
  ls : Int
  kd : Int
  gl : Int
abbrev nRow (n : Net) : List D := [syList n.ps, auList n.au, iList n.st, iD n.ls, iD n.kd, iD n.gl]
abbrev eNet (n : Net) : E := .a [.d (syList n.ps), .d (auList n.au), .d (iList n.st), .d (iD n.ls), .d (iD n.kd), .d (iD n.gl)]

theorem l4In_ok (l : List Int) (n : Int) : Pure Tryd.prog TB 81 [eInts l, eI .i64 n] (eB (decide (n ∈ l))) := by
  refine Spec.of Tryd.func81 rfl (by kernel_rfl) (Nat.le_of_ble_eq_true rfl) ?_; intro Γ hΓ
  refine AWp.bound 0 rfl fun hB => ?_
  have hB := hB (l.map iRow) .refl
  (repeat' (first | (first | (refine popO rfl ?_; first | (refine gA rfl ?_; first | refine yLm rfl rfl ?_ | ((first | refine yQ (md := false) rfl ?_ ?_ | refine yL rfl rfl (by assumption) rfl rfl ?_ ?_ | refine yT rfl rfl (by assumption) rfl ?_ ?_); (first | exact True.intro | omega | (simp only [oA, oB, oC, oD, oE, oF, oG] at *; omega))) | (refine yB rfl ?_; intro _ _hb) | refine yS rfl rfl ?_ | refine yM rfl rfl (by assumption) rfl rfl rfl ?_ | refine yZ rfl rfl rfl rfl rfl rfl ?_ | refine yY rfl rfl rfl ?_ | refine yO rfl rfl rfl ?_ | refine yW rfl rfl ?_ | refine yV rfl rfl rfl rfl (by assumption) rfl rfl rfl rfl ?_ ) | refine popN rfl ?_ | (refine yG rfl rfl ?_ ?_ <;> intro hb <;> subst hb)) | refine AWp.seq ?_ | refine reg (by kernel_rfl) ?_ | refine lexE ?_ | refine regD (noisy []) mixed (by kernel_rfl) (by kernel_rfl) ?_) | (refine AWp.cond rfl (fun hb => ?_) (fun hb => ?_) <;> cases hb) | refine AWp.skip ?_ | refine AWp.exit ?_ | refine AWp.block ?_ | refine AWp.ret ⟨_, rfl, ?_⟩))
  refine AWp.loopL (α := {k : Nat // k ≤ l.length ∧ n ∉ l.take k}) (fun ⟨k, hk, ha⟩ => [(0, eInts l), (1, eI .i64 n), (5, eI .i64 k)]) (fun ⟨k, hk, ha⟩ => []) 0 (fun ⟨k, hk, ha⟩ => l.length - k) (⟨0, by omega, by simp⟩) [] (by first | (simp [hΓ]; done) | (rw [hΓ]; decide)) (by (repeat' (first | exact trivial | rfl | refine And.intro ?_ ?_)) <;> simp [EnvSub, StoreSub, look_cons, nm, E.ren, C.ren, C.renL, O.ren, killc, kill0, Function.comp_def, argsFrom, zC, hΓ]) ?_; rintro ⟨k, hk, ha⟩; try dsimp only
  (repeat (first | (refine popO rfl ?_; first | (refine gA rfl ?_; first | refine yLm rfl rfl ?_ | ((first | refine yQ (md := false) rfl ?_ ?_ | refine yL rfl rfl (by assumption) rfl rfl ?_ ?_ | refine yT rfl rfl (by assumption) rfl ?_ ?_); (first | exact True.intro | omega | (simp only [oA, oB, oC, oD, oE, oF, oG] at *; omega))) | (refine yB rfl ?_; intro _ _hb) | refine yS rfl rfl ?_ | refine yM rfl rfl (by assumption) rfl rfl rfl ?_ | refine yZ rfl rfl rfl rfl rfl rfl ?_ | refine yY rfl rfl rfl ?_ | refine yO rfl rfl rfl ?_ | refine yW rfl rfl ?_ | refine yV rfl rfl rfl rfl (by assumption) rfl rfl rfl rfl ?_ ) | refine popN rfl ?_ | (refine yG rfl rfl ?_ ?_ <;> intro hb <;> subst hb)) | refine AWp.seq ?_ | refine reg (by kernel_rfl) ?_ | refine lexE ?_ | refine regD (noisy []) mixed (by kernel_rfl) (by kernel_rfl) ?_))
  (refine AWp.cond rfl (fun hb => ?_) (fun hb => ?_) <;> cases hb)
  · obtain ⟨x, hx⟩ := get_some (l := l) (k := k) (by first | omega | (simp only [oA, oB, oC, oD, oE, oF, oG] at *; omega))
    have hx' := get_map (g := iRow) hx
    (repeat' (first | (first | (refine popO rfl ?_; first | (refine gA rfl ?_; first | refine yLm rfl rfl ?_ | ((first | refine yQ (md := false) rfl ?_ ?_ | refine yL rfl rfl (by assumption) rfl rfl ?_ ?_ | refine yT rfl rfl (by assumption) rfl ?_ ?_); (first | exact True.intro | omega | (simp only [oA, oB, oC, oD, oE, oF, oG] at *; omega))) | (refine yB rfl ?_; intro _ _hb) | refine yS rfl rfl ?_ | refine yM rfl rfl (by assumption) rfl rfl rfl ?_ | refine yZ rfl rfl rfl rfl rfl rfl ?_ | refine yY rfl rfl rfl ?_ | refine yO rfl rfl rfl ?_ | refine yW rfl rfl ?_ | refine yV rfl rfl rfl rfl (by assumption) rfl rfl rfl rfl ?_ ) | refine popN rfl ?_ | (refine yG rfl rfl ?_ ?_ <;> intro hb <;> subst hb)) | refine AWp.seq ?_ | refine reg (by kernel_rfl) ?_ | refine lexE ?_ | refine regD (noisy []) mixed (by kernel_rfl) (by kernel_rfl) ?_) | (refine AWp.cond rfl (fun hb => ?_) (fun hb => ?_) <;> cases hb) | refine AWp.skip ?_ | refine AWp.exit ?_ | refine AWp.block ?_ | refine AWp.ret ⟨_, rfl, ?_⟩))
    · have h1 := List.mem_of_getElem? hx
      show E.o _ = E.o _; congr; grind
    · refine ⟨⟨k + 1, by first | omega | (simp only [oA, oB, oC, oD, oE, oF, oG] at *; omega), by rw [List.take_add_one, hx]; grind⟩, by dsimp only; (first | omega | (simp only [oA, oB, oC, oD, oE, oF, oG] at *; omega)), [], ?_⟩
      simp [EnvSub, StoreSub, look_cons, nm, E.ren, C.ren, C.renL, O.ren, killc, kill0, Function.comp_def, argsFrom, zC, hΓ]
  · (repeat' (first | (first | (refine popO rfl ?_; first | (refine gA rfl ?_; first | refine yLm rfl rfl ?_ | ((first | refine yQ (md := false) rfl ?_ ?_ | refine yL rfl rfl (by assumption) rfl rfl ?_ ?_ | refine yT rfl rfl (by assumption) rfl ?_ ?_); (first | exact True.intro | omega | (simp only [oA, oB, oC, oD, oE, oF, oG] at *; omega))) | (refine yB rfl ?_; intro _ _hb) | refine yS rfl rfl ?_ | refine yM rfl rfl (by assumption) rfl rfl rfl ?_ | refine yZ rfl rfl rfl rfl rfl rfl ?_ | refine yY rfl rfl rfl ?_ | refine yO rfl rfl rfl ?_ | refine yW rfl rfl ?_ | refine yV rfl rfl rfl rfl (by assumption) rfl rfl rfl rfl ?_ ) | refine popN rfl ?_ | (refine yG rfl rfl ?_ ?_ <;> intro hb <;> subst hb)) | refine AWp.seq ?_ | refine reg (by kernel_rfl) ?_ | refine lexE ?_ | refine regD (noisy []) mixed (by kernel_rfl) (by kernel_rfl) ?_) | (refine AWp.cond rfl (fun hb => ?_) (fun hb => ?_) <;> cases hb) | refine AWp.skip ?_ | refine AWp.exit ?_ | refine AWp.block ?_ | refine AWp.ret ⟨_, rfl, ?_⟩))
    rw [List.take_of_length_le (by first | omega | (simp only [oA, oB, oC, oD, oE, oF, oG] at *; omega))] at ha
    show E.o _ = E.o _; congr; grind
/-- Mixed digits: the node of a list of states. -/
def encN : List Int → List Int → Int → Int
  | z :: zs, s :: ss, n => encN zs ss (n * z + s)
  | _, _, n => n
end Go.Am
/-
  The parts of the reference's search, 2.
-/
namespace Go.Am
open Go Go.Proofs
set_option linter.unusedSimpArgs false
set_option linter.unusedVariables false
attribute [local irreducible] QOp AOp Lex LexO AWp Spec
variable {TB : List (Nat × Obj)}

theorem any_step {α : Type} {l : List α} {f : α → Bool} {k : Nat} {x : α} (h : l[k]? = some x) (h1 : (l.take k).any f = false) (h2 : f x = false) : (l.take (k + 1)).any f = false := by
  rw [List.take_add_one, h]; simp [List.any_append, h1, h2]
theorem any_hit {α : Type} {l : List α} {f : α → Bool} {k : Nat} {x : α} (h : l[k]? = some x) (h2 : f x = true) : l.any f = true := by
  rw [List.any_eq_true]; exact ⟨x, List.mem_of_getElem? h, h2⟩
theorem any_done {α : Type} {l : List α} {f : α → Bool} {k : Nat} (h : (l.take k).any f = false) (hk : l.length ≤ k) : l.any f = false := by
  rwa [List.take_of_length_le hk] at h

def atD (dist : List Int) (d v : Int) : Bool := decide (dist.getD v.toNat 0 = d)
def nearB (mv : List (List Int)) (dist : List Int) (d : Int) : Bool := mv.any fun r => r.any (atD dist d)
def InR (n : Nat) (v : Int) : Prop := 0 ≤ v ∧ v < n
theorem l4Near_ok (mv : List (List Int)) (dist : List Int) (d : Int) (hin : ∀ r ∈ mv, ∀ v ∈ r, InR dist.length v) : Pure Tryd.prog TB 80 [eIntss mv, eInts dist, eI .i64 d] (eB (nearB mv dist d)) := by
  refine Spec.of Tryd.func80 rfl (by kernel_rfl) (Nat.le_of_ble_eq_true rfl) ?_; intro Γ hΓ
  refine AWp.bound 0 rfl fun hB0 => ?_
  have hB := hB0 (mv.map iiRow) .refl
  (repeat' (first | (first | (refine popO rfl ?_; first | (refine gA rfl ?_; first | refine yLm rfl rfl ?_ | ((first | refine yQ (md := false) rfl ?_ ?_ | refine yL rfl rfl (by assumption) rfl rfl ?_ ?_ | refine yT rfl rfl (by assumption) rfl ?_ ?_); (first | exact True.intro | omega | (simp only [oA, oB, oC, oD, oE, oF, oG] at *; omega))) | (refine yB rfl ?_; intro _ _hb) | refine yS rfl rfl ?_ | refine yM rfl rfl (by assumption) rfl rfl rfl ?_ | refine yZ rfl rfl rfl rfl rfl rfl ?_ | refine yY rfl rfl rfl ?_ | refine yO rfl rfl rfl ?_ | refine yW rfl rfl ?_ | refine yV rfl rfl rfl rfl (by assumption) rfl rfl rfl rfl ?_ ) | refine popN rfl ?_ | (refine yG rfl rfl ?_ ?_ <;> intro hb <;> subst hb)) | refine AWp.seq ?_ | refine reg (by kernel_rfl) ?_ | refine lexE ?_ | refine regD (noisy []) mixed (by kernel_rfl) (by kernel_rfl) ?_) | (refine AWp.cond rfl (fun hb => ?_) (fun hb => ?_) <;> cases hb) | refine AWp.skip ?_ | refine AWp.exit ?_ | refine AWp.block ?_ | refine AWp.ret ⟨_, rfl, ?_⟩))
  refine AWp.loopL (α := {k : Nat // k ≤ mv.length ∧ (mv.take k).any (fun r => r.any (atD dist d)) = false}) (fun ⟨k, hk, ha⟩ => [(0, eIntss mv), (1, eInts dist), (2, eI .i64 d), (7, eI .i64 k)]) (fun ⟨k, hk, ha⟩ => []) 0 (fun ⟨k, hk, ha⟩ => mv.length - k) (⟨0, by omega, by simp⟩) [] (by first | (simp [hΓ]; done) | (rw [hΓ]; decide)) (by (repeat' (first | exact trivial | rfl | refine And.intro ?_ ?_)) <;> simp [EnvSub, StoreSub, look_cons, nm, E.ren, C.ren, C.renL, O.ren, killc, kill0, Function.comp_def, argsFrom, zC, hΓ]) ?_; rintro ⟨k, hk, ha⟩; try dsimp only
  (repeat (first | (refine popO rfl ?_; first | (refine gA rfl ?_; first | refine yLm rfl rfl ?_ | ((first | refine yQ (md := false) rfl ?_ ?_ | refine yL rfl rfl (by assumption) rfl rfl ?_ ?_ | refine yT rfl rfl (by assumption) rfl ?_ ?_); (first | exact True.intro | omega | (simp only [oA, oB, oC, oD, oE, oF, oG] at *; omega))) | (refine yB rfl ?_; intro _ _hb) | refine yS rfl rfl ?_ | refine yM rfl rfl (by assumption) rfl rfl rfl ?_ | refine yZ rfl rfl rfl rfl rfl rfl ?_ | refine yY rfl rfl rfl ?_ | refine yO rfl rfl rfl ?_ | refine yW rfl rfl ?_ | refine yV rfl rfl rfl rfl (by assumption) rfl rfl rfl rfl ?_ ) | refine popN rfl ?_ | (refine yG rfl rfl ?_ ?_ <;> intro hb <;> subst hb)) | refine AWp.seq ?_ | refine reg (by kernel_rfl) ?_ | refine lexE ?_ | refine regD (noisy []) mixed (by kernel_rfl) (by kernel_rfl) ?_))
  (refine AWp.cond rfl (fun hb => ?_) (fun hb => ?_) <;> cases hb)
  · obtain ⟨x, hx⟩ := get_some (l := mv) (k := k) (by first | omega | (simp only [oA, oB, oC, oD, oE, oF, oG] at *; omega))
    have hx' := get_map (g := iiRow) hx
    have hBx := hB0 (x.map iRow) (.l (i := k) (j := 0) (r := iiRow x) (by simp [hx]) rfl .refl)
    have hin := hin x (List.mem_of_getElem? hx)
    (repeat' (first | (first | (refine popO rfl ?_; first | (refine gA rfl ?_; first | refine yLm rfl rfl ?_ | ((first | refine yQ (md := false) rfl ?_ ?_ | refine yL rfl rfl (by assumption) rfl rfl ?_ ?_ | refine yT rfl rfl (by assumption) rfl ?_ ?_); (first | exact True.intro | omega | (simp only [oA, oB, oC, oD, oE, oF, oG] at *; omega))) | (refine yB rfl ?_; intro _ _hb) | refine yS rfl rfl ?_ | refine yM rfl rfl (by assumption) rfl rfl rfl ?_ | refine yZ rfl rfl rfl rfl rfl rfl ?_ | refine yY rfl rfl rfl ?_ | refine yO rfl rfl rfl ?_ | refine yW rfl rfl ?_ | refine yV rfl rfl rfl rfl (by assumption) rfl rfl rfl rfl ?_ ) | refine popN rfl ?_ | (refine yG rfl rfl ?_ ?_ <;> intro hb <;> subst hb)) | refine AWp.seq ?_ | refine reg (by kernel_rfl) ?_ | refine lexE ?_ | refine regD (noisy []) mixed (by kernel_rfl) (by kernel_rfl) ?_) | (refine AWp.cond rfl (fun hb => ?_) (fun hb => ?_) <;> cases hb) | refine AWp.skip ?_ | refine AWp.exit ?_ | refine AWp.block ?_ | refine AWp.ret ⟨_, rfl, ?_⟩))
    refine AWp.loopL (α := {j : Nat // j ≤ x.length ∧ (x.take j).any (atD dist d) = false}) (fun ⟨j, hj, hc⟩ => [(0, eIntss mv), (1, eInts dist), (2, eI .i64 d), (7, eI .i64 k), (8, eI .i64 j)]) (fun ⟨j, hj, hc⟩ => []) 0 (fun ⟨j, hj, hc⟩ => x.length - j) (⟨0, by omega, by simp⟩) [] (by first | (simp [hΓ]; done) | (rw [hΓ]; decide)) (by (repeat' (first | exact trivial | rfl | refine And.intro ?_ ?_)) <;> simp [EnvSub, StoreSub, look_cons, nm, E.ren, C.ren, C.renL, O.ren, killc, kill0, Function.comp_def, argsFrom, zC, hΓ]) ?_; rintro ⟨j, hj, hc⟩; try dsimp only
    (repeat (first | (refine popO rfl ?_; first | (refine gA rfl ?_; first | refine yLm rfl rfl ?_ | ((first | refine yQ (md := false) rfl ?_ ?_ | refine yL rfl rfl (by assumption) rfl rfl ?_ ?_ | refine yT rfl rfl (by assumption) rfl ?_ ?_); (first | exact True.intro | omega | (simp only [oA, oB, oC, oD, oE, oF, oG] at *; omega))) | (refine yB rfl ?_; intro _ _hb) | refine yS rfl rfl ?_ | refine yM rfl rfl (by assumption) rfl rfl rfl ?_ | refine yZ rfl rfl rfl rfl rfl rfl ?_ | refine yY rfl rfl rfl ?_ | refine yO rfl rfl rfl ?_ | refine yW rfl rfl ?_ | refine yV rfl rfl rfl rfl (by assumption) rfl rfl rfl rfl ?_ ) | refine popN rfl ?_ | (refine yG rfl rfl ?_ ?_ <;> intro hb <;> subst hb)) | refine AWp.seq ?_ | refine reg (by kernel_rfl) ?_ | refine lexE ?_ | refine regD (noisy []) mixed (by kernel_rfl) (by kernel_rfl) ?_))
    (refine AWp.cond rfl (fun hb => ?_) (fun hb => ?_) <;> cases hb)
    · obtain ⟨y, hy⟩ := get_some (l := x) (k := j) (by first | omega | (simp only [oA, oB, oC, oD, oE, oF, oG] at *; omega))
      have hy' := get_map (g := iRow) hy
      obtain ⟨h1, h2⟩ := hin y (List.mem_of_getElem? hy)
      obtain ⟨z, hz⟩ := get_some (l := dist) (k := y.toNat) (by omega)
      have hz' : (dist.map iRow)[y.toNat]? = some (iRow z) := by simp [hz]
      have hat : atD dist d y = decide (z = d) := by simp [atD, hz]
      (repeat' (first | (first | (refine popO rfl ?_; first | (refine gA rfl ?_; first | refine yLm rfl rfl ?_ | ((first | refine yQ (md := false) rfl ?_ ?_ | refine yL rfl rfl (by assumption) rfl rfl ?_ ?_ | refine yT rfl rfl (by assumption) rfl ?_ ?_); (first | exact True.intro | omega | (simp only [oA, oB, oC, oD, oE, oF, oG] at *; omega))) | (refine yB rfl ?_; intro _ _hb) | refine yS rfl rfl ?_ | refine yM rfl rfl (by assumption) rfl rfl rfl ?_ | refine yZ rfl rfl rfl rfl rfl rfl ?_ | refine yY rfl rfl rfl ?_ | refine yO rfl rfl rfl ?_ | refine yW rfl rfl ?_ | refine yV rfl rfl rfl rfl (by assumption) rfl rfl rfl rfl ?_ ) | refine popN rfl ?_ | (refine yG rfl rfl ?_ ?_ <;> intro hb <;> subst hb)) | refine AWp.seq ?_ | refine reg (by kernel_rfl) ?_ | refine lexE ?_ | refine regD (noisy []) mixed (by kernel_rfl) (by kernel_rfl) ?_) | (refine AWp.cond rfl (fun hb => ?_) (fun hb => ?_) <;> cases hb) | refine AWp.skip ?_ | refine AWp.exit ?_ | refine AWp.block ?_ | refine AWp.ret ⟨_, rfl, ?_⟩))
      all_goals first
        | (have h3 := any_hit hx (f := fun r => r.any (atD dist d)) (any_hit hy (by rw [hat]; grind)); show E.o _ = E.o _; congr; unfold nearB; rw [h3]; done)
        | (refine ⟨⟨j + 1, by first | omega | (simp only [oA, oB, oC, oD, oE, oF, oG] at *; omega), any_step hy hc (by rw [hat]; grind)⟩, by dsimp only; (first | omega | (simp only [oA, oB, oC, oD, oE, oF, oG] at *; omega)), [], ?_⟩; simp [EnvSub, StoreSub, look_cons, nm, E.ren, C.ren, C.renL, O.ren, killc, kill0, Function.comp_def, argsFrom, zC, hΓ]; done)
    · (repeat' (first | (first | (refine popO rfl ?_; first | (refine gA rfl ?_; first | refine yLm rfl rfl ?_ | ((first | refine yQ (md := false) rfl ?_ ?_ | refine yL rfl rfl (by assumption) rfl rfl ?_ ?_ | refine yT rfl rfl (by assumption) rfl ?_ ?_); (first | exact True.intro | omega | (simp only [oA, oB, oC, oD, oE, oF, oG] at *; omega))) | (refine yB rfl ?_; intro _ _hb) | refine yS rfl rfl ?_ | refine yM rfl rfl (by assumption) rfl rfl rfl ?_ | refine yZ rfl rfl rfl rfl rfl rfl ?_ | refine yY rfl rfl rfl ?_ | refine yO rfl rfl rfl ?_ | refine yW rfl rfl ?_ | refine yV rfl rfl rfl rfl (by assumption) rfl rfl rfl rfl ?_ ) | refine popN rfl ?_ | (refine yG rfl rfl ?_ ?_ <;> intro hb <;> subst hb)) | refine AWp.seq ?_ | refine reg (by kernel_rfl) ?_ | refine lexE ?_ | refine regD (noisy []) mixed (by kernel_rfl) (by kernel_rfl) ?_) | (refine AWp.cond rfl (fun hb => ?_) (fun hb => ?_) <;> cases hb) | refine AWp.skip ?_ | refine AWp.exit ?_ | refine AWp.block ?_ | refine AWp.ret ⟨_, rfl, ?_⟩))
      refine ⟨⟨k + 1, by first | omega | (simp only [oA, oB, oC, oD, oE, oF, oG] at *; omega), any_step hx ha (any_done hc (by first | omega | (simp only [oA, oB, oC, oD, oE, oF, oG] at *; omega)))⟩, by dsimp only; (first | omega | (simp only [oA, oB, oC, oD, oE, oF, oG] at *; omega)), [], ?_⟩
      simp [EnvSub, StoreSub, look_cons, nm, E.ren, C.ren, C.renL, O.ren, killc, kill0, Function.comp_def, argsFrom, zC, hΓ]
  · (repeat' (first | (first | (refine popO rfl ?_; first | (refine gA rfl ?_; first | refine yLm rfl rfl ?_ | ((first | refine yQ (md := false) rfl ?_ ?_ | refine yL rfl rfl (by assumption) rfl rfl ?_ ?_ | refine yT rfl rfl (by assumption) rfl ?_ ?_); (first | exact True.intro | omega | (simp only [oA, oB, oC, oD, oE, oF, oG] at *; omega))) | (refine yB rfl ?_; intro _ _hb) | refine yS rfl rfl ?_ | refine yM rfl rfl (by assumption) rfl rfl rfl ?_ | refine yZ rfl rfl rfl rfl rfl rfl ?_ | refine yY rfl rfl rfl ?_ | refine yO rfl rfl rfl ?_ | refine yW rfl rfl ?_ | refine yV rfl rfl rfl rfl (by assumption) rfl rfl rfl rfl ?_ ) | refine popN rfl ?_ | (refine yG rfl rfl ?_ ?_ <;> intro hb <;> subst hb)) | refine AWp.seq ?_ | refine reg (by kernel_rfl) ?_ | refine lexE ?_ | refine regD (noisy []) mixed (by kernel_rfl) (by kernel_rfl) ?_) | (refine AWp.cond rfl (fun hb => ?_) (fun hb => ?_) <;> cases hb) | refine AWp.skip ?_ | refine AWp.exit ?_ | refine AWp.block ?_ | refine AWp.ret ⟨_, rfl, ?_⟩))
    have h1 := any_done ha (by first | omega | (simp only [oA, oB, oC, oD, oE, oF, oG] at *; omega))
    show E.o _ = E.o _; congr; unfold nearB; rw [h1]
end Go.Am
/-
  Mixed digits.
-/
namespace Go.Am
open Go

inductive Fits : List Int → List Int → Prop
  | nil : Fits [] []
  | cons {z s : Int} {zs ss : List Int} : 0 ≤ s → s < z → Fits zs ss → Fits (z :: zs) (s :: ss)
def prodI : List Int → Int
  | [] => 1
  | z :: zs => z * prodI zs
theorem Fits.len {zs ss : List Int} (h : Fits zs ss) : zs.length = ss.length := by
  induction h with
  | nil => rfl
  | cons _ _ _ ih => simp [ih]
theorem Fits.pos {zs ss : List Int} (h : Fits zs ss) : 1 ≤ prodI zs := by
  induction h with
  | nil => simp [prodI]
  | @cons z s zs ss h0 h1 _ ih =>
    have : 1 * 1 ≤ z * prodI zs := Int.mul_le_mul (by omega) ih (by omega) (by omega)
    simpa [prodI] using this
theorem Fits.enc {zs ss : List Int} (h : Fits zs ss) : ∀ n : Int, 0 ≤ n → 0 ≤ encN zs ss n ∧ encN zs ss n < (n + 1) * prodI zs := by
  induction h with
  | nil => intro n hn; simp [encN, prodI]; omega
  | @cons z s zs ss h0 h1 h2 ih =>
    intro n hn
    have hz : 0 ≤ n * z := Int.mul_nonneg hn (by omega)
    obtain ⟨h3, h4⟩ := ih (n * z + s) (by omega)
    refine ⟨h3, Int.lt_of_lt_of_le h4 ?_⟩
    rw [prodI, ← Int.mul_assoc]
    refine Int.mul_le_mul_of_nonneg_right ?_ (by have := h2.pos; omega)
    rw [Int.add_mul]; omega
theorem Fits.take {zs ss : List Int} (h : Fits zs ss) : ∀ k, Fits (zs.take k) (ss.take k) ∧ prodI (zs.take k) ≤ prodI zs := by
  induction h with
  | nil => intro k; simp; exact .nil
  | @cons z s zs ss h0 h1 h2 ih =>
    intro k
    cases k with
    | zero =>
      have := (Fits.cons h0 h1 h2).pos
      exact ⟨.nil, by simpa [prodI] using this⟩
    | succ k =>
      obtain ⟨h3, h4⟩ := ih k
      exact ⟨.cons h0 h1 h3, by simp only [List.take_succ_cons, prodI]; exact Int.mul_le_mul_of_nonneg_left h4 (by omega)⟩
theorem Fits.get {zs ss : List Int} (h : Fits zs ss) : ∀ (k : Nat) (z s : Int), zs[k]? = some z → ss[k]? = some s → 0 ≤ s ∧ s < z := by
  induction h with
  | nil => intro k z s hz; simp at hz
  | cons h0 h1 _ ih =>
    intro k z s hz hs
    cases k with
    | zero => simp at hz hs; subst hz hs; exact ⟨h0, h1⟩
    | succ k => exact ih k z s (by simpa using hz) (by simpa using hs)
theorem encN_step : ∀ {zs ss : List Int} {k : Nat} {z s : Int} (n : Int), zs[k]? = some z → ss[k]? = some s → encN (zs.take (k + 1)) (ss.take (k + 1)) n = encN (zs.take k) (ss.take k) n * z + s
  | [], _, k, z, s, n, hz, _ => by simp at hz
  | a :: zs, [], k, z, s, n, _, hs => by simp at hs
  | a :: zs, b :: ss, 0, z, s, n, hz, hs => by
    simp at hz hs; subst hz hs; simp [encN]
  | a :: zs, b :: ss, k + 1, z, s, n, hz, hs => by
    simp only [List.take_succ_cons, encN]
    exact encN_step _ (by simpa using hz) (by simpa using hs)
end Go.Am
