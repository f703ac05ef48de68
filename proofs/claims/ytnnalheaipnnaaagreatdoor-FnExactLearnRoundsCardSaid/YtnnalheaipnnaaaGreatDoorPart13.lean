/-
  Copies and comparisons of the law's arguments.
-/
import Derived.Test.YtnnalheaipnnaaaGreatDoorPart12
import Derived.Test.YtnnalheaipnnaaaGreatDoorPart5
set_option linter.constructorNameAsVariable false
set_option linter.unusedSimpArgs false
set_option linter.unusedVariables false
namespace Go.Am
open Go Go.Proofs
attribute [local irreducible] QOp AOp Lex LexO AWp Spec
variable {TB : List (Nat × Obj)}

/-- A list in the middle of being copied. -/
def midL {α : Type} (l : List α) (z : α) (k : Nat) : List α := l.take k ++ List.replicate (l.length - k) z
theorem midL_0 {α : Type} (l : List α) (z : α) : midL l z 0 = List.replicate l.length z := by simp [midL]
theorem midL_end {α : Type} (l : List α) (z : α) : midL l z l.length = l := by simp [midL]
theorem midL_get {α : Type} {l : List α} {z : α} {k : Nat} (h : k < l.length) : (midL l z k)[0 + ((k : Nat) : Int).toNat]? = some z := by
  rw [Nat.zero_add, Int.toNat_natCast]
  unfold midL
  rw [List.getElem?_append_right (by simp; omega)]
  have : 0 < l.length - k := by omega
  have e : k - (l.take k).length = 0 := by simp; omega
  rw [e, List.getElem?_replicate, if_pos this]
theorem midL_set {α : Type} {l : List α} {z x : α} {k : Nat} (h : l[k]? = some x) : (midL l z k).set (0 + ((k : Nat) : Int).toNat) x = midL l z (k + 1) := by
  have hk := (List.getElem?_eq_some_iff.1 h).1
  rw [Nat.zero_add, Int.toNat_natCast]
  unfold midL
  rw [List.set_append_right _ _ (by simp; omega)]
  have e1 : k - (l.take k).length = 0 := by simp; omega
  have e2 : l.length - k = (l.length - (k + 1)) + 1 := by omega
  rw [e1, e2, List.replicate_succ, List.set_cons_zero, List.take_add_one, h]
  simp
theorem midL_ren {l : List (List C)} {z : List C} {k : Nat} {r : Nat → Nat} (hl : ∀ x ∈ l, C.renL r x = x) (hz : C.renL r z = z) : (midL l z k).map (C.renL r) = midL l z k := by
  unfold midL
  rw [List.map_append, List.map_replicate, hz]
  congr 1
  refine (List.map_congr_left fun x hx => ?_).trans (List.map_id _)
  exact hl x (List.mem_of_mem_take hx)
theorem toIntS_ok (l : List Int) (h : l.length ≤ 1048576) : Pure Tryz.prog TB 26 [eInts l] (eInts l) := by
  have hren : ∀ (r : Nat → Nat) k, (midL (l.map iRowC) (iRowC 0) k).map (C.renL r) = midL (l.map iRowC) (iRowC 0) k := fun r k => midL_ren (fun x hx => by obtain ⟨y, _, rfl⟩ := List.mem_map.1 hx; rfl) rfl
  have hlm : (l.map iRowC).length = l.length := by simp
  refine Spec.of Tryz.func26 rfl (by kernel_rfl) (Nat.le_of_ble_eq_true rfl) ?_; intro Γ hΓ
  (repeat (first | (refine popO rfl ?_; first | (refine gA rfl ?_; first | refine yLm rfl rfl ?_ | ((first | refine yQ (md := true) rfl ?_ ?_ | refine yL rfl rfl (by assumption) rfl rfl ?_ ?_ | refine yT rfl rfl (by assumption) rfl ?_ ?_); (first | exact True.intro | omega | (simp only [oZ] at *; omega))) | (refine yB rfl ?_; intro _ _hb) | refine yU (sl := false) rfl ?_ | refine yM rfl rfl (by assumption) rfl rfl rfl ?_ | refine yV rfl rfl rfl rfl (by assumption) rfl rfl rfl rfl ?_ ) | refine popN rfl ?_ | (refine yG rfl rfl ?_ ?_ <;> intro hb <;> subst hb)) | refine AWp.seq ?_ | refine reg (by kernel_rfl) ?_ | refine lexE ?_ | refine regD (flN []) mixed (by kernel_rfl) (by kernel_rfl) ?_))
  (refine popO rfl ?_; refine popS (fun _ _ => q_assign rfl) rfl ?_)
  (repeat (first | (refine popO rfl ?_; first | (refine gA rfl ?_; first | refine yLm rfl rfl ?_ | ((first | refine yQ (md := true) rfl ?_ ?_ | refine yL rfl rfl (by assumption) rfl rfl ?_ ?_ | refine yT rfl rfl (by assumption) rfl ?_ ?_); (first | exact True.intro | omega | (simp only [oZ] at *; omega))) | (refine yB rfl ?_; intro _ _hb) | refine yU (sl := false) rfl ?_ | refine yM rfl rfl (by assumption) rfl rfl rfl ?_ | refine yV rfl rfl rfl rfl (by assumption) rfl rfl rfl rfl ?_ ) | refine popN rfl ?_ | (refine yG rfl rfl ?_ ?_ <;> intro hb <;> subst hb)) | refine AWp.seq ?_ | refine reg (by kernel_rfl) ?_ | refine lexE ?_ | refine regD (flN []) mixed (by kernel_rfl) (by kernel_rfl) ?_))
  (refine popO rfl ?_; refine popW ?_ rfl (by rfl); refine n_make rfl rfl (by rfl) (by rfl) (Nat.le_of_ble_eq_true rfl) (by omega) (by omega) (by omega) ?_)
  (repeat (first | (refine popO rfl ?_; first | (refine gA rfl ?_; first | refine yLm rfl rfl ?_ | ((first | refine yQ (md := true) rfl ?_ ?_ | refine yL rfl rfl (by assumption) rfl rfl ?_ ?_ | refine yT rfl rfl (by assumption) rfl ?_ ?_); (first | exact True.intro | omega | (simp only [oZ] at *; omega))) | (refine yB rfl ?_; intro _ _hb) | refine yU (sl := false) rfl ?_ | refine yM rfl rfl (by assumption) rfl rfl rfl ?_ | refine yV rfl rfl rfl rfl (by assumption) rfl rfl rfl rfl ?_ ) | refine popN rfl ?_ | (refine yG rfl rfl ?_ ?_ <;> intro hb <;> subst hb)) | refine AWp.seq ?_ | refine reg (by kernel_rfl) ?_ | refine lexE ?_ | refine regD (flN []) mixed (by kernel_rfl) (by kernel_rfl) ?_))
  refine AWp.block ?_
  refine AWp.loopL (α := {k : Nat // k ≤ l.length}) (fun ⟨k, hk⟩ => [(0, eInts l), (3, .o (.arr 0 1 0 l.length)), (4, eI .i64 k)]) (fun ⟨k, hk⟩ => [(0, .cells 3 1 (midL (l.map iRowC) (iRowC 0) k))]) 1 (fun ⟨k, hk⟩ => l.length - k) (⟨0, by omega⟩) [0] (by first | (simp [hΓ]; done) | (rw [hΓ]; decide)) (by (repeat' (first | exact trivial | rfl | refine And.intro ?_ ?_)) <;> simp [EnvSub, StoreSub, look_cons, nm, E.ren, C.ren, C.renL, O.ren, killc, kill0, Function.comp_def, argsFrom, zC, hΓ, midL_0, hren]) ?_; rintro ⟨k, hk⟩; try dsimp only
  (repeat (first | (refine popO rfl ?_; first | (refine gA rfl ?_; first | refine yLm rfl rfl ?_ | ((first | refine yQ (md := true) rfl ?_ ?_ | refine yL rfl rfl (by assumption) rfl rfl ?_ ?_ | refine yT rfl rfl (by assumption) rfl ?_ ?_); (first | exact True.intro | omega | (simp only [oZ] at *; omega))) | (refine yB rfl ?_; intro _ _hb) | refine yU (sl := false) rfl ?_ | refine yM rfl rfl (by assumption) rfl rfl rfl ?_ | refine yV rfl rfl rfl rfl (by assumption) rfl rfl rfl rfl ?_ ) | refine popN rfl ?_ | (refine yG rfl rfl ?_ ?_ <;> intro hb <;> subst hb)) | refine AWp.seq ?_ | refine reg (by kernel_rfl) ?_ | refine lexE ?_ | refine regD (flN []) mixed (by kernel_rfl) (by kernel_rfl) ?_))
  (refine AWp.cond rfl (fun hb => ?_) (fun hb => ?_) <;> cases hb)
  · obtain ⟨x, hx⟩ := get_some (l := l) (k := k) (by first | omega | (simp only [oZ] at *; omega))
    have hx' := get_map (g := iRow) hx
    have hg := midL_get (l := l.map iRowC) (z := iRowC 0) (k := k) (by first | omega | (simp only [oZ] at *; omega))
    have hs := midL_set (l := l.map iRowC) (z := iRowC 0) (k := k) (x := iRowC x) (by simp [hx])
    refine AWp.skip ?_
    refine AWp.seq (AWp.block ?_)
    (repeat (first | (refine popO rfl ?_; first | (refine gA rfl ?_; first | refine yLm rfl rfl ?_ | ((first | refine yQ (md := true) rfl ?_ ?_ | refine yL rfl rfl (by assumption) rfl rfl ?_ ?_ | refine yT rfl rfl (by assumption) rfl ?_ ?_); (first | exact True.intro | omega | (simp only [oZ] at *; omega))) | (refine yB rfl ?_; intro _ _hb) | refine yU (sl := false) rfl ?_ | refine yM rfl rfl (by assumption) rfl rfl rfl ?_ | refine yV rfl rfl rfl rfl (by assumption) rfl rfl rfl rfl ?_ ) | refine popN rfl ?_ | (refine yG rfl rfl ?_ ?_ <;> intro hb <;> subst hb)) | refine AWp.seq ?_ | refine reg (by kernel_rfl) ?_ | refine lexE ?_ | refine regD (flN []) mixed (by kernel_rfl) (by kernel_rfl) ?_))
    refine ⟨⟨k + 1, by first | omega | (simp only [oZ] at *; omega)⟩, by dsimp only; (first | omega | (simp only [oZ] at *; omega)), [0], ?_⟩
    have hsp : spliceC (iRowC 0) 0 (eC (eI .i64 x)) = iRowC x := rfl
    rw [hsp, hs]
    simp [EnvSub, StoreSub, look_cons, nm, E.ren, C.ren, C.renL, O.ren, killc, kill0, Function.comp_def, argsFrom, zC, hΓ, hren]
  · obtain rfl : k = l.length := by first | omega | (simp only [oZ] at *; omega)
    have he : midL (l.map iRowC) (iRowC 0) l.length = l.map iRowC := by
      have := midL_end (l.map iRowC) (iRowC 0)
      rwa [hlm] at this
    rw [he]
    refine AWp.exit ?_
    (repeat (first | (refine popO rfl ?_; first | (refine gA rfl ?_; first | refine yLm rfl rfl ?_ | ((first | refine yQ (md := true) rfl ?_ ?_ | refine yL rfl rfl (by assumption) rfl rfl ?_ ?_ | refine yT rfl rfl (by assumption) rfl ?_ ?_); (first | exact True.intro | omega | (simp only [oZ] at *; omega))) | (refine yB rfl ?_; intro _ _hb) | refine yU (sl := false) rfl ?_ | refine yM rfl rfl (by assumption) rfl rfl rfl ?_ | refine yV rfl rfl rfl rfl (by assumption) rfl rfl rfl rfl ?_ ) | refine popN rfl ?_ | (refine yG rfl rfl ?_ ?_ <;> intro hb <;> subst hb)) | refine AWp.seq ?_ | refine reg (by kernel_rfl) ?_ | refine lexE ?_ | refine regD (flN []) mixed (by kernel_rfl) (by kernel_rfl) ?_))
    refine AWp.freeze [0] [(2, eInts l)] ⟨⟨_, rfl, .o (.full (by simp) rfl (by simp [Function.comp_def]) (by simp))⟩, trivial⟩ ?_
    refine AWp.ret ⟨_, rfl, rfl⟩
theorem toBoolS_ok (l : List Bool) (h : l.length ≤ 1048576) : Pure Tryz.prog TB 14 [eBools l] (eBools l) := by
  have hren : ∀ (r : Nat → Nat) k, (midL (l.map bRowC) ((bRowC false)) k).map (C.renL r) = midL (l.map bRowC) ((bRowC false)) k := fun r k => midL_ren (fun x hx => by obtain ⟨y, _, rfl⟩ := List.mem_map.1 hx; rfl) rfl
  have hlm : (l.map bRowC).length = l.length := by simp
  refine Spec.of Tryz.func14 rfl (by kernel_rfl) (Nat.le_of_ble_eq_true rfl) ?_; intro Γ hΓ
  (repeat (first | (refine popO rfl ?_; first | (refine gA rfl ?_; first | refine yLm rfl rfl ?_ | ((first | refine yQ (md := true) rfl ?_ ?_ | refine yL rfl rfl (by assumption) rfl rfl ?_ ?_ | refine yT rfl rfl (by assumption) rfl ?_ ?_); (first | exact True.intro | omega | (simp only [oZ] at *; omega))) | (refine yB rfl ?_; intro _ _hb) | refine yU (sl := false) rfl ?_ | refine yM rfl rfl (by assumption) rfl rfl rfl ?_ | refine yV rfl rfl rfl rfl (by assumption) rfl rfl rfl rfl ?_ ) | refine popN rfl ?_ | (refine yG rfl rfl ?_ ?_ <;> intro hb <;> subst hb)) | refine AWp.seq ?_ | refine reg (by kernel_rfl) ?_ | refine lexE ?_ | refine regD (flN []) mixed (by kernel_rfl) (by kernel_rfl) ?_))
  (refine popO rfl ?_; refine popS (fun _ _ => q_assign rfl) rfl ?_)
  (repeat (first | (refine popO rfl ?_; first | (refine gA rfl ?_; first | refine yLm rfl rfl ?_ | ((first | refine yQ (md := true) rfl ?_ ?_ | refine yL rfl rfl (by assumption) rfl rfl ?_ ?_ | refine yT rfl rfl (by assumption) rfl ?_ ?_); (first | exact True.intro | omega | (simp only [oZ] at *; omega))) | (refine yB rfl ?_; intro _ _hb) | refine yU (sl := false) rfl ?_ | refine yM rfl rfl (by assumption) rfl rfl rfl ?_ | refine yV rfl rfl rfl rfl (by assumption) rfl rfl rfl rfl ?_ ) | refine popN rfl ?_ | (refine yG rfl rfl ?_ ?_ <;> intro hb <;> subst hb)) | refine AWp.seq ?_ | refine reg (by kernel_rfl) ?_ | refine lexE ?_ | refine regD (flN []) mixed (by kernel_rfl) (by kernel_rfl) ?_))
  (refine popO rfl ?_; refine popW ?_ rfl (by rfl); refine n_make rfl rfl (by rfl) (by rfl) (Nat.le_of_ble_eq_true rfl) (by omega) (by omega) (by omega) ?_)
  (repeat (first | (refine popO rfl ?_; first | (refine gA rfl ?_; first | refine yLm rfl rfl ?_ | ((first | refine yQ (md := true) rfl ?_ ?_ | refine yL rfl rfl (by assumption) rfl rfl ?_ ?_ | refine yT rfl rfl (by assumption) rfl ?_ ?_); (first | exact True.intro | omega | (simp only [oZ] at *; omega))) | (refine yB rfl ?_; intro _ _hb) | refine yU (sl := false) rfl ?_ | refine yM rfl rfl (by assumption) rfl rfl rfl ?_ | refine yV rfl rfl rfl rfl (by assumption) rfl rfl rfl rfl ?_ ) | refine popN rfl ?_ | (refine yG rfl rfl ?_ ?_ <;> intro hb <;> subst hb)) | refine AWp.seq ?_ | refine reg (by kernel_rfl) ?_ | refine lexE ?_ | refine regD (flN []) mixed (by kernel_rfl) (by kernel_rfl) ?_))
  refine AWp.block ?_
  refine AWp.loopL (α := {k : Nat // k ≤ l.length}) (fun ⟨k, hk⟩ => [(0, eBools l), (3, .o (.arr 0 1 0 l.length)), (4, eI .i64 k)]) (fun ⟨k, hk⟩ => [(0, .cells 4 1 (midL (l.map bRowC) ((bRowC false)) k))]) 1 (fun ⟨k, hk⟩ => l.length - k) (⟨0, by omega⟩) [0] (by first | (simp [hΓ]; done) | (rw [hΓ]; decide)) (by (repeat' (first | exact trivial | rfl | refine And.intro ?_ ?_)) <;> simp [EnvSub, StoreSub, look_cons, nm, E.ren, C.ren, C.renL, O.ren, killc, kill0, Function.comp_def, argsFrom, zC, hΓ, midL_0, hren]) ?_; rintro ⟨k, hk⟩; try dsimp only
  (repeat (first | (refine popO rfl ?_; first | (refine gA rfl ?_; first | refine yLm rfl rfl ?_ | ((first | refine yQ (md := true) rfl ?_ ?_ | refine yL rfl rfl (by assumption) rfl rfl ?_ ?_ | refine yT rfl rfl (by assumption) rfl ?_ ?_); (first | exact True.intro | omega | (simp only [oZ] at *; omega))) | (refine yB rfl ?_; intro _ _hb) | refine yU (sl := false) rfl ?_ | refine yM rfl rfl (by assumption) rfl rfl rfl ?_ | refine yV rfl rfl rfl rfl (by assumption) rfl rfl rfl rfl ?_ ) | refine popN rfl ?_ | (refine yG rfl rfl ?_ ?_ <;> intro hb <;> subst hb)) | refine AWp.seq ?_ | refine reg (by kernel_rfl) ?_ | refine lexE ?_ | refine regD (flN []) mixed (by kernel_rfl) (by kernel_rfl) ?_))
  (refine AWp.cond rfl (fun hb => ?_) (fun hb => ?_) <;> cases hb)
  · obtain ⟨x, hx⟩ := get_some (l := l) (k := k) (by first | omega | (simp only [oZ] at *; omega))
    have hx' := get_map (g := bRow) hx
    have hg := midL_get (l := l.map bRowC) (z := (bRowC false)) (k := k) (by first | omega | (simp only [oZ] at *; omega))
    have hs := midL_set (l := l.map bRowC) (z := (bRowC false)) (k := k) (x := bRowC x) (by simp [hx])
    refine AWp.skip ?_
    refine AWp.seq (AWp.block ?_)
    (repeat (first | (refine popO rfl ?_; first | (refine gA rfl ?_; first | refine yLm rfl rfl ?_ | ((first | refine yQ (md := true) rfl ?_ ?_ | refine yL rfl rfl (by assumption) rfl rfl ?_ ?_ | refine yT rfl rfl (by assumption) rfl ?_ ?_); (first | exact True.intro | omega | (simp only [oZ] at *; omega))) | (refine yB rfl ?_; intro _ _hb) | refine yU (sl := false) rfl ?_ | refine yM rfl rfl (by assumption) rfl rfl rfl ?_ | refine yV rfl rfl rfl rfl (by assumption) rfl rfl rfl rfl ?_ ) | refine popN rfl ?_ | (refine yG rfl rfl ?_ ?_ <;> intro hb <;> subst hb)) | refine AWp.seq ?_ | refine reg (by kernel_rfl) ?_ | refine lexE ?_ | refine regD (flN []) mixed (by kernel_rfl) (by kernel_rfl) ?_))
    refine ⟨⟨k + 1, by first | omega | (simp only [oZ] at *; omega)⟩, by dsimp only; (first | omega | (simp only [oZ] at *; omega)), [0], ?_⟩
    have hsp : spliceC ((bRowC false)) 0 (eC (eB x)) = bRowC x := rfl
    rw [hsp, hs]
    simp [EnvSub, StoreSub, look_cons, nm, E.ren, C.ren, C.renL, O.ren, killc, kill0, Function.comp_def, argsFrom, zC, hΓ, hren]
  · obtain rfl : k = l.length := by first | omega | (simp only [oZ] at *; omega)
    have he : midL (l.map bRowC) ((bRowC false)) l.length = l.map bRowC := by
      have := midL_end (l.map bRowC) ((bRowC false))
      rwa [hlm] at this
    rw [he]
    refine AWp.exit ?_
    (repeat (first | (refine popO rfl ?_; first | (refine gA rfl ?_; first | refine yLm rfl rfl ?_ | ((first | refine yQ (md := true) rfl ?_ ?_ | refine yL rfl rfl (by assumption) rfl rfl ?_ ?_ | refine yT rfl rfl (by assumption) rfl ?_ ?_); (first | exact True.intro | omega | (simp only [oZ] at *; omega))) | (refine yB rfl ?_; intro _ _hb) | refine yU (sl := false) rfl ?_ | refine yM rfl rfl (by assumption) rfl rfl rfl ?_ | refine yV rfl rfl rfl rfl (by assumption) rfl rfl rfl rfl ?_ ) | refine popN rfl ?_ | (refine yG rfl rfl ?_ ?_ <;> intro hb <;> subst hb)) | refine AWp.seq ?_ | refine reg (by kernel_rfl) ?_ | refine lexE ?_ | refine regD (flN []) mixed (by kernel_rfl) (by kernel_rfl) ?_))
    refine AWp.freeze [0] [(2, eBools l)] ⟨⟨_, rfl, .o (.full (by simp) rfl (by simp [Function.comp_def]) (by simp))⟩, trivial⟩ ?_
    refine AWp.ret ⟨_, rfl, rfl⟩
theorem toIntSS_ok (l : List (List Int)) (h : l.length ≤ 1048576) (hr : ∀ r ∈ l, r.length ≤ 1048576) : Pure Tryz.prog TB 13 [eIntss l] (eIntss l) := by
  have hren : ∀ (r : Nat → Nat) k, (midL (l.map iiRowC) ((iiiRowC [])) k).map (C.renL r) = midL (l.map iiRowC) ((iiiRowC [])) k := fun r k => midL_ren (fun x hx => by obtain ⟨y, _, rfl⟩ := List.mem_map.1 hx; rfl) rfl
  have hlm : (l.map iiRowC).length = l.length := by simp
  refine Spec.of Tryz.func13 rfl (by kernel_rfl) (Nat.le_of_ble_eq_true rfl) ?_; intro Γ hΓ
  (repeat (first | (refine popO rfl ?_; first | (refine gA rfl ?_; first | refine yLm rfl rfl ?_ | ((first | refine yQ (md := true) rfl ?_ ?_ | refine yL rfl rfl (by assumption) rfl rfl ?_ ?_ | refine yT rfl rfl (by assumption) rfl ?_ ?_); (first | exact True.intro | omega | (simp only [oZ] at *; omega))) | (refine yB rfl ?_; intro _ _hb) | refine yU (sl := false) rfl ?_ | refine yM rfl rfl (by assumption) rfl rfl rfl ?_ | refine yV rfl rfl rfl rfl (by assumption) rfl rfl rfl rfl ?_ ) | refine popN rfl ?_ | (refine yG rfl rfl ?_ ?_ <;> intro hb <;> subst hb)) | refine AWp.seq ?_ | refine reg (by kernel_rfl) ?_ | refine lexE ?_ | refine regD (flN []) mixed (by kernel_rfl) (by kernel_rfl) ?_))
  (refine popO rfl ?_; refine popS (fun _ _ => q_assign rfl) rfl ?_)
  (repeat (first | (refine popO rfl ?_; first | (refine gA rfl ?_; first | refine yLm rfl rfl ?_ | ((first | refine yQ (md := true) rfl ?_ ?_ | refine yL rfl rfl (by assumption) rfl rfl ?_ ?_ | refine yT rfl rfl (by assumption) rfl ?_ ?_); (first | exact True.intro | omega | (simp only [oZ] at *; omega))) | (refine yB rfl ?_; intro _ _hb) | refine yU (sl := false) rfl ?_ | refine yM rfl rfl (by assumption) rfl rfl rfl ?_ | refine yV rfl rfl rfl rfl (by assumption) rfl rfl rfl rfl ?_ ) | refine popN rfl ?_ | (refine yG rfl rfl ?_ ?_ <;> intro hb <;> subst hb)) | refine AWp.seq ?_ | refine reg (by kernel_rfl) ?_ | refine lexE ?_ | refine regD (flN []) mixed (by kernel_rfl) (by kernel_rfl) ?_))
  (refine popO rfl ?_; refine popW ?_ rfl (by rfl); refine n_make rfl rfl (by rfl) (by rfl) (Nat.le_of_ble_eq_true rfl) (by omega) (by omega) (by omega) ?_)
  (repeat (first | (refine popO rfl ?_; first | (refine gA rfl ?_; first | refine yLm rfl rfl ?_ | ((first | refine yQ (md := true) rfl ?_ ?_ | refine yL rfl rfl (by assumption) rfl rfl ?_ ?_ | refine yT rfl rfl (by assumption) rfl ?_ ?_); (first | exact True.intro | omega | (simp only [oZ] at *; omega))) | (refine yB rfl ?_; intro _ _hb) | refine yU (sl := false) rfl ?_ | refine yM rfl rfl (by assumption) rfl rfl rfl ?_ | refine yV rfl rfl rfl rfl (by assumption) rfl rfl rfl rfl ?_ ) | refine popN rfl ?_ | (refine yG rfl rfl ?_ ?_ <;> intro hb <;> subst hb)) | refine AWp.seq ?_ | refine reg (by kernel_rfl) ?_ | refine lexE ?_ | refine regD (flN []) mixed (by kernel_rfl) (by kernel_rfl) ?_))
  refine AWp.block ?_
  refine AWp.loopL (α := {k : Nat // k ≤ l.length}) (fun ⟨k, hk⟩ => [(0, eIntss l), (3, .o (.arr 0 1 0 l.length)), (4, eI .i64 k)]) (fun ⟨k, hk⟩ => [(0, .cells 46 1 (midL (l.map iiRowC) ((iiiRowC [])) k))]) 1 (fun ⟨k, hk⟩ => l.length - k) (⟨0, by omega⟩) [0] (by first | (simp [hΓ]; done) | (rw [hΓ]; decide)) (by (repeat' (first | exact trivial | rfl | refine And.intro ?_ ?_)) <;> simp [EnvSub, StoreSub, look_cons, nm, E.ren, C.ren, C.renL, O.ren, killc, kill0, Function.comp_def, argsFrom, zC, hΓ, midL_0, hren]) ?_; rintro ⟨k, hk⟩; try dsimp only
  (repeat (first | (refine popO rfl ?_; first | (refine gA rfl ?_; first | refine yLm rfl rfl ?_ | ((first | refine yQ (md := true) rfl ?_ ?_ | refine yL rfl rfl (by assumption) rfl rfl ?_ ?_ | refine yT rfl rfl (by assumption) rfl ?_ ?_); (first | exact True.intro | omega | (simp only [oZ] at *; omega))) | (refine yB rfl ?_; intro _ _hb) | refine yU (sl := false) rfl ?_ | refine yM rfl rfl (by assumption) rfl rfl rfl ?_ | refine yV rfl rfl rfl rfl (by assumption) rfl rfl rfl rfl ?_ ) | refine popN rfl ?_ | (refine yG rfl rfl ?_ ?_ <;> intro hb <;> subst hb)) | refine AWp.seq ?_ | refine reg (by kernel_rfl) ?_ | refine lexE ?_ | refine regD (flN []) mixed (by kernel_rfl) (by kernel_rfl) ?_))
  (refine AWp.cond rfl (fun hb => ?_) (fun hb => ?_) <;> cases hb)
  · obtain ⟨x, hx⟩ := get_some (l := l) (k := k) (by first | omega | (simp only [oZ] at *; omega))
    have hx' := get_map (g := iiRow) hx
    have hg := midL_get (l := l.map iiRowC) (z := (iiiRowC [])) (k := k) (by first | omega | (simp only [oZ] at *; omega))
    have hs := midL_set (l := l.map iiRowC) (z := (iiiRowC [])) (k := k) (x := iiRowC x) (by simp [hx])
    refine AWp.skip ?_
    refine AWp.seq (AWp.block ?_)
    have hxl := hr x (List.mem_of_getElem? hx)
    (repeat (first | (refine popO rfl ?_; first | (refine gA rfl ?_; first | refine yLm rfl rfl ?_ | ((first | refine yQ (md := true) rfl ?_ ?_ | refine yL rfl rfl (by assumption) rfl rfl ?_ ?_ | refine yT rfl rfl (by assumption) rfl ?_ ?_); (first | exact True.intro | omega | (simp only [oZ] at *; omega))) | (refine yB rfl ?_; intro _ _hb) | refine yU (sl := false) rfl ?_ | refine yM rfl rfl (by assumption) rfl rfl rfl ?_ | refine yV rfl rfl rfl rfl (by assumption) rfl rfl rfl rfl ?_ | refine yP rfl rfl rfl (toIntS_ok x hxl) rfl ?_ ) | refine popN rfl ?_ | (refine yG rfl rfl ?_ ?_ <;> intro hb <;> subst hb)) | refine AWp.seq ?_ | refine reg (by kernel_rfl) ?_ | refine lexE ?_ | refine regD (flN []) mixed (by kernel_rfl) (by kernel_rfl) ?_))
    refine ⟨⟨k + 1, by first | omega | (simp only [oZ] at *; omega)⟩, by dsimp only; (first | omega | (simp only [oZ] at *; omega)), [0], ?_⟩
    have hsp : spliceC ((iiiRowC [])) 0 (eC (eInts x)) = iiRowC x := rfl
    rw [hsp, hs]
    simp [EnvSub, StoreSub, look_cons, nm, E.ren, C.ren, C.renL, O.ren, killc, kill0, Function.comp_def, argsFrom, zC, hΓ, hren]
  · obtain rfl : k = l.length := by first | omega | (simp only [oZ] at *; omega)
    have he : midL (l.map iiRowC) ((iiiRowC [])) l.length = l.map iiRowC := by
      have := midL_end (l.map iiRowC) ((iiiRowC []))
      rwa [hlm] at this
    rw [he]
    refine AWp.exit ?_
    (repeat (first | (refine popO rfl ?_; first | (refine gA rfl ?_; first | refine yLm rfl rfl ?_ | ((first | refine yQ (md := true) rfl ?_ ?_ | refine yL rfl rfl (by assumption) rfl rfl ?_ ?_ | refine yT rfl rfl (by assumption) rfl ?_ ?_); (first | exact True.intro | omega | (simp only [oZ] at *; omega))) | (refine yB rfl ?_; intro _ _hb) | refine yU (sl := false) rfl ?_ | refine yM rfl rfl (by assumption) rfl rfl rfl ?_ | refine yV rfl rfl rfl rfl (by assumption) rfl rfl rfl rfl ?_ ) | refine popN rfl ?_ | (refine yG rfl rfl ?_ ?_ <;> intro hb <;> subst hb)) | refine AWp.seq ?_ | refine reg (by kernel_rfl) ?_ | refine lexE ?_ | refine regD (flN []) mixed (by kernel_rfl) (by kernel_rfl) ?_))
    refine AWp.freeze [0] [(2, eIntss l)] ⟨⟨_, rfl, .o (.full (by simp) rfl (by simp [Function.comp_def]) (by simp))⟩, trivial⟩ ?_
    refine AWp.ret ⟨_, rfl, rfl⟩
theorem toAutomaton_ok (a : Aut) (h1 : a.nx.length ≤ 1048576) (h2 : a.ac.length ≤ 1048576) (h3 : ∀ r ∈ a.nx, r.length ≤ 1048576) : Pure Tryz.prog TB 6 [eAut a] (eAut a) := by
  refine Spec.ofC 2 28 3 [] Tryz.func6 rfl (by kernel_rfl) rfl (Nat.le_of_ble_eq_true rfl) ?_; intro Γ hΓ
  (repeat (first | (refine popO rfl ?_; first | (refine gA rfl ?_; first | refine yLm rfl rfl ?_ | ((first | refine yQ (md := false) rfl ?_ ?_ | refine yL rfl rfl (by assumption) rfl rfl ?_ ?_ | refine yT rfl rfl (by assumption) rfl ?_ ?_); (first | exact True.intro | omega | (simp only [oZ] at *; omega))) | (refine yB rfl ?_; intro _ _hb) | refine yU (sl := true) rfl ?_ | refine yM rfl rfl (by assumption) rfl rfl rfl ?_ | refine yV rfl rfl rfl rfl (by assumption) rfl rfl rfl rfl ?_ | refine yP rfl rfl rfl (toIntSS_ok a.nx h1 h3) rfl ?_ | refine yP rfl rfl rfl (toBoolS_ok a.ac h2) rfl ?_ ) | refine popN rfl ?_ | (refine yG rfl rfl ?_ ?_ <;> intro hb <;> subst hb)) | refine AWp.seq ?_ | refine reg (by kernel_rfl) ?_ | refine lexE ?_))
  refine AWp.ret ⟨⟨0, 3, 0, 28, _, [.d (iD a.al), .d (iiList a.nx), .d (bList a.ac)], _, rfl, rfl, rfl, .keep, rfl⟩, ?_⟩
  intro id k i h
  injection h with h; injection h with h; injection h with _ h; exact h.symm
end Go.Am
/-
  Comparisons; the law.
-/
namespace Go.Am
open Go Go.Proofs
attribute [local irreducible] QOp AOp Lex LexO AWp Spec
variable {TB : List (Nat × Obj)}

theorem eqIntS_ok (l : List Int) : Pure Tryz.prog TB 32 [eInts l, eInts l] (eB true) := by
  refine Spec.of Tryz.func32 rfl (by kernel_rfl) (Nat.le_of_ble_eq_true rfl) ?_; intro Γ hΓ
  refine AWp.bound 0 rfl fun hB0 => ?_
  have hB := hB0 (l.map iRow) .refl
  (repeat' (first | (first | (refine popO rfl ?_; first | (refine gA rfl ?_; first | refine yLm rfl rfl ?_ | ((first | refine yQ (md := false) rfl ?_ ?_ | refine yL rfl rfl (by assumption) rfl rfl ?_ ?_ | refine yT rfl rfl (by assumption) rfl ?_ ?_); (first | exact True.intro | omega | (simp only [oZ] at *; omega))) | (refine yB rfl ?_; intro _ _hb) | refine yU (sl := true) rfl ?_ | refine yM rfl rfl (by assumption) rfl rfl rfl ?_ | refine yV rfl rfl rfl rfl (by assumption) rfl rfl rfl rfl ?_ ) | refine popN rfl ?_ | (refine yG rfl rfl ?_ ?_ <;> intro hb <;> subst hb)) | refine AWp.seq ?_ | refine reg (by kernel_rfl) ?_ | refine lexE ?_ | refine regD (flN []) mixed (by kernel_rfl) (by kernel_rfl) ?_) | (refine AWp.cond rfl (fun hb => ?_) (fun hb => ?_) <;> cases hb) | refine AWp.skip ?_ | refine AWp.exit ?_ | refine AWp.block ?_ | refine AWp.ret ⟨_, rfl, ?_⟩))
  all_goals try (exfalso; first | omega | (simp only [oZ] at *; omega); done)
  refine AWp.loopL (α := {k : Nat // k ≤ l.length}) (fun ⟨k, hk⟩ => [(0, eInts l), (1, eInts l), (5, eI .i64 k)]) (fun ⟨k, hk⟩ => []) 0 (fun ⟨k, hk⟩ => l.length - k) (⟨0, by omega⟩) [] (by first | (simp [hΓ]; done) | (rw [hΓ]; decide)) (by (repeat' (first | exact trivial | rfl | refine And.intro ?_ ?_)) <;> simp [EnvSub, StoreSub, look_cons, nm, E.ren, C.ren, C.renL, O.ren, killc, kill0, Function.comp_def, argsFrom, zC, hΓ]) ?_; rintro ⟨k, hk⟩; try dsimp only
  (repeat (first | (refine popO rfl ?_; first | (refine gA rfl ?_; first | refine yLm rfl rfl ?_ | ((first | refine yQ (md := false) rfl ?_ ?_ | refine yL rfl rfl (by assumption) rfl rfl ?_ ?_ | refine yT rfl rfl (by assumption) rfl ?_ ?_); (first | exact True.intro | omega | (simp only [oZ] at *; omega))) | (refine yB rfl ?_; intro _ _hb) | refine yU (sl := true) rfl ?_ | refine yM rfl rfl (by assumption) rfl rfl rfl ?_ | refine yV rfl rfl rfl rfl (by assumption) rfl rfl rfl rfl ?_ ) | refine popN rfl ?_ | (refine yG rfl rfl ?_ ?_ <;> intro hb <;> subst hb)) | refine AWp.seq ?_ | refine reg (by kernel_rfl) ?_ | refine lexE ?_ | refine regD (flN []) mixed (by kernel_rfl) (by kernel_rfl) ?_))
  (refine AWp.cond rfl (fun hb => ?_) (fun hb => ?_) <;> cases hb)
  · obtain ⟨x, hx⟩ := get_some (l := l) (k := k) (by first | omega | (simp only [oZ] at *; omega))
    have hx' := get_map (g := iRow) hx
    (repeat' (first | (first | (refine popO rfl ?_; first | (refine gA rfl ?_; first | refine yLm rfl rfl ?_ | ((first | refine yQ (md := false) rfl ?_ ?_ | refine yL rfl rfl (by assumption) rfl rfl ?_ ?_ | refine yT rfl rfl (by assumption) rfl ?_ ?_); (first | exact True.intro | omega | (simp only [oZ] at *; omega))) | (refine yB rfl ?_; intro _ _hb) | refine yU (sl := true) rfl ?_ | refine yM rfl rfl (by assumption) rfl rfl rfl ?_ | refine yV rfl rfl rfl rfl (by assumption) rfl rfl rfl rfl ?_ ) | refine popN rfl ?_ | (refine yG rfl rfl ?_ ?_ <;> intro hb <;> subst hb)) | refine AWp.seq ?_ | refine reg (by kernel_rfl) ?_ | refine lexE ?_ | refine regD (flN []) mixed (by kernel_rfl) (by kernel_rfl) ?_) | (refine AWp.cond rfl (fun hb => ?_) (fun hb => ?_) <;> cases hb) | refine AWp.skip ?_ | refine AWp.exit ?_ | refine AWp.block ?_ | refine AWp.ret ⟨_, rfl, ?_⟩))
    all_goals first
      | (exfalso; revert _hb; simp; done)
      | (exfalso; first | omega | (simp only [oZ] at *; omega); done)
      | (refine ⟨⟨k + 1, by first | omega | (simp only [oZ] at *; omega)⟩, by dsimp only; (first | omega | (simp only [oZ] at *; omega)), [], ?_⟩; simp [EnvSub, StoreSub, look_cons, nm, E.ren, C.ren, C.renL, O.ren, killc, kill0, Function.comp_def, argsFrom, zC, hΓ]; done)
  · (repeat' (first | (first | (refine popO rfl ?_; first | (refine gA rfl ?_; first | refine yLm rfl rfl ?_ | ((first | refine yQ (md := false) rfl ?_ ?_ | refine yL rfl rfl (by assumption) rfl rfl ?_ ?_ | refine yT rfl rfl (by assumption) rfl ?_ ?_); (first | exact True.intro | omega | (simp only [oZ] at *; omega))) | (refine yB rfl ?_; intro _ _hb) | refine yU (sl := true) rfl ?_ | refine yM rfl rfl (by assumption) rfl rfl rfl ?_ | refine yV rfl rfl rfl rfl (by assumption) rfl rfl rfl rfl ?_ ) | refine popN rfl ?_ | (refine yG rfl rfl ?_ ?_ <;> intro hb <;> subst hb)) | refine AWp.seq ?_ | refine reg (by kernel_rfl) ?_ | refine lexE ?_ | refine regD (flN []) mixed (by kernel_rfl) (by kernel_rfl) ?_) | (refine AWp.cond rfl (fun hb => ?_) (fun hb => ?_) <;> cases hb) | refine AWp.skip ?_ | refine AWp.exit ?_ | refine AWp.block ?_ | refine AWp.ret ⟨_, rfl, ?_⟩))
    all_goals rfl
theorem eqBoolS_ok (l : List Bool) : Pure Tryz.prog TB 17 [eBools l, eBools l] (eB true) := by
  refine Spec.of Tryz.func17 rfl (by kernel_rfl) (Nat.le_of_ble_eq_true rfl) ?_; intro Γ hΓ
  refine AWp.bound 0 rfl fun hB0 => ?_
  have hB := hB0 (l.map bRow) .refl
  (repeat' (first | (first | (refine popO rfl ?_; first | (refine gA rfl ?_; first | refine yLm rfl rfl ?_ | ((first | refine yQ (md := false) rfl ?_ ?_ | refine yL rfl rfl (by assumption) rfl rfl ?_ ?_ | refine yT rfl rfl (by assumption) rfl ?_ ?_); (first | exact True.intro | omega | (simp only [oZ] at *; omega))) | (refine yB rfl ?_; intro _ _hb) | refine yU (sl := true) rfl ?_ | refine yM rfl rfl (by assumption) rfl rfl rfl ?_ | refine yV rfl rfl rfl rfl (by assumption) rfl rfl rfl rfl ?_ ) | refine popN rfl ?_ | (refine yG rfl rfl ?_ ?_ <;> intro hb <;> subst hb)) | refine AWp.seq ?_ | refine reg (by kernel_rfl) ?_ | refine lexE ?_ | refine regD (flN []) mixed (by kernel_rfl) (by kernel_rfl) ?_) | (refine AWp.cond rfl (fun hb => ?_) (fun hb => ?_) <;> cases hb) | refine AWp.skip ?_ | refine AWp.exit ?_ | refine AWp.block ?_ | refine AWp.ret ⟨_, rfl, ?_⟩))
  all_goals try (exfalso; first | omega | (simp only [oZ] at *; omega); done)
  refine AWp.loopL (α := {k : Nat // k ≤ l.length}) (fun ⟨k, hk⟩ => [(0, eBools l), (1, eBools l), (5, eI .i64 k)]) (fun ⟨k, hk⟩ => []) 0 (fun ⟨k, hk⟩ => l.length - k) (⟨0, by omega⟩) [] (by first | (simp [hΓ]; done) | (rw [hΓ]; decide)) (by (repeat' (first | exact trivial | rfl | refine And.intro ?_ ?_)) <;> simp [EnvSub, StoreSub, look_cons, nm, E.ren, C.ren, C.renL, O.ren, killc, kill0, Function.comp_def, argsFrom, zC, hΓ]) ?_; rintro ⟨k, hk⟩; try dsimp only
  (repeat (first | (refine popO rfl ?_; first | (refine gA rfl ?_; first | refine yLm rfl rfl ?_ | ((first | refine yQ (md := false) rfl ?_ ?_ | refine yL rfl rfl (by assumption) rfl rfl ?_ ?_ | refine yT rfl rfl (by assumption) rfl ?_ ?_); (first | exact True.intro | omega | (simp only [oZ] at *; omega))) | (refine yB rfl ?_; intro _ _hb) | refine yU (sl := true) rfl ?_ | refine yM rfl rfl (by assumption) rfl rfl rfl ?_ | refine yV rfl rfl rfl rfl (by assumption) rfl rfl rfl rfl ?_ ) | refine popN rfl ?_ | (refine yG rfl rfl ?_ ?_ <;> intro hb <;> subst hb)) | refine AWp.seq ?_ | refine reg (by kernel_rfl) ?_ | refine lexE ?_ | refine regD (flN []) mixed (by kernel_rfl) (by kernel_rfl) ?_))
  (refine AWp.cond rfl (fun hb => ?_) (fun hb => ?_) <;> cases hb)
  · obtain ⟨x, hx⟩ := get_some (l := l) (k := k) (by first | omega | (simp only [oZ] at *; omega))
    have hx' := get_map (g := bRow) hx
    (repeat' (first | (first | (refine popO rfl ?_; first | (refine gA rfl ?_; first | refine yLm rfl rfl ?_ | ((first | refine yQ (md := false) rfl ?_ ?_ | refine yL rfl rfl (by assumption) rfl rfl ?_ ?_ | refine yT rfl rfl (by assumption) rfl ?_ ?_); (first | exact True.intro | omega | (simp only [oZ] at *; omega))) | (refine yB rfl ?_; intro _ _hb) | refine yU (sl := true) rfl ?_ | refine yM rfl rfl (by assumption) rfl rfl rfl ?_ | refine yV rfl rfl rfl rfl (by assumption) rfl rfl rfl rfl ?_ ) | refine popN rfl ?_ | (refine yG rfl rfl ?_ ?_ <;> intro hb <;> subst hb)) | refine AWp.seq ?_ | refine reg (by kernel_rfl) ?_ | refine lexE ?_ | refine regD (flN []) mixed (by kernel_rfl) (by kernel_rfl) ?_) | (refine AWp.cond rfl (fun hb => ?_) (fun hb => ?_) <;> cases hb) | refine AWp.skip ?_ | refine AWp.exit ?_ | refine AWp.block ?_ | refine AWp.ret ⟨_, rfl, ?_⟩))
    all_goals first
      | (exfalso; revert _hb; simp; done)
      | (exfalso; first | omega | (simp only [oZ] at *; omega); done)
      | (refine ⟨⟨k + 1, by first | omega | (simp only [oZ] at *; omega)⟩, by dsimp only; (first | omega | (simp only [oZ] at *; omega)), [], ?_⟩; simp [EnvSub, StoreSub, look_cons, nm, E.ren, C.ren, C.renL, O.ren, killc, kill0, Function.comp_def, argsFrom, zC, hΓ]; done)
  · (repeat' (first | (first | (refine popO rfl ?_; first | (refine gA rfl ?_; first | refine yLm rfl rfl ?_ | ((first | refine yQ (md := false) rfl ?_ ?_ | refine yL rfl rfl (by assumption) rfl rfl ?_ ?_ | refine yT rfl rfl (by assumption) rfl ?_ ?_); (first | exact True.intro | omega | (simp only [oZ] at *; omega))) | (refine yB rfl ?_; intro _ _hb) | refine yU (sl := true) rfl ?_ | refine yM rfl rfl (by assumption) rfl rfl rfl ?_ | refine yV rfl rfl rfl rfl (by assumption) rfl rfl rfl rfl ?_ ) | refine popN rfl ?_ | (refine yG rfl rfl ?_ ?_ <;> intro hb <;> subst hb)) | refine AWp.seq ?_ | refine reg (by kernel_rfl) ?_ | refine lexE ?_ | refine regD (flN []) mixed (by kernel_rfl) (by kernel_rfl) ?_) | (refine AWp.cond rfl (fun hb => ?_) (fun hb => ?_) <;> cases hb) | refine AWp.skip ?_ | refine AWp.exit ?_ | refine AWp.block ?_ | refine AWp.ret ⟨_, rfl, ?_⟩))
    all_goals rfl
theorem eqIntSS_ok (l : List (List Int)) : Pure Tryz.prog TB 16 [eIntss l, eIntss l] (eB true) := by
  refine Spec.of Tryz.func16 rfl (by kernel_rfl) (Nat.le_of_ble_eq_true rfl) ?_; intro Γ hΓ
  refine AWp.bound 0 rfl fun hB0 => ?_
  have hB := hB0 (l.map iiRow) .refl
  (repeat' (first | (first | (refine popO rfl ?_; first | (refine gA rfl ?_; first | refine yLm rfl rfl ?_ | ((first | refine yQ (md := false) rfl ?_ ?_ | refine yL rfl rfl (by assumption) rfl rfl ?_ ?_ | refine yT rfl rfl (by assumption) rfl ?_ ?_); (first | exact True.intro | omega | (simp only [oZ] at *; omega))) | (refine yB rfl ?_; intro _ _hb) | refine yU (sl := true) rfl ?_ | refine yM rfl rfl (by assumption) rfl rfl rfl ?_ | refine yV rfl rfl rfl rfl (by assumption) rfl rfl rfl rfl ?_ ) | refine popN rfl ?_ | (refine yG rfl rfl ?_ ?_ <;> intro hb <;> subst hb)) | refine AWp.seq ?_ | refine reg (by kernel_rfl) ?_ | refine lexE ?_ | refine regD (flN []) mixed (by kernel_rfl) (by kernel_rfl) ?_) | (refine AWp.cond rfl (fun hb => ?_) (fun hb => ?_) <;> cases hb) | refine AWp.skip ?_ | refine AWp.exit ?_ | refine AWp.block ?_ | refine AWp.ret ⟨_, rfl, ?_⟩))
  all_goals try (exfalso; first | omega | (simp only [oZ] at *; omega); done)
  refine AWp.loopL (α := {k : Nat // k ≤ l.length}) (fun ⟨k, hk⟩ => [(0, eIntss l), (1, eIntss l), (5, eI .i64 k)]) (fun ⟨k, hk⟩ => []) 0 (fun ⟨k, hk⟩ => l.length - k) (⟨0, by omega⟩) [] (by first | (simp [hΓ]; done) | (rw [hΓ]; decide)) (by (repeat' (first | exact trivial | rfl | refine And.intro ?_ ?_)) <;> simp [EnvSub, StoreSub, look_cons, nm, E.ren, C.ren, C.renL, O.ren, killc, kill0, Function.comp_def, argsFrom, zC, hΓ]) ?_; rintro ⟨k, hk⟩; try dsimp only
  (repeat (first | (refine popO rfl ?_; first | (refine gA rfl ?_; first | refine yLm rfl rfl ?_ | ((first | refine yQ (md := false) rfl ?_ ?_ | refine yL rfl rfl (by assumption) rfl rfl ?_ ?_ | refine yT rfl rfl (by assumption) rfl ?_ ?_); (first | exact True.intro | omega | (simp only [oZ] at *; omega))) | (refine yB rfl ?_; intro _ _hb) | refine yU (sl := true) rfl ?_ | refine yM rfl rfl (by assumption) rfl rfl rfl ?_ | refine yV rfl rfl rfl rfl (by assumption) rfl rfl rfl rfl ?_ ) | refine popN rfl ?_ | (refine yG rfl rfl ?_ ?_ <;> intro hb <;> subst hb)) | refine AWp.seq ?_ | refine reg (by kernel_rfl) ?_ | refine lexE ?_ | refine regD (flN []) mixed (by kernel_rfl) (by kernel_rfl) ?_))
  (refine AWp.cond rfl (fun hb => ?_) (fun hb => ?_) <;> cases hb)
  · obtain ⟨x, hx⟩ := get_some (l := l) (k := k) (by first | omega | (simp only [oZ] at *; omega))
    have hx' := get_map (g := iiRow) hx
    (repeat' (first | (first | (refine popO rfl ?_; first | (refine gA rfl ?_; first | refine yLm rfl rfl ?_ | ((first | refine yQ (md := false) rfl ?_ ?_ | refine yL rfl rfl (by assumption) rfl rfl ?_ ?_ | refine yT rfl rfl (by assumption) rfl ?_ ?_); (first | exact True.intro | omega | (simp only [oZ] at *; omega))) | (refine yB rfl ?_; intro _ _hb) | refine yU (sl := true) rfl ?_ | refine yM rfl rfl (by assumption) rfl rfl rfl ?_ | refine yV rfl rfl rfl rfl (by assumption) rfl rfl rfl rfl ?_ | refine yP rfl rfl rfl (eqIntS_ok x) rfl ?_ ) | refine popN rfl ?_ | (refine yG rfl rfl ?_ ?_ <;> intro hb <;> subst hb)) | refine AWp.seq ?_ | refine reg (by kernel_rfl) ?_ | refine lexE ?_ | refine regD (flN []) mixed (by kernel_rfl) (by kernel_rfl) ?_) | (refine AWp.cond rfl (fun hb => ?_) (fun hb => ?_) <;> cases hb) | refine AWp.skip ?_ | refine AWp.exit ?_ | refine AWp.block ?_ | refine AWp.ret ⟨_, rfl, ?_⟩))
    all_goals first
      | (exfalso; revert _hb; simp; done)
      | (exfalso; first | omega | (simp only [oZ] at *; omega); done)
      | (refine ⟨⟨k + 1, by first | omega | (simp only [oZ] at *; omega)⟩, by dsimp only; (first | omega | (simp only [oZ] at *; omega)), [], ?_⟩; simp [EnvSub, StoreSub, look_cons, nm, E.ren, C.ren, C.renL, O.ren, killc, kill0, Function.comp_def, argsFrom, zC, hΓ]; done)
  · (repeat' (first | (first | (refine popO rfl ?_; first | (refine gA rfl ?_; first | refine yLm rfl rfl ?_ | ((first | refine yQ (md := false) rfl ?_ ?_ | refine yL rfl rfl (by assumption) rfl rfl ?_ ?_ | refine yT rfl rfl (by assumption) rfl ?_ ?_); (first | exact True.intro | omega | (simp only [oZ] at *; omega))) | (refine yB rfl ?_; intro _ _hb) | refine yU (sl := true) rfl ?_ | refine yM rfl rfl (by assumption) rfl rfl rfl ?_ | refine yV rfl rfl rfl rfl (by assumption) rfl rfl rfl rfl ?_ ) | refine popN rfl ?_ | (refine yG rfl rfl ?_ ?_ <;> intro hb <;> subst hb)) | refine AWp.seq ?_ | refine reg (by kernel_rfl) ?_ | refine lexE ?_ | refine regD (flN []) mixed (by kernel_rfl) (by kernel_rfl) ?_) | (refine AWp.cond rfl (fun hb => ?_) (fun hb => ?_) <;> cases hb) | refine AWp.skip ?_ | refine AWp.exit ?_ | refine AWp.block ?_ | refine AWp.ret ⟨_, rfl, ?_⟩))
    all_goals rfl
theorem eqAutomaton_ok (a : Aut) : Pure Tryz.prog TB 8 [eAut a, eAut a] (eB true) := by
  refine Spec.of Tryz.func8 rfl (by kernel_rfl) (Nat.le_of_ble_eq_true rfl) ?_; intro Γ hΓ
  (repeat' (first | (first | (refine popO rfl ?_; first | (refine gA rfl ?_; first | refine yLm rfl rfl ?_ | ((first | refine yQ (md := false) rfl ?_ ?_ | refine yL rfl rfl (by assumption) rfl rfl ?_ ?_ | refine yT rfl rfl (by assumption) rfl ?_ ?_); (first | exact True.intro | omega | (simp only [oZ] at *; omega))) | (refine yB rfl ?_; intro _ _hb) | refine yU (sl := true) rfl ?_ | refine yM rfl rfl (by assumption) rfl rfl rfl ?_ | refine yV rfl rfl rfl rfl (by assumption) rfl rfl rfl rfl ?_ | refine yP rfl rfl rfl (eqIntSS_ok a.nx) rfl ?_ | refine yP rfl rfl rfl (eqBoolS_ok a.ac) rfl ?_ ) | refine popN rfl ?_ | (refine yG rfl rfl ?_ ?_ <;> intro hb <;> subst hb)) | refine AWp.seq ?_ | refine reg (by kernel_rfl) ?_ | refine lexE ?_ | refine regD (flN []) mixed (by kernel_rfl) (by kernel_rfl) ?_) | (refine AWp.cond rfl (fun hb => ?_) (fun hb => ?_) <;> cases hb) | refine AWp.skip ?_ | refine AWp.exit ?_ | refine AWp.block ?_ | refine AWp.ret ⟨_, rfl, ?_⟩))
  all_goals first
    | rfl
    | (exfalso; first | omega | (simp only [oZ] at *; omega); done)
    | (exfalso; revert _hb; simp; done)
end Go.Am
/-
  Tables of words, plainly: marks, the first word by which a table is open, closing, the automaton, the column that a wrong word shows.
-/
namespace Go.Am
set_option linter.unusedVariables false

abbrev W := List UInt8
structure Tab where
  rows : List W
  cols : List W
def mkB (b : Bool) : UInt8 := if b then 43 else 45
theorem mkB_inj {a b : Bool} (h : mkB a = mkB b) : a = b := by cases a <;> cases b <;> first | rfl | (simp [mkB] at h)
def marks (L : W → Bool) (cols : List W) (w : W) : W := cols.map fun c => mkB (L (w ++ c))
theorem marks_eq {L : W → Bool} {cols : List W} {u w : W} : marks L cols u = marks L cols w ↔ ∀ c ∈ cols, L (u ++ c) = L (w ++ c) := by
  unfold marks
  rw [List.map_inj_left]
  exact ⟨fun h c hc => mkB_inj (h c hc), fun h c hc => by rw [h c hc]⟩
def rowsM (L : W → Bool) (t : Tab) : List W := t.rows.map (marks L t.cols)
def nextsB (ls : List UInt8) (rows : List W) : List W := rows.flatMap fun r => ls.map fun l => r ++ [l]
def openW (L : W → Bool) (ls : List UInt8) (t : Tab) : Option W := (nextsB ls t.rows).find? fun w => !(rowsM L t).contains (marks L t.cols w)
def closeN (L : W → Bool) (ls : List UInt8) : Nat → Tab → Option Tab
  | 0, _ => none
  | n + 1, t => match openW L ls t with
    | none => some t
    | some w => if t.rows.length = 12 then none else closeN L ls n ⟨t.rows ++ [w], t.cols⟩
def wordOn (ls : List UInt8) (w : W) : Prop := ∀ c ∈ w, c ∈ ls
/-- A table as it must be. -/
structure TOk (L : W → Bool) (ls : List UInt8) (t : Tab) : Prop where
  r0 : t.rows[0]? = some []
  c0 : t.cols[0]? = some []
  pre : ∀ (i : Nat) w, t.rows[i]? = some w → 0 < i → w ≠ [] ∧ ∃ j, j < i ∧ t.rows[j]? = some w.dropLast
  onR : ∀ w ∈ t.rows, wordOn ls w
  onC : ∀ c ∈ t.cols, wordOn ls c
  nd : (rowsM L t).Nodup
  ndC : t.cols.Nodup
theorem openW_some {L : W → Bool} {ls : List UInt8} {t : Tab} {w : W} (h : openW L ls t = some w) : (∃ r ∈ t.rows, ∃ l ∈ ls, w = r ++ [l]) ∧ marks L t.cols w ∉ rowsM L t := by
  have h1 := List.find?_some h
  have h2 := List.mem_of_find?_eq_some h
  unfold nextsB at h2
  simp only [List.mem_flatMap, List.mem_map] at h2
  obtain ⟨r, hr, l, hl, rfl⟩ := h2
  exact ⟨⟨r, hr, l, hl, rfl⟩, by simpa using h1⟩
theorem openW_none {L : W → Bool} {ls : List UInt8} {t : Tab} (h : openW L ls t = none) : ∀ r ∈ t.rows, ∀ l ∈ ls, marks L t.cols (r ++ [l]) ∈ rowsM L t := by
  intro r hr l hl
  have h1 := List.find?_eq_none.1 h (r ++ [l]) (by unfold nextsB; simp only [List.mem_flatMap, List.mem_map]; exact ⟨r, hr, l, hl, rfl⟩)
  simpa using h1
theorem TOk.push {L : W → Bool} {ls : List UInt8} {t : Tab} {w : W} (h : TOk L ls t) (ho : openW L ls t = some w) : TOk L ls ⟨t.rows ++ [w], t.cols⟩ := by
  obtain ⟨⟨r, hr, l, hl, rfl⟩, hn⟩ := openW_some ho
  have h0 : 0 < t.rows.length := (List.getElem?_eq_some_iff.1 h.r0).1
  refine ⟨by rw [List.getElem?_append_left h0]; exact h.r0, h.c0, fun i w hi hp => ?_, fun w hw => ?_, h.onC, ?_, h.ndC⟩
  · by_cases hil : i < t.rows.length
    · rw [List.getElem?_append_left hil] at hi
      obtain ⟨h1, j, h2, h3⟩ := h.pre i w hi hp
      exact ⟨h1, j, h2, by rw [List.getElem?_append_left (by omega)]; exact h3⟩
    · rw [List.getElem?_append_right (by omega)] at hi
      have hi0 : i = t.rows.length := by
        have := (List.getElem?_eq_some_iff.1 hi).1
        simp at this; omega
      subst hi0
      simp at hi
      subst hi
      obtain ⟨j, hj, he⟩ := List.getElem_of_mem hr
      refine ⟨by simp, j, hj, ?_⟩
      rw [List.getElem?_append_left hj, List.dropLast_concat, List.getElem?_eq_getElem hj, he]
  · rcases List.mem_append.1 hw with hw | hw
    · exact h.onR w hw
    · simp at hw
      subst hw
      intro c hc
      rcases List.mem_append.1 hc with hc | hc
      · exact h.onR r hr c hc
      · simp at hc; subst hc; exact hl
  · unfold rowsM
    rw [List.map_append, List.nodup_append]
    refine ⟨h.nd, by simp, fun a ha b hb => ?_⟩
    simp at hb
    subst hb
    intro e
    exact hn (e ▸ ha)

/-! A language that few states tell. -/
structure Fin (L : W → Bool) (ls : List UInt8) (n : Nat) where
  st : W → Nat
  lt : ∀ w, wordOn ls w → st w < n
  same : ∀ u w v, wordOn ls u → wordOn ls w → wordOn ls v → st u = st w → L (u ++ v) = L (w ++ v)
theorem nodup_lt : ∀ (n : Nat) (l : List Nat), l.Nodup → (∀ x ∈ l, x < n) → l.length ≤ n
  | 0, l, _, h => by cases l with
    | nil => simp
    | cons x l => have := h x (by simp); omega
  | n + 1, l, hd, h => by
    have h1 := nodup_lt n (l.erase n) (hd.erase n) fun x hx => by
      have h2 := h x (List.mem_of_mem_erase hx)
      have h3 : x ≠ n := fun e => by subst e; exact (List.Nodup.not_mem_erase hd) hx
      omega
    by_cases hn : n ∈ l
    · rw [List.length_erase_of_mem hn] at h1; omega
    · rw [List.erase_of_not_mem hn] at h1; omega
theorem TOk.few {L : W → Bool} {ls : List UInt8} {t : Tab} {n : Nat} (h : TOk L ls t) (f : Fin L ls n) : t.rows.length ≤ n := by
  have h1 : (t.rows.map f.st).Nodup := by
    have hnd := h.nd
    unfold rowsM at hnd
    unfold List.Nodup at *
    rw [List.pairwise_map] at *
    refine List.Pairwise.imp_of_mem (fun {a b} ha hb hne hst => hne ?_) hnd
    exact marks_eq.2 fun c hc => f.same a b c (h.onR a ha) (h.onR b hb) (h.onC c hc) hst
  have h2 := nodup_lt n _ h1 fun x hx => by
    obtain ⟨w, hw, rfl⟩ := List.mem_map.1 hx
    exact f.lt w (h.onR w hw)
  simpa using h2
/-- Closing. -/
theorem closeN_ok {L : W → Bool} {ls : List UInt8} {n : Nat} (f : Fin L ls n) (hn : n ≤ 12) : ∀ (k : Nat) (t : Tab), TOk L ls t → 13 ≤ k + t.rows.length → ∃ t', closeN L ls k t = some t' ∧ TOk L ls t' ∧ openW L ls t' = none ∧ t.rows <+: t'.rows ∧ t'.cols = t.cols ∧ (openW L ls t ≠ none → t.rows.length < t'.rows.length)
  | 0, t, h, hk => by have := h.few f; omega
  | k + 1, t, h, hk => by
    unfold closeN
    cases ho : openW L ls t with
    | none => exact ⟨t, rfl, h, ho, List.prefix_refl _, rfl, fun h => absurd rfl h⟩
    | some w =>
      have h2 := h.push ho
      have h3 := h2.few f
      simp only [List.length_append, List.length_cons, List.length_nil] at h3
      simp only
      rw [if_neg (show ¬ t.rows.length = 12 by omega)]
      obtain ⟨t', e1, e2, e3, e4, e5, _⟩ := closeN_ok f hn k _ h2 (by simp; omega)
      have h5 : t.rows <+: t'.rows := List.IsPrefix.trans (List.prefix_append _ _) e4
      refine ⟨t', e1, e2, e3, h5, e5, fun _ => ?_⟩
      have := e4.length_le
      simp at this; omega

/-! The automaton of a closed table. -/
def idxM (L : W → Bool) (t : Tab) (w : W) : Nat := (rowsM L t).idxOf (marks L t.cols w)
def runM (L : W → Bool) (t : Tab) : Nat → W → Nat
  | i, [] => i
  | i, c :: w => runM L t (idxM L t ((t.rows.getD i []) ++ [c])) w
theorem runM_app (L : W → Bool) (t : Tab) : ∀ (u w : W) (i : Nat), runM L t i (u ++ w) = runM L t (runM L t i u) w
  | [], _, _ => rfl
  | c :: u, w, i => runM_app L t u w _
structure Closed (L : W → Bool) (ls : List UInt8) (t : Tab) : Prop extends TOk L ls t where
  cl : ∀ r ∈ t.rows, ∀ l ∈ ls, marks L t.cols (r ++ [l]) ∈ rowsM L t
theorem Closed.idx {L : W → Bool} {ls : List UInt8} {t : Tab} (h : Closed L ls t) {i : Nat} {r : W} {l : UInt8} (hi : t.rows[i]? = some r) (hl : l ∈ ls) : ∃ r', t.rows[idxM L t (r ++ [l])]? = some r' ∧ marks L t.cols r' = marks L t.cols (r ++ [l]) := by
  have h1 := h.cl r (List.mem_of_getElem? hi) l hl
  have h2 : idxM L t (r ++ [l]) < (rowsM L t).length := List.idxOf_lt_length_iff.2 h1
  have h3 : (rowsM L t)[idxM L t (r ++ [l])]'h2 = marks L t.cols (r ++ [l]) := List.getElem_idxOf h2
  have h4 : idxM L t (r ++ [l]) < t.rows.length := by simpa [rowsM] using h2
  refine ⟨t.rows[idxM L t (r ++ [l])], List.getElem?_eq_getElem h4, ?_⟩
  rw [← h3]
  simp [rowsM]
theorem Closed.run {L : W → Bool} {ls : List UInt8} {t : Tab} (h : Closed L ls t) : ∀ (w : W) (i : Nat), wordOn ls w → i < t.rows.length → runM L t i w < t.rows.length
  | [], _, _, hi => hi
  | c :: w, i, hw, hi => by
    have h1 : t.rows[i]? = some t.rows[i] := List.getElem?_eq_getElem hi
    obtain ⟨_, h2, _⟩ := h.idx h1 (hw c (by simp))
    have h3 : t.rows.getD i [] = t.rows[i] := by simp [h1]
    show runM L t (idxM L t (t.rows.getD i [] ++ [c])) w < _
    rw [h3]
    exact h.run w _ (fun x hx => hw x (by simp [hx])) (List.getElem?_eq_some_iff.1 h2).1
/-- The first place at which the rows' answers part from the word's. -/
def splitAt (L : W → Bool) (t : Tab) (b : Bool) : Nat → W → Option W
  | _, [] => none
  | i, c :: v => if L (t.rows.getD (idxM L t ((t.rows.getD i []) ++ [c])) [] ++ v) ≠ b then some v else splitAt L t b (idxM L t ((t.rows.getD i []) ++ [c])) v
end Go.Am
/-
  Marks of words.
-/
namespace Go.Am
open Go Go.Proofs
attribute [local irreducible] QOp AOp Lex LexO AWp Spec
variable {TB : List (Nat × Obj)}

abbrev taRow (t : Tab) : List D := [tList t.rows, tList t.cols]
abbrev eTab (t : Tab) : E := .a [.d (tList t.rows), .d (tList t.cols)]
abbrev eOra (al : Int) (c : C) : E := .a [.d (iD al), c]
mutual
theorem ren_pur : ∀ (c : C), c.pur = true → ∀ r, c.ren r = c
  | .d x, _, r => rfl
  | .fn g cap, h, r => by
    simp only [C.pur] at h
    simp only [C.ren, renL_pur cap h r]
  | .arr .., h, _ => by cases h
  | .ptr .., h, _ => by cases h
  | .mp .., h, _ => by cases h
theorem renL_pur : ∀ (l : List C), C.purL l = true → ∀ r, C.renL r l = l
  | [], _, r => rfl
  | c :: l, h, r => by
    simp only [C.purL, Bool.and_eq_true] at h
    simp only [C.renL, ren_pur c h.1 r, renL_pur l h.2 r]
end
/-- A function value that answers for words. -/
structure AskV (P : Program) (TB : List (Nat × Obj)) (c : C) (L : W → Bool) (ok : W → Prop) : Prop where
  pur : c.pur = true
  ask : ∀ {Γ : Ctx} {d : Option Tmp} {ty : TypeId} {pos : String} {af : Array Edge} {g : Option (Nat × Bool)} {f : Env} {σ : Store} {nx : Nat} {x a : Operand} {tys : Array TypeId} {w : W},
    ev f x = some (.o c) → ev f a = some (eT w) → ok w → QOp P TB Γ ⟨d, .call ⟨.value x, #[a], tys⟩, ty, pos, af, g⟩ f σ nx (eB (L w))
theorem AskV.of {P : Program} {g : FuncId} {cap : List C} {L : W → Bool} {ok : W → Prop} (hc : C.purL cap = true) (h : ∀ w, ok w → Pure P TB g ([eT w] ++ cap.map .o) (eB (L w))) : AskV P TB (.fn g cap) L ok :=
  ⟨hc, fun hx ha hw => q_call (es := [eT _]) hx (by simp [evs, ha]) (by simp [E.pur, C.pur, hc]) (h _ hw) rfl⟩
/-- The marks so far: the first k told, then one byte each. -/
def mkH (L : W → Bool) (cols : List W) (w : W) (k : Nat) (i : Nat) : UInt8 := if i < k then mkB (L (w ++ cols.getD i [])) else 0
theorem marks_rows (L : W → Bool) (cols : List W) (w : W) : (rowsF cols.length fun i => byC (mkH L cols w cols.length i)) = (marks L cols w).map byC := by
  apply List.ext_getElem?
  intro i
  by_cases h : i < cols.length
  · rw [rowsF_get h]
    simp [marks, mkH, h]
  · rw [List.getElem?_eq_none (by simp [rowsF]; omega), List.getElem?_eq_none (by simp [marks]; omega)]
theorem byC0 : byC 0 = [C.d (D.v (Value.int IntKind.u8 0))] := rfl
theorem mkH_0 (L : W → Bool) (cols : List W) (w : W) (n : Nat) : (rowsF n fun i => byC (mkH L cols w 0 i)) = List.replicate n (byC 0) := by
  apply List.ext_getElem?
  intro i
  by_cases h : i < n
  · rw [rowsF_get h]; simp [mkH, h]
  · rw [List.getElem?_eq_none (by simp [rowsF]; omega), List.getElem?_eq_none (by simp; omega)]
theorem mkH_step {L : W → Bool} {cols : List W} {w x : W} {k : Nat} (hx : cols[k]? = some x) : (rowsF cols.length fun i => byC (if i = k then mkB (L (w ++ x)) else mkH L cols w k i)) = rowsF cols.length fun i => byC (mkH L cols w (k + 1) i) := by
  refine rowsF_congr fun i _ => ?_
  congr 1
  unfold mkH
  by_cases h : i = k
  · subst h
    rw [if_pos rfl, if_pos (by omega)]
    simp [hx]
  · rw [if_neg h]
    by_cases h2 : i < k
    · rw [if_pos h2, if_pos (by omega)]
    · rw [if_neg h2, if_neg (by omega)]
theorem marks_ok {c : C} {L : W → Bool} {ok : W → Prop} (hc : AskV Tryz.prog TB c L ok) (al : Int) (t : Tab) (w : W) (hl : t.cols.length ≤ 1048576) (hk : ∀ x ∈ t.cols, ok (w ++ x)) (hb : ∀ x ∈ t.cols, w.length + x.length ≤ 1048576) :
    Pure Tryz.prog TB 54 [eOra al c, eTab t, eT w] (eT (marks L t.cols w)) := by
  have hr := ren_pur c hc.pur
  refine Spec.of Tryz.func54 rfl (by kernel_rfl) (Nat.le_of_ble_eq_true rfl) ?_; intro Γ hΓ
  (repeat (first | (refine popO rfl ?_; first | (refine gA rfl ?_; first | refine yLm rfl rfl ?_ | ((first | refine yQ (md := true) rfl ?_ ?_ | refine yL rfl rfl (by assumption) rfl rfl ?_ ?_ | refine yT rfl rfl (by assumption) rfl ?_ ?_); (first | exact True.intro | omega | (simp only [oZ] at *; omega))) | (refine yB rfl ?_; intro _ _hb) | refine yU (sl := false) rfl ?_ | refine yM rfl rfl (by assumption) rfl rfl rfl ?_ | refine yV rfl rfl rfl rfl (by assumption) rfl rfl rfl rfl ?_ ) | refine popN rfl ?_ | (refine yG rfl rfl ?_ ?_ <;> intro hb <;> subst hb)) | refine AWp.seq ?_ | refine reg (by kernel_rfl) ?_ | refine lexE ?_ | refine regD (flN []) mixed (by kernel_rfl) (by kernel_rfl) ?_))
  (refine popO rfl ?_; refine popW ?_ rfl (by rfl); refine n_box rfl rfl ?_)
  (refine popO rfl ?_; refine popS (fun _ _ => q_boxI rfl rfl rfl) rfl ?_)
  (repeat (first | (refine popO rfl ?_; first | (refine gA rfl ?_; first | refine yLm rfl rfl ?_ | ((first | refine yQ (md := true) rfl ?_ ?_ | refine yL rfl rfl (by assumption) rfl rfl ?_ ?_ | refine yT rfl rfl (by assumption) rfl ?_ ?_); (first | exact True.intro | omega | (simp only [oZ] at *; omega))) | (refine yB rfl ?_; intro _ _hb) | refine yU (sl := false) rfl ?_ | refine yM rfl rfl (by assumption) rfl rfl rfl ?_ | refine yV rfl rfl rfl rfl (by assumption) rfl rfl rfl rfl ?_ ) | refine popN rfl ?_ | (refine yG rfl rfl ?_ ?_ <;> intro hb <;> subst hb)) | refine AWp.seq ?_ | refine reg (by kernel_rfl) ?_ | refine lexE ?_ | refine regD (flN []) mixed (by kernel_rfl) (by kernel_rfl) ?_))
  (refine popO rfl ?_; refine popW ?_ rfl (by rfl); refine n_make rfl rfl (by rfl) (by rfl) (Nat.le_of_ble_eq_true rfl) (by omega) (by omega) (by omega) ?_)
  (repeat (first | (refine popO rfl ?_; first | (refine gA rfl ?_; first | refine yLm rfl rfl ?_ | ((first | refine yQ (md := true) rfl ?_ ?_ | refine yL rfl rfl (by assumption) rfl rfl ?_ ?_ | refine yT rfl rfl (by assumption) rfl ?_ ?_); (first | exact True.intro | omega | (simp only [oZ] at *; omega))) | (refine yB rfl ?_; intro _ _hb) | refine yU (sl := false) rfl ?_ | refine yM rfl rfl (by assumption) rfl rfl rfl ?_ | refine yV rfl rfl rfl rfl (by assumption) rfl rfl rfl rfl ?_ ) | refine popN rfl ?_ | (refine yG rfl rfl ?_ ?_ <;> intro hb <;> subst hb)) | refine AWp.seq ?_ | refine reg (by kernel_rfl) ?_ | refine lexE ?_ | refine regD (flN []) mixed (by kernel_rfl) (by kernel_rfl) ?_))
  refine AWp.block ?_
  refine AWp.loopL (α := {k : Nat // k ≤ t.cols.length}) (fun ⟨k, hkl⟩ => [(2, eT w), (3, .o (.ptr 0 2 0 0)), (7, .o (.arr 1 1 0 t.cols.length)), (15, .o (.d (tList t.cols))), (16, eI .i64 t.cols.length), (17, eI .i64 k)]) (fun ⟨k, hkl⟩ => [(1, .cells 5 1 (rowsF t.cols.length fun i => byC (mkH L t.cols w k i))), (0, .cells 68 2 [[.d (iD al), c]])]) 2 (fun ⟨k, hkl⟩ => t.cols.length - k) (⟨0, by omega⟩) [0, 1] (by first | (simp [hΓ]; done) | (rw [hΓ]; decide)) (by (repeat' (first | exact trivial | rfl | refine And.intro ?_ ?_)) <;> simp [EnvSub, StoreSub, look_cons, nm, E.ren, C.ren, C.renL, O.ren, killc, kill0, Function.comp_def, argsFrom, zC, hΓ, ren_by, hr, mkH_0, eC, renL_byC, byC0]) ?_; rintro ⟨k, hkl⟩; try dsimp only
  (repeat (first | (refine popO rfl ?_; first | (refine gA rfl ?_; first | refine yLm rfl rfl ?_ | ((first | refine yQ (md := true) rfl ?_ ?_ | refine yL rfl rfl (by assumption) rfl rfl ?_ ?_ | refine yT rfl rfl (by assumption) rfl ?_ ?_); (first | exact True.intro | omega | (simp only [oZ] at *; omega))) | (refine yB rfl ?_; intro _ _hb) | refine yU (sl := false) rfl ?_ | refine yM rfl rfl (by assumption) rfl rfl rfl ?_ | refine yV rfl rfl rfl rfl (by assumption) rfl rfl rfl rfl ?_ ) | refine popN rfl ?_ | (refine yG rfl rfl ?_ ?_ <;> intro hb <;> subst hb)) | refine AWp.seq ?_ | refine reg (by kernel_rfl) ?_ | refine lexE ?_ | refine regD (flN []) mixed (by kernel_rfl) (by kernel_rfl) ?_))
  (refine AWp.cond rfl (fun hb => ?_) (fun hb => ?_) <;> cases hb)
  · have hlt : k < t.cols.length := by first | omega | (simp only [oZ] at *; omega)
    obtain ⟨x, hx⟩ := get_some (l := t.cols) (k := k) hlt
    have hx' := get_map (g := tRow) hx
    have hxm := List.mem_of_getElem? hx
    have hxb := hb x hxm
    have hok := hk x hxm
    have hg := getA_by (H := mkH L t.cols w k) (q := k) (n := t.cols.length) hlt
    have hs1 : (rowsF t.cols.length fun i => byC (mkH L t.cols w k i)).set (0 + ((k : Nat) : Int).toNat) (spliceC (byC (mkH L t.cols w k k)) 0 (eC (eI .u8 45))) = rowsF t.cols.length fun i => byC (if i = k then 45 else mkH L t.cols w k i) := setA_by (c := 45)
    have hg2 := getA_by (H := fun i => if i = k then 45 else mkH L t.cols w k i) (q := k) (n := t.cols.length) hlt
    rw [← hs1] at hg2
    have hs2 : (rowsF t.cols.length fun i => byC (if i = k then 45 else mkH L t.cols w k i)).set (0 + ((k : Nat) : Int).toNat) (spliceC (byC (if k = k then 45 else mkH L t.cols w k k)) 0 (eC (eI .u8 43))) = rowsF t.cols.length fun i => byC (if i = k then 43 else mkH L t.cols w k i) := by
      refine (setA_by (H := fun i => if i = k then 45 else mkH L t.cols w k i) (c := 43)).trans ?_
      refine rowsF_congr fun i _ => ?_
      by_cases h : i = k <;> simp [h]
    have hst := mkH_step (L := L) (w := w) hx
    refine AWp.skip ?_
    refine AWp.seq (AWp.block ?_)
    (repeat (first | (refine popO rfl ?_; first | (refine gA rfl ?_; first | refine yLm rfl rfl ?_ | ((first | refine yQ (md := true) rfl ?_ ?_ | refine yL rfl rfl (by assumption) rfl rfl ?_ ?_ | refine yT rfl rfl (by assumption) rfl ?_ ?_); (first | exact True.intro | omega | (simp only [oZ] at *; omega))) | (refine yB rfl ?_; intro _ _hb) | refine yU (sl := false) rfl ?_ | refine yM rfl rfl (by assumption) rfl rfl rfl ?_ | refine yV rfl rfl rfl rfl (by assumption) rfl rfl rfl rfl ?_ | (refine gB (fun _ _ => hc.ask rfl rfl hok) ?_; intro _ _hb)) | refine popN rfl ?_ | (refine yG rfl rfl ?_ ?_ <;> intro hb <;> subst hb)) | refine AWp.seq ?_ | refine reg (by kernel_rfl) ?_ | refine lexE ?_ | refine regD (flN []) mixed (by kernel_rfl) (by kernel_rfl) ?_))
    (refine AWp.cond rfl (fun hb => ?_) (fun hb => ?_) <;> cases hb)
    · (repeat (first | (refine popO rfl ?_; first | (refine gA rfl ?_; first | refine yLm rfl rfl ?_ | ((first | refine yQ (md := true) rfl ?_ ?_ | refine yL rfl rfl (by assumption) rfl rfl ?_ ?_ | refine yT rfl rfl (by assumption) rfl ?_ ?_); (first | exact True.intro | omega | (simp only [oZ] at *; omega))) | (refine yB rfl ?_; intro _ _hb) | refine yU (sl := false) rfl ?_ | refine yM rfl rfl (by assumption) rfl rfl rfl ?_ | refine yV rfl rfl rfl rfl (by assumption) rfl rfl rfl rfl ?_ ) | refine popN rfl ?_ | (refine yG rfl rfl ?_ ?_ <;> intro hb <;> subst hb)) | refine AWp.seq ?_ | refine reg (by kernel_rfl) ?_ | refine lexE ?_ | refine regD (flN []) mixed (by kernel_rfl) (by kernel_rfl) ?_))
      refine ⟨⟨k + 1, by first | omega | (simp only [oZ] at *; omega)⟩, by dsimp only; (first | omega | (simp only [oZ] at *; omega)), [0, 1], ?_⟩
      rw [hs1, hs2]
      rw [_hb] at hst
      have e43 : mkB true = 43 := rfl
      have e45 : mkB false = 45 := rfl
      simp only [e43, e45] at hst
      simp [EnvSub, StoreSub, look_cons, nm, E.ren, C.ren, C.renL, O.ren, killc, kill0, Function.comp_def, argsFrom, zC, hΓ, ren_by, hr, hst]
    · refine AWp.skip ?_
      (repeat (first | (refine popO rfl ?_; first | (refine gA rfl ?_; first | refine yLm rfl rfl ?_ | ((first | refine yQ (md := true) rfl ?_ ?_ | refine yL rfl rfl (by assumption) rfl rfl ?_ ?_ | refine yT rfl rfl (by assumption) rfl ?_ ?_); (first | exact True.intro | omega | (simp only [oZ] at *; omega))) | (refine yB rfl ?_; intro _ _hb) | refine yU (sl := false) rfl ?_ | refine yM rfl rfl (by assumption) rfl rfl rfl ?_ | refine yV rfl rfl rfl rfl (by assumption) rfl rfl rfl rfl ?_ ) | refine popN rfl ?_ | (refine yG rfl rfl ?_ ?_ <;> intro hb <;> subst hb)) | refine AWp.seq ?_ | refine reg (by kernel_rfl) ?_ | refine lexE ?_ | refine regD (flN []) mixed (by kernel_rfl) (by kernel_rfl) ?_))
      refine ⟨⟨k + 1, by first | omega | (simp only [oZ] at *; omega)⟩, by dsimp only; (first | omega | (simp only [oZ] at *; omega)), [0, 1], ?_⟩
      rw [hs1]
      rw [_hb] at hst
      have e43 : mkB true = 43 := rfl
      have e45 : mkB false = 45 := rfl
      simp only [e43, e45] at hst
      simp [EnvSub, StoreSub, look_cons, nm, E.ren, C.ren, C.renL, O.ren, killc, kill0, Function.comp_def, argsFrom, zC, hΓ, ren_by, hr, hst]
  · obtain rfl : k = t.cols.length := by first | omega | (simp only [oZ] at *; omega)
    rw [marks_rows]
    refine AWp.exit ?_
    (repeat (first | (refine popO rfl ?_; first | (refine gA rfl ?_; first | refine yLm rfl rfl ?_ | ((first | refine yQ (md := true) rfl ?_ ?_ | refine yL rfl rfl (by assumption) rfl rfl ?_ ?_ | refine yT rfl rfl (by assumption) rfl ?_ ?_); (first | exact True.intro | omega | (simp only [oZ] at *; omega))) | (refine yB rfl ?_; intro _ _hb) | refine yU (sl := false) rfl ?_ | refine yM rfl rfl (by assumption) rfl rfl rfl ?_ | refine yV rfl rfl rfl rfl (by assumption) rfl rfl rfl rfl ?_ | refine gQ (q_textA (marks L t.cols w) rfl rfl (by simp [marks]) (by rw [List.drop_zero, List.take_of_length_le (by simp [marks])])) (by rfl) ?_) | refine popN rfl ?_ | (refine yG rfl rfl ?_ ?_ <;> intro hb <;> subst hb)) | refine AWp.seq ?_ | refine reg (by kernel_rfl) ?_ | refine lexE ?_ | refine regD (flN []) mixed (by kernel_rfl) (by kernel_rfl) ?_))
    refine AWp.ret ⟨_, rfl, rfl⟩
end Go.Am
/-
  The numbers of rows; the first word by which a table is open.
-/
namespace Go.Am
open Go Go.Proofs
attribute [local irreducible] QOp AOp Lex LexO AWp Spec
variable {TB : List (Nat × Obj)}

/-- The first row with some marks, of the first k rows. -/
def numsTo (L : W → Bool) (t : Tab) : Nat → List (W × Int)
  | 0 => []
  | k + 1 => if (findT (numsTo L t k) (marks L t.cols (t.rows.getD k []))).isSome then numsTo L t k else numsTo L t k ++ [(marks L t.cols (t.rows.getD k []), (k : Int))]
/-- What a table owes to the oracle. -/
structure AskOk (ok : W → Prop) (t : Tab) : Prop where
  ok : ∀ w ∈ t.rows, ∀ x ∈ t.cols, ok (w ++ x)
  rb : ∀ w ∈ t.rows, w.length ≤ 65536
  cb : ∀ x ∈ t.cols, x.length ≤ 65536
  rl : t.rows.length ≤ 4096
  cl : t.cols.length ≤ 4096
theorem rowNumbers_ok {c : C} {L : W → Bool} {ok : W → Prop} (hc : AskV Tryz.prog TB c L ok) (al : Int) (t : Tab) (ht : AskOk ok t) :
    Spec Tryz.prog TB 52 [] 0 [eOra al c, eTab t] (fun x σ nx => x = .o (.mp 0) ∧ nx = 1 ∧ σ = [(0, .mp (mapT (numsTo L t t.rows.length)))]) := by
  have hr := ren_pur c hc.pur
  have hrl := ht.rl
  refine Spec.of Tryz.func52 rfl (by kernel_rfl) (Nat.le_of_ble_eq_true rfl) ?_; intro Γ hΓ
  (repeat (first | (refine popO rfl ?_; first | (refine gA rfl ?_; first | refine yLm rfl rfl ?_ | ((first | refine yQ (md := true) rfl ?_ ?_ | refine yL rfl rfl (by assumption) rfl rfl ?_ ?_ | refine yT rfl rfl (by assumption) rfl ?_ ?_); (first | exact True.intro | omega | (simp only [oZ] at *; omega))) | (refine yB rfl ?_; intro _ _hb) | refine yU (sl := false) rfl ?_ | refine yM rfl rfl (by assumption) rfl rfl rfl ?_ | refine yV rfl rfl rfl rfl (by assumption) rfl rfl rfl rfl ?_ ) | refine popN rfl ?_ | (refine yG rfl rfl ?_ ?_ <;> intro hb <;> subst hb)) | refine AWp.seq ?_ | refine reg (by kernel_rfl) ?_ | refine lexE ?_ | refine regD (flN []) mixed (by kernel_rfl) (by kernel_rfl) ?_))
  (refine popO rfl ?_; refine popW ?_ rfl (by rfl); refine n_box rfl rfl ?_)
  (refine popO rfl ?_; refine popS (fun _ _ => q_boxI rfl rfl rfl) rfl ?_)
  (repeat (first | (refine popO rfl ?_; first | (refine gA rfl ?_; first | refine yLm rfl rfl ?_ | ((first | refine yQ (md := true) rfl ?_ ?_ | refine yL rfl rfl (by assumption) rfl rfl ?_ ?_ | refine yT rfl rfl (by assumption) rfl ?_ ?_); (first | exact True.intro | omega | (simp only [oZ] at *; omega))) | (refine yB rfl ?_; intro _ _hb) | refine yU (sl := false) rfl ?_ | refine yM rfl rfl (by assumption) rfl rfl rfl ?_ | refine yV rfl rfl rfl rfl (by assumption) rfl rfl rfl rfl ?_ ) | refine popN rfl ?_ | (refine yG rfl rfl ?_ ?_ <;> intro hb <;> subst hb)) | refine AWp.seq ?_ | refine reg (by kernel_rfl) ?_ | refine lexE ?_ | refine regD (flN []) mixed (by kernel_rfl) (by kernel_rfl) ?_))
  (refine popO rfl ?_; refine popW ?_ rfl (by rfl); refine n_makeMap ?_)
  (repeat (first | (refine popO rfl ?_; first | (refine gA rfl ?_; first | refine yLm rfl rfl ?_ | ((first | refine yQ (md := true) rfl ?_ ?_ | refine yL rfl rfl (by assumption) rfl rfl ?_ ?_ | refine yT rfl rfl (by assumption) rfl ?_ ?_); (first | exact True.intro | omega | (simp only [oZ] at *; omega))) | (refine yB rfl ?_; intro _ _hb) | refine yU (sl := false) rfl ?_ | refine yM rfl rfl (by assumption) rfl rfl rfl ?_ | refine yV rfl rfl rfl rfl (by assumption) rfl rfl rfl rfl ?_ ) | refine popN rfl ?_ | (refine yG rfl rfl ?_ ?_ <;> intro hb <;> subst hb)) | refine AWp.seq ?_ | refine reg (by kernel_rfl) ?_ | refine lexE ?_ | refine regD (flN []) mixed (by kernel_rfl) (by kernel_rfl) ?_))
  refine AWp.block ?_
  refine AWp.loopL (α := {k : Nat // k ≤ t.rows.length}) (fun ⟨k, hkl⟩ => [(2, .o (.ptr 0 2 0 0)), (3, .o (.ip (taRow t))), (5, .o (.mp 1)), (13, .o (.d (tList t.rows))), (14, eI .i64 t.rows.length), (15, eI .i64 k)]) (fun ⟨k, hkl⟩ => [(1, .mp (mapT (numsTo L t k))), (0, .cells 68 2 [[.d (iD al), c]])]) 2 (fun ⟨k, hkl⟩ => t.rows.length - k) (⟨0, by omega⟩) [0, 1] (by first | (simp [hΓ]; done) | (rw [hΓ]; decide)) (by (repeat' (first | exact trivial | rfl | refine And.intro ?_ ?_)) <;> simp [EnvSub, StoreSub, look_cons, nm, E.ren, C.ren, C.renL, O.ren, killc, kill0, Function.comp_def, argsFrom, zC, hΓ, hr, eC, numsTo, mapT]) ?_; rintro ⟨k, hkl⟩; try dsimp only
  (repeat (first | (refine popO rfl ?_; first | (refine gA rfl ?_; first | refine yLm rfl rfl ?_ | ((first | refine yQ (md := true) rfl ?_ ?_ | refine yL rfl rfl (by assumption) rfl rfl ?_ ?_ | refine yT rfl rfl (by assumption) rfl ?_ ?_); (first | exact True.intro | omega | (simp only [oZ] at *; omega))) | (refine yB rfl ?_; intro _ _hb) | refine yU (sl := false) rfl ?_ | refine yM rfl rfl (by assumption) rfl rfl rfl ?_ | refine yV rfl rfl rfl rfl (by assumption) rfl rfl rfl rfl ?_ ) | refine popN rfl ?_ | (refine yG rfl rfl ?_ ?_ <;> intro hb <;> subst hb)) | refine AWp.seq ?_ | refine reg (by kernel_rfl) ?_ | refine lexE ?_ | refine regD (flN []) mixed (by kernel_rfl) (by kernel_rfl) ?_))
  (refine AWp.cond rfl (fun hb => ?_) (fun hb => ?_) <;> cases hb)
  · have hlt : k < t.rows.length := by first | omega | (simp only [oZ] at *; omega)
    obtain ⟨x, hx⟩ := get_some (l := t.rows) (k := k) hlt
    have hx' := get_map (g := tRow) hx
    have hxm := List.mem_of_getElem? hx
    have hxb := ht.rb x hxm
    have hm := marks_ok hc al t x (by have := ht.cl; omega) (ht.ok x hxm) (fun y hy => by have := ht.cb y hy; omega)
    have hgd : t.rows.getD k [] = x := by simp [hx]
    have hstep : numsTo L t (k + 1) = if (findT (numsTo L t k) (marks L t.cols x)).isSome then numsTo L t k else numsTo L t k ++ [(marks L t.cols x, (k : Int))] := by
      rw [numsTo, hgd]
    refine AWp.skip ?_
    refine AWp.seq (AWp.block ?_)
    (repeat (first | (refine popO rfl ?_; first | (refine gA rfl ?_; first | refine yLm rfl rfl ?_ | ((first | refine yQ (md := true) rfl ?_ ?_ | refine yL rfl rfl (by assumption) rfl rfl ?_ ?_ | refine yT rfl rfl (by assumption) rfl ?_ ?_); (first | exact True.intro | omega | (simp only [oZ] at *; omega))) | (refine yB rfl ?_; intro _ _hb) | refine yU (sl := false) rfl ?_ | refine yM rfl rfl (by assumption) rfl rfl rfl ?_ | refine yV rfl rfl rfl rfl (by assumption) rfl rfl rfl rfl ?_ | refine gS (fun _ _ => q_call rfl rfl (by simp [E.pur, C.purL, C.pur, hc.pur]) hm rfl) ?_ | refine gQ (q_look rfl rfl rfl) (by rfl) ?_) | refine popN rfl ?_ | (refine yG rfl rfl ?_ ?_ <;> intro hb <;> subst hb)) | refine AWp.seq ?_ | refine reg (by kernel_rfl) ?_ | refine lexE ?_ | refine regD (flN []) mixed (by kernel_rfl) (by kernel_rfl) ?_))
    (refine AWp.cond rfl (fun hb => ?_) (fun hb => ?_) <;> cases hb)
    · have hn : findT (numsTo L t k) (marks L t.cols x) = none := by simpa using _hb
      rw [hn] at hstep
      (repeat (first | (refine popO rfl ?_; first | (refine gA rfl ?_; first | refine yLm rfl rfl ?_ | ((first | refine yQ (md := true) rfl ?_ ?_ | refine yL rfl rfl (by assumption) rfl rfl ?_ ?_ | refine yT rfl rfl (by assumption) rfl ?_ ?_); (first | exact True.intro | omega | (simp only [oZ] at *; omega))) | (refine yB rfl ?_; intro _ _hb) | refine yU (sl := false) rfl ?_ | refine yM rfl rfl (by assumption) rfl rfl rfl ?_ | refine yV rfl rfl rfl rfl (by assumption) rfl rfl rfl rfl ?_ ) | refine popN rfl ?_ | (refine yG rfl rfl ?_ ?_ <;> intro hb <;> subst hb)) | refine AWp.seq ?_ | refine reg (by kernel_rfl) ?_ | refine lexE ?_ | refine regD (flN []) mixed (by kernel_rfl) (by kernel_rfl) ?_))
      (refine popO rfl ?_; refine popW0 ?_ rfl (by rfl); refine n_put rfl rfl rfl rfl hn ?_)
      (repeat (first | (refine popO rfl ?_; first | (refine gA rfl ?_; first | refine yLm rfl rfl ?_ | ((first | refine yQ (md := true) rfl ?_ ?_ | refine yL rfl rfl (by assumption) rfl rfl ?_ ?_ | refine yT rfl rfl (by assumption) rfl ?_ ?_); (first | exact True.intro | omega | (simp only [oZ] at *; omega))) | (refine yB rfl ?_; intro _ _hb) | refine yU (sl := false) rfl ?_ | refine yM rfl rfl (by assumption) rfl rfl rfl ?_ | refine yV rfl rfl rfl rfl (by assumption) rfl rfl rfl rfl ?_ ) | refine popN rfl ?_ | (refine yG rfl rfl ?_ ?_ <;> intro hb <;> subst hb)) | refine AWp.seq ?_ | refine reg (by kernel_rfl) ?_ | refine lexE ?_ | refine regD (flN []) mixed (by kernel_rfl) (by kernel_rfl) ?_))
      refine ⟨⟨k + 1, by first | omega | (simp only [oZ] at *; omega)⟩, by dsimp only; (first | omega | (simp only [oZ] at *; omega)), [0, 1], ?_⟩
      simp [EnvSub, StoreSub, look_cons, nm, E.ren, C.ren, C.renL, O.ren, killc, kill0, Function.comp_def, argsFrom, zC, hΓ, hr, hstep]
    · have hn : (findT (numsTo L t k) (marks L t.cols x)).isSome = true := by simpa using _hb
      rw [if_pos hn] at hstep
      refine AWp.skip ?_
      (repeat (first | (refine popO rfl ?_; first | (refine gA rfl ?_; first | refine yLm rfl rfl ?_ | ((first | refine yQ (md := true) rfl ?_ ?_ | refine yL rfl rfl (by assumption) rfl rfl ?_ ?_ | refine yT rfl rfl (by assumption) rfl ?_ ?_); (first | exact True.intro | omega | (simp only [oZ] at *; omega))) | (refine yB rfl ?_; intro _ _hb) | refine yU (sl := false) rfl ?_ | refine yM rfl rfl (by assumption) rfl rfl rfl ?_ | refine yV rfl rfl rfl rfl (by assumption) rfl rfl rfl rfl ?_ ) | refine popN rfl ?_ | (refine yG rfl rfl ?_ ?_ <;> intro hb <;> subst hb)) | refine AWp.seq ?_ | refine reg (by kernel_rfl) ?_ | refine lexE ?_ | refine regD (flN []) mixed (by kernel_rfl) (by kernel_rfl) ?_))
      refine ⟨⟨k + 1, by first | omega | (simp only [oZ] at *; omega)⟩, by dsimp only; (first | omega | (simp only [oZ] at *; omega)), [0, 1], ?_⟩
      simp [EnvSub, StoreSub, look_cons, nm, E.ren, C.ren, C.renL, O.ren, killc, kill0, Function.comp_def, argsFrom, zC, hΓ, hr, hstep]
  · obtain rfl : k = t.rows.length := by first | omega | (simp only [oZ] at *; omega)
    refine AWp.exit ?_
    (repeat (first | (refine popO rfl ?_; first | (refine gA rfl ?_; first | refine yLm rfl rfl ?_ | ((first | refine yQ (md := true) rfl ?_ ?_ | refine yL rfl rfl (by assumption) rfl rfl ?_ ?_ | refine yT rfl rfl (by assumption) rfl ?_ ?_); (first | exact True.intro | omega | (simp only [oZ] at *; omega))) | (refine yB rfl ?_; intro _ _hb) | refine yU (sl := false) rfl ?_ | refine yM rfl rfl (by assumption) rfl rfl rfl ?_ | refine yV rfl rfl rfl rfl (by assumption) rfl rfl rfl rfl ?_ ) | refine popN rfl ?_ | (refine yG rfl rfl ?_ ?_ <;> intro hb <;> subst hb)) | refine AWp.seq ?_ | refine reg (by kernel_rfl) ?_ | refine lexE ?_ | refine regD (flN []) mixed (by kernel_rfl) (by kernel_rfl) ?_))
    refine AWp.names [1] [(4, .o (.mp 0))] [(0, .mp (mapT (numsTo L t t.rows.length)))] (by intro i hi; rw [hΓ] at hi; omega) (by simp) (by simp [EnvSub, StoreSub, look_cons, nm, E.ren, C.ren, C.renL, O.ren, killc, kill0, Function.comp_def, argsFrom, zC, hΓ]) (by simp [EnvSub, StoreSub, look_cons, nm, E.ren, C.ren, C.renL, O.ren, killc, kill0, Function.comp_def, argsFrom, zC, hΓ]) ?_
    refine AWp.ret ⟨_, rfl, rfl, rfl, rfl⟩
end Go.Am
/-
  The numbers of rows, plainly; the first word by which a table is open.
-/
namespace Go.Am
open Go Go.Proofs
attribute [local irreducible] QOp AOp Lex LexO AWp Spec
variable {TB : List (Nat × Obj)}

theorem findT_app (l : List (W × Int)) (p : W × Int) (s : W) : findT (l ++ [p]) s = (findT l s).or (if p.1 = s then some p.2 else none) := by
  unfold findT
  rw [List.find?_append]
  cases h : l.find? (fun p => decide (p.1 = s)) with
  | some q => simp
  | none => by_cases hp : p.1 = s <;> simp [hp]
theorem rowsM_getD {L : W → Bool} {t : Tab} {k : Nat} (h : k < t.rows.length) : (rowsM L t)[k]? = some (marks L t.cols (t.rows.getD k [])) := by
  simp [rowsM, h]
theorem nums_find (L : W → Bool) (t : Tab) : ∀ k, k ≤ t.rows.length → ∀ s, findT (numsTo L t k) s = if s ∈ (rowsM L t).take k then some (((rowsM L t).idxOf s : Nat) : Int) else none
  | 0, _, s => by simp [numsTo, findT]
  | k + 1, hk, s => by
    have ih := nums_find L t k (by omega)
    have hx := rowsM_getD (L := L) (t := t) (k := k) (by omega)
    generalize marks L t.cols (t.rows.getD k []) = x at *
    have hst : numsTo L t (k + 1) = if (findT (numsTo L t k) x).isSome then numsTo L t k else numsTo L t k ++ [(x, (k : Int))] := by
      have hx2 := rowsM_getD (L := L) (t := t) (k := k) (by omega)
      rw [hx] at hx2
      injection hx2 with hx2
      rw [numsTo, ← hx2]
    have htk : ∀ s, s ∈ (rowsM L t).take (k + 1) ↔ s ∈ (rowsM L t).take k ∨ s = x := fun s => by
      rw [List.take_add_one, hx]; simp
    rw [hst]
    by_cases hm : x ∈ (rowsM L t).take k
    · rw [if_pos (by rw [ih x, if_pos hm]; rfl), ih s]
      by_cases hs : s ∈ (rowsM L t).take k
      · rw [if_pos hs, if_pos ((htk s).2 (.inl hs))]
      · rw [if_neg hs, if_neg]
        intro h
        rcases (htk s).1 h with h | h
        · exact hs h
        · subst h; exact hs hm
    · rw [if_neg (by rw [ih x, if_neg hm]; simp), findT_app, ih s]
      by_cases hs : s ∈ (rowsM L t).take k
      · rw [if_pos hs, if_pos ((htk s).2 (.inl hs))]; rfl
      · rw [if_neg hs]
        by_cases he : x = s
        · subst he
          rw [if_pos ((htk x).2 (.inr rfl))]
          have hix : (rowsM L t).idxOf x = k := by
            have hl : k < (rowsM L t).length := (List.getElem?_eq_some_iff.1 hx).1
            have e : rowsM L t = (rowsM L t).take k ++ x :: (rowsM L t).drop (k + 1) := by
              rw [← drop_some hx, List.take_append_drop]
            rw [e, List.idxOf_append, if_neg hm, List.idxOf_cons_self]
            simp; omega
          simp [hix]
        · have hns : s ∉ (rowsM L t).take (k + 1) := fun h => by
            rcases (htk s).1 h with h | h
            · exact hs h
            · exact he h.symm
          rw [if_neg hns]
          simp [he]
theorem nums_all {L : W → Bool} {t : Tab} {s : W} : findT (numsTo L t t.rows.length) s = if s ∈ rowsM L t then some (((rowsM L t).idxOf s : Nat) : Int) else none := by
  have h := nums_find L t t.rows.length (Nat.le_refl _) s
  have e : (rowsM L t).take t.rows.length = rowsM L t := List.take_of_length_le (by simp [rowsM])
  rwa [e] at h
theorem open_at {L : W → Bool} {ls : List UInt8} {t : Tab} {k j : Nat} {r : W} {l : UInt8} (hr : t.rows[k]? = some r) (hl : ls[j]? = some l) (h1 : ∀ w ∈ nextsB ls (t.rows.take k), marks L t.cols w ∈ rowsM L t) (h2 : ∀ x ∈ ls.take j, marks L t.cols (r ++ [x]) ∈ rowsM L t)
    (h3 : marks L t.cols (r ++ [l]) ∉ rowsM L t) : openW L ls t = some (r ++ [l]) := by
  have e1 : t.rows = t.rows.take k ++ r :: t.rows.drop (k + 1) := by
    rw [← drop_some hr, List.take_append_drop]
  have e2 : ls = ls.take j ++ l :: ls.drop (j + 1) := by
    rw [← drop_some hl, List.take_append_drop]
  have e3 : nextsB ls t.rows = nextsB ls (t.rows.take k) ++ ((ls.take j).map (fun x => r ++ [x]) ++ (r ++ [l]) :: ((ls.drop (j + 1)).map (fun x => r ++ [x]) ++ nextsB ls (t.rows.drop (k + 1)))) := by
    have h4 : nextsB ls t.rows = nextsB ls (t.rows.take k ++ r :: t.rows.drop (k + 1)) := congrArg _ e1
    rw [h4]
    unfold nextsB
    rw [List.flatMap_append, List.flatMap_cons]
    have h5 : ls.map (fun x => r ++ [x]) = (ls.take j ++ l :: ls.drop (j + 1)).map (fun x => r ++ [x]) := congrArg _ e2
    rw [h5]
    simp
  unfold openW
  rw [e3, List.find?_append, List.find?_append]
  have n1 : (nextsB ls (t.rows.take k)).find? (fun w => !(rowsM L t).contains (marks L t.cols w)) = none := List.find?_eq_none.2 fun w hw => by simpa using h1 w hw
  have n2 : ((ls.take j).map (fun x => r ++ [x])).find? (fun w => !(rowsM L t).contains (marks L t.cols w)) = none := List.find?_eq_none.2 fun w hw => by
    obtain ⟨x, hx, rfl⟩ := List.mem_map.1 hw
    simpa using h2 x hx
  rw [n1, n2]
  simp [h3]
def lb (l : Int) : UInt8 := UInt8.ofNat (97 + l.toNat)
def lsB (al : Int) : List UInt8 := (letters al).map lb
def eOpt (o : Option W) : E := match o with
  | some w => .t [(false, [.d (tD w)]), (false, [.d (bD true)])]
  | none => .t [(false, [.d (tD [])]), (false, [.d (bD false)])]
end Go.Am
