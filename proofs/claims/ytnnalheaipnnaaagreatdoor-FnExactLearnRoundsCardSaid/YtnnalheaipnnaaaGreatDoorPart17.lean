/-
  The reference's words.
-/
import Derived.Test.YtnnalheaipnnaaaGreatDoorPart12
import Derived.Test.YtnnalheaipnnaaaGreatDoorPart16
set_option linter.constructorNameAsVariable false
set_option linter.unusedSimpArgs false
set_option linter.unusedVariables false
namespace Go.Am
open Go Go.Proofs
attribute [local irreducible] QOp AOp Lex LexO AWp Spec
variable {TB : List (Nat × Obj)}

theorem l1At_ok (w : W) (i : Nat) (c : UInt8) (hc : w[((i : Nat) : Int).toNat]? = some c) : Pure Tryz.prog TB 76 [eT w, eI .i64 i] (eI .i64 ((c.toNat : Int) - 97)) := by
  have hb := c.toNat_lt
  refine Spec.of Tryz.func76 rfl (by kernel_rfl) (Nat.le_of_ble_eq_true rfl) ?_; intro Γ hΓ
  (repeat' (first | (first | (refine popO rfl ?_; first | (refine gA rfl ?_; first | refine yLm rfl rfl ?_ | ((first | refine yQ (md := false) rfl ?_ ?_ | refine yL rfl rfl (by assumption) rfl rfl ?_ ?_ | refine yT rfl rfl (by assumption) rfl ?_ ?_); (first | exact True.intro | omega | (simp only [oZ] at *; omega))) | (refine yB rfl ?_; intro _ _hb) | refine yU (sl := true) rfl ?_ | refine yM rfl rfl (by assumption) rfl rfl rfl ?_ | refine yV rfl rfl rfl rfl (by assumption) rfl rfl rfl rfl ?_ ) | refine popN rfl ?_ | (refine yG rfl rfl ?_ ?_ <;> intro hb <;> subst hb)) | refine AWp.seq ?_ | refine reg (by kernel_rfl) ?_ | refine lexE ?_ | refine regD (flN []) mixed (by kernel_rfl) (by kernel_rfl) ?_) | (refine AWp.cond rfl (fun hb => ?_) (fun hb => ?_) <;> cases hb) | refine AWp.skip ?_ | refine AWp.exit ?_ | refine AWp.block ?_ | refine AWp.ret ⟨_, rfl, ?_⟩))
  rfl
theorem l1Bit_ok (n : Int) (h0 : 0 ≤ n) (h1 : n < 16) : Pure Tryz.prog TB 122 [eI .i64 n] (eI .i64 ((2 ^ n.toNat : Nat) : Int)) := by
  refine Spec.of Tryz.func122 rfl (by kernel_rfl) (Nat.le_of_ble_eq_true rfl) ?_; intro Γ hΓ
  (repeat' (first | (first | (refine popO rfl ?_; first | (refine gA rfl ?_; first | refine yLm rfl rfl ?_ | ((first | refine yQ (md := false) rfl ?_ ?_ | refine yL rfl rfl (by assumption) rfl rfl ?_ ?_ | refine yT rfl rfl (by assumption) rfl ?_ ?_); (first | exact True.intro | omega | (simp only [oZ] at *; omega))) | (refine yB rfl ?_; intro _ _hb) | refine yU (sl := true) rfl ?_ | refine yM rfl rfl (by assumption) rfl rfl rfl ?_ | refine yV rfl rfl rfl rfl (by assumption) rfl rfl rfl rfl ?_ | refine gS (fun _ _ => q_shl rfl rfl h0 (shl_one h0 h1)) ?_) | refine popN rfl ?_ | (refine yG rfl rfl ?_ ?_ <;> intro hb <;> subst hb)) | refine AWp.seq ?_ | refine reg (by kernel_rfl) ?_ | refine lexE ?_ | refine regD (flN []) mixed (by kernel_rfl) (by kernel_rfl) ?_) | (refine AWp.cond rfl (fun hb => ?_) (fun hb => ?_) <;> cases hb) | refine AWp.skip ?_ | refine AWp.exit ?_ | refine AWp.block ?_ | refine AWp.ret ⟨_, rfl, ?_⟩))
  rfl
theorem chOk_num {c : UInt8} : chOk c = decide (0 ≤ (c.toNat : Int) - 97 ∧ (c.toNat : Int) - 97 < 6) := by
  unfold chOk
  rw [Bool.eq_iff_iff, decide_eq_true_eq, decide_eq_true_eq]
  omega
theorem wordValid_ok (w : W) (hl : w.length ≤ 1099511627776) : Pure Tryz.prog TB 121 [eT w] (eB (wordOk w)) := by
  by_cases h5 : w.length ≤ 50000
  · have hwk : wordOk w = w.all chOk := by unfold wordOk; simp [h5]
    rw [hwk]
    refine Spec.of Tryz.func121 rfl (by kernel_rfl) (Nat.le_of_ble_eq_true rfl) ?_; intro Γ hΓ
    (repeat (first | (refine popO rfl ?_; first | (refine gA rfl ?_; first | refine yLm rfl rfl ?_ | ((first | refine yQ (md := false) rfl ?_ ?_ | refine yL rfl rfl (by assumption) rfl rfl ?_ ?_ | refine yT rfl rfl (by assumption) rfl ?_ ?_); (first | exact True.intro | omega | (simp only [oZ] at *; omega))) | (refine yB rfl ?_; intro _ _hb) | refine yU (sl := true) rfl ?_ | refine yM rfl rfl (by assumption) rfl rfl rfl ?_ | refine yV rfl rfl rfl rfl (by assumption) rfl rfl rfl rfl ?_ ) | refine popN rfl ?_ | (refine yG rfl rfl ?_ ?_ <;> intro hb <;> subst hb)) | refine AWp.seq ?_ | refine reg (by kernel_rfl) ?_ | refine lexE ?_))
    (refine AWp.cond rfl (fun hb => ?_) (fun hb => ?_) <;> cases hb)
    · exfalso; first | omega | (simp only [oZ] at *; omega)
    refine AWp.skip ?_
    (repeat (first | (refine popO rfl ?_; first | (refine gA rfl ?_; first | refine yLm rfl rfl ?_ | ((first | refine yQ (md := false) rfl ?_ ?_ | refine yL rfl rfl (by assumption) rfl rfl ?_ ?_ | refine yT rfl rfl (by assumption) rfl ?_ ?_); (first | exact True.intro | omega | (simp only [oZ] at *; omega))) | (refine yB rfl ?_; intro _ _hb) | refine yU (sl := true) rfl ?_ | refine yM rfl rfl (by assumption) rfl rfl rfl ?_ | refine yV rfl rfl rfl rfl (by assumption) rfl rfl rfl rfl ?_ ) | refine popN rfl ?_ | (refine yG rfl rfl ?_ ?_ <;> intro hb <;> subst hb)) | refine AWp.seq ?_ | refine reg (by kernel_rfl) ?_ | refine lexE ?_))
    refine AWp.block ?_
    refine AWp.loopV (α := {k : Nat // k ≤ w.length ∧ (w.take k).all chOk = true}) [0] [] rfl rfl (fun ⟨k, hk, ha⟩ => [(3, eI .i64 k)]) (fun ⟨k, hk, ha⟩ => []) 0 (fun ⟨k, hk, ha⟩ => w.length - k) (⟨0, by omega, rfl⟩) (List.range 0) (by first | (simp [hΓ]; done) | (rw [hΓ]; decide)) (by (repeat' (first | exact trivial | rfl | refine And.intro ?_ ?_)) <;> (simp [EnvSub, StoreSub, look_cons, nm, nmo, E.ren, C.ren, C.renL, O.ren, Store.ren, killc, kill0, killL, kill, fillC, spliceC, eC, Function.comp_def, argsFrom, zC, hΓ] <;> rfl)) ?_; rintro ⟨k, hk, ha⟩; try dsimp only [List.cons_append, List.nil_append]
    by_cases hlt : k < w.length
    · obtain ⟨c, hc⟩ := get_some hlt
      have hc' : w[((k : Nat) : Int).toNat]? = some c := by simpa using hc
      have hla := l1At_ok (TB := TB) w k c hc'
      have hcn := chOk_num (c := c)
      by_cases hcc : chOk c = true
      · have hst := all_step hc ha hcc
        rw [hcn] at hcc
        simp only [decide_eq_true_eq] at hcc
        (repeat (first | (refine popO rfl ?_; first | (refine gA rfl ?_; first | refine yLm rfl rfl ?_ | ((first | refine yQ (md := false) rfl ?_ ?_ | refine yL rfl rfl (by assumption) rfl rfl ?_ ?_ | refine yT rfl rfl (by assumption) rfl ?_ ?_); (first | exact True.intro | omega | (simp only [oZ] at *; omega))) | (refine yB rfl ?_; intro _ _hb) | refine yU (sl := true) rfl ?_ | refine yM rfl rfl (by assumption) rfl rfl rfl ?_ | refine yV rfl rfl rfl rfl (by assumption) rfl rfl rfl rfl ?_ ) | refine popN rfl ?_ | (refine yG rfl rfl ?_ ?_ <;> intro hb <;> subst hb)) | refine AWp.seq ?_ | refine reg (by kernel_rfl) ?_ | refine lexE ?_))
        (refine AWp.cond rfl (fun hb => ?_) (fun hb => ?_) <;> cases hb)
        · (repeat' (first | (first | (refine popO rfl ?_; first | (refine gA rfl ?_; first | refine yLm rfl rfl ?_ | ((first | refine yQ (md := false) rfl ?_ ?_ | refine yL rfl rfl (by assumption) rfl rfl ?_ ?_ | refine yT rfl rfl (by assumption) rfl ?_ ?_); (first | exact True.intro | omega | (simp only [oZ] at *; omega))) | (refine yB rfl ?_; intro _ _hb) | refine yU (sl := true) rfl ?_ | refine yM rfl rfl (by assumption) rfl rfl rfl ?_ | refine yV rfl rfl rfl rfl (by assumption) rfl rfl rfl rfl ?_ | refine yP rfl rfl rfl (hla) rfl ?_ ) | refine popN rfl ?_ | (refine yG rfl rfl ?_ ?_ <;> intro hb <;> subst hb)) | refine AWp.seq ?_ | refine reg (by kernel_rfl) ?_ | refine lexE ?_ | refine regD (flN []) mixed (by kernel_rfl) (by kernel_rfl) ?_) | (refine AWp.cond rfl (fun hb => ?_) (fun hb => ?_) <;> cases hb) | refine AWp.skip ?_ | refine AWp.exit ?_ | refine AWp.block ?_ | refine AWp.ret ⟨_, rfl, ?_⟩))
          · exfalso; first | omega | (simp only [oZ] at *; omega)
          · exfalso; first | omega | (simp only [oZ] at *; omega)
          · refine ⟨⟨k + 1, by first | omega | (simp only [oZ] at *; omega), hst⟩, by dsimp only; (first | omega | (simp only [oZ] at *; omega)), [], ?_⟩
            simp [EnvSub, StoreSub, look_cons, nm, nmo, E.ren, C.ren, C.renL, O.ren, Store.ren, killc, kill0, killL, kill, fillC, spliceC, eC, Function.comp_def, argsFrom, zC, hΓ]
        · exfalso; first | omega | (simp only [oZ] at *; omega)
      · have hst := all_bad hc (f := chOk) (by simpa using hcc)
        rw [hcn] at hcc
        simp only [decide_eq_true_eq] at hcc
        (repeat (first | (refine popO rfl ?_; first | (refine gA rfl ?_; first | refine yLm rfl rfl ?_ | ((first | refine yQ (md := false) rfl ?_ ?_ | refine yL rfl rfl (by assumption) rfl rfl ?_ ?_ | refine yT rfl rfl (by assumption) rfl ?_ ?_); (first | exact True.intro | omega | (simp only [oZ] at *; omega))) | (refine yB rfl ?_; intro _ _hb) | refine yU (sl := true) rfl ?_ | refine yM rfl rfl (by assumption) rfl rfl rfl ?_ | refine yV rfl rfl rfl rfl (by assumption) rfl rfl rfl rfl ?_ ) | refine popN rfl ?_ | (refine yG rfl rfl ?_ ?_ <;> intro hb <;> subst hb)) | refine AWp.seq ?_ | refine reg (by kernel_rfl) ?_ | refine lexE ?_))
        (refine AWp.cond rfl (fun hb => ?_) (fun hb => ?_) <;> cases hb)
        · (repeat' (first | (first | (refine popO rfl ?_; first | (refine gA rfl ?_; first | refine yLm rfl rfl ?_ | ((first | refine yQ (md := false) rfl ?_ ?_ | refine yL rfl rfl (by assumption) rfl rfl ?_ ?_ | refine yT rfl rfl (by assumption) rfl ?_ ?_); (first | exact True.intro | omega | (simp only [oZ] at *; omega))) | (refine yB rfl ?_; intro _ _hb) | refine yU (sl := true) rfl ?_ | refine yM rfl rfl (by assumption) rfl rfl rfl ?_ | refine yV rfl rfl rfl rfl (by assumption) rfl rfl rfl rfl ?_ | refine yP rfl rfl rfl (hla) rfl ?_ ) | refine popN rfl ?_ | (refine yG rfl rfl ?_ ?_ <;> intro hb <;> subst hb)) | refine AWp.seq ?_ | refine reg (by kernel_rfl) ?_ | refine lexE ?_ | refine regD (flN []) mixed (by kernel_rfl) (by kernel_rfl) ?_) | (refine AWp.cond rfl (fun hb => ?_) (fun hb => ?_) <;> cases hb) | refine AWp.skip ?_ | refine AWp.exit ?_ | refine AWp.block ?_ | refine AWp.ret ⟨_, rfl, ?_⟩))
          · rw [hst]
          · rw [hst]
          · exfalso; first | omega | (simp only [oZ] at *; omega)
        · exfalso; first | omega | (simp only [oZ] at *; omega)
    · have hd := all_done ha (show w.length ≤ k by omega)
      (repeat (first | (refine popO rfl ?_; first | (refine gA rfl ?_; first | refine yLm rfl rfl ?_ | ((first | refine yQ (md := false) rfl ?_ ?_ | refine yL rfl rfl (by assumption) rfl rfl ?_ ?_ | refine yT rfl rfl (by assumption) rfl ?_ ?_); (first | exact True.intro | omega | (simp only [oZ] at *; omega))) | (refine yB rfl ?_; intro _ _hb) | refine yU (sl := true) rfl ?_ | refine yM rfl rfl (by assumption) rfl rfl rfl ?_ | refine yV rfl rfl rfl rfl (by assumption) rfl rfl rfl rfl ?_ ) | refine popN rfl ?_ | (refine yG rfl rfl ?_ ?_ <;> intro hb <;> subst hb)) | refine AWp.seq ?_ | refine reg (by kernel_rfl) ?_ | refine lexE ?_))
      (refine AWp.cond rfl (fun hb => ?_) (fun hb => ?_) <;> cases hb)
      · exfalso; first | omega | (simp only [oZ] at *; omega)
      · (repeat' (first | (first | (refine popO rfl ?_; first | (refine gA rfl ?_; first | refine yLm rfl rfl ?_ | ((first | refine yQ (md := false) rfl ?_ ?_ | refine yL rfl rfl (by assumption) rfl rfl ?_ ?_ | refine yT rfl rfl (by assumption) rfl ?_ ?_); (first | exact True.intro | omega | (simp only [oZ] at *; omega))) | (refine yB rfl ?_; intro _ _hb) | refine yU (sl := true) rfl ?_ | refine yM rfl rfl (by assumption) rfl rfl rfl ?_ | refine yV rfl rfl rfl rfl (by assumption) rfl rfl rfl rfl ?_ ) | refine popN rfl ?_ | (refine yG rfl rfl ?_ ?_ <;> intro hb <;> subst hb)) | refine AWp.seq ?_ | refine reg (by kernel_rfl) ?_ | refine lexE ?_ | refine regD (flN []) mixed (by kernel_rfl) (by kernel_rfl) ?_) | (refine AWp.cond rfl (fun hb => ?_) (fun hb => ?_) <;> cases hb) | refine AWp.skip ?_ | refine AWp.exit ?_ | refine AWp.block ?_ | refine AWp.ret ⟨_, rfl, ?_⟩))
        rw [hd]
  · have hwk : wordOk w = false := by unfold wordOk; simp [h5]
    rw [hwk]
    refine Spec.of Tryz.func121 rfl (by kernel_rfl) (Nat.le_of_ble_eq_true rfl) ?_; intro Γ hΓ
    (repeat (first | (refine popO rfl ?_; first | (refine gA rfl ?_; first | refine yLm rfl rfl ?_ | ((first | refine yQ (md := false) rfl ?_ ?_ | refine yL rfl rfl (by assumption) rfl rfl ?_ ?_ | refine yT rfl rfl (by assumption) rfl ?_ ?_); (first | exact True.intro | omega | (simp only [oZ] at *; omega))) | (refine yB rfl ?_; intro _ _hb) | refine yU (sl := true) rfl ?_ | refine yM rfl rfl (by assumption) rfl rfl rfl ?_ | refine yV rfl rfl rfl rfl (by assumption) rfl rfl rfl rfl ?_ ) | refine popN rfl ?_ | (refine yG rfl rfl ?_ ?_ <;> intro hb <;> subst hb)) | refine AWp.seq ?_ | refine reg (by kernel_rfl) ?_ | refine lexE ?_))
    (refine AWp.cond rfl (fun hb => ?_) (fun hb => ?_) <;> cases hb)
    · (repeat' (first | (first | (refine popO rfl ?_; first | (refine gA rfl ?_; first | refine yLm rfl rfl ?_ | ((first | refine yQ (md := false) rfl ?_ ?_ | refine yL rfl rfl (by assumption) rfl rfl ?_ ?_ | refine yT rfl rfl (by assumption) rfl ?_ ?_); (first | exact True.intro | omega | (simp only [oZ] at *; omega))) | (refine yB rfl ?_; intro _ _hb) | refine yU (sl := true) rfl ?_ | refine yM rfl rfl (by assumption) rfl rfl rfl ?_ | refine yV rfl rfl rfl rfl (by assumption) rfl rfl rfl rfl ?_ ) | refine popN rfl ?_ | (refine yG rfl rfl ?_ ?_ <;> intro hb <;> subst hb)) | refine AWp.seq ?_ | refine reg (by kernel_rfl) ?_ | refine lexE ?_ | refine regD (flN []) mixed (by kernel_rfl) (by kernel_rfl) ?_) | (refine AWp.cond rfl (fun hb => ?_) (fun hb => ?_) <;> cases hb) | refine AWp.skip ?_ | refine AWp.exit ?_ | refine AWp.block ?_ | refine AWp.ret ⟨_, rfl, ?_⟩))
      rfl
    · exfalso; first | omega | (simp only [oZ] at *; omega)
abbrev eIB (n : Int) (b : Bool) : E := .t [(false, [.d (iD n)]), (false, [.d (bD b)])]
theorem setW_step {w : W} {k : Nat} {c : UInt8} (hc : w[k]? = some c) : setW (w.take (k + 1)) = setW (w.take k) ||| 2 ^ (c.toNat - 97) := by
  unfold setW
  rw [List.take_add_one, hc]; simp
theorem alphabetOf_ok (w : W) (hl : w.length ≤ 1099511627776) : Pure Tryz.prog TB 113 [eT w] (if wordOk w then eIB (setW w : Nat) true else eIB 0 false) := by
  have hwv := wordValid_ok (TB := TB) w hl
  by_cases hok : wordOk w = true
  · have hok2 := hok
    unfold wordOk at hok2
    simp only [Bool.and_eq_true, decide_eq_true_eq] at hok2
    rw [if_pos hok]
    refine Spec.of Tryz.func113 rfl (by kernel_rfl) (Nat.le_of_ble_eq_true rfl) ?_; intro Γ hΓ
    (repeat (first | (refine popO rfl ?_; first | (refine gA rfl ?_; first | refine yLm rfl rfl ?_ | ((first | refine yQ (md := false) rfl ?_ ?_ | refine yL rfl rfl (by assumption) rfl rfl ?_ ?_ | refine yT rfl rfl (by assumption) rfl ?_ ?_); (first | exact True.intro | omega | (simp only [oZ] at *; omega))) | (refine yB rfl ?_; intro _ _hb) | refine yU (sl := true) rfl ?_ | refine yM rfl rfl (by assumption) rfl rfl rfl ?_ | refine yV rfl rfl rfl rfl (by assumption) rfl rfl rfl rfl ?_ | (refine yC rfl rfl rfl (hwv) ?_; intro _ _hb) ) | refine popN rfl ?_ | (refine yG rfl rfl ?_ ?_ <;> intro hb <;> subst hb)) | refine AWp.seq ?_ | refine reg (by kernel_rfl) ?_ | refine lexE ?_))
    (refine AWp.cond rfl (fun hb => ?_) (fun hb => ?_) <;> cases hb)
    · exfalso; simp at *; grind
    refine AWp.skip ?_
    (repeat (first | (refine popO rfl ?_; first | (refine gA rfl ?_; first | refine yLm rfl rfl ?_ | ((first | refine yQ (md := false) rfl ?_ ?_ | refine yL rfl rfl (by assumption) rfl rfl ?_ ?_ | refine yT rfl rfl (by assumption) rfl ?_ ?_); (first | exact True.intro | omega | (simp only [oZ] at *; omega))) | (refine yB rfl ?_; intro _ _hb) | refine yU (sl := true) rfl ?_ | refine yM rfl rfl (by assumption) rfl rfl rfl ?_ | refine yV rfl rfl rfl rfl (by assumption) rfl rfl rfl rfl ?_ ) | refine popN rfl ?_ | (refine yG rfl rfl ?_ ?_ <;> intro hb <;> subst hb)) | refine AWp.seq ?_ | refine reg (by kernel_rfl) ?_ | refine lexE ?_))
    refine AWp.block ?_
    refine AWp.loopV (α := {k : Nat // k ≤ w.length}) [0] [] rfl rfl (fun ⟨k, hk⟩ => [(4, eI .i64 (setW (w.take k) : Nat)), (5, eI .i64 k)]) (fun ⟨k, hk⟩ => []) 0 (fun ⟨k, hk⟩ => w.length - k) (⟨0, by omega⟩) (List.range 0) (by first | (simp [hΓ]; done) | (rw [hΓ]; decide)) (by (repeat' (first | exact trivial | rfl | refine And.intro ?_ ?_)) <;> (simp [EnvSub, StoreSub, look_cons, nm, nmo, E.ren, C.ren, C.renL, O.ren, Store.ren, killc, kill0, killL, kill, fillC, spliceC, eC, Function.comp_def, argsFrom, zC, hΓ] <;> rfl)) ?_; rintro ⟨k, hk⟩; try dsimp only [List.cons_append, List.nil_append]
    by_cases hlt : k < w.length
    · obtain ⟨c, hc⟩ := get_some hlt
      have hc' : w[((k : Nat) : Int).toNat]? = some c := by simpa using hc
      have hla := l1At_ok (TB := TB) w k c hc'
      have hcc := (List.all_eq_true.1 hok2.2) c (List.mem_of_getElem? hc)
      rw [chOk_num, decide_eq_true_eq] at hcc
      have hbt := l1Bit_ok (TB := TB) ((c.toNat : Int) - 97) hcc.1 (by omega)
      have hst := setW_step hc
      have hs1 : setW (w.take k) < 64 := setW_lt (by rw [List.all_eq_true]; exact fun x hx => (List.all_eq_true.1 hok2.2) x (List.mem_of_mem_take hx)) (by omega)
      have ht : ((c.toNat : Int) - 97).toNat = c.toNat - 97 := by omega
      have h26 : 2 ^ (c.toNat - 97) < 2 ^ 6 := Nat.pow_lt_pow_right (by omega) (by omega)
      have hor := (iOr_nat hs1 h26).1
      rw [← hst] at hor
      rw [ht] at hbt
      (repeat (first | (refine popO rfl ?_; first | (refine gA rfl ?_; first | refine yLm rfl rfl ?_ | ((first | refine yQ (md := false) rfl ?_ ?_ | refine yL rfl rfl (by assumption) rfl rfl ?_ ?_ | refine yT rfl rfl (by assumption) rfl ?_ ?_); (first | exact True.intro | omega | (simp only [oZ] at *; omega))) | (refine yB rfl ?_; intro _ _hb) | refine yU (sl := true) rfl ?_ | refine yM rfl rfl (by assumption) rfl rfl rfl ?_ | refine yV rfl rfl rfl rfl (by assumption) rfl rfl rfl rfl ?_ ) | refine popN rfl ?_ | (refine yG rfl rfl ?_ ?_ <;> intro hb <;> subst hb)) | refine AWp.seq ?_ | refine reg (by kernel_rfl) ?_ | refine lexE ?_))
      (refine AWp.cond rfl (fun hb => ?_) (fun hb => ?_) <;> cases hb)
      · (repeat' (first | (first | (refine popO rfl ?_; first | (refine gA rfl ?_; first | refine yLm rfl rfl ?_ | ((first | refine yQ (md := false) rfl ?_ ?_ | refine yL rfl rfl (by assumption) rfl rfl ?_ ?_ | refine yT rfl rfl (by assumption) rfl ?_ ?_); (first | exact True.intro | omega | (simp only [oZ] at *; omega))) | (refine yB rfl ?_; intro _ _hb) | refine yU (sl := true) rfl ?_ | refine yM rfl rfl (by assumption) rfl rfl rfl ?_ | refine yV rfl rfl rfl rfl (by assumption) rfl rfl rfl rfl ?_ | refine yP rfl rfl rfl (hla) rfl ?_ | refine yP rfl rfl rfl (hbt) rfl ?_ ) | refine popN rfl ?_ | (refine yG rfl rfl ?_ ?_ <;> intro hb <;> subst hb)) | refine AWp.seq ?_ | refine reg (by kernel_rfl) ?_ | refine lexE ?_ | refine regD (flN []) mixed (by kernel_rfl) (by kernel_rfl) ?_) | (refine AWp.cond rfl (fun hb => ?_) (fun hb => ?_) <;> cases hb) | refine AWp.skip ?_ | refine AWp.exit ?_ | refine AWp.block ?_ | refine AWp.ret ⟨_, rfl, ?_⟩))
        rw [hor]
        refine ⟨⟨k + 1, by first | omega | (simp only [oZ] at *; omega)⟩, by dsimp only; (first | omega | (simp only [oZ] at *; omega)), [], ?_⟩
        simp [EnvSub, StoreSub, look_cons, nm, nmo, E.ren, C.ren, C.renL, O.ren, Store.ren, killc, kill0, killL, kill, fillC, spliceC, eC, Function.comp_def, argsFrom, zC, hΓ]
      · exfalso; first | omega | (simp only [oZ] at *; omega)
    · obtain rfl : k = w.length := by omega
      rw [List.take_length]
      (repeat (first | (refine popO rfl ?_; first | (refine gA rfl ?_; first | refine yLm rfl rfl ?_ | ((first | refine yQ (md := false) rfl ?_ ?_ | refine yL rfl rfl (by assumption) rfl rfl ?_ ?_ | refine yT rfl rfl (by assumption) rfl ?_ ?_); (first | exact True.intro | omega | (simp only [oZ] at *; omega))) | (refine yB rfl ?_; intro _ _hb) | refine yU (sl := true) rfl ?_ | refine yM rfl rfl (by assumption) rfl rfl rfl ?_ | refine yV rfl rfl rfl rfl (by assumption) rfl rfl rfl rfl ?_ ) | refine popN rfl ?_ | (refine yG rfl rfl ?_ ?_ <;> intro hb <;> subst hb)) | refine AWp.seq ?_ | refine reg (by kernel_rfl) ?_ | refine lexE ?_))
      (refine AWp.cond rfl (fun hb => ?_) (fun hb => ?_) <;> cases hb)
      · exfalso; first | omega | (simp only [oZ] at *; omega)
      · (repeat' (first | (first | (refine popO rfl ?_; first | (refine gA rfl ?_; first | refine yLm rfl rfl ?_ | ((first | refine yQ (md := false) rfl ?_ ?_ | refine yL rfl rfl (by assumption) rfl rfl ?_ ?_ | refine yT rfl rfl (by assumption) rfl ?_ ?_); (first | exact True.intro | omega | (simp only [oZ] at *; omega))) | (refine yB rfl ?_; intro _ _hb) | refine yU (sl := true) rfl ?_ | refine yM rfl rfl (by assumption) rfl rfl rfl ?_ | refine yV rfl rfl rfl rfl (by assumption) rfl rfl rfl rfl ?_ ) | refine popN rfl ?_ | (refine yG rfl rfl ?_ ?_ <;> intro hb <;> subst hb)) | refine AWp.seq ?_ | refine reg (by kernel_rfl) ?_ | refine lexE ?_ | refine regD (flN []) mixed (by kernel_rfl) (by kernel_rfl) ?_) | (refine AWp.cond rfl (fun hb => ?_) (fun hb => ?_) <;> cases hb) | refine AWp.skip ?_ | refine AWp.exit ?_ | refine AWp.block ?_ | refine AWp.ret ⟨_, rfl, ?_⟩))
        rfl
  · rw [if_neg hok]
    refine Spec.of Tryz.func113 rfl (by kernel_rfl) (Nat.le_of_ble_eq_true rfl) ?_; intro Γ hΓ
    (repeat (first | (refine popO rfl ?_; first | (refine gA rfl ?_; first | refine yLm rfl rfl ?_ | ((first | refine yQ (md := false) rfl ?_ ?_ | refine yL rfl rfl (by assumption) rfl rfl ?_ ?_ | refine yT rfl rfl (by assumption) rfl ?_ ?_); (first | exact True.intro | omega | (simp only [oZ] at *; omega))) | (refine yB rfl ?_; intro _ _hb) | refine yU (sl := true) rfl ?_ | refine yM rfl rfl (by assumption) rfl rfl rfl ?_ | refine yV rfl rfl rfl rfl (by assumption) rfl rfl rfl rfl ?_ | (refine yC rfl rfl rfl (hwv) ?_; intro _ _hb) ) | refine popN rfl ?_ | (refine yG rfl rfl ?_ ?_ <;> intro hb <;> subst hb)) | refine AWp.seq ?_ | refine reg (by kernel_rfl) ?_ | refine lexE ?_))
    (refine AWp.cond rfl (fun hb => ?_) (fun hb => ?_) <;> cases hb)
    · (repeat' (first | (first | (refine popO rfl ?_; first | (refine gA rfl ?_; first | refine yLm rfl rfl ?_ | ((first | refine yQ (md := false) rfl ?_ ?_ | refine yL rfl rfl (by assumption) rfl rfl ?_ ?_ | refine yT rfl rfl (by assumption) rfl ?_ ?_); (first | exact True.intro | omega | (simp only [oZ] at *; omega))) | (refine yB rfl ?_; intro _ _hb) | refine yU (sl := true) rfl ?_ | refine yM rfl rfl (by assumption) rfl rfl rfl ?_ | refine yV rfl rfl rfl rfl (by assumption) rfl rfl rfl rfl ?_ ) | refine popN rfl ?_ | (refine yG rfl rfl ?_ ?_ <;> intro hb <;> subst hb)) | refine AWp.seq ?_ | refine reg (by kernel_rfl) ?_ | refine lexE ?_ | refine regD (flN []) mixed (by kernel_rfl) (by kernel_rfl) ?_) | (refine AWp.cond rfl (fun hb => ?_) (fun hb => ?_) <;> cases hb) | refine AWp.skip ?_ | refine AWp.exit ?_ | refine AWp.block ?_ | refine AWp.ret ⟨_, rfl, ?_⟩))
      rfl
    · exfalso; simp at *; grind
theorem wordWithin_ok (w : W) (al : Int) (hl : w.length ≤ 1099511627776) : Pure Tryz.prog TB 98 [eT w, eI .i64 al] (eB (within w al)) := by
  have h1 := alphabetOf_ok (TB := TB) w hl
  have h2 := l1Alphabet_ok (TB := TB) al
  by_cases hok : wordOk w = true
  · rw [if_pos hok] at h1
    unfold wordOk at hok
    simp only [Bool.and_eq_true, decide_eq_true_eq] at hok
    have hw : within w al = (alphB al && w.all (inAl al)) := by unfold within; simp [hok.1]
    rw [hw]
    refine Spec.of Tryz.func98 rfl (by kernel_rfl) (Nat.le_of_ble_eq_true rfl) ?_; intro Γ hΓ
    (repeat' (first | (first | (refine popO rfl ?_; first | (refine gA rfl ?_; first | refine yLm rfl rfl ?_ | ((first | refine yQ (md := false) rfl ?_ ?_ | refine yL rfl rfl (by assumption) rfl rfl ?_ ?_ | refine yT rfl rfl (by assumption) rfl ?_ ?_); (first | exact True.intro | omega | (simp only [oZ] at *; omega))) | (refine yB rfl ?_; intro _ _hb) | refine yU (sl := true) rfl ?_ | refine yM rfl rfl (by assumption) rfl rfl rfl ?_ | refine yV rfl rfl rfl rfl (by assumption) rfl rfl rfl rfl ?_ | refine yP rfl rfl rfl (h1) rfl ?_ | (refine yC rfl rfl rfl (h2) ?_; intro _ _hb) ) | refine popN rfl ?_ | (refine yG rfl rfl ?_ ?_ <;> intro hb <;> subst hb)) | refine AWp.seq ?_ | refine reg (by kernel_rfl) ?_ | refine lexE ?_ | refine regD (flN []) mixed (by kernel_rfl) (by kernel_rfl) ?_) | (refine AWp.cond rfl (fun hb => ?_) (fun hb => ?_) <;> cases hb) | refine AWp.skip ?_ | refine AWp.exit ?_ | refine AWp.block ?_ | refine AWp.ret ⟨_, rfl, ?_⟩))
    all_goals first
      | (show E.o _ = E.o _; congr; grind)
      | (rename_i ha b; rw [setW_in hok.2 ha] at _hb; show E.o _ = E.o _; rw [ha, _hb]; rfl)
  · rw [if_neg hok] at h1
    have hw : within w al = false := by
      rw [Bool.eq_false_iff]
      intro h
      unfold within at h
      simp only [Bool.and_eq_true, decide_eq_true_eq] at h
      exact hok (by unfold wordOk; simp [h.1, within_all h.2.2])
    rw [hw]
    refine Spec.of Tryz.func98 rfl (by kernel_rfl) (Nat.le_of_ble_eq_true rfl) ?_; intro Γ hΓ
    (repeat' (first | (first | (refine popO rfl ?_; first | (refine gA rfl ?_; first | refine yLm rfl rfl ?_ | ((first | refine yQ (md := false) rfl ?_ ?_ | refine yL rfl rfl (by assumption) rfl rfl ?_ ?_ | refine yT rfl rfl (by assumption) rfl ?_ ?_); (first | exact True.intro | omega | (simp only [oZ] at *; omega))) | (refine yB rfl ?_; intro _ _hb) | refine yU (sl := true) rfl ?_ | refine yM rfl rfl (by assumption) rfl rfl rfl ?_ | refine yV rfl rfl rfl rfl (by assumption) rfl rfl rfl rfl ?_ | refine yP rfl rfl rfl (h1) rfl ?_ | (refine yC rfl rfl rfl (h2) ?_; intro _ _hb) ) | refine popN rfl ?_ | (refine yG rfl rfl ?_ ?_ <;> intro hb <;> subst hb)) | refine AWp.seq ?_ | refine reg (by kernel_rfl) ?_ | refine lexE ?_ | refine regD (flN []) mixed (by kernel_rfl) (by kernel_rfl) ?_) | (refine AWp.cond rfl (fun hb => ?_) (fun hb => ?_) <;> cases hb) | refine AWp.skip ?_ | refine AWp.exit ?_ | refine AWp.block ?_ | refine AWp.ret ⟨_, rfl, ?_⟩))
    all_goals rfl
end Go.Am
/-
  The reference's automata: runs, answers; what tells two automata apart.
-/
namespace Go.Am
open Go Go.Proofs
attribute [local irreducible] QOp AOp Lex LexO AWp Spec
variable {TB : List (Nat × Obj)}

theorem within_lsB {w : W} {al : Int} (h : within w al = true) : wordOn (lsB al) w := by
  unfold within at h
  simp only [Bool.and_eq_true, decide_eq_true_eq] at h
  intro c hc
  have h1 := (List.all_eq_true.1 h.2.2) c hc
  unfold inAl chOk at h1
  simp only [Bool.and_eq_true, decide_eq_true_eq] at h1
  refine List.mem_map.2 ⟨((c.toNat - 97 : Nat) : Int), mem_lettersTo.2 ⟨by omega, h1.2⟩, ?_⟩
  unfold lb
  have e : 97 + ((c.toNat - 97 : Nat) : Int).toNat = c.toNat := by omega
  rw [e]
  simp
theorem lsB_within {w : W} {al : Int} (h : wordOn (lsB al) w) (hl : w.length ≤ 50000) (ha : alphB al = true) : within w al = true := by
  unfold within
  simp only [Bool.and_eq_true, decide_eq_true_eq]
  refine ⟨hl, ha, List.all_eq_true.2 fun c hc => ?_⟩
  obtain ⟨l, hm, rfl⟩ := List.mem_map.1 (h c hc)
  have h1 := lettersTo_in hm
  have h2 := lb_num h1.1 (by omega)
  unfold inAl chOk
  simp only [Bool.and_eq_true, decide_eq_true_eq]
  have e : (lb l).toNat - 97 = l.toNat := by omega
  rw [e]
  exact ⟨by omega, h1.2.2⟩
theorem l3Run_ok {p : Aut} (hp : autOk p = true) (w : W) (hw : wordOn (lsB p.al) w) (hl : w.length ≤ 1099511627776) : Pure Tryz.prog TB 114 [eAut p, eI .i64 0, eT w] (eI .i64 (runA p 0 w)) := by
  have hph := autOk_head hp
  refine Spec.of Tryz.func114 rfl (by kernel_rfl) (Nat.le_of_ble_eq_true rfl) ?_; intro Γ hΓ
  (repeat (first | (refine popO rfl ?_; first | (refine gA rfl ?_; first | refine yLm rfl rfl ?_ | ((first | refine yQ (md := false) rfl ?_ ?_ | refine yL rfl rfl (by assumption) rfl rfl ?_ ?_ | refine yT rfl rfl (by assumption) rfl ?_ ?_); (first | exact True.intro | omega | (simp only [oZ] at *; omega))) | (refine yB rfl ?_; intro _ _hb) | refine yU (sl := true) rfl ?_ | refine yM rfl rfl (by assumption) rfl rfl rfl ?_ | refine yV rfl rfl rfl rfl (by assumption) rfl rfl rfl rfl ?_ ) | refine popN rfl ?_ | (refine yG rfl rfl ?_ ?_ <;> intro hb <;> subst hb)) | refine AWp.seq ?_ | refine reg (by kernel_rfl) ?_ | refine lexE ?_))
  refine AWp.block ?_
  refine AWp.loopV (α := {k : Nat // k ≤ w.length}) [2, 3] [] rfl rfl (fun ⟨k, hk⟩ => [(1, eI .i64 (runA p 0 (w.take k))), (7, eI .i64 k)]) (fun ⟨k, hk⟩ => []) 0 (fun ⟨k, hk⟩ => w.length - k) (⟨0, by omega⟩) (List.range 0) (by first | (simp [hΓ]; done) | (rw [hΓ]; decide)) (by (repeat' (first | exact trivial | rfl | refine And.intro ?_ ?_)) <;> (simp [EnvSub, StoreSub, look_cons, nm, nmo, E.ren, C.ren, C.renL, O.ren, Store.ren, killc, kill0, killL, kill, fillC, spliceC, eC, Function.comp_def, argsFrom, zC, hΓ] <;> rfl)) ?_; rintro ⟨k, hk⟩; try dsimp only [List.cons_append, List.nil_append]
  have hr := runA_in hp (w.take k) 0 (on_take hw k) (by omega)
  by_cases hlt : k < w.length
  · obtain ⟨c, hc⟩ := get_some hlt
    have hc' : w[((k : Nat) : Int).toNat]? = some c := by simpa using hc
    have hcl := lsB_num (hw c (List.mem_of_getElem? hc))
    have hla := l1At_ok (TB := TB) w k c hc'
    have hgo := l3Go_ok (TB := TB) p hp (runA p 0 (w.take k)).toNat (by omega) ((c.toNat : Int) - 97) hcl.1 hcl.2
    have e : (((runA p 0 (w.take k)).toNat : Nat) : Int) = runA p 0 (w.take k) := by omega
    rw [e] at hgo
    have hst := runA_step (p := p) hc 0
    rw [← hst] at hgo
    (repeat (first | (refine popO rfl ?_; first | (refine gA rfl ?_; first | refine yLm rfl rfl ?_ | ((first | refine yQ (md := false) rfl ?_ ?_ | refine yL rfl rfl (by assumption) rfl rfl ?_ ?_ | refine yT rfl rfl (by assumption) rfl ?_ ?_); (first | exact True.intro | omega | (simp only [oZ] at *; omega))) | (refine yB rfl ?_; intro _ _hb) | refine yU (sl := true) rfl ?_ | refine yM rfl rfl (by assumption) rfl rfl rfl ?_ | refine yV rfl rfl rfl rfl (by assumption) rfl rfl rfl rfl ?_ ) | refine popN rfl ?_ | (refine yG rfl rfl ?_ ?_ <;> intro hb <;> subst hb)) | refine AWp.seq ?_ | refine reg (by kernel_rfl) ?_ | refine lexE ?_))
    (refine AWp.cond rfl (fun hb => ?_) (fun hb => ?_) <;> cases hb)
    · (repeat' (first | (first | (refine popO rfl ?_; first | (refine gA rfl ?_; first | refine yLm rfl rfl ?_ | ((first | refine yQ (md := false) rfl ?_ ?_ | refine yL rfl rfl (by assumption) rfl rfl ?_ ?_ | refine yT rfl rfl (by assumption) rfl ?_ ?_); (first | exact True.intro | omega | (simp only [oZ] at *; omega))) | (refine yB rfl ?_; intro _ _hb) | refine yU (sl := true) rfl ?_ | refine yM rfl rfl (by assumption) rfl rfl rfl ?_ | refine yV rfl rfl rfl rfl (by assumption) rfl rfl rfl rfl ?_ | refine yP rfl rfl rfl (hla) rfl ?_ | refine yP rfl rfl rfl (hgo) rfl ?_ ) | refine popN rfl ?_ | (refine yG rfl rfl ?_ ?_ <;> intro hb <;> subst hb)) | refine AWp.seq ?_ | refine reg (by kernel_rfl) ?_ | refine lexE ?_ | refine regD (flN []) mixed (by kernel_rfl) (by kernel_rfl) ?_) | (refine AWp.cond rfl (fun hb => ?_) (fun hb => ?_) <;> cases hb) | refine AWp.skip ?_ | refine AWp.exit ?_ | refine AWp.block ?_ | refine AWp.ret ⟨_, rfl, ?_⟩))
      refine ⟨⟨k + 1, by first | omega | (simp only [oZ] at *; omega)⟩, by dsimp only; (first | omega | (simp only [oZ] at *; omega)), [], ?_⟩
      simp [EnvSub, StoreSub, look_cons, nm, nmo, E.ren, C.ren, C.renL, O.ren, Store.ren, killc, kill0, killL, kill, fillC, spliceC, eC, Function.comp_def, argsFrom, zC, hΓ]
    · exfalso; first | omega | (simp only [oZ] at *; omega)
  · obtain rfl : k = w.length := by omega
    rw [List.take_length]
    (repeat (first | (refine popO rfl ?_; first | (refine gA rfl ?_; first | refine yLm rfl rfl ?_ | ((first | refine yQ (md := false) rfl ?_ ?_ | refine yL rfl rfl (by assumption) rfl rfl ?_ ?_ | refine yT rfl rfl (by assumption) rfl ?_ ?_); (first | exact True.intro | omega | (simp only [oZ] at *; omega))) | (refine yB rfl ?_; intro _ _hb) | refine yU (sl := true) rfl ?_ | refine yM rfl rfl (by assumption) rfl rfl rfl ?_ | refine yV rfl rfl rfl rfl (by assumption) rfl rfl rfl rfl ?_ ) | refine popN rfl ?_ | (refine yG rfl rfl ?_ ?_ <;> intro hb <;> subst hb)) | refine AWp.seq ?_ | refine reg (by kernel_rfl) ?_ | refine lexE ?_))
    (refine AWp.cond rfl (fun hb => ?_) (fun hb => ?_) <;> cases hb)
    · exfalso; first | omega | (simp only [oZ] at *; omega)
    · (repeat' (first | (first | (refine popO rfl ?_; first | (refine gA rfl ?_; first | refine yLm rfl rfl ?_ | ((first | refine yQ (md := false) rfl ?_ ?_ | refine yL rfl rfl (by assumption) rfl rfl ?_ ?_ | refine yT rfl rfl (by assumption) rfl ?_ ?_); (first | exact True.intro | omega | (simp only [oZ] at *; omega))) | (refine yB rfl ?_; intro _ _hb) | refine yU (sl := true) rfl ?_ | refine yM rfl rfl (by assumption) rfl rfl rfl ?_ | refine yV rfl rfl rfl rfl (by assumption) rfl rfl rfl rfl ?_ ) | refine popN rfl ?_ | (refine yG rfl rfl ?_ ?_ <;> intro hb <;> subst hb)) | refine AWp.seq ?_ | refine reg (by kernel_rfl) ?_ | refine lexE ?_ | refine regD (flN []) mixed (by kernel_rfl) (by kernel_rfl) ?_) | (refine AWp.cond rfl (fun hb => ?_) (fun hb => ?_) <;> cases hb) | refine AWp.skip ?_ | refine AWp.exit ?_ | refine AWp.block ?_ | refine AWp.ret ⟨_, rfl, ?_⟩))
      rfl
/-- The state to which a word leads. -/
def stAfter (p : Aut) (w : W) : Int := if autOk p && within w p.al then runA p 0 w else -1
def accA (p : Aut) (w : W) : Bool := autOk p && (within w p.al && LA p w)
theorem stateAfter_ok (p : Aut) (w : W) (hl : w.length ≤ 1099511627776) : Pure Tryz.prog TB 99 [eAut p, eT w] (eI .i64 (stAfter p w)) := by
  have h1 := specAutomatonValid_ok (TB := TB) p
  have h2 := wordWithin_ok (TB := TB) w p.al hl
  by_cases hv : (autOk p && within w p.al) = true
  · have hs : stAfter p w = runA p 0 w := by unfold stAfter; rw [if_pos hv]
    rw [hs]
    rw [Bool.and_eq_true] at hv
    have h3 := l3Run_ok (TB := TB) hv.1 w (within_lsB hv.2) hl
    refine Spec.of Tryz.func99 rfl (by kernel_rfl) (Nat.le_of_ble_eq_true rfl) ?_; intro Γ hΓ
    (repeat' (first | (first | (refine popO rfl ?_; first | (refine gA rfl ?_; first | refine yLm rfl rfl ?_ | ((first | refine yQ (md := false) rfl ?_ ?_ | refine yL rfl rfl (by assumption) rfl rfl ?_ ?_ | refine yT rfl rfl (by assumption) rfl ?_ ?_); (first | exact True.intro | omega | (simp only [oZ] at *; omega))) | (refine yB rfl ?_; intro _ _hb) | refine yU (sl := true) rfl ?_ | refine yM rfl rfl (by assumption) rfl rfl rfl ?_ | refine yV rfl rfl rfl rfl (by assumption) rfl rfl rfl rfl ?_ | (refine yC rfl rfl rfl (h1) ?_; intro _ _hb) | (refine yC rfl rfl rfl (h2) ?_; intro _ _hb) | refine yP rfl rfl rfl (h3) rfl ?_ ) | refine popN rfl ?_ | (refine yG rfl rfl ?_ ?_ <;> intro hb <;> subst hb)) | refine AWp.seq ?_ | refine reg (by kernel_rfl) ?_ | refine lexE ?_ | refine regD (flN []) mixed (by kernel_rfl) (by kernel_rfl) ?_) | (refine AWp.cond rfl (fun hb => ?_) (fun hb => ?_) <;> cases hb) | refine AWp.skip ?_ | refine AWp.exit ?_ | refine AWp.block ?_ | refine AWp.ret ⟨_, rfl, ?_⟩))
    all_goals first
      | rfl
      | (exfalso; grind; done)
  · have hs : stAfter p w = -1 := by unfold stAfter; rw [if_neg hv]
    rw [hs]
    refine Spec.of Tryz.func99 rfl (by kernel_rfl) (Nat.le_of_ble_eq_true rfl) ?_; intro Γ hΓ
    (repeat' (first | (first | (refine popO rfl ?_; first | (refine gA rfl ?_; first | refine yLm rfl rfl ?_ | ((first | refine yQ (md := false) rfl ?_ ?_ | refine yL rfl rfl (by assumption) rfl rfl ?_ ?_ | refine yT rfl rfl (by assumption) rfl ?_ ?_); (first | exact True.intro | omega | (simp only [oZ] at *; omega))) | (refine yB rfl ?_; intro _ _hb) | refine yU (sl := true) rfl ?_ | refine yM rfl rfl (by assumption) rfl rfl rfl ?_ | refine yV rfl rfl rfl rfl (by assumption) rfl rfl rfl rfl ?_ | (refine yC rfl rfl rfl (h1) ?_; intro _ _hb) | (refine yC rfl rfl rfl (h2) ?_; intro _ _hb) ) | refine popN rfl ?_ | (refine yG rfl rfl ?_ ?_ <;> intro hb <;> subst hb)) | refine AWp.seq ?_ | refine reg (by kernel_rfl) ?_ | refine lexE ?_ | refine regD (flN []) mixed (by kernel_rfl) (by kernel_rfl) ?_) | (refine AWp.cond rfl (fun hb => ?_) (fun hb => ?_) <;> cases hb) | refine AWp.skip ?_ | refine AWp.exit ?_ | refine AWp.block ?_ | refine AWp.ret ⟨_, rfl, ?_⟩))
    all_goals first
      | rfl
      | (exfalso; grind; done)
theorem acceptsWord_ok (p : Aut) (w : W) (hl : w.length ≤ 1099511627776) : Pure Tryz.prog TB 74 [eAut p, eT w] (eB (accA p w)) := by
  have h1 := stateAfter_ok (TB := TB) p w hl
  by_cases hv : (autOk p && within w p.al) = true
  · have hs : stAfter p w = runA p 0 w := by unfold stAfter; rw [if_pos hv]
    rw [hs] at h1
    rw [Bool.and_eq_true] at hv
    have hph := autOk_head hv.1
    have hr := runA_in hv.1 w 0 (within_lsB hv.2) (by omega)
    obtain ⟨b, hb⟩ := get_some (l := p.ac) (k := (runA p 0 w).toNat) (by omega)
    have hb' : (p.ac.map bRow)[(runA p 0 w).toNat]? = some (bRow b) := by simp [hb]
    have ha : accA p w = b := by unfold accA LA; simp [hv.1, hv.2, List.getD, hb]
    rw [ha]
    refine Spec.of Tryz.func74 rfl (by kernel_rfl) (Nat.le_of_ble_eq_true rfl) ?_; intro Γ hΓ
    (repeat' (first | (first | (refine popO rfl ?_; first | (refine gA rfl ?_; first | refine yLm rfl rfl ?_ | ((first | refine yQ (md := false) rfl ?_ ?_ | refine yL rfl rfl (by assumption) rfl rfl ?_ ?_ | refine yT rfl rfl (by assumption) rfl ?_ ?_); (first | exact True.intro | omega | (simp only [oZ] at *; omega))) | (refine yB rfl ?_; intro _ _hb) | refine yU (sl := true) rfl ?_ | refine yM rfl rfl (by assumption) rfl rfl rfl ?_ | refine yV rfl rfl rfl rfl (by assumption) rfl rfl rfl rfl ?_ | refine yP rfl rfl rfl (h1) rfl ?_ ) | refine popN rfl ?_ | (refine yG rfl rfl ?_ ?_ <;> intro hb <;> subst hb)) | refine AWp.seq ?_ | refine reg (by kernel_rfl) ?_ | refine lexE ?_ | refine regD (flN []) mixed (by kernel_rfl) (by kernel_rfl) ?_) | (refine AWp.cond rfl (fun hb => ?_) (fun hb => ?_) <;> cases hb) | refine AWp.skip ?_ | refine AWp.exit ?_ | refine AWp.block ?_ | refine AWp.ret ⟨_, rfl, ?_⟩))
    all_goals first
      | rfl
      | (exfalso; first | omega | (simp only [oZ] at *; omega))
  · have hs : stAfter p w = -1 := by unfold stAfter; rw [if_neg hv]
    rw [hs] at h1
    have ha : accA p w = false := by unfold accA; grind
    rw [ha]
    refine Spec.of Tryz.func74 rfl (by kernel_rfl) (Nat.le_of_ble_eq_true rfl) ?_; intro Γ hΓ
    (repeat' (first | (first | (refine popO rfl ?_; first | (refine gA rfl ?_; first | refine yLm rfl rfl ?_ | ((first | refine yQ (md := false) rfl ?_ ?_ | refine yL rfl rfl (by assumption) rfl rfl ?_ ?_ | refine yT rfl rfl (by assumption) rfl ?_ ?_); (first | exact True.intro | omega | (simp only [oZ] at *; omega))) | (refine yB rfl ?_; intro _ _hb) | refine yU (sl := true) rfl ?_ | refine yM rfl rfl (by assumption) rfl rfl rfl ?_ | refine yV rfl rfl rfl rfl (by assumption) rfl rfl rfl rfl ?_ | refine yP rfl rfl rfl (h1) rfl ?_ ) | refine popN rfl ?_ | (refine yG rfl rfl ?_ ?_ <;> intro hb <;> subst hb)) | refine AWp.seq ?_ | refine reg (by kernel_rfl) ?_ | refine lexE ?_ | refine regD (flN []) mixed (by kernel_rfl) (by kernel_rfl) ?_) | (refine AWp.cond rfl (fun hb => ?_) (fun hb => ?_) <;> cases hb) | refine AWp.skip ?_ | refine AWp.exit ?_ | refine AWp.block ?_ | refine AWp.ret ⟨_, rfl, ?_⟩))
    all_goals first
      | rfl
      | (exfalso; first | omega | (simp only [oZ] at *; omega))
theorem l4Two_ok (a b : Aut) : Pure Tryz.prog TB 41 [eAut a, eAut b] (eB (validD a b)) := by
  refine Spec.of Tryz.func41 rfl (by kernel_rfl) (Nat.le_of_ble_eq_true rfl) ?_; intro Γ hΓ
  (repeat' (first | (first | (refine popO rfl ?_; first | (refine gA rfl ?_; first | refine yLm rfl rfl ?_ | ((first | refine yQ (md := false) rfl ?_ ?_ | refine yL rfl rfl (by assumption) rfl rfl ?_ ?_ | refine yT rfl rfl (by assumption) rfl ?_ ?_); (first | exact True.intro | omega | (simp only [oZ] at *; omega))) | (refine yB rfl ?_; intro _ _hb) | refine yU (sl := true) rfl ?_ | refine yM rfl rfl (by assumption) rfl rfl rfl ?_ | refine yV rfl rfl rfl rfl (by assumption) rfl rfl rfl rfl ?_ | (refine yC rfl rfl rfl (specAutomatonValid_ok a) ?_; intro _ _hb) | (refine yC rfl rfl rfl (specAutomatonValid_ok b) ?_; intro _ _hb) ) | refine popN rfl ?_ | (refine yG rfl rfl ?_ ?_ <;> intro hb <;> subst hb)) | refine AWp.seq ?_ | refine reg (by kernel_rfl) ?_ | refine lexE ?_ | refine regD (flN []) mixed (by kernel_rfl) (by kernel_rfl) ?_) | (refine AWp.cond rfl (fun hb => ?_) (fun hb => ?_) <;> cases hb) | refine AWp.skip ?_ | refine AWp.exit ?_ | refine AWp.block ?_ | refine AWp.ret ⟨_, rfl, ?_⟩))
  all_goals (show E.o _ = E.o _; congr; unfold validD; grind)
theorem specDifferOf_ok (a b : Aut) : Pure Tryz.prog TB 24 [eAut a, eAut b] (eAns (difD a b)) := by
  by_cases hv : validD a b = true
  · have hv2 := hv
    unfold validD at hv2
    simp only [Bool.and_eq_true, decide_eq_true_eq] at hv2
    obtain ⟨⟨ha, hb⟩, _⟩ := hv2
    obtain ⟨hn, hk, hs⟩ := netD_ok (kd := 1) ha hb
    have hf := l4First_ok (TB := TB) hn hk hs (ansOf_is _)
    rw [ansE_eq] at hf
    have hd : difD a b = ansOf (gOf (netD a b 1)) := by unfold difD; rw [if_pos hv]
    rw [hd]
    have hf' : Pure Tryz.prog TB 42 [.a [.d (.l []), .d (auList [a, b]), .d (iList [0, 0]), .d (iD a.al), .d (iD 1), .d (iD 0)]] (eAns (ansOf (gOf (netD a b 1)))) := hf
    refine Spec.of Tryz.func24 rfl (by kernel_rfl) (Nat.le_of_ble_eq_true rfl) ?_; intro Γ hΓ
    (repeat' (first | (first | (refine popO rfl ?_; first | (refine gA rfl ?_; first | refine yLm rfl rfl ?_ | ((first | refine yQ (md := false) rfl ?_ ?_ | refine yL rfl rfl (by assumption) rfl rfl ?_ ?_ | refine yT rfl rfl (by assumption) rfl ?_ ?_); (first | exact True.intro | omega | (simp only [oZ] at *; omega))) | (refine yB rfl ?_; intro _ _hb) | refine yU (sl := true) rfl ?_ | refine yM rfl rfl (by assumption) rfl rfl rfl ?_ | refine yV rfl rfl rfl rfl (by assumption) rfl rfl rfl rfl ?_ | (refine yC rfl rfl rfl (l4Two_ok a b) ?_; intro _ _hb) | refine yP rfl rfl rfl (hf') rfl ?_ | refine gS (fun _ _ => q_build rfl rfl (by rfl) (by rfl)) ?_) | refine popN rfl ?_ | (refine yG rfl rfl ?_ ?_ <;> intro hb <;> subst hb)) | refine AWp.seq ?_ | refine reg (by kernel_rfl) ?_ | refine lexE ?_ | refine regD (flN []) mixed (by kernel_rfl) (by kernel_rfl) ?_) | (refine AWp.cond rfl (fun hb => ?_) (fun hb => ?_) <;> cases hb) | refine AWp.skip ?_ | refine AWp.exit ?_ | refine AWp.block ?_ | refine AWp.ret ⟨_, rfl, ?_⟩))
    all_goals first
      | rfl
      | (exfalso; grind; done)
  · have hd : difD a b = none := by unfold difD; rw [if_neg hv]
    rw [hd]
    refine Spec.of Tryz.func24 rfl (by kernel_rfl) (Nat.le_of_ble_eq_true rfl) ?_; intro Γ hΓ
    (repeat' (first | (first | (refine popO rfl ?_; first | (refine gA rfl ?_; first | refine yLm rfl rfl ?_ | ((first | refine yQ (md := false) rfl ?_ ?_ | refine yL rfl rfl (by assumption) rfl rfl ?_ ?_ | refine yT rfl rfl (by assumption) rfl ?_ ?_); (first | exact True.intro | omega | (simp only [oZ] at *; omega))) | (refine yB rfl ?_; intro _ _hb) | refine yU (sl := true) rfl ?_ | refine yM rfl rfl (by assumption) rfl rfl rfl ?_ | refine yV rfl rfl rfl rfl (by assumption) rfl rfl rfl rfl ?_ | (refine yC rfl rfl rfl (l4Two_ok a b) ?_; intro _ _hb) ) | refine popN rfl ?_ | (refine yG rfl rfl ?_ ?_ <;> intro hb <;> subst hb)) | refine AWp.seq ?_ | refine reg (by kernel_rfl) ?_ | refine lexE ?_ | refine regD (flN []) mixed (by kernel_rfl) (by kernel_rfl) ?_) | (refine AWp.cond rfl (fun hb => ?_) (fun hb => ?_) <;> cases hb) | refine AWp.skip ?_ | refine AWp.exit ?_ | refine AWp.block ?_ | refine AWp.ret ⟨_, rfl, ?_⟩))
    all_goals first
      | rfl
      | (exfalso; grind; done)
/-- A teacher, as data. -/
structure Tea where
  kn : Bool
  p : Aut
  s : Sys
  q : Aut
  al : Int
abbrev eTea (t : Tea) : E := teE t.kn t.p t.s t.q t.al
theorem specTeacherK_ok (t : Tea) (hk : t.kn = true) : Pure Tryz.prog TB 36 [eTea t] (eI .i64 (if autOk t.p then t.p.al else -1)) := by
  obtain ⟨kn, p, s, q, al⟩ := t
  dsimp only at hk
  subst hk
  refine Spec.of Tryz.func36 rfl (by kernel_rfl) (Nat.le_of_ble_eq_true rfl) ?_; intro Γ hΓ
  (repeat' (first | (first | (refine popO rfl ?_; first | (refine gA rfl ?_; first | refine yLm rfl rfl ?_ | ((first | refine yQ (md := false) rfl ?_ ?_ | refine yL rfl rfl (by assumption) rfl rfl ?_ ?_ | refine yT rfl rfl (by assumption) rfl ?_ ?_); (first | exact True.intro | omega | (simp only [oZ] at *; omega))) | (refine yB rfl ?_; intro _ _hb) | refine yU (sl := true) rfl ?_ | refine yM rfl rfl (by assumption) rfl rfl rfl ?_ | refine yV rfl rfl rfl rfl (by assumption) rfl rfl rfl rfl ?_ | (refine yC rfl rfl rfl (specAutomatonValid_ok p) ?_; intro _ _hb) ) | refine popN rfl ?_ | (refine yG rfl rfl ?_ ?_ <;> intro hb <;> subst hb)) | refine AWp.seq ?_ | refine reg (by kernel_rfl) ?_ | refine lexE ?_ | refine regD (flN []) mixed (by kernel_rfl) (by kernel_rfl) ?_) | (refine AWp.cond rfl (fun hb => ?_) (fun hb => ?_) <;> cases hb) | refine AWp.skip ?_ | refine AWp.exit ?_ | refine AWp.block ?_ | refine AWp.ret ⟨_, rfl, ?_⟩))
  all_goals first
    | (show E.o _ = E.o _; congr; grind)
    | (exfalso; simp at *; done)
theorem askTeacherK_ok (t : Tea) (hk : t.kn = true) (w : W) (hl : w.length ≤ 1099511627776) : Pure Tryz.prog TB 65 [eTea t, eT w] (eB (accA t.p w)) := by
  obtain ⟨kn, p, s, q, al⟩ := t
  dsimp only at hk
  subst hk
  have h1 := acceptsWord_ok (TB := TB) p w hl
  refine Spec.of Tryz.func65 rfl (by kernel_rfl) (Nat.le_of_ble_eq_true rfl) ?_; intro Γ hΓ
  (repeat' (first | (first | (refine popO rfl ?_; first | (refine gA rfl ?_; first | refine yLm rfl rfl ?_ | ((first | refine yQ (md := false) rfl ?_ ?_ | refine yL rfl rfl (by assumption) rfl rfl ?_ ?_ | refine yT rfl rfl (by assumption) rfl ?_ ?_); (first | exact True.intro | omega | (simp only [oZ] at *; omega))) | (refine yB rfl ?_; intro _ _hb) | refine yU (sl := true) rfl ?_ | refine yM rfl rfl (by assumption) rfl rfl rfl ?_ | refine yV rfl rfl rfl rfl (by assumption) rfl rfl rfl rfl ?_ | refine yP rfl rfl rfl (h1) rfl ?_ ) | refine popN rfl ?_ | (refine yG rfl rfl ?_ ?_ <;> intro hb <;> subst hb)) | refine AWp.seq ?_ | refine reg (by kernel_rfl) ?_ | refine lexE ?_ | refine regD (flN []) mixed (by kernel_rfl) (by kernel_rfl) ?_) | (refine AWp.cond rfl (fun hb => ?_) (fun hb => ?_) <;> cases hb) | refine AWp.skip ?_ | refine AWp.exit ?_ | refine AWp.block ?_ | refine AWp.ret ⟨_, rfl, ?_⟩))
  all_goals rfl
end Go.Am
/-
  The reference's tables: marks, shapes, the first open word.
-/
namespace Go.Am
open Go Go.Proofs
attribute [local irreducible] QOp AOp Lex LexO AWp Spec
variable {TB : List (Nat × Obj)}

/-- What is known of a teacher: its alphabet, its answers. -/
structure AskT (P : Program) (TB : List (Nat × Obj)) (gA gQ : FuncId) (t : Tea) (al : Int) (A : W → Bool) : Prop where
  alph : Pure P TB gA [eTea t] (eI .i64 al)
  ask : ∀ w : W, w.length ≤ 1099511627776 → Pure P TB gQ [eTea t, eT w] (eB (A w))
theorem askK {t : Tea} (hk : t.kn = true) : AskT Tryz.prog TB 36 65 t (if autOk t.p then t.p.al else -1) (accA t.p) := ⟨specTeacherK_ok t hk, askTeacherK_ok t hk⟩
/-- A table that fits into memory. -/
structure TSz (t : Tab) : Prop where
  rl : t.rows.length ≤ 4194304
  cl : t.cols.length ≤ 4194304
  rb : ∀ w ∈ t.rows, w.length ≤ 4194304
  cb : ∀ w ∈ t.cols, w.length ≤ 4194304
theorem l10In_ok (l : List W) (s : W) (hl : l.length ≤ 1099511627776) : Pure Tryz.prog TB 77 [eTexts l, eT s] (eB (decide (s ∈ l))) := by
  refine Spec.of Tryz.func77 rfl (by kernel_rfl) (Nat.le_of_ble_eq_true rfl) ?_; intro Γ hΓ
  (repeat (first | (refine popO rfl ?_; first | (refine gA rfl ?_; first | refine yLm rfl rfl ?_ | ((first | refine yQ (md := false) rfl ?_ ?_ | refine yL rfl rfl (by assumption) rfl rfl ?_ ?_ | refine yT rfl rfl (by assumption) rfl ?_ ?_); (first | exact True.intro | omega | (simp only [oZ] at *; omega))) | (refine yB rfl ?_; intro _ _hb) | refine yU (sl := true) rfl ?_ | refine yM rfl rfl (by assumption) rfl rfl rfl ?_ | refine yV rfl rfl rfl rfl (by assumption) rfl rfl rfl rfl ?_ ) | refine popN rfl ?_ | (refine yG rfl rfl ?_ ?_ <;> intro hb <;> subst hb)) | refine AWp.seq ?_ | refine reg (by kernel_rfl) ?_ | refine lexE ?_))
  refine AWp.block ?_
  refine AWp.loopV (α := {k : Nat // k ≤ l.length ∧ s ∉ l.take k}) [0, 1] [] rfl rfl (fun ⟨k, hk, hn⟩ => [(5, eI .i64 k)]) (fun ⟨k, hk, hn⟩ => []) 0 (fun ⟨k, hk, hn⟩ => l.length - k) (⟨0, by omega, by simp⟩) (List.range 0) (by first | (simp [hΓ]; done) | (rw [hΓ]; decide)) (by (repeat' (first | exact trivial | rfl | refine And.intro ?_ ?_)) <;> (simp [EnvSub, StoreSub, look_cons, nm, nmo, E.ren, C.ren, C.renL, O.ren, Store.ren, killc, kill0, killL, kill, fillC, spliceC, eC, Function.comp_def, argsFrom, zC, hΓ] <;> rfl)) ?_; rintro ⟨k, hk, hn⟩; try dsimp only [List.cons_append, List.nil_append]
  by_cases hlt : k < l.length
  · obtain ⟨x, hx⟩ := get_some hlt
    have hx' := get_map (g := tRow) hx
    by_cases hs : x = s
    · have hm : s ∈ l := hs ▸ List.mem_of_getElem? hx
      (repeat (first | (refine popO rfl ?_; first | (refine gA rfl ?_; first | refine yLm rfl rfl ?_ | ((first | refine yQ (md := false) rfl ?_ ?_ | refine yL rfl rfl (by assumption) rfl rfl ?_ ?_ | refine yT rfl rfl (by assumption) rfl ?_ ?_); (first | exact True.intro | omega | (simp only [oZ] at *; omega))) | (refine yB rfl ?_; intro _ _hb) | refine yU (sl := true) rfl ?_ | refine yM rfl rfl (by assumption) rfl rfl rfl ?_ | refine yV rfl rfl rfl rfl (by assumption) rfl rfl rfl rfl ?_ ) | refine popN rfl ?_ | (refine yG rfl rfl ?_ ?_ <;> intro hb <;> subst hb)) | refine AWp.seq ?_ | refine reg (by kernel_rfl) ?_ | refine lexE ?_))
      (refine AWp.cond rfl (fun hb => ?_) (fun hb => ?_) <;> cases hb)
      · (repeat' (first | (first | (refine popO rfl ?_; first | (refine gA rfl ?_; first | refine yLm rfl rfl ?_ | ((first | refine yQ (md := false) rfl ?_ ?_ | refine yL rfl rfl (by assumption) rfl rfl ?_ ?_ | refine yT rfl rfl (by assumption) rfl ?_ ?_); (first | exact True.intro | omega | (simp only [oZ] at *; omega))) | (refine yB rfl ?_; intro _ _hb) | refine yU (sl := true) rfl ?_ | refine yM rfl rfl (by assumption) rfl rfl rfl ?_ | refine yV rfl rfl rfl rfl (by assumption) rfl rfl rfl rfl ?_ ) | refine popN rfl ?_ | (refine yG rfl rfl ?_ ?_ <;> intro hb <;> subst hb)) | refine AWp.seq ?_ | refine reg (by kernel_rfl) ?_ | refine lexE ?_ | refine regD (flN []) mixed (by kernel_rfl) (by kernel_rfl) ?_) | (refine AWp.cond rfl (fun hb => ?_) (fun hb => ?_) <;> cases hb) | refine AWp.skip ?_ | refine AWp.exit ?_ | refine AWp.block ?_ | refine AWp.ret ⟨_, rfl, ?_⟩))
        · simp [hm]
        · exfalso; simp [hs] at _hb
      · exfalso; first | omega | (simp only [oZ] at *; omega)
    · have hn2 : s ∉ l.take (k + 1) := by
        rw [List.take_add_one, hx]
        intro h
        rcases List.mem_append.1 h with h | h
        · exact hn h
        · simp at h; exact hs h.symm
      (repeat (first | (refine popO rfl ?_; first | (refine gA rfl ?_; first | refine yLm rfl rfl ?_ | ((first | refine yQ (md := false) rfl ?_ ?_ | refine yL rfl rfl (by assumption) rfl rfl ?_ ?_ | refine yT rfl rfl (by assumption) rfl ?_ ?_); (first | exact True.intro | omega | (simp only [oZ] at *; omega))) | (refine yB rfl ?_; intro _ _hb) | refine yU (sl := true) rfl ?_ | refine yM rfl rfl (by assumption) rfl rfl rfl ?_ | refine yV rfl rfl rfl rfl (by assumption) rfl rfl rfl rfl ?_ ) | refine popN rfl ?_ | (refine yG rfl rfl ?_ ?_ <;> intro hb <;> subst hb)) | refine AWp.seq ?_ | refine reg (by kernel_rfl) ?_ | refine lexE ?_))
      (refine AWp.cond rfl (fun hb => ?_) (fun hb => ?_) <;> cases hb)
      · (repeat' (first | (first | (refine popO rfl ?_; first | (refine gA rfl ?_; first | refine yLm rfl rfl ?_ | ((first | refine yQ (md := false) rfl ?_ ?_ | refine yL rfl rfl (by assumption) rfl rfl ?_ ?_ | refine yT rfl rfl (by assumption) rfl ?_ ?_); (first | exact True.intro | omega | (simp only [oZ] at *; omega))) | (refine yB rfl ?_; intro _ _hb) | refine yU (sl := true) rfl ?_ | refine yM rfl rfl (by assumption) rfl rfl rfl ?_ | refine yV rfl rfl rfl rfl (by assumption) rfl rfl rfl rfl ?_ ) | refine popN rfl ?_ | (refine yG rfl rfl ?_ ?_ <;> intro hb <;> subst hb)) | refine AWp.seq ?_ | refine reg (by kernel_rfl) ?_ | refine lexE ?_ | refine regD (flN []) mixed (by kernel_rfl) (by kernel_rfl) ?_) | (refine AWp.cond rfl (fun hb => ?_) (fun hb => ?_) <;> cases hb) | refine AWp.skip ?_ | refine AWp.exit ?_ | refine AWp.block ?_ | refine AWp.ret ⟨_, rfl, ?_⟩))
        · exfalso; simp [hs] at _hb
        · refine ⟨⟨k + 1, by first | omega | (simp only [oZ] at *; omega), hn2⟩, by dsimp only; (first | omega | (simp only [oZ] at *; omega)), [], ?_⟩
          simp [EnvSub, StoreSub, look_cons, nm, nmo, E.ren, C.ren, C.renL, O.ren, Store.ren, killc, kill0, killL, kill, fillC, spliceC, eC, Function.comp_def, argsFrom, zC, hΓ]
      · exfalso; first | omega | (simp only [oZ] at *; omega)
  · rw [List.take_of_length_le (by omega)] at hn
    (repeat (first | (refine popO rfl ?_; first | (refine gA rfl ?_; first | refine yLm rfl rfl ?_ | ((first | refine yQ (md := false) rfl ?_ ?_ | refine yL rfl rfl (by assumption) rfl rfl ?_ ?_ | refine yT rfl rfl (by assumption) rfl ?_ ?_); (first | exact True.intro | omega | (simp only [oZ] at *; omega))) | (refine yB rfl ?_; intro _ _hb) | refine yU (sl := true) rfl ?_ | refine yM rfl rfl (by assumption) rfl rfl rfl ?_ | refine yV rfl rfl rfl rfl (by assumption) rfl rfl rfl rfl ?_ ) | refine popN rfl ?_ | (refine yG rfl rfl ?_ ?_ <;> intro hb <;> subst hb)) | refine AWp.seq ?_ | refine reg (by kernel_rfl) ?_ | refine lexE ?_))
    (refine AWp.cond rfl (fun hb => ?_) (fun hb => ?_) <;> cases hb)
    · exfalso; first | omega | (simp only [oZ] at *; omega)
    · (repeat' (first | (first | (refine popO rfl ?_; first | (refine gA rfl ?_; first | refine yLm rfl rfl ?_ | ((first | refine yQ (md := false) rfl ?_ ?_ | refine yL rfl rfl (by assumption) rfl rfl ?_ ?_ | refine yT rfl rfl (by assumption) rfl ?_ ?_); (first | exact True.intro | omega | (simp only [oZ] at *; omega))) | (refine yB rfl ?_; intro _ _hb) | refine yU (sl := true) rfl ?_ | refine yM rfl rfl (by assumption) rfl rfl rfl ?_ | refine yV rfl rfl rfl rfl (by assumption) rfl rfl rfl rfl ?_ ) | refine popN rfl ?_ | (refine yG rfl rfl ?_ ?_ <;> intro hb <;> subst hb)) | refine AWp.seq ?_ | refine reg (by kernel_rfl) ?_ | refine lexE ?_ | refine regD (flN []) mixed (by kernel_rfl) (by kernel_rfl) ?_) | (refine AWp.cond rfl (fun hb => ?_) (fun hb => ?_) <;> cases hb) | refine AWp.skip ?_ | refine AWp.exit ?_ | refine AWp.block ?_ | refine AWp.ret ⟨_, rfl, ?_⟩))
      simp [hn]
theorem marks_step {A : W → Bool} {cols : List W} {w c : W} {k : Nat} (hc : cols[k]? = some c) : marks A (cols.take (k + 1)) w = marks A (cols.take k) w ++ [mkB (A (w ++ c))] := by
  unfold marks
  rw [List.take_add_one, hc]; simp
theorem marks_len {A : W → Bool} {cols : List W} {w : W} : (marks A cols w).length = cols.length := by simp [marks]
theorem l10Row_ok {t : Tea} {al : Int} {A : W → Bool} (hT : AskT Tryz.prog TB 36 65 t al A) (cols : List W) (w : W) (hl : cols.length ≤ 4194304) (hw : w.length ≤ 4194305) (hb : ∀ x ∈ cols, x.length ≤ 4194304) :
    Pure Tryz.prog TB 39 [eTea t, eTexts cols, eT w] (eT (marks A cols w)) := by
  refine Spec.of Tryz.func39 rfl (by kernel_rfl) (Nat.le_of_ble_eq_true rfl) ?_; intro Γ hΓ
  (repeat (first | (refine popO rfl ?_; first | (refine gA rfl ?_; first | refine yLm rfl rfl ?_ | ((first | refine yQ (md := false) rfl ?_ ?_ | refine yL rfl rfl (by assumption) rfl rfl ?_ ?_ | refine yT rfl rfl (by assumption) rfl ?_ ?_); (first | exact True.intro | omega | (simp only [oZ] at *; omega))) | (refine yB rfl ?_; intro _ _hb) | refine yU (sl := true) rfl ?_ | refine yM rfl rfl (by assumption) rfl rfl rfl ?_ | refine yV rfl rfl rfl rfl (by assumption) rfl rfl rfl rfl ?_ ) | refine popN rfl ?_ | (refine yG rfl rfl ?_ ?_ <;> intro hb <;> subst hb)) | refine AWp.seq ?_ | refine reg (by kernel_rfl) ?_ | refine lexE ?_))
  refine AWp.block ?_
  refine AWp.loopV (α := {k : Nat // k ≤ cols.length}) [1, 2, 3] [] rfl rfl (fun ⟨k, hk⟩ => [(7, eT (marks A (cols.take k) w)), (8, eI .i64 k)]) (fun ⟨k, hk⟩ => []) 0 (fun ⟨k, hk⟩ => cols.length - k) (⟨0, by omega⟩) (List.range 0) (by first | (simp [hΓ]; done) | (rw [hΓ]; decide)) (by (repeat' (first | exact trivial | rfl | refine And.intro ?_ ?_)) <;> (simp [EnvSub, StoreSub, look_cons, nm, nmo, E.ren, C.ren, C.renL, O.ren, Store.ren, killc, kill0, killL, kill, fillC, spliceC, eC, Function.comp_def, argsFrom, zC, hΓ] <;> rfl)) ?_; rintro ⟨k, hk⟩; try dsimp only [List.cons_append, List.nil_append]
  have hml : (marks A (cols.take k) w).length ≤ 4194304 := by rw [marks_len, List.length_take]; omega
  by_cases hlt : k < cols.length
  · obtain ⟨x, hx⟩ := get_some hlt
    have hx' := get_map (g := tRow) hx
    have hxb := hb x (List.mem_of_getElem? hx)
    have hq := hT.ask (w ++ x) (by simp; omega)
    have hst := marks_step (A := A) (w := w) hx
    (repeat (first | (refine popO rfl ?_; first | (refine gA rfl ?_; first | refine yLm rfl rfl ?_ | ((first | refine yQ (md := false) rfl ?_ ?_ | refine yL rfl rfl (by assumption) rfl rfl ?_ ?_ | refine yT rfl rfl (by assumption) rfl ?_ ?_); (first | exact True.intro | omega | (simp only [oZ] at *; omega))) | (refine yB rfl ?_; intro _ _hb) | refine yU (sl := true) rfl ?_ | refine yM rfl rfl (by assumption) rfl rfl rfl ?_ | refine yV rfl rfl rfl rfl (by assumption) rfl rfl rfl rfl ?_ ) | refine popN rfl ?_ | (refine yG rfl rfl ?_ ?_ <;> intro hb <;> subst hb)) | refine AWp.seq ?_ | refine reg (by kernel_rfl) ?_ | refine lexE ?_))
    (refine AWp.cond rfl (fun hb => ?_) (fun hb => ?_) <;> cases hb)
    · refine AWp.skip ?_
      refine AWp.seq (AWp.block ?_)
      (repeat (first | (refine popO rfl ?_; first | (refine gA rfl ?_; first | refine yLm rfl rfl ?_ | ((first | refine yQ (md := false) rfl ?_ ?_ | refine yL rfl rfl (by assumption) rfl rfl ?_ ?_ | refine yT rfl rfl (by assumption) rfl ?_ ?_); (first | exact True.intro | omega | (simp only [oZ] at *; omega))) | (refine yB rfl ?_; intro _ _hb) | refine yU (sl := true) rfl ?_ | refine yM rfl rfl (by assumption) rfl rfl rfl ?_ | refine yV rfl rfl rfl rfl (by assumption) rfl rfl rfl rfl ?_ | (refine yC rfl rfl rfl (hq) ?_; intro _ _hb) ) | refine popN rfl ?_ | (refine yG rfl rfl ?_ ?_ <;> intro hb <;> subst hb)) | refine AWp.seq ?_ | refine reg (by kernel_rfl) ?_ | refine lexE ?_ | refine regD (flN []) mixed (by kernel_rfl) (by kernel_rfl) ?_))
      (refine AWp.cond rfl (fun hb => ?_) (fun hb => ?_) <;> cases hb)
      · rw [_hb] at hst
        (repeat (first | (refine popO rfl ?_; first | (refine gA rfl ?_; first | refine yLm rfl rfl ?_ | ((first | refine yQ (md := false) rfl ?_ ?_ | refine yL rfl rfl (by assumption) rfl rfl ?_ ?_ | refine yT rfl rfl (by assumption) rfl ?_ ?_); (first | exact True.intro | omega | (simp only [oZ] at *; omega))) | (refine yB rfl ?_; intro _ _hb) | refine yU (sl := true) rfl ?_ | refine yM rfl rfl (by assumption) rfl rfl rfl ?_ | refine yV rfl rfl rfl rfl (by assumption) rfl rfl rfl rfl ?_ ) | refine popN rfl ?_ | (refine yG rfl rfl ?_ ?_ <;> intro hb <;> subst hb)) | refine AWp.seq ?_ | refine reg (by kernel_rfl) ?_ | refine lexE ?_ | refine regD (flN []) mixed (by kernel_rfl) (by kernel_rfl) ?_))
        refine ⟨⟨k + 1, by first | omega | (simp only [oZ] at *; omega)⟩, by dsimp only; (first | omega | (simp only [oZ] at *; omega)), [], ?_⟩
        simp [EnvSub, StoreSub, look_cons, nm, nmo, E.ren, C.ren, C.renL, O.ren, Store.ren, killc, kill0, killL, kill, fillC, spliceC, eC, Function.comp_def, argsFrom, zC, hΓ, hst, mkB]
      · rw [_hb] at hst
        (repeat (first | (refine popO rfl ?_; first | (refine gA rfl ?_; first | refine yLm rfl rfl ?_ | ((first | refine yQ (md := false) rfl ?_ ?_ | refine yL rfl rfl (by assumption) rfl rfl ?_ ?_ | refine yT rfl rfl (by assumption) rfl ?_ ?_); (first | exact True.intro | omega | (simp only [oZ] at *; omega))) | (refine yB rfl ?_; intro _ _hb) | refine yU (sl := true) rfl ?_ | refine yM rfl rfl (by assumption) rfl rfl rfl ?_ | refine yV rfl rfl rfl rfl (by assumption) rfl rfl rfl rfl ?_ ) | refine popN rfl ?_ | (refine yG rfl rfl ?_ ?_ <;> intro hb <;> subst hb)) | refine AWp.seq ?_ | refine reg (by kernel_rfl) ?_ | refine lexE ?_ | refine regD (flN []) mixed (by kernel_rfl) (by kernel_rfl) ?_))
        refine ⟨⟨k + 1, by first | omega | (simp only [oZ] at *; omega)⟩, by dsimp only; (first | omega | (simp only [oZ] at *; omega)), [], ?_⟩
        simp [EnvSub, StoreSub, look_cons, nm, nmo, E.ren, C.ren, C.renL, O.ren, Store.ren, killc, kill0, killL, kill, fillC, spliceC, eC, Function.comp_def, argsFrom, zC, hΓ, hst, mkB]
    · exfalso; first | omega | (simp only [oZ] at *; omega)
  · obtain rfl : k = cols.length := by omega
    rw [List.take_length]
    (repeat (first | (refine popO rfl ?_; first | (refine gA rfl ?_; first | refine yLm rfl rfl ?_ | ((first | refine yQ (md := false) rfl ?_ ?_ | refine yL rfl rfl (by assumption) rfl rfl ?_ ?_ | refine yT rfl rfl (by assumption) rfl ?_ ?_); (first | exact True.intro | omega | (simp only [oZ] at *; omega))) | (refine yB rfl ?_; intro _ _hb) | refine yU (sl := true) rfl ?_ | refine yM rfl rfl (by assumption) rfl rfl rfl ?_ | refine yV rfl rfl rfl rfl (by assumption) rfl rfl rfl rfl ?_ ) | refine popN rfl ?_ | (refine yG rfl rfl ?_ ?_ <;> intro hb <;> subst hb)) | refine AWp.seq ?_ | refine reg (by kernel_rfl) ?_ | refine lexE ?_))
    (refine AWp.cond rfl (fun hb => ?_) (fun hb => ?_) <;> cases hb)
    · exfalso; first | omega | (simp only [oZ] at *; omega)
    · (repeat' (first | (first | (refine popO rfl ?_; first | (refine gA rfl ?_; first | refine yLm rfl rfl ?_ | ((first | refine yQ (md := false) rfl ?_ ?_ | refine yL rfl rfl (by assumption) rfl rfl ?_ ?_ | refine yT rfl rfl (by assumption) rfl ?_ ?_); (first | exact True.intro | omega | (simp only [oZ] at *; omega))) | (refine yB rfl ?_; intro _ _hb) | refine yU (sl := true) rfl ?_ | refine yM rfl rfl (by assumption) rfl rfl rfl ?_ | refine yV rfl rfl rfl rfl (by assumption) rfl rfl rfl rfl ?_ ) | refine popN rfl ?_ | (refine yG rfl rfl ?_ ?_ <;> intro hb <;> subst hb)) | refine AWp.seq ?_ | refine reg (by kernel_rfl) ?_ | refine lexE ?_ | refine regD (flN []) mixed (by kernel_rfl) (by kernel_rfl) ?_) | (refine AWp.cond rfl (fun hb => ?_) (fun hb => ?_) <;> cases hb) | refine AWp.skip ?_ | refine AWp.exit ?_ | refine AWp.block ?_ | refine AWp.ret ⟨_, rfl, ?_⟩))
      rfl
end Go.Am
/-
  The reference's tables: rows, shapes, validity.
-/
namespace Go.Am
open Go Go.Proofs
attribute [local irreducible] QOp AOp Lex LexO AWp Spec
variable {TB : List (Nat × Obj)}

theorem l10Rows_ok {t : Tea} {al : Int} {A : W → Bool} (hT : AskT Tryz.prog TB 36 65 t al A) (cols words : List W) (hl : cols.length ≤ 4194304) (hw : ∀ w ∈ words, w.length ≤ 4194305) (hb : ∀ x ∈ cols, x.length ≤ 4194304) (hwl : words.length ≤ 4194304) :
    Pure Tryz.prog TB 37 [eTea t, eTexts cols, eTexts words] (eTexts (words.map (marks A cols))) := by
  refine Spec.of Tryz.func37 rfl (by kernel_rfl) (Nat.le_of_ble_eq_true rfl) ?_; intro Γ hΓ
  (repeat (first | (refine popO rfl ?_; first | (refine gA rfl ?_; first | refine yLm rfl rfl ?_ | ((first | refine yQ (md := false) rfl ?_ ?_ | refine yL rfl rfl (by assumption) rfl rfl ?_ ?_ | refine yT rfl rfl (by assumption) rfl ?_ ?_); (first | exact True.intro | omega | (simp only [oZ] at *; omega))) | (refine yB rfl ?_; intro _ _hb) | refine yU (sl := false) rfl ?_ | refine yM rfl rfl (by assumption) rfl rfl rfl ?_ | refine yV rfl rfl rfl rfl (by assumption) rfl rfl rfl rfl ?_ ) | refine popN rfl ?_ | (refine yG rfl rfl ?_ ?_ <;> intro hb <;> subst hb)) | refine AWp.seq ?_ | refine reg (by kernel_rfl) ?_ | refine lexE ?_ | refine regD (flN []) mixed (by kernel_rfl) (by kernel_rfl) ?_))
  (refine popO rfl ?_; refine popS (fun _ _ => q_boxI rfl rfl rfl) rfl ?_)
  (repeat (first | (refine popO rfl ?_; first | (refine gA rfl ?_; first | refine yLm rfl rfl ?_ | ((first | refine yQ (md := false) rfl ?_ ?_ | refine yL rfl rfl (by assumption) rfl rfl ?_ ?_ | refine yT rfl rfl (by assumption) rfl ?_ ?_); (first | exact True.intro | omega | (simp only [oZ] at *; omega))) | (refine yB rfl ?_; intro _ _hb) | refine yU (sl := false) rfl ?_ | refine yM rfl rfl (by assumption) rfl rfl rfl ?_ | refine yV rfl rfl rfl rfl (by assumption) rfl rfl rfl rfl ?_ ) | refine popN rfl ?_ | (refine yG rfl rfl ?_ ?_ <;> intro hb <;> subst hb)) | refine AWp.seq ?_ | refine reg (by kernel_rfl) ?_ | refine lexE ?_ | refine regD (flN []) mixed (by kernel_rfl) (by kernel_rfl) ?_))
  (refine popO rfl ?_; refine popW ?_ rfl (by rfl); refine n_sliceB rfl rfl rfl rfl (by simp) (by rfl) (by rfl) (by rfl) (by rfl) ?_)
  (repeat (first | (refine popO rfl ?_; first | (refine gA rfl ?_; first | refine yLm rfl rfl ?_ | ((first | refine yQ (md := false) rfl ?_ ?_ | refine yL rfl rfl (by assumption) rfl rfl ?_ ?_ | refine yT rfl rfl (by assumption) rfl ?_ ?_); (first | exact True.intro | omega | (simp only [oZ] at *; omega))) | (refine yB rfl ?_; intro _ _hb) | refine yU (sl := false) rfl ?_ | refine yM rfl rfl (by assumption) rfl rfl rfl ?_ | refine yV rfl rfl rfl rfl (by assumption) rfl rfl rfl rfl ?_ ) | refine popN rfl ?_ | (refine yG rfl rfl ?_ ?_ <;> intro hb <;> subst hb)) | refine AWp.seq ?_ | refine reg (by kernel_rfl) ?_ | refine lexE ?_ | refine regD (flN []) mixed (by kernel_rfl) (by kernel_rfl) ?_))
  refine AWp.block ?_
  refine AWp.loopV (α := {k : Nat // k ≤ words.length}) [1, 2, 3] [] rfl rfl (fun ⟨k, hk⟩ => [(7, .o (.arr 0 1 0 k)), (8, eI .i64 k)]) (fun ⟨k, hk⟩ => [(0, .cells 9 1 ((words.take k).map fun w => [.d (tD (marks A cols w))]))]) 1 (fun ⟨k, hk⟩ => words.length - k) (⟨0, by omega⟩) (List.range 1) (by first | (simp [hΓ]; done) | (rw [hΓ]; decide)) (by (repeat' (first | exact trivial | rfl | refine And.intro ?_ ?_)) <;> (simp [EnvSub, StoreSub, look_cons, nm, nmo, E.ren, C.ren, C.renL, O.ren, Store.ren, killc, kill0, killL, kill, fillC, spliceC, eC, Function.comp_def, argsFrom, zC, hΓ] <;> rfl)) ?_; rintro ⟨k, hk⟩; try dsimp only [List.cons_append, List.nil_append]
  by_cases hlt : k < words.length
  · obtain ⟨x, hx⟩ := get_some hlt
    have hx' := get_map (g := tRow) hx
    have hr := l10Row_ok hT cols x hl (hw x (List.mem_of_getElem? hx)) hb
    have hst : (words.take (k + 1)).map (fun w => [C.d (tD (marks A cols w))]) = (words.take k).map (fun w => [C.d (tD (marks A cols w))]) ++ [[C.d (tD (marks A cols x))]] := by rw [List.take_add_one, hx]; simp
    (repeat (first | (refine popO rfl ?_; first | (refine gA rfl ?_; first | refine yLm rfl rfl ?_ | ((first | refine yQ (md := false) rfl ?_ ?_ | refine yL rfl rfl (by assumption) rfl rfl ?_ ?_ | refine yT rfl rfl (by assumption) rfl ?_ ?_); (first | exact True.intro | omega | (simp only [oZ] at *; omega))) | (refine yB rfl ?_; intro _ _hb) | refine yU (sl := false) rfl ?_ | refine yM rfl rfl (by assumption) rfl rfl rfl ?_ | refine yV rfl rfl rfl rfl (by assumption) rfl rfl rfl rfl ?_ ) | refine popN rfl ?_ | (refine yG rfl rfl ?_ ?_ <;> intro hb <;> subst hb)) | refine AWp.seq ?_ | refine reg (by kernel_rfl) ?_ | refine lexE ?_ | refine regD (flN []) mixed (by kernel_rfl) (by kernel_rfl) ?_))
    (refine AWp.cond rfl (fun hb => ?_) (fun hb => ?_) <;> cases hb)
    · refine AWp.skip ?_
      refine AWp.seq (AWp.block ?_)
      refine regD (flN [9]) mixed (by kernel_rfl) (by kernel_rfl) ?_
      (repeat (first | (refine popO rfl ?_; first | (refine gA rfl ?_; first | refine yLm rfl rfl ?_ | ((first | refine yQ (md := false) rfl ?_ ?_ | refine yL rfl rfl (by assumption) rfl rfl ?_ ?_ | refine yT rfl rfl (by assumption) rfl ?_ ?_); (first | exact True.intro | omega | (simp only [oZ] at *; omega))) | (refine yB rfl ?_; intro _ _hb) | refine yU (sl := true) rfl ?_ | refine yM rfl rfl (by assumption) rfl rfl rfl ?_ | refine yV rfl rfl rfl rfl (by assumption) rfl rfl rfl rfl ?_ | refine yP rfl rfl rfl (hr) rfl ?_ ) | refine popN rfl ?_ | (refine yG rfl rfl ?_ ?_ <;> intro hb <;> subst hb)) | refine AWp.seq ?_ | refine reg (by kernel_rfl) ?_ | refine lexE ?_))
      (refine popO rfl ?_; refine popW ?_ rfl (by rfl); refine n_append rfl rfl rfl (by first | (simp; done) | (simp; (first | omega | (simp only [oZ] at *; omega)))) rfl (by intro r hr; simp at hr; subst hr; rfl) (by rfl) (Nat.le_of_ble_eq_true rfl) (by simp; omega) ?_)
      (repeat (first | (refine popO rfl ?_; first | (refine gA rfl ?_; first | refine yLm rfl rfl ?_ | ((first | refine yQ (md := false) rfl ?_ ?_ | refine yL rfl rfl (by assumption) rfl rfl ?_ ?_ | refine yT rfl rfl (by assumption) rfl ?_ ?_); (first | exact True.intro | omega | (simp only [oZ] at *; omega))) | (refine yB rfl ?_; intro _ _hb) | refine yU (sl := true) rfl ?_ | refine yM rfl rfl (by assumption) rfl rfl rfl ?_ | refine yV rfl rfl rfl rfl (by assumption) rfl rfl rfl rfl ?_ ) | refine popN rfl ?_ | (refine yG rfl rfl ?_ ?_ <;> intro hb <;> subst hb)) | refine AWp.seq ?_ | refine reg (by kernel_rfl) ?_ | refine lexE ?_))
      refine ⟨⟨k + 1, by first | omega | (simp only [oZ] at *; omega)⟩, by dsimp only; (first | omega | (simp only [oZ] at *; omega)), [1], ?_⟩
      simp [EnvSub, StoreSub, look_cons, nm, nmo, E.ren, C.ren, C.renL, O.ren, Store.ren, killc, kill0, killL, kill, fillC, spliceC, eC, Function.comp_def, argsFrom, zC, hΓ, hst]
    · exfalso; first | omega | (simp only [oZ] at *; omega)
  · obtain rfl : k = words.length := by omega
    rw [List.take_length]
    (repeat (first | (refine popO rfl ?_; first | (refine gA rfl ?_; first | refine yLm rfl rfl ?_ | ((first | refine yQ (md := false) rfl ?_ ?_ | refine yL rfl rfl (by assumption) rfl rfl ?_ ?_ | refine yT rfl rfl (by assumption) rfl ?_ ?_); (first | exact True.intro | omega | (simp only [oZ] at *; omega))) | (refine yB rfl ?_; intro _ _hb) | refine yU (sl := false) rfl ?_ | refine yM rfl rfl (by assumption) rfl rfl rfl ?_ | refine yV rfl rfl rfl rfl (by assumption) rfl rfl rfl rfl ?_ ) | refine popN rfl ?_ | (refine yG rfl rfl ?_ ?_ <;> intro hb <;> subst hb)) | refine AWp.seq ?_ | refine reg (by kernel_rfl) ?_ | refine lexE ?_ | refine regD (flN []) mixed (by kernel_rfl) (by kernel_rfl) ?_))
    (refine AWp.cond rfl (fun hb => ?_) (fun hb => ?_) <;> cases hb)
    · exfalso; first | omega | (simp only [oZ] at *; omega)
    · refine AWp.exit ?_
      (repeat (first | (refine popO rfl ?_; first | (refine gA rfl ?_; first | refine yLm rfl rfl ?_ | ((first | refine yQ (md := false) rfl ?_ ?_ | refine yL rfl rfl (by assumption) rfl rfl ?_ ?_ | refine yT rfl rfl (by assumption) rfl ?_ ?_); (first | exact True.intro | omega | (simp only [oZ] at *; omega))) | (refine yB rfl ?_; intro _ _hb) | refine yU (sl := false) rfl ?_ | refine yM rfl rfl (by assumption) rfl rfl rfl ?_ | refine yV rfl rfl rfl rfl (by assumption) rfl rfl rfl rfl ?_ ) | refine popN rfl ?_ | (refine yG rfl rfl ?_ ?_ <;> intro hb <;> subst hb)) | refine AWp.seq ?_ | refine reg (by kernel_rfl) ?_ | refine lexE ?_ | refine regD (flN []) mixed (by kernel_rfl) (by kernel_rfl) ?_))
      refine AWp.settle [(6, eTexts (words.map (marks A cols)))] ⟨⟨_, rfl, .o (.full rfl (by simp [Function.comp_def]) (by simp))⟩, trivial⟩ ?_
      refine AWp.ret ⟨_, rfl, rfl⟩
/-- The condition on a row, on a column. -/
def rowAt (al : Int) (l : List W) (i : Nat) : Bool := match l[i]? with
  | none => true
  | some w => !decide (w.length = 0) && (within w al && decide (w.dropLast ∈ l.take i))
def colAt (al : Int) (l : List W) (i : Nat) : Bool := match l[i]? with
  | none => true
  | some w => decide (w.length ≤ 4000) && (within w al && !decide (w ∈ l.take i))
def from1 (f : Nat → Bool) (n : Nat) : Bool := (List.range n).all fun i => decide (i = 0) || f i
theorem from1_step {f : Nat → Bool} {k : Nat} (h : from1 f k = true) (hf : f k = true) : from1 f (k + 1) = true := by
  unfold from1 at *
  rw [List.range_succ, List.all_append, h]; simp [hf]
theorem from1_bad {f : Nat → Bool} {k n : Nat} (h0 : 0 < k) (h : k < n) (hf : f k = false) : from1 f n = false := by
  unfold from1
  rw [List.all_eq_false]
  exact ⟨k, List.mem_range.2 h, by simp [hf]; omega⟩
def shape0 (al : Int) (t : Tab) : Bool := decide (0 ≤ al) && (decide (1 ≤ t.rows.length ∧ t.rows.length ≤ 12) && (decide (1 ≤ t.cols.length ∧ t.cols.length ≤ 20) && (decide (t.rows[0]? = some []) && decide (t.cols[0]? = some []))))
def shapeS (al : Int) (t : Tab) : Bool := shape0 al t && (from1 (rowAt al t.rows) t.rows.length && from1 (colAt al t.cols) t.cols.length)
theorem l10Shape_ok (al : Int) (t : Tab) (hz : TSz t) : Pure Tryz.prog TB 91 [eI .i64 al, eTab t] (eB (shapeS al t)) := by
  have hrl := hz.rl
  have hcl := hz.cl
  by_cases h0 : shape0 al t = true
  · have hss : shapeS al t = (from1 (rowAt al t.rows) t.rows.length && from1 (colAt al t.cols) t.cols.length) := by unfold shapeS; rw [h0]; rfl
    rw [hss]
    unfold shape0 at h0
    simp only [Bool.and_eq_true, decide_eq_true_eq] at h0
    obtain ⟨h1, h2, h3, h4, h5⟩ := h0
    have h4' := get_map (g := tRow) (k := 0) h4
    have h5' := get_map (g := tRow) (k := 0) h5
    have e0 : ((0 : Nat) : Int).toNat = (0 : Int).toNat := rfl
    rw [e0] at h4' h5'
    refine Spec.of Tryz.func91 rfl (by kernel_rfl) (Nat.le_of_ble_eq_true rfl) ?_; intro Γ hΓ
    (repeat' (first | (first | (refine popO rfl ?_; first | (refine gA rfl ?_; first | refine yLm rfl rfl ?_ | ((first | refine yQ (md := false) rfl ?_ ?_ | refine yL rfl rfl (by assumption) rfl rfl ?_ ?_ | refine yT rfl rfl (by assumption) rfl ?_ ?_); (first | exact True.intro | omega | (simp only [oZ] at *; omega))) | (refine yB rfl ?_; intro _ _hb) | refine yU (sl := true) rfl ?_ | refine yM rfl rfl (by assumption) rfl rfl rfl ?_ | refine yV rfl rfl rfl rfl (by assumption) rfl rfl rfl rfl ?_ ) | refine popN rfl ?_ | (refine yG rfl rfl ?_ ?_ <;> intro hb <;> subst hb)) | refine AWp.seq ?_ | refine reg (by kernel_rfl) ?_ | refine lexE ?_ | refine regD (flN []) mixed (by kernel_rfl) (by kernel_rfl) ?_) | (refine AWp.cond rfl (fun hb => ?_) (fun hb => ?_) <;> cases hb) | refine AWp.skip ?_ | refine AWp.exit ?_ | refine AWp.block ?_ | refine AWp.ret ⟨_, rfl, ?_⟩))
    all_goals first
      | (exfalso; first | omega | (simp only [oZ] at *; omega); done)
      | (exfalso; simp at *; done)
      | skip
    refine AWp.loopV (α := {k : Nat // 1 ≤ k ∧ k ≤ t.rows.length ∧ from1 (rowAt al t.rows) k = true}) [0, 3, 5, 6] [] rfl rfl (fun ⟨k, hk1, hk, ha⟩ => [(7, eI .i64 k)]) (fun ⟨k, hk1, hk, ha⟩ => []) 0 (fun ⟨k, hk1, hk, ha⟩ => t.rows.length - k) (⟨1, by omega, by omega, rfl⟩) (List.range 0) (by first | (simp [hΓ]; done) | (rw [hΓ]; decide)) (by (repeat' (first | exact trivial | rfl | refine And.intro ?_ ?_)) <;> (simp [EnvSub, StoreSub, look_cons, nm, nmo, E.ren, C.ren, C.renL, O.ren, Store.ren, killc, kill0, killL, kill, fillC, spliceC, eC, Function.comp_def, argsFrom, zC, hΓ] <;> rfl)) ?_; rintro ⟨k, hk1, hk, ha⟩; try dsimp only [List.cons_append, List.nil_append]
    by_cases hlt : k < t.rows.length
    · obtain ⟨x, hx⟩ := get_some hlt
      have hx' := get_map (g := tRow) hx
      have hxb := hz.rb x (List.mem_of_getElem? hx)
      have hra : rowAt al t.rows k = (!decide (x.length = 0) && (within x al && decide (x.dropLast ∈ t.rows.take k))) := by unfold rowAt; rw [hx]
      have hww := wordWithin_ok (TB := TB) x al (by omega)
      have hin : Pure Tryz.prog TB 77 [.o (.d (.l ((t.rows.map tRow).take ((k : Nat) : Int).toNat))), eT (x.take ((x.length : Int) - 1).toNat)] (eB (decide (x.dropLast ∈ t.rows.take k))) := by
        have e1 : (x.take ((x.length : Int) - 1).toNat) = x.dropLast := by rw [List.dropLast_eq_take]; congr 1; omega
        rw [e1, Int.toNat_natCast, ← List.map_take]
        exact l10In_ok _ _ (by simp; omega)
      (repeat (first | (refine popO rfl ?_; first | (refine gA rfl ?_; first | refine yLm rfl rfl ?_ | ((first | refine yQ (md := false) rfl ?_ ?_ | refine yL rfl rfl (by assumption) rfl rfl ?_ ?_ | refine yT rfl rfl (by assumption) rfl ?_ ?_); (first | exact True.intro | omega | (simp only [oZ] at *; omega))) | (refine yB rfl ?_; intro _ _hb) | refine yU (sl := true) rfl ?_ | refine yM rfl rfl (by assumption) rfl rfl rfl ?_ | refine yV rfl rfl rfl rfl (by assumption) rfl rfl rfl rfl ?_ ) | refine popN rfl ?_ | (refine yG rfl rfl ?_ ?_ <;> intro hb <;> subst hb)) | refine AWp.seq ?_ | refine reg (by kernel_rfl) ?_ | refine lexE ?_))
      (refine AWp.cond rfl (fun hb => ?_) (fun hb => ?_) <;> cases hb)
      · (repeat' (first | (first | (refine popO rfl ?_; first | (refine gA rfl ?_; first | refine yLm rfl rfl ?_ | ((first | refine yQ (md := false) rfl ?_ ?_ | refine yL rfl rfl (by assumption) rfl rfl ?_ ?_ | refine yT rfl rfl (by assumption) rfl ?_ ?_); (first | exact True.intro | omega | (simp only [oZ] at *; omega))) | (refine yB rfl ?_; intro _ _hb) | refine yU (sl := true) rfl ?_ | refine yM rfl rfl (by assumption) rfl rfl rfl ?_ | refine yV rfl rfl rfl rfl (by assumption) rfl rfl rfl rfl ?_ | (refine yC rfl rfl rfl (hww) ?_; intro _ _hb) | (refine yC rfl rfl rfl (hin) ?_; intro _ _hb) | refine gS (fun _ _ => q_takeL rfl rfl (by simp) (by first | omega | (simp only [oZ] at *; omega)) (by first | omega | (simp only [oZ] at *; omega))) ?_ | refine gS (fun _ _ => q_takeT rfl rfl (by first | omega | (simp only [oZ] at *; omega)) (by first | omega | (simp only [oZ] at *; omega))) ?_) | refine popN rfl ?_ | (refine yG rfl rfl ?_ ?_ <;> intro hb <;> subst hb)) | refine AWp.seq ?_ | refine reg (by kernel_rfl) ?_ | refine lexE ?_ | refine regD (flN []) mixed (by kernel_rfl) (by kernel_rfl) ?_) | (refine AWp.cond rfl (fun hb => ?_) (fun hb => ?_) <;> cases hb) | refine AWp.skip ?_ | refine AWp.exit ?_ | refine AWp.block ?_ | refine AWp.ret ⟨_, rfl, ?_⟩))
        all_goals first
          | (show eB false = eB _; rw [from1_bad (by omega) hlt (by rw [hra]; grind)]; rfl)
          | (have hst := from1_step ha (by rw [hra]; grind); refine ⟨⟨k + 1, by first | omega | (simp only [oZ] at *; omega), by first | omega | (simp only [oZ] at *; omega), hst⟩, by dsimp only; (first | omega | (simp only [oZ] at *; omega)), [], ?_⟩; simp [EnvSub, StoreSub, look_cons, nm, nmo, E.ren, C.ren, C.renL, O.ren, Store.ren, killc, kill0, killL, kill, fillC, spliceC, eC, Function.comp_def, argsFrom, zC, hΓ])
      · exfalso; first | omega | (simp only [oZ] at *; omega)
    · obtain rfl : k = t.rows.length := by omega
      rw [ha]
      (repeat (first | (refine popO rfl ?_; first | (refine gA rfl ?_; first | refine yLm rfl rfl ?_ | ((first | refine yQ (md := false) rfl ?_ ?_ | refine yL rfl rfl (by assumption) rfl rfl ?_ ?_ | refine yT rfl rfl (by assumption) rfl ?_ ?_); (first | exact True.intro | omega | (simp only [oZ] at *; omega))) | (refine yB rfl ?_; intro _ _hb) | refine yU (sl := true) rfl ?_ | refine yM rfl rfl (by assumption) rfl rfl rfl ?_ | refine yV rfl rfl rfl rfl (by assumption) rfl rfl rfl rfl ?_ ) | refine popN rfl ?_ | (refine yG rfl rfl ?_ ?_ <;> intro hb <;> subst hb)) | refine AWp.seq ?_ | refine reg (by kernel_rfl) ?_ | refine lexE ?_))
      (refine AWp.cond rfl (fun hb => ?_) (fun hb => ?_) <;> cases hb)
      · exfalso; first | omega | (simp only [oZ] at *; omega)
      · (repeat' (first | (first | (refine popO rfl ?_; first | (refine gA rfl ?_; first | refine yLm rfl rfl ?_ | ((first | refine yQ (md := false) rfl ?_ ?_ | refine yL rfl rfl (by assumption) rfl rfl ?_ ?_ | refine yT rfl rfl (by assumption) rfl ?_ ?_); (first | exact True.intro | omega | (simp only [oZ] at *; omega))) | (refine yB rfl ?_; intro _ _hb) | refine yU (sl := true) rfl ?_ | refine yM rfl rfl (by assumption) rfl rfl rfl ?_ | refine yV rfl rfl rfl rfl (by assumption) rfl rfl rfl rfl ?_ ) | refine popN rfl ?_ | (refine yG rfl rfl ?_ ?_ <;> intro hb <;> subst hb)) | refine AWp.seq ?_ | refine reg (by kernel_rfl) ?_ | refine lexE ?_ | refine regD (flN []) mixed (by kernel_rfl) (by kernel_rfl) ?_) | (refine AWp.cond rfl (fun hb => ?_) (fun hb => ?_) <;> cases hb) | refine AWp.skip ?_ | refine AWp.exit ?_ | refine AWp.block ?_ | refine AWp.ret ⟨_, rfl, ?_⟩))
        refine AWp.loopV (α := {k : Nat // 1 ≤ k ∧ k ≤ t.cols.length ∧ from1 (colAt al t.cols) k = true}) [0, 3, 6] [] rfl rfl (fun ⟨k, hk1, hk, ha⟩ => [(9, eI .i64 k)]) (fun ⟨k, hk1, hk, ha⟩ => []) 0 (fun ⟨k, hk1, hk, ha⟩ => t.cols.length - k) (⟨1, by omega, by omega, rfl⟩) (List.range 0) (by first | (simp [hΓ]; done) | (rw [hΓ]; decide)) (by (repeat' (first | exact trivial | rfl | refine And.intro ?_ ?_)) <;> (simp [EnvSub, StoreSub, look_cons, nm, nmo, E.ren, C.ren, C.renL, O.ren, Store.ren, killc, kill0, killL, kill, fillC, spliceC, eC, Function.comp_def, argsFrom, zC, hΓ] <;> rfl)) ?_; rintro ⟨k, hk1, hk, ha⟩; try dsimp only [List.cons_append, List.nil_append]
        by_cases hlt : k < t.cols.length
        · obtain ⟨x, hx⟩ := get_some hlt
          have hx' := get_map (g := tRow) hx
          have hxb := hz.cb x (List.mem_of_getElem? hx)
          have hra : colAt al t.cols k = (decide (x.length ≤ 4000) && (within x al && !decide (x ∈ t.cols.take k))) := by unfold colAt; rw [hx]
          have hww := wordWithin_ok (TB := TB) x al (by omega)
          have hin : Pure Tryz.prog TB 77 [.o (.d (.l ((t.cols.map tRow).take ((k : Nat) : Int).toNat))), eT x] (eB (decide (x ∈ t.cols.take k))) := by
            rw [Int.toNat_natCast, ← List.map_take]
            exact l10In_ok _ _ (by simp; omega)
          (repeat (first | (refine popO rfl ?_; first | (refine gA rfl ?_; first | refine yLm rfl rfl ?_ | ((first | refine yQ (md := false) rfl ?_ ?_ | refine yL rfl rfl (by assumption) rfl rfl ?_ ?_ | refine yT rfl rfl (by assumption) rfl ?_ ?_); (first | exact True.intro | omega | (simp only [oZ] at *; omega))) | (refine yB rfl ?_; intro _ _hb) | refine yU (sl := true) rfl ?_ | refine yM rfl rfl (by assumption) rfl rfl rfl ?_ | refine yV rfl rfl rfl rfl (by assumption) rfl rfl rfl rfl ?_ ) | refine popN rfl ?_ | (refine yG rfl rfl ?_ ?_ <;> intro hb <;> subst hb)) | refine AWp.seq ?_ | refine reg (by kernel_rfl) ?_ | refine lexE ?_))
          (refine AWp.cond rfl (fun hb => ?_) (fun hb => ?_) <;> cases hb)
          · (repeat' (first | (first | (refine popO rfl ?_; first | (refine gA rfl ?_; first | refine yLm rfl rfl ?_ | ((first | refine yQ (md := false) rfl ?_ ?_ | refine yL rfl rfl (by assumption) rfl rfl ?_ ?_ | refine yT rfl rfl (by assumption) rfl ?_ ?_); (first | exact True.intro | omega | (simp only [oZ] at *; omega))) | (refine yB rfl ?_; intro _ _hb) | refine yU (sl := true) rfl ?_ | refine yM rfl rfl (by assumption) rfl rfl rfl ?_ | refine yV rfl rfl rfl rfl (by assumption) rfl rfl rfl rfl ?_ | (refine yC rfl rfl rfl (hww) ?_; intro _ _hb) | (refine yC rfl rfl rfl (hin) ?_; intro _ _hb) | refine gS (fun _ _ => q_takeL rfl rfl (by simp) (by first | omega | (simp only [oZ] at *; omega)) (by first | omega | (simp only [oZ] at *; omega))) ?_) | refine popN rfl ?_ | (refine yG rfl rfl ?_ ?_ <;> intro hb <;> subst hb)) | refine AWp.seq ?_ | refine reg (by kernel_rfl) ?_ | refine lexE ?_ | refine regD (flN []) mixed (by kernel_rfl) (by kernel_rfl) ?_) | (refine AWp.cond rfl (fun hb => ?_) (fun hb => ?_) <;> cases hb) | refine AWp.skip ?_ | refine AWp.exit ?_ | refine AWp.block ?_ | refine AWp.ret ⟨_, rfl, ?_⟩))
            all_goals first
              | (show eB false = eB _; rw [from1_bad (by omega) hlt (by rw [hra]; grind)]; rfl)
              | (have hst := from1_step ha (by rw [hra]; grind); refine ⟨⟨k + 1, by first | omega | (simp only [oZ] at *; omega), by first | omega | (simp only [oZ] at *; omega), hst⟩, by dsimp only; (first | omega | (simp only [oZ] at *; omega)), [], ?_⟩; simp [EnvSub, StoreSub, look_cons, nm, nmo, E.ren, C.ren, C.renL, O.ren, Store.ren, killc, kill0, killL, kill, fillC, spliceC, eC, Function.comp_def, argsFrom, zC, hΓ])
          · exfalso; first | omega | (simp only [oZ] at *; omega)
        · obtain rfl : k = t.cols.length := by omega
          rw [ha]
          (repeat (first | (refine popO rfl ?_; first | (refine gA rfl ?_; first | refine yLm rfl rfl ?_ | ((first | refine yQ (md := false) rfl ?_ ?_ | refine yL rfl rfl (by assumption) rfl rfl ?_ ?_ | refine yT rfl rfl (by assumption) rfl ?_ ?_); (first | exact True.intro | omega | (simp only [oZ] at *; omega))) | (refine yB rfl ?_; intro _ _hb) | refine yU (sl := true) rfl ?_ | refine yM rfl rfl (by assumption) rfl rfl rfl ?_ | refine yV rfl rfl rfl rfl (by assumption) rfl rfl rfl rfl ?_ ) | refine popN rfl ?_ | (refine yG rfl rfl ?_ ?_ <;> intro hb <;> subst hb)) | refine AWp.seq ?_ | refine reg (by kernel_rfl) ?_ | refine lexE ?_))
          (refine AWp.cond rfl (fun hb => ?_) (fun hb => ?_) <;> cases hb)
          · exfalso; first | omega | (simp only [oZ] at *; omega)
          · (repeat' (first | (first | (refine popO rfl ?_; first | (refine gA rfl ?_; first | refine yLm rfl rfl ?_ | ((first | refine yQ (md := false) rfl ?_ ?_ | refine yL rfl rfl (by assumption) rfl rfl ?_ ?_ | refine yT rfl rfl (by assumption) rfl ?_ ?_); (first | exact True.intro | omega | (simp only [oZ] at *; omega))) | (refine yB rfl ?_; intro _ _hb) | refine yU (sl := true) rfl ?_ | refine yM rfl rfl (by assumption) rfl rfl rfl ?_ | refine yV rfl rfl rfl rfl (by assumption) rfl rfl rfl rfl ?_ ) | refine popN rfl ?_ | (refine yG rfl rfl ?_ ?_ <;> intro hb <;> subst hb)) | refine AWp.seq ?_ | refine reg (by kernel_rfl) ?_ | refine lexE ?_ | refine regD (flN []) mixed (by kernel_rfl) (by kernel_rfl) ?_) | (refine AWp.cond rfl (fun hb => ?_) (fun hb => ?_) <;> cases hb) | refine AWp.skip ?_ | refine AWp.exit ?_ | refine AWp.block ?_ | refine AWp.ret ⟨_, rfl, ?_⟩))
            rfl
  · have hss : shapeS al t = false := by unfold shapeS; simp [h0]
    rw [hss]
    have h0' : ¬ (0 ≤ al ∧ (1 ≤ t.rows.length ∧ t.rows.length ≤ 12) ∧ (1 ≤ t.cols.length ∧ t.cols.length ≤ 20) ∧ t.rows[0]? = some [] ∧ t.cols[0]? = some []) := by
      intro h; apply h0; unfold shape0; simp [h]
    have hR' : (t.rows.map tRow)[(0 : Int).toNat]? = (t.rows[0]?).map tRow := by simp
    have hC' : (t.cols.map tRow)[(0 : Int).toNat]? = (t.cols[0]?).map tRow := by simp
    have hRn : t.rows[0]? = none → t.rows.length = 0 := fun h => by have := List.getElem?_eq_none_iff.1 h; omega
    have hCn : t.cols[0]? = none → t.cols.length = 0 := fun h => by have := List.getElem?_eq_none_iff.1 h; omega
    refine Spec.of Tryz.func91 rfl (by kernel_rfl) (Nat.le_of_ble_eq_true rfl) ?_; intro Γ hΓ
    cases hR : t.rows[0]? <;> cases hC : t.cols[0]? <;> rw [hR] at hR' h0' <;> rw [hC] at hC' h0' <;> (
      (repeat' (first | (first | (refine popO rfl ?_; first | (refine gA rfl ?_; first | refine yLm rfl rfl ?_ | ((first | refine yQ (md := false) rfl ?_ ?_ | refine yL rfl rfl (by assumption) rfl rfl ?_ ?_ | refine yT rfl rfl (by assumption) rfl ?_ ?_); (first | exact True.intro | omega | (simp only [oZ] at *; omega))) | (refine yB rfl ?_; intro _ _hb) | refine yU (sl := true) rfl ?_ | refine yM rfl rfl (by assumption) rfl rfl rfl ?_ | refine yV rfl rfl rfl rfl (by assumption) rfl rfl rfl rfl ?_ ) | refine popN rfl ?_ | (refine yG rfl rfl ?_ ?_ <;> intro hb <;> subst hb)) | refine AWp.seq ?_ | refine reg (by kernel_rfl) ?_ | refine lexE ?_ | refine regD (flN []) mixed (by kernel_rfl) (by kernel_rfl) ?_) | (refine AWp.cond rfl (fun hb => ?_) (fun hb => ?_) <;> cases hb) | refine AWp.skip ?_ | refine AWp.exit ?_ | refine AWp.block ?_ | refine AWp.ret ⟨_, rfl, ?_⟩))
      all_goals first
        | rfl
        | (exfalso; grind; done))
end Go.Am
