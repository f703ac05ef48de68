/-
  The first word by which a table is open, walked.
-/
import Derived.Test.YtnnalheaipnnaaaGreatDoorPart13
import Derived.Test.YtnnalheaipnnaaaGreatDoorPart12
set_option linter.constructorNameAsVariable false
set_option linter.unusedSimpArgs false
set_option linter.unusedVariables false
namespace Go.Am
open Go Go.Proofs
attribute [local irreducible] QOp AOp Lex LexO AWp Spec
variable {TB : List (Nat × Obj)}

theorem lb_of {l : Int} (h0 : 0 ≤ l) : UInt8.ofNat (97 + l).toNat = lb l := by
  unfold lb
  congr 1
  omega
theorem find_mem {L : W → Bool} {t : Tab} {s : W} : (findT (numsTo L t t.rows.length) s).isSome = true ↔ s ∈ rowsM L t := by
  rw [nums_all]
  by_cases h : s ∈ rowsM L t <;> simp [h]
theorem nexts_take {ls : List UInt8} {t : Tab} {k : Nat} {r : W} (h : t.rows[k]? = some r) : nextsB ls (t.rows.take (k + 1)) = nextsB ls (t.rows.take k) ++ ls.map fun l => r ++ [l] := by
  unfold nextsB
  rw [List.take_add_one, h]
  simp
theorem firstOpen_ok {c : C} {L : W → Bool} {ok : W → Prop} (hc : AskV Tryz.prog TB c L ok) (al : Int) (t : Tab) (ht : AskOk ok t) (hn : ∀ w ∈ t.rows, ∀ l ∈ lsB al, ∀ x ∈ t.cols, ok (w ++ [l] ++ x)) :
    Pure Tryz.prog TB 85 [eOra al c, eTab t] (eOpt (openW L (lsB al) t)) := by
  have hr := ren_pur c hc.pur
  have hrl := ht.rl
  have hla : (letters al).length ≤ 6 := lettersTo_len al 6
  refine Spec.of Tryz.func85 rfl (by kernel_rfl) (Nat.le_of_ble_eq_true rfl) ?_; intro Γ hΓ
  (repeat (first | (refine popO rfl ?_; first | (refine gA rfl ?_; first | refine yLm rfl rfl ?_ | ((first | refine yQ (md := true) rfl ?_ ?_ | refine yL rfl rfl (by assumption) rfl rfl ?_ ?_ | refine yT rfl rfl (by assumption) rfl ?_ ?_); (first | exact True.intro | omega | (simp only [oZ] at *; omega))) | (refine yB rfl ?_; intro _ _hb) | refine yU (sl := false) rfl ?_ | refine yM rfl rfl (by assumption) rfl rfl rfl ?_ | refine yV rfl rfl rfl rfl (by assumption) rfl rfl rfl rfl ?_ ) | refine popN rfl ?_ | (refine yG rfl rfl ?_ ?_ <;> intro hb <;> subst hb)) | refine AWp.seq ?_ | refine reg (by kernel_rfl) ?_ | refine lexE ?_ | refine regD (flN []) mixed (by kernel_rfl) (by kernel_rfl) ?_))
  (refine popO rfl ?_; refine popW ?_ rfl (by rfl); refine n_box rfl rfl ?_)
  (refine popO rfl ?_; refine popS (fun _ _ => q_boxI rfl rfl rfl) rfl ?_)
  (repeat (first | (refine popO rfl ?_; first | (refine gA rfl ?_; first | refine yLm rfl rfl ?_ | ((first | refine yQ (md := true) rfl ?_ ?_ | refine yL rfl rfl (by assumption) rfl rfl ?_ ?_ | refine yT rfl rfl (by assumption) rfl ?_ ?_); (first | exact True.intro | omega | (simp only [oZ] at *; omega))) | (refine yB rfl ?_; intro _ _hb) | refine yU (sl := false) rfl ?_ | refine yM rfl rfl (by assumption) rfl rfl rfl ?_ | refine yV rfl rfl rfl rfl (by assumption) rfl rfl rfl rfl ?_ ) | refine popN rfl ?_ | (refine yG rfl rfl ?_ ?_ <;> intro hb <;> subst hb)) | refine AWp.seq ?_ | refine reg (by kernel_rfl) ?_ | refine lexE ?_ | refine regD (flN []) mixed (by kernel_rfl) (by kernel_rfl) ?_))
  (refine popO rfl ?_; refine popW ?_ rfl (by rfl); refine n_call [] rfl rfl (rowNumbers_ok hc al t ht) ⟨rfl, by simp, by simp⟩ (by simp [renEs, E.ren, C.renL, C.ren, hr, eC]) trivial ?_; rintro x0 σ1 nx1 ⟨rfl, rfl, rfl⟩ _)
  (repeat (first | (refine popO rfl ?_; first | (refine gA rfl ?_; first | refine yLm rfl rfl ?_ | ((first | refine yQ (md := true) rfl ?_ ?_ | refine yL rfl rfl (by assumption) rfl rfl ?_ ?_ | refine yT rfl rfl (by assumption) rfl ?_ ?_); (first | exact True.intro | omega | (simp only [oZ] at *; omega))) | (refine yB rfl ?_; intro _ _hb) | refine yU (sl := false) rfl ?_ | refine yM rfl rfl (by assumption) rfl rfl rfl ?_ | refine yV rfl rfl rfl rfl (by assumption) rfl rfl rfl rfl ?_ ) | refine popN rfl ?_ | (refine yG rfl rfl ?_ ?_ <;> intro hb <;> subst hb)) | refine AWp.seq ?_ | refine reg (by kernel_rfl) ?_ | refine lexE ?_ | refine regD (flN []) mixed (by kernel_rfl) (by kernel_rfl) ?_))
  refine AWp.block ?_
  refine AWp.loopL (α := {k : Nat // k ≤ t.rows.length ∧ ∀ w ∈ nextsB (lsB al) (t.rows.take k), marks L t.cols w ∈ rowsM L t}) (fun ⟨k, hkl, hkd⟩ => [(2, .o (.ptr 0 2 0 0)), (3, .o (.ip (taRow t))), (6, .o (.mp 1)), (18, .o (.d (tList t.rows))), (19, eI .i64 t.rows.length), (20, eI .i64 k)]) (fun ⟨k, hkl, hkd⟩ => [(1, .mp (mapT (numsTo L t t.rows.length))), (0, .cells 68 2 [[.d (iD al), c]])]) 2 (fun ⟨k, hkl, hkd⟩ => t.rows.length - k) (⟨0, by omega, by simp [nextsB]⟩) [0, 1] (by first | (simp [hΓ]; done) | (rw [hΓ]; decide)) (by (repeat' (first | exact trivial | rfl | refine And.intro ?_ ?_)) <;> simp [EnvSub, StoreSub, look_cons, nm, E.ren, C.ren, C.renL, O.ren, killc, kill0, Function.comp_def, argsFrom, zC, hΓ, hr, eC, Store.ren, killL, nmo]) ?_; rintro ⟨k, hkl, hkd⟩; try dsimp only
  (repeat (first | (refine popO rfl ?_; first | (refine gA rfl ?_; first | refine yLm rfl rfl ?_ | ((first | refine yQ (md := true) rfl ?_ ?_ | refine yL rfl rfl (by assumption) rfl rfl ?_ ?_ | refine yT rfl rfl (by assumption) rfl ?_ ?_); (first | exact True.intro | omega | (simp only [oZ] at *; omega))) | (refine yB rfl ?_; intro _ _hb) | refine yU (sl := false) rfl ?_ | refine yM rfl rfl (by assumption) rfl rfl rfl ?_ | refine yV rfl rfl rfl rfl (by assumption) rfl rfl rfl rfl ?_ ) | refine popN rfl ?_ | (refine yG rfl rfl ?_ ?_ <;> intro hb <;> subst hb)) | refine AWp.seq ?_ | refine reg (by kernel_rfl) ?_ | refine lexE ?_ | refine regD (flN []) mixed (by kernel_rfl) (by kernel_rfl) ?_))
  (refine AWp.cond rfl (fun hb => ?_) (fun hb => ?_) <;> cases hb)
  · have hlt : k < t.rows.length := by first | omega | (simp only [oZ] at *; omega)
    obtain ⟨r, hx⟩ := get_some (l := t.rows) (k := k) hlt
    have hx' := get_map (g := tRow) hx
    have hxm := List.mem_of_getElem? hx
    have hxb := ht.rb r hxm
    refine AWp.skip ?_
    refine AWp.seq (AWp.block ?_)
    (repeat (first | (refine popO rfl ?_; first | (refine gA rfl ?_; first | refine yLm rfl rfl ?_ | ((first | refine yQ (md := true) rfl ?_ ?_ | refine yL rfl rfl (by assumption) rfl rfl ?_ ?_ | refine yT rfl rfl (by assumption) rfl ?_ ?_); (first | exact True.intro | omega | (simp only [oZ] at *; omega))) | (refine yB rfl ?_; intro _ _hb) | refine yU (sl := false) rfl ?_ | refine yM rfl rfl (by assumption) rfl rfl rfl ?_ | refine yV rfl rfl rfl rfl (by assumption) rfl rfl rfl rfl ?_ | refine yP rfl rfl rfl (lettersOf_ok al) rfl ?_ ) | refine popN rfl ?_ | (refine yG rfl rfl ?_ ?_ <;> intro hb <;> subst hb)) | refine AWp.seq ?_ | refine reg (by kernel_rfl) ?_ | refine lexE ?_ | refine regD (flN []) mixed (by kernel_rfl) (by kernel_rfl) ?_))
    refine AWp.block ?_
    refine AWp.loopL (α := {j : Nat // j ≤ (letters al).length ∧ ∀ x ∈ (lsB al).take j, marks L t.cols (r ++ [x]) ∈ rowsM L t}) (fun ⟨j, hjl, hjd⟩ => [(2, .o (.ptr 0 2 0 0)), (3, .o (.ip (taRow t))), (6, .o (.mp 1)), (18, .o (.d (tList t.rows))), (19, eI .i64 t.rows.length), (20, eI .i64 k), (8, eT r), (26, eInts (letters al)), (27, eI .i64 (letters al).length), (28, eI .i64 j)]) (fun ⟨j, hjl, hjd⟩ => [(1, .mp (mapT (numsTo L t t.rows.length))), (0, .cells 68 2 [[.d (iD al), c]])]) 2 (fun ⟨j, hjl, hjd⟩ => (letters al).length - j) (⟨0, by omega, by simp⟩) [0, 1] (by first | (simp [hΓ]; done) | (rw [hΓ]; decide)) (by (repeat' (first | exact trivial | rfl | refine And.intro ?_ ?_)) <;> simp [EnvSub, StoreSub, look_cons, nm, E.ren, C.ren, C.renL, O.ren, killc, kill0, Function.comp_def, argsFrom, zC, hΓ, hr]) ?_; rintro ⟨j, hjl, hjd⟩; try dsimp only
    (repeat (first | (refine popO rfl ?_; first | (refine gA rfl ?_; first | refine yLm rfl rfl ?_ | ((first | refine yQ (md := true) rfl ?_ ?_ | refine yL rfl rfl (by assumption) rfl rfl ?_ ?_ | refine yT rfl rfl (by assumption) rfl ?_ ?_); (first | exact True.intro | omega | (simp only [oZ] at *; omega))) | (refine yB rfl ?_; intro _ _hb) | refine yU (sl := false) rfl ?_ | refine yM rfl rfl (by assumption) rfl rfl rfl ?_ | refine yV rfl rfl rfl rfl (by assumption) rfl rfl rfl rfl ?_ ) | refine popN rfl ?_ | (refine yG rfl rfl ?_ ?_ <;> intro hb <;> subst hb)) | refine AWp.seq ?_ | refine reg (by kernel_rfl) ?_ | refine lexE ?_ | refine regD (flN []) mixed (by kernel_rfl) (by kernel_rfl) ?_))
    (refine AWp.cond rfl (fun hb => ?_) (fun hb => ?_) <;> cases hb)
    · have hjlt : j < (letters al).length := by first | omega | (simp only [oZ] at *; omega)
      obtain ⟨l, hl⟩ := get_some (l := letters al) (k := j) hjlt
      have hl' := get_map (g := iRow) hl
      have hlb := lettersTo_in (List.mem_of_getElem? hl)
      have hll : (lsB al)[j]? = some (lb l) := by simp [lsB, hl]
      have hlm := List.mem_of_getElem? hll
      have hm := marks_ok hc al t (r ++ [lb l]) (by have := ht.cl; omega) (fun x hx => hn r hxm _ hlm x hx) (fun y hy => by have := ht.cb y hy; simp; omega)
      refine AWp.skip ?_
      refine AWp.seq (AWp.block ?_)
      (repeat (first | (refine popO rfl ?_; first | (refine gA rfl ?_; first | refine yLm rfl rfl ?_ | ((first | refine yQ (md := true) rfl ?_ ?_ | refine yL rfl rfl (by assumption) rfl rfl ?_ ?_ | refine yT rfl rfl (by assumption) rfl ?_ ?_); (first | exact True.intro | omega | (simp only [oZ] at *; omega))) | (refine yB rfl ?_; intro _ _hb) | refine yU (sl := false) rfl ?_ | refine yM rfl rfl (by assumption) rfl rfl rfl ?_ | refine yV rfl rfl rfl rfl (by assumption) rfl rfl rfl rfl ?_ | refine yP rfl rfl rfl (letterByte_ok l hlb.1 (by omega)) rfl ?_ | refine gS (fun _ _ => q_rune rfl (by omega) (by omega)) ?_) | refine popN rfl ?_ | (refine yG rfl rfl ?_ ?_ <;> intro hb <;> subst hb)) | refine AWp.seq ?_ | refine reg (by kernel_rfl) ?_ | refine lexE ?_ | refine regD (flN []) mixed (by kernel_rfl) (by kernel_rfl) ?_))
      rw [lb_of hlb.1]
      (repeat (first | (refine popO rfl ?_; first | (refine gA rfl ?_; first | refine yLm rfl rfl ?_ | ((first | refine yQ (md := true) rfl ?_ ?_ | refine yL rfl rfl (by assumption) rfl rfl ?_ ?_ | refine yT rfl rfl (by assumption) rfl ?_ ?_); (first | exact True.intro | omega | (simp only [oZ] at *; omega))) | (refine yB rfl ?_; intro _ _hb) | refine yU (sl := false) rfl ?_ | refine yM rfl rfl (by assumption) rfl rfl rfl ?_ | refine yV rfl rfl rfl rfl (by assumption) rfl rfl rfl rfl ?_ | refine gS (fun _ _ => q_call rfl rfl (by simp [E.pur, C.purL, C.pur, hc.pur]) hm rfl) ?_ | refine gQ (q_look rfl rfl rfl) (by rfl) ?_) | refine popN rfl ?_ | (refine yG rfl rfl ?_ ?_ <;> intro hb <;> subst hb)) | refine AWp.seq ?_ | refine reg (by kernel_rfl) ?_ | refine lexE ?_ | refine regD (flN []) mixed (by kernel_rfl) (by kernel_rfl) ?_))
      (refine AWp.cond rfl (fun hb => ?_) (fun hb => ?_) <;> cases hb)
      · have hno : marks L t.cols (r ++ [lb l]) ∉ rowsM L t := fun h => by
          rw [find_mem.2 h] at _hb
          cases _hb
        (repeat (first | (refine popO rfl ?_; first | (refine gA rfl ?_; first | refine yLm rfl rfl ?_ | ((first | refine yQ (md := true) rfl ?_ ?_ | refine yL rfl rfl (by assumption) rfl rfl ?_ ?_ | refine yT rfl rfl (by assumption) rfl ?_ ?_); (first | exact True.intro | omega | (simp only [oZ] at *; omega))) | (refine yB rfl ?_; intro _ _hb) | refine yU (sl := false) rfl ?_ | refine yM rfl rfl (by assumption) rfl rfl rfl ?_ | refine yV rfl rfl rfl rfl (by assumption) rfl rfl rfl rfl ?_ ) | refine popN rfl ?_ | (refine yG rfl rfl ?_ ?_ <;> intro hb <;> subst hb)) | refine AWp.seq ?_ | refine reg (by kernel_rfl) ?_ | refine lexE ?_ | refine regD (flN []) mixed (by kernel_rfl) (by kernel_rfl) ?_))
        refine AWp.ret ⟨_, rfl, ?_⟩
        rw [open_at hx hll hkd hjd hno]
        rfl
      · have hyes : marks L t.cols (r ++ [lb l]) ∈ rowsM L t := find_mem.1 (by simpa using _hb)
        have hjd2 : ∀ x ∈ (lsB al).take (j + 1), marks L t.cols (r ++ [x]) ∈ rowsM L t := fun x hx => by
          rw [List.take_add_one, hll] at hx
          rcases List.mem_append.1 hx with hx | hx
          · exact hjd x hx
          · simp at hx; subst hx; exact hyes
        refine AWp.skip ?_
        (repeat (first | (refine popO rfl ?_; first | (refine gA rfl ?_; first | refine yLm rfl rfl ?_ | ((first | refine yQ (md := true) rfl ?_ ?_ | refine yL rfl rfl (by assumption) rfl rfl ?_ ?_ | refine yT rfl rfl (by assumption) rfl ?_ ?_); (first | exact True.intro | omega | (simp only [oZ] at *; omega))) | (refine yB rfl ?_; intro _ _hb) | refine yU (sl := false) rfl ?_ | refine yM rfl rfl (by assumption) rfl rfl rfl ?_ | refine yV rfl rfl rfl rfl (by assumption) rfl rfl rfl rfl ?_ ) | refine popN rfl ?_ | (refine yG rfl rfl ?_ ?_ <;> intro hb <;> subst hb)) | refine AWp.seq ?_ | refine reg (by kernel_rfl) ?_ | refine lexE ?_ | refine regD (flN []) mixed (by kernel_rfl) (by kernel_rfl) ?_))
        refine ⟨⟨j + 1, by first | omega | (simp only [oZ] at *; omega), hjd2⟩, by dsimp only; (first | omega | (simp only [oZ] at *; omega)), [0, 1], ?_⟩
        simp [EnvSub, StoreSub, look_cons, nm, E.ren, C.ren, C.renL, O.ren, killc, kill0, Function.comp_def, argsFrom, zC, hΓ, hr]
    · obtain rfl : j = (letters al).length := by first | omega | (simp only [oZ] at *; omega)
      have hkd2 : ∀ w ∈ nextsB (lsB al) (t.rows.take (k + 1)), marks L t.cols w ∈ rowsM L t := fun w hw => by
        rw [nexts_take hx] at hw
        rcases List.mem_append.1 hw with hw | hw
        · exact hkd w hw
        · obtain ⟨x, hx2, rfl⟩ := List.mem_map.1 hw
          exact hjd x (by rw [List.take_of_length_le (by simp [lsB])]; exact hx2)
      refine AWp.exit ?_
      (repeat (first | (refine popO rfl ?_; first | (refine gA rfl ?_; first | refine yLm rfl rfl ?_ | ((first | refine yQ (md := true) rfl ?_ ?_ | refine yL rfl rfl (by assumption) rfl rfl ?_ ?_ | refine yT rfl rfl (by assumption) rfl ?_ ?_); (first | exact True.intro | omega | (simp only [oZ] at *; omega))) | (refine yB rfl ?_; intro _ _hb) | refine yU (sl := false) rfl ?_ | refine yM rfl rfl (by assumption) rfl rfl rfl ?_ | refine yV rfl rfl rfl rfl (by assumption) rfl rfl rfl rfl ?_ ) | refine popN rfl ?_ | (refine yG rfl rfl ?_ ?_ <;> intro hb <;> subst hb)) | refine AWp.seq ?_ | refine reg (by kernel_rfl) ?_ | refine lexE ?_ | refine regD (flN []) mixed (by kernel_rfl) (by kernel_rfl) ?_))
      refine ⟨⟨k + 1, by first | omega | (simp only [oZ] at *; omega), hkd2⟩, by dsimp only; (first | omega | (simp only [oZ] at *; omega)), [0, 1], ?_⟩
      simp [EnvSub, StoreSub, look_cons, nm, E.ren, C.ren, C.renL, O.ren, killc, kill0, Function.comp_def, argsFrom, zC, hΓ, hr]
  · obtain rfl : k = t.rows.length := by first | omega | (simp only [oZ] at *; omega)
    have hno : openW L (lsB al) t = none := List.find?_eq_none.2 fun w hw => by
      have := hkd w (by rw [List.take_length]; exact hw)
      simpa using this
    refine AWp.exit ?_
    (repeat (first | (refine popO rfl ?_; first | (refine gA rfl ?_; first | refine yLm rfl rfl ?_ | ((first | refine yQ (md := true) rfl ?_ ?_ | refine yL rfl rfl (by assumption) rfl rfl ?_ ?_ | refine yT rfl rfl (by assumption) rfl ?_ ?_); (first | exact True.intro | omega | (simp only [oZ] at *; omega))) | (refine yB rfl ?_; intro _ _hb) | refine yU (sl := false) rfl ?_ | refine yM rfl rfl (by assumption) rfl rfl rfl ?_ | refine yV rfl rfl rfl rfl (by assumption) rfl rfl rfl rfl ?_ ) | refine popN rfl ?_ | (refine yG rfl rfl ?_ ?_ <;> intro hb <;> subst hb)) | refine AWp.seq ?_ | refine reg (by kernel_rfl) ?_ | refine lexE ?_ | refine regD (flN []) mixed (by kernel_rfl) (by kernel_rfl) ?_))
    refine AWp.ret ⟨_, rfl, ?_⟩
    rw [hno]
    rfl
end Go.Am
/-
  Lists of words: copies, whether a word is in one.
-/
namespace Go.Am
open Go Go.Proofs
attribute [local irreducible] QOp AOp Lex LexO AWp Spec
variable {TB : List (Nat × Obj)}

theorem clone_ok (l : List W) (h : l.length ≤ 1048576) : Spec Tryz.prog TB 84 [] 0 [eTexts l] (fun x σ nx => x = .o (.arr 0 1 0 l.length) ∧ nx = 1 ∧ σ = [(0, .cells 9 1 (l.map tRowC))]) := by
  refine Spec.of Tryz.func84 rfl (by kernel_rfl) (Nat.le_of_ble_eq_true rfl) ?_; intro Γ hΓ
  (repeat (first | (refine popO rfl ?_; first | (refine gA rfl ?_; first | refine yLm rfl rfl ?_ | ((first | refine yQ (md := true) rfl ?_ ?_ | refine yL rfl rfl (by assumption) rfl rfl ?_ ?_ | refine yT rfl rfl (by assumption) rfl ?_ ?_); (first | exact True.intro | omega | (simp only [oZ] at *; omega))) | (refine yB rfl ?_; intro _ _hb) | refine yU (sl := false) rfl ?_ | refine yM rfl rfl (by assumption) rfl rfl rfl ?_ | refine yV rfl rfl rfl rfl (by assumption) rfl rfl rfl rfl ?_ ) | refine popN rfl ?_ | (refine yG rfl rfl ?_ ?_ <;> intro hb <;> subst hb)) | refine AWp.seq ?_ | refine reg (by kernel_rfl) ?_ | refine lexE ?_ | refine regD (flN []) mixed (by kernel_rfl) (by kernel_rfl) ?_))
  (refine popO rfl ?_; refine popS (fun _ _ => q_assign rfl) rfl ?_)
  (repeat (first | (refine popO rfl ?_; first | (refine gA rfl ?_; first | refine yLm rfl rfl ?_ | ((first | refine yQ (md := true) rfl ?_ ?_ | refine yL rfl rfl (by assumption) rfl rfl ?_ ?_ | refine yT rfl rfl (by assumption) rfl ?_ ?_); (first | exact True.intro | omega | (simp only [oZ] at *; omega))) | (refine yB rfl ?_; intro _ _hb) | refine yU (sl := false) rfl ?_ | refine yM rfl rfl (by assumption) rfl rfl rfl ?_ | refine yV rfl rfl rfl rfl (by assumption) rfl rfl rfl rfl ?_ ) | refine popN rfl ?_ | (refine yG rfl rfl ?_ ?_ <;> intro hb <;> subst hb)) | refine AWp.seq ?_ | refine reg (by kernel_rfl) ?_ | refine lexE ?_ | refine regD (flN []) mixed (by kernel_rfl) (by kernel_rfl) ?_))
  (refine popO rfl ?_; refine popW ?_ rfl (by rfl); refine n_eqNilL rfl ?_; intro b0 hb0)
  (repeat (first | (refine popO rfl ?_; first | (refine gA rfl ?_; first | refine yLm rfl rfl ?_ | ((first | refine yQ (md := true) rfl ?_ ?_ | refine yL rfl rfl (by assumption) rfl rfl ?_ ?_ | refine yT rfl rfl (by assumption) rfl ?_ ?_); (first | exact True.intro | omega | (simp only [oZ] at *; omega))) | (refine yB rfl ?_; intro _ _hb) | refine yU (sl := false) rfl ?_ | refine yM rfl rfl (by assumption) rfl rfl rfl ?_ | refine yV rfl rfl rfl rfl (by assumption) rfl rfl rfl rfl ?_ ) | refine popN rfl ?_ | (refine yG rfl rfl ?_ ?_ <;> intro hb <;> subst hb)) | refine AWp.seq ?_ | refine reg (by kernel_rfl) ?_ | refine lexE ?_ | refine regD (flN []) mixed (by kernel_rfl) (by kernel_rfl) ?_))
  (refine AWp.cond rfl (fun hb => ?_) (fun hb => ?_) <;> cases hb)
  · obtain rfl : l = [] := by simpa using hb0 rfl
    (repeat (first | (refine popO rfl ?_; first | (refine gA rfl ?_; first | refine yLm rfl rfl ?_ | ((first | refine yQ (md := true) rfl ?_ ?_ | refine yL rfl rfl (by assumption) rfl rfl ?_ ?_ | refine yT rfl rfl (by assumption) rfl ?_ ?_); (first | exact True.intro | omega | (simp only [oZ] at *; omega))) | (refine yB rfl ?_; intro _ _hb) | refine yU (sl := false) rfl ?_ | refine yM rfl rfl (by assumption) rfl rfl rfl ?_ | refine yV rfl rfl rfl rfl (by assumption) rfl rfl rfl rfl ?_ ) | refine popN rfl ?_ | (refine yG rfl rfl ?_ ?_ <;> intro hb <;> subst hb)) | refine AWp.seq ?_ | refine reg (by kernel_rfl) ?_ | refine lexE ?_ | refine regD (flN []) mixed (by kernel_rfl) (by kernel_rfl) ?_))
    (refine popO rfl ?_; refine popW ?_ rfl (by rfl); refine n_nil 1 9 ?_)
    (repeat (first | (refine popO rfl ?_; first | (refine gA rfl ?_; first | refine yLm rfl rfl ?_ | ((first | refine yQ (md := true) rfl ?_ ?_ | refine yL rfl rfl (by assumption) rfl rfl ?_ ?_ | refine yT rfl rfl (by assumption) rfl ?_ ?_); (first | exact True.intro | omega | (simp only [oZ] at *; omega))) | (refine yB rfl ?_; intro _ _hb) | refine yU (sl := false) rfl ?_ | refine yM rfl rfl (by assumption) rfl rfl rfl ?_ | refine yV rfl rfl rfl rfl (by assumption) rfl rfl rfl rfl ?_ ) | refine popN rfl ?_ | (refine yG rfl rfl ?_ ?_ <;> intro hb <;> subst hb)) | refine AWp.seq ?_ | refine reg (by kernel_rfl) ?_ | refine lexE ?_ | refine regD (flN []) mixed (by kernel_rfl) (by kernel_rfl) ?_))
    refine AWp.ret ⟨_, rfl, rfl, rfl, rfl⟩
  · refine AWp.skip ?_
    (repeat (first | (refine popO rfl ?_; first | (refine gA rfl ?_; first | refine yLm rfl rfl ?_ | ((first | refine yQ (md := true) rfl ?_ ?_ | refine yL rfl rfl (by assumption) rfl rfl ?_ ?_ | refine yT rfl rfl (by assumption) rfl ?_ ?_); (first | exact True.intro | omega | (simp only [oZ] at *; omega))) | (refine yB rfl ?_; intro _ _hb) | refine yU (sl := false) rfl ?_ | refine yM rfl rfl (by assumption) rfl rfl rfl ?_ | refine yV rfl rfl rfl rfl (by assumption) rfl rfl rfl rfl ?_ ) | refine popN rfl ?_ | (refine yG rfl rfl ?_ ?_ <;> intro hb <;> subst hb)) | refine AWp.seq ?_ | refine reg (by kernel_rfl) ?_ | refine lexE ?_ | refine regD (flN []) mixed (by kernel_rfl) (by kernel_rfl) ?_))
    (refine popO rfl ?_; refine popW ?_ rfl (by rfl); refine n_sliceB rfl rfl rfl rfl (by simp) (by rfl) (by rfl) (by rfl) (by rfl) ?_)
    (repeat (first | (refine popO rfl ?_; first | (refine gA rfl ?_; first | refine yLm rfl rfl ?_ | ((first | refine yQ (md := true) rfl ?_ ?_ | refine yL rfl rfl (by assumption) rfl rfl ?_ ?_ | refine yT rfl rfl (by assumption) rfl ?_ ?_); (first | exact True.intro | omega | (simp only [oZ] at *; omega))) | (refine yB rfl ?_; intro _ _hb) | refine yU (sl := false) rfl ?_ | refine yM rfl rfl (by assumption) rfl rfl rfl ?_ | refine yV rfl rfl rfl rfl (by assumption) rfl rfl rfl rfl ?_ ) | refine popN rfl ?_ | (refine yG rfl rfl ?_ ?_ <;> intro hb <;> subst hb)) | refine AWp.seq ?_ | refine reg (by kernel_rfl) ?_ | refine lexE ?_ | refine regD (flN []) mixed (by kernel_rfl) (by kernel_rfl) ?_))
    (refine popO rfl ?_; refine popW ?_ rfl (by rfl); refine n_append rfl rfl rfl (by first | (simp; done) | (simp; (first | omega | (simp only [oZ] at *; omega)))) rfl (by intro r hr; simp at hr; obtain ⟨a, _, rfl⟩ := hr; rfl) (by rfl) (Nat.le_of_ble_eq_true rfl) (by simp; omega) ?_)
    (repeat (first | (refine popO rfl ?_; first | (refine gA rfl ?_; first | refine yLm rfl rfl ?_ | ((first | refine yQ (md := true) rfl ?_ ?_ | refine yL rfl rfl (by assumption) rfl rfl ?_ ?_ | refine yT rfl rfl (by assumption) rfl ?_ ?_); (first | exact True.intro | omega | (simp only [oZ] at *; omega))) | (refine yB rfl ?_; intro _ _hb) | refine yU (sl := false) rfl ?_ | refine yM rfl rfl (by assumption) rfl rfl rfl ?_ | refine yV rfl rfl rfl rfl (by assumption) rfl rfl rfl rfl ?_ ) | refine popN rfl ?_ | (refine yG rfl rfl ?_ ?_ <;> intro hb <;> subst hb)) | refine AWp.seq ?_ | refine reg (by kernel_rfl) ?_ | refine lexE ?_ | refine regD (flN []) mixed (by kernel_rfl) (by kernel_rfl) ?_))
    refine AWp.names [1] [(2, .o (.arr 0 1 0 l.length))] [(0, .cells 9 1 (l.map tRowC))] (by intro i hi; rw [hΓ] at hi; omega) (by simp) (by simp [EnvSub, StoreSub, look_cons, nm, E.ren, C.ren, C.renL, O.ren, killc, kill0, Function.comp_def, argsFrom, zC, hΓ]) (by simp [EnvSub, StoreSub, look_cons, nm, E.ren, C.ren, C.renL, O.ren, killc, kill0, Function.comp_def, argsFrom, zC, hΓ]) ?_
    refine AWp.ret ⟨_, rfl, rfl, rfl, rfl⟩
theorem index_ok (l : List W) (s : W) : Pure Tryz.prog TB 106 [eTexts l, eT s] (eI .i64 (if s ∈ l then (l.idxOf s : Int) else -1)) := by
  refine Spec.of Tryz.func106 rfl (by kernel_rfl) (Nat.le_of_ble_eq_true rfl) ?_; intro Γ hΓ
  refine AWp.bound 0 rfl fun hB0 => ?_
  have hB := hB0 (l.map tRow) .refl
  (repeat (first | (refine popO rfl ?_; first | (refine gA rfl ?_; first | refine yLm rfl rfl ?_ | ((first | refine yQ (md := true) rfl ?_ ?_ | refine yL rfl rfl (by assumption) rfl rfl ?_ ?_ | refine yT rfl rfl (by assumption) rfl ?_ ?_); (first | exact True.intro | omega | (simp only [oZ] at *; omega))) | (refine yB rfl ?_; intro _ _hb) | refine yU (sl := false) rfl ?_ | refine yM rfl rfl (by assumption) rfl rfl rfl ?_ | refine yV rfl rfl rfl rfl (by assumption) rfl rfl rfl rfl ?_ ) | refine popN rfl ?_ | (refine yG rfl rfl ?_ ?_ <;> intro hb <;> subst hb)) | refine AWp.seq ?_ | refine reg (by kernel_rfl) ?_ | refine lexE ?_ | refine regD (flN []) mixed (by kernel_rfl) (by kernel_rfl) ?_))
  refine AWp.block ?_
  refine AWp.loopL (α := {k : Nat // k ≤ l.length ∧ s ∉ l.take k}) (fun ⟨k, hk, hs⟩ => [(0, eTexts l), (1, eT s), (7, eI .i64 l.length), (8, eI .i64 k)]) (fun ⟨k, hk, hs⟩ => []) 0 (fun ⟨k, hk, hs⟩ => l.length - k) (⟨0, by omega, by simp⟩) [] (by first | (simp [hΓ]; done) | (rw [hΓ]; decide)) (by (repeat' (first | exact trivial | rfl | refine And.intro ?_ ?_)) <;> simp [EnvSub, StoreSub, look_cons, nm, E.ren, C.ren, C.renL, O.ren, killc, kill0, Function.comp_def, argsFrom, zC, hΓ]) ?_; rintro ⟨k, hk, hs⟩; try dsimp only
  (repeat (first | (refine popO rfl ?_; first | (refine gA rfl ?_; first | refine yLm rfl rfl ?_ | ((first | refine yQ (md := true) rfl ?_ ?_ | refine yL rfl rfl (by assumption) rfl rfl ?_ ?_ | refine yT rfl rfl (by assumption) rfl ?_ ?_); (first | exact True.intro | omega | (simp only [oZ] at *; omega))) | (refine yB rfl ?_; intro _ _hb) | refine yU (sl := false) rfl ?_ | refine yM rfl rfl (by assumption) rfl rfl rfl ?_ | refine yV rfl rfl rfl rfl (by assumption) rfl rfl rfl rfl ?_ ) | refine popN rfl ?_ | (refine yG rfl rfl ?_ ?_ <;> intro hb <;> subst hb)) | refine AWp.seq ?_ | refine reg (by kernel_rfl) ?_ | refine lexE ?_ | refine regD (flN []) mixed (by kernel_rfl) (by kernel_rfl) ?_))
  (refine AWp.cond rfl (fun hb => ?_) (fun hb => ?_) <;> cases hb)
  · have hlt : k < l.length := by first | omega | (simp only [oZ] at *; omega)
    obtain ⟨x, hx⟩ := get_some (l := l) (k := k) hlt
    have hx' := get_map (g := tRow) hx
    refine AWp.skip ?_
    refine AWp.seq (AWp.block ?_)
    (repeat (first | (refine popO rfl ?_; first | (refine gA rfl ?_; first | refine yLm rfl rfl ?_ | ((first | refine yQ (md := true) rfl ?_ ?_ | refine yL rfl rfl (by assumption) rfl rfl ?_ ?_ | refine yT rfl rfl (by assumption) rfl ?_ ?_); (first | exact True.intro | omega | (simp only [oZ] at *; omega))) | (refine yB rfl ?_; intro _ _hb) | refine yU (sl := false) rfl ?_ | refine yM rfl rfl (by assumption) rfl rfl rfl ?_ | refine yV rfl rfl rfl rfl (by assumption) rfl rfl rfl rfl ?_ ) | refine popN rfl ?_ | (refine yG rfl rfl ?_ ?_ <;> intro hb <;> subst hb)) | refine AWp.seq ?_ | refine reg (by kernel_rfl) ?_ | refine lexE ?_ | refine regD (flN []) mixed (by kernel_rfl) (by kernel_rfl) ?_))
    (refine AWp.cond rfl (fun hb => ?_) (fun hb => ?_) <;> cases hb)
    · have he : s = x := by first | omega | (simp only [oZ] at *; omega)
      subst he
      (repeat (first | (refine popO rfl ?_; first | (refine gA rfl ?_; first | refine yLm rfl rfl ?_ | ((first | refine yQ (md := true) rfl ?_ ?_ | refine yL rfl rfl (by assumption) rfl rfl ?_ ?_ | refine yT rfl rfl (by assumption) rfl ?_ ?_); (first | exact True.intro | omega | (simp only [oZ] at *; omega))) | (refine yB rfl ?_; intro _ _hb) | refine yU (sl := false) rfl ?_ | refine yM rfl rfl (by assumption) rfl rfl rfl ?_ | refine yV rfl rfl rfl rfl (by assumption) rfl rfl rfl rfl ?_ ) | refine popN rfl ?_ | (refine yG rfl rfl ?_ ?_ <;> intro hb <;> subst hb)) | refine AWp.seq ?_ | refine reg (by kernel_rfl) ?_ | refine lexE ?_ | refine regD (flN []) mixed (by kernel_rfl) (by kernel_rfl) ?_))
      refine AWp.ret ⟨_, rfl, ?_⟩
      have hm : s ∈ l := List.mem_of_getElem? hx
      have hi : l.idxOf s = k := by
        have e : l = l.take k ++ s :: l.drop (k + 1) := by rw [← drop_some hx, List.take_append_drop]
        rw [e, List.idxOf_append, if_neg hs, List.idxOf_cons_self]
        simp; omega
      rw [if_pos hm, hi]
    · have he : ¬ s = x := by simpa using _hb
      have hs2 : s ∉ l.take (k + 1) := by
        rw [List.take_add_one, hx]
        simp [hs, he]
      refine AWp.skip ?_
      (repeat (first | (refine popO rfl ?_; first | (refine gA rfl ?_; first | refine yLm rfl rfl ?_ | ((first | refine yQ (md := true) rfl ?_ ?_ | refine yL rfl rfl (by assumption) rfl rfl ?_ ?_ | refine yT rfl rfl (by assumption) rfl ?_ ?_); (first | exact True.intro | omega | (simp only [oZ] at *; omega))) | (refine yB rfl ?_; intro _ _hb) | refine yU (sl := false) rfl ?_ | refine yM rfl rfl (by assumption) rfl rfl rfl ?_ | refine yV rfl rfl rfl rfl (by assumption) rfl rfl rfl rfl ?_ ) | refine popN rfl ?_ | (refine yG rfl rfl ?_ ?_ <;> intro hb <;> subst hb)) | refine AWp.seq ?_ | refine reg (by kernel_rfl) ?_ | refine lexE ?_ | refine regD (flN []) mixed (by kernel_rfl) (by kernel_rfl) ?_))
      refine ⟨⟨k + 1, by first | omega | (simp only [oZ] at *; omega), hs2⟩, by dsimp only; (first | omega | (simp only [oZ] at *; omega)), [], ?_⟩
      simp [EnvSub, StoreSub, look_cons, nm, E.ren, C.ren, C.renL, O.ren, killc, kill0, Function.comp_def, argsFrom, zC, hΓ]
  · obtain rfl : k = l.length := by first | omega | (simp only [oZ] at *; omega)
    rw [List.take_length] at hs
    refine AWp.exit ?_
    (repeat (first | (refine popO rfl ?_; first | (refine gA rfl ?_; first | refine yLm rfl rfl ?_ | ((first | refine yQ (md := true) rfl ?_ ?_ | refine yL rfl rfl (by assumption) rfl rfl ?_ ?_ | refine yT rfl rfl (by assumption) rfl ?_ ?_); (first | exact True.intro | omega | (simp only [oZ] at *; omega))) | (refine yB rfl ?_; intro _ _hb) | refine yU (sl := false) rfl ?_ | refine yM rfl rfl (by assumption) rfl rfl rfl ?_ | refine yV rfl rfl rfl rfl (by assumption) rfl rfl rfl rfl ?_ ) | refine popN rfl ?_ | (refine yG rfl rfl ?_ ?_ <;> intro hb <;> subst hb)) | refine AWp.seq ?_ | refine reg (by kernel_rfl) ?_ | refine lexE ?_ | refine regD (flN []) mixed (by kernel_rfl) (by kernel_rfl) ?_))
    refine AWp.ret ⟨_, rfl, ?_⟩
    rw [if_neg hs]
theorem contains_ok (l : List W) (s : W) : Pure Tryz.prog TB 90 [eTexts l, eT s] (eB (decide (s ∈ l))) := by
  refine Spec.of Tryz.func90 rfl (by kernel_rfl) (Nat.le_of_ble_eq_true rfl) ?_; intro Γ hΓ
  (repeat' (first | (first | (refine popO rfl ?_; first | (refine gA rfl ?_; first | refine yLm rfl rfl ?_ | ((first | refine yQ (md := false) rfl ?_ ?_ | refine yL rfl rfl (by assumption) rfl rfl ?_ ?_ | refine yT rfl rfl (by assumption) rfl ?_ ?_); (first | exact True.intro | omega | (simp only [oZ] at *; omega))) | (refine yB rfl ?_; intro _ _hb) | refine yU (sl := true) rfl ?_ | refine yM rfl rfl (by assumption) rfl rfl rfl ?_ | refine yV rfl rfl rfl rfl (by assumption) rfl rfl rfl rfl ?_ | refine yP rfl rfl rfl (index_ok l s) rfl ?_ ) | refine popN rfl ?_ | (refine yG rfl rfl ?_ ?_ <;> intro hb <;> subst hb)) | refine AWp.seq ?_ | refine reg (by kernel_rfl) ?_ | refine lexE ?_ | refine regD (flN []) mixed (by kernel_rfl) (by kernel_rfl) ?_) | (refine AWp.cond rfl (fun hb => ?_) (fun hb => ?_) <;> cases hb) | refine AWp.skip ?_ | refine AWp.exit ?_ | refine AWp.block ?_ | refine AWp.ret ⟨_, rfl, ?_⟩))
  all_goals (show E.o _ = E.o _; congr; subst _hb; by_cases h : s ∈ l <;> simp [h])
end Go.Am
/-
  What the call made becomes data that nobody writes any more, inside the boxes that hold it too.
-/
namespace Go.Am
open Go
set_option linter.unusedVariables false
set_option linter.unusedSimpArgs false

inductive FL (σ : Store) (ids : List Nat) : List C → List C → Prop
  | nil : FL σ ids [] []
  | cons {c c' : C} {cs cs' : List C} : FC σ ids c c' → FL σ ids cs cs' → FL σ ids (c :: cs) (c' :: cs')
theorem FL.len {σ : Store} {ids : List Nat} {l l' : List C} (h : FL σ ids l l') : l'.length = l.length := by
  induction h with
  | nil => rfl
  | cons _ _ ih => simp [ih]
theorem FL.get {σ : Store} {ids : List Nat} {l l' : List C} (h : FL σ ids l l') : ∀ (j : Nat) c', l'[j]? = some c' → ∃ c, l[j]? = some c ∧ FC σ ids c c' := by
  induction h with
  | nil => intro j c' h; simp at h
  | @cons c0 c0' cs cs' h1 _ ih =>
    intro j c' hj
    cases j with
    | zero => simp at hj; subst hj; exact ⟨c0, rfl, h1⟩
    | succ j => exact ih j c' (by simpa using hj)
/-- A store of boxes of one row each. -/
def StFrz (σ : Store) (ids : List Nat) : Store → Prop
  | [] => True
  | (id, .cells T k [r']) :: S => (∃ r, look σ id = some (.cells T k [r]) ∧ id ∉ ids ∧ FL σ ids r r') ∧ StFrz σ ids S
  | _ => False
theorem StFrz.get {σ : Store} {ids : List Nat} : ∀ {S : Store}, StFrz σ ids S → ∀ id o', look S id = some o' → ∃ T k r r', o' = .cells T k [r'] ∧ look σ id = some (.cells T k [r]) ∧ id ∉ ids ∧ FL σ ids r r'
  | [], _, id, o', h => by cases h
  | (i, o) :: S, hs, id, o', h => by
    match o, hs with
    | .cells T k [r'], hs =>
      rw [look_cons] at h
      by_cases hi : i = id
      · rw [if_pos hi] at h
        injection h with h
        subst h; subst hi
        obtain ⟨r, h1, h2, h3⟩ := hs.1
        exact ⟨T, k, r, r', rfl, h1, h2, h3⟩
      · rw [if_neg hi] at h
        exact StFrz.get hs.2 id o' h
section
variable {P : Program} {TB : List (Nat × Obj)} {Γ : Ctx} {N : Nat} {σ : Store}
theorem RelSt.freezeS {V : View} {f : Env} {nx : Nat} {a : Act} (h : RelSt TB Γ N V f σ nx a) (ids : List Nat) (L : List (Nat × E)) (S : Store) (hE : EnvFrz σ ids f L) (hS : StFrz σ ids S) : RelSt TB Γ N (frzV V σ ids) (look L) S nx a := by
  have e : Ext V (frzV V σ ids) := frz_ext
  have hi := h.inv
  refine ⟨fun t x hx => ?_, fun t x hx => ?_, h.size, ?_, h.nx, h.defers⟩
  · obtain ⟨y, h1, h2⟩ := hE.get t x hx
    exact h2.rel h.inv (h.env t y h1)
  · obtain ⟨y, h1, _⟩ := hE.get t x hx
    exact h.lt t y h1
  · refine ⟨hi.os, hi.tape, hi.output, hi.old, ?_, ?_, hi.ext.trans e, ⟨?_, ?_, ?_, ?_⟩, ?_, fun x hx => ⟨.inl (hi.tabs x hx).1, (hi.tabs x hx).2⟩⟩
    · rintro b (hb | ⟨id, o, _, hl, hn, rfl⟩)
      · exact hi.iLt b hb
      · exact (hi.st.obj id o hl).blt hn
    · rintro b (hb | ⟨id, o, _, hl, hn, rfl⟩)
      · exact hi.iNew b hb
      · exact .inr (hi.live id o hl hn)
    · intro id o hl
      obtain ⟨T, k, r, r', rfl, h1, h2, h3⟩ := hS.get id o hl
      rcases hi.st.obj id _ h1 with ⟨h4, h5⟩ | ⟨h0, cur, h4, h5, h6, h7, h8, h9⟩
      · cases h5
      · refine .inr ⟨h0, cur, h4, h5, h6, h7, fun x hx => ?_, fun i x j c' hix hj => ?_⟩
        · simp at hx; subst hx; rw [h3.len]; exact h8 r (by simp)
        · have hi0 : i = 0 := by have := (List.getElem?_eq_some_iff.1 hix).1; simp at this; omega
          subst hi0
          simp at hix
          subst hix
          obtain ⟨c, hc, hf⟩ := h3.get j c' hj
          obtain ⟨v, h10, h11⟩ := h9 0 r j c rfl hc
          exact ⟨v, h10, hf.rel hi h11⟩
    · intro id o hl
      obtain ⟨T, k, r, r', _, h1, _, _⟩ := hS.get id o hl
      exact hi.st.lt id _ h1
    · intro id o hl hn hb
      obtain ⟨T, k, r, r', _, h1, h2, _⟩ := hS.get id o hl
      rcases hb with hb | ⟨id', o', hm, hl', hn', he⟩
      · exact hi.st.free id _ h1 hn hb
      · exact hi.st.inj id id' _ o' h1 hl' (fun e => h2 (e ▸ hm)) hn hn' he.symm
    · intro id id' o o' hl hl'
      obtain ⟨T, k, r, r', _, h1, _, _⟩ := hS.get id o hl
      obtain ⟨T2, k2, r2, r2', _, h12, _, _⟩ := hS.get id' o' hl'
      exact hi.st.inj id id' _ _ h1 h12
    · intro id o hl
      obtain ⟨T, k, r, r', _, h1, _, _⟩ := hS.get id o hl
      exact hi.live id _ h1
/-- From here on nobody writes the objects of the list; boxes of one row that hold them stay. -/
theorem AWp.freezeS {c : Code} {Q : Exit → Env → Store → Nat → Prop} {f : Env} {nx : Nat} (ids : List Nat) (L : List (Nat × E)) (S : Store) (hE : EnvFrz σ ids f L) (hS : StFrz σ ids S) (h : AWp P TB Γ N c Q (look L) S nx) : AWp P TB Γ N c Q f σ nx :=
  fun V a hr => h (frzV V σ ids) a (hr.freezeS ids L S hE hS)
/-- The entry of a key, or zero. -/
theorem q_look0 {d : Option Tmp} {ty : TypeId} {pos : String} {af : Array Edge} {g : Option (Nat × Bool)} {f : Env} {nx : Nat} {t k e : TypeId} {x y : Operand} {id : Nat} {l : List (List UInt8 × Int)} {s : List UInt8} [hm : HasMp P t k e] [hk : HasStr P k] [hz : HasZ1 P e (.int .i64 0)] (hx : ev f x = some (.o (.mp id))) (hy : ev f y = some (eT s)) (ho : look σ id = some (.mp (mapT l))) :
    QOp P TB Γ ⟨d, .lookup t x y false, ty, pos, af, g⟩ f σ nx (eI .i64 ((findT l s).getD 0)) :=
  q_of_run fun V ρ hr hi => by
    have e1 := hr.get (by simp [Op.operands]) hx
    have e2 : ρ y = .string ⟨s.toArray⟩ := CRel.val (hr.get (by simp [Op.operands]) hy)
    generalize hv : ρ x = v at e1
    cases e1 with
    | mp hid =>
      obtain ⟨hn, ents, clock, h1, h2⟩ := hi.st.obj id _ ho
      obtain ⟨r, h3, h4⟩ := find_now s l ents.toList 0 h2
      have hzz := hz.out
      simp only [Option.bind_eq_some_iff] at hzz
      obtain ⟨i, hi1, hz1⟩ := hzz
      have hzv : (zeroValue e).run P V.w = .ok (.int .i64 0) V.w := by simp [zeroValue, typeInfo, hi1, hz1, go_sem]
      have hfk : (Instr.findKey k (.string ⟨s.toArray⟩) ents.toList).run P V.w = .ok r V.w := by simp [Instr.findKey, run_underlying hk.out, h3, go_sem]
      have hck := check_text hk.out ents.isEmpty ⟨s.toArray⟩ V.w
      refine ⟨.int .i64 ((findT l s).getD 0), ?_, .d (.v rfl)⟩
      cases r with
      | none =>
        have h5 : findT l s = none := by simpa using h4.symm
        simp [execOp, hv, e2, Instr.lookup, run_underlying hm.out, MapKept.run_getObj_map h1, hck, hfk, hzv, h5, go_sem]
      | some q =>
        obtain ⟨n, h5, h6⟩ : ∃ n, findT l s = some n ∧ q.2 = .int .i64 n := by
          cases hf : findT l s with
          | none => rw [hf] at h4; simp at h4
          | some n => rw [hf] at h4; exact ⟨n, rfl, by simpa using h4⟩
        obtain ⟨q1, q2⟩ := q
        simp only at h6
        subst h6
        simp [execOp, hv, e2, Instr.lookup, run_underlying hm.out, MapKept.run_getObj_map h1, hck, hfk, h5, go_sem]
end
end Go.Am
/-
  A column more; the table that is closed.
-/
namespace Go.Am
open Go Go.Proofs
attribute [local irreducible] QOp AOp Lex LexO AWp Spec
variable {TB : List (Nat × Obj)}

def addC (t : Tab) (col : W) : Option Tab := if t.cols.length = 20 ∨ col ∈ t.cols then none else some ⟨t.rows, t.cols ++ [col]⟩
def eTabO (o : Option Tab) : E := match o with
  | some t => .t [(true, [.d (tList t.rows), .d (tList t.cols)]), (false, [.d (bD true)])]
  | none => .t [(true, [.d (.l []), .d (.l [])]), (false, [.d (bD false)])]
theorem addColumn_ok (t : Tab) (col : W) (hr : t.rows.length ≤ 4096) (hcl : t.cols.length ≤ 4096) : Pure Tryz.prog TB 60 [eTab t, eT col] (eTabO (addC t col)) := by
  have hc1 := clone_ok (TB := TB) t.rows (by omega)
  have hc2 := clone_ok (TB := TB) t.cols (by omega)
  refine SpecK.toSpec (SpecK.ofM 2 (Nat.le_refl _) Tryz.func60 rfl rfl (by kernel_rfl) (Nat.le_of_ble_eq_true rfl) ?_); intro Γ hΓ
  (repeat (first | (refine popO rfl ?_; first | (refine gA rfl ?_; first | refine yLm rfl rfl ?_ | ((first | refine yQ (md := true) rfl ?_ ?_ | refine yL rfl rfl (by assumption) rfl rfl ?_ ?_ | refine yT rfl rfl (by assumption) rfl ?_ ?_); (first | exact True.intro | omega | (simp only [oZ] at *; omega))) | (refine yB rfl ?_; intro _ _hb) | refine yU (sl := false) rfl ?_ | refine yM rfl rfl (by assumption) rfl rfl rfl ?_ | refine yV rfl rfl rfl rfl (by assumption) rfl rfl rfl rfl ?_ ) | refine popN rfl ?_ | (refine yG rfl rfl ?_ ?_ <;> intro hb <;> subst hb)) | refine AWp.seq ?_ | refine reg (by kernel_rfl) ?_ | refine lexE ?_ | refine regD (flN []) mixed (by kernel_rfl) (by kernel_rfl) ?_))
  (refine popO rfl ?_; refine popS (fun _ _ => q_boxI rfl rfl rfl) rfl ?_)
  (repeat (first | (refine popO rfl ?_; first | (refine gA rfl ?_; first | refine yLm rfl rfl ?_ | ((first | refine yQ (md := true) rfl ?_ ?_ | refine yL rfl rfl (by assumption) rfl rfl ?_ ?_ | refine yT rfl rfl (by assumption) rfl ?_ ?_); (first | exact True.intro | omega | (simp only [oZ] at *; omega))) | (refine yB rfl ?_; intro _ _hb) | refine yU (sl := false) rfl ?_ | refine yM rfl rfl (by assumption) rfl rfl rfl ?_ | refine yV rfl rfl rfl rfl (by assumption) rfl rfl rfl rfl ?_ | (refine yC rfl rfl rfl (contains_ok t.cols col) ?_; intro _ _hb) ) | refine popN rfl ?_ | (refine yG rfl rfl ?_ ?_ <;> intro hb <;> subst hb)) | refine AWp.seq ?_ | refine reg (by kernel_rfl) ?_ | refine lexE ?_ | refine regD (flN []) mixed (by kernel_rfl) (by kernel_rfl) ?_))
  · (refine AWp.cond rfl (fun hb => ?_) (fun hb => ?_) <;> cases hb)
    have hn : addC t col = none := by unfold addC; rw [if_pos (.inl (by first | omega | (simp only [oZ] at *; omega)))]
    (repeat (first | (refine popO rfl ?_; first | (refine gA rfl ?_; first | refine yLm rfl rfl ?_ | ((first | refine yQ (md := true) rfl ?_ ?_ | refine yL rfl rfl (by assumption) rfl rfl ?_ ?_ | refine yT rfl rfl (by assumption) rfl ?_ ?_); (first | exact True.intro | omega | (simp only [oZ] at *; omega))) | (refine yB rfl ?_; intro _ _hb) | refine yU (sl := false) rfl ?_ | refine yM rfl rfl (by assumption) rfl rfl rfl ?_ | refine yV rfl rfl rfl rfl (by assumption) rfl rfl rfl rfl ?_ | refine gS (fun _ _ => q_build rfl rfl (by rfl) (by rfl)) ?_) | refine popN rfl ?_ | (refine yG rfl rfl ?_ ?_ <;> intro hb <;> subst hb)) | refine AWp.seq ?_ | refine reg (by kernel_rfl) ?_ | refine lexE ?_ | refine regD (flN []) mixed (by kernel_rfl) (by kernel_rfl) ?_))
    refine AWp.freeze [0] [(4, .o (.ip [.l [], .l []])), (5, eB false)] ⟨⟨_, rfl, .o (.ptr (by simp) rfl rfl rfl)⟩, ⟨_, rfl, .keep⟩, trivial⟩ ?_
    refine AWp.ret ⟨_, rfl, ?_⟩
    rw [hn]; rfl
  (repeat (first | (refine popO rfl ?_; first | (refine gA rfl ?_; first | refine yLm rfl rfl ?_ | ((first | refine yQ (md := true) rfl ?_ ?_ | refine yL rfl rfl (by assumption) rfl rfl ?_ ?_ | refine yT rfl rfl (by assumption) rfl ?_ ?_); (first | exact True.intro | omega | (simp only [oZ] at *; omega))) | (refine yB rfl ?_; intro _ _hb) | refine yU (sl := false) rfl ?_ | refine yM rfl rfl (by assumption) rfl rfl rfl ?_ | refine yV rfl rfl rfl rfl (by assumption) rfl rfl rfl rfl ?_ | (refine yC rfl rfl rfl (contains_ok t.cols col) ?_; intro _ _hb) ) | refine popN rfl ?_ | (refine yG rfl rfl ?_ ?_ <;> intro hb <;> subst hb)) | refine AWp.seq ?_ | refine reg (by kernel_rfl) ?_ | refine lexE ?_ | refine regD (flN []) mixed (by kernel_rfl) (by kernel_rfl) ?_))
  (refine AWp.cond rfl (fun hb => ?_) (fun hb => ?_) <;> cases hb)
  · have hn : addC t col = none := by unfold addC; rw [if_pos (.inr (by first | omega | (simp only [oZ] at *; omega)))]
    (repeat (first | (refine popO rfl ?_; first | (refine gA rfl ?_; first | refine yLm rfl rfl ?_ | ((first | refine yQ (md := true) rfl ?_ ?_ | refine yL rfl rfl (by assumption) rfl rfl ?_ ?_ | refine yT rfl rfl (by assumption) rfl ?_ ?_); (first | exact True.intro | omega | (simp only [oZ] at *; omega))) | (refine yB rfl ?_; intro _ _hb) | refine yU (sl := false) rfl ?_ | refine yM rfl rfl (by assumption) rfl rfl rfl ?_ | refine yV rfl rfl rfl rfl (by assumption) rfl rfl rfl rfl ?_ | refine gS (fun _ _ => q_build rfl rfl (by rfl) (by rfl)) ?_) | refine popN rfl ?_ | (refine yG rfl rfl ?_ ?_ <;> intro hb <;> subst hb)) | refine AWp.seq ?_ | refine reg (by kernel_rfl) ?_ | refine lexE ?_ | refine regD (flN []) mixed (by kernel_rfl) (by kernel_rfl) ?_))
    refine AWp.freeze [0] [(4, .o (.ip [.l [], .l []])), (5, eB false)] ⟨⟨_, rfl, .o (.ptr (by simp) rfl rfl rfl)⟩, ⟨_, rfl, .keep⟩, trivial⟩ ?_
    refine AWp.ret ⟨_, rfl, ?_⟩
    rw [hn]; rfl
  · refine AWp.skip ?_
    refine AWp.seq ?_
    refine regD (flP [0, 1, 3, 4, 6, 7, 2, 5, 8, 9, 10, 11] [2, 5, 8, 10] [0, 1, 3, 4, 6, 7]) mixed (by kernel_rfl) (by kernel_rfl) ?_
    (repeat (first | (refine popO rfl ?_; first | (refine gA rfl ?_; first | refine yLm rfl rfl ?_ | ((first | refine yQ (md := false) rfl ?_ ?_ | refine yL rfl rfl (by assumption) rfl rfl ?_ ?_ | refine yT rfl rfl (by assumption) rfl ?_ ?_); (first | exact True.intro | omega | (simp only [oZ] at *; omega))) | (refine yB rfl ?_; intro _ _hb) | refine yU (sl := true) rfl ?_ | refine yM rfl rfl (by assumption) rfl rfl rfl ?_ | refine yV rfl rfl rfl rfl (by assumption) rfl rfl rfl rfl ?_ ) | refine popN rfl ?_ | (refine yG rfl rfl ?_ ?_ <;> intro hb <;> subst hb)) | refine AWp.seq ?_ | refine reg (by kernel_rfl) ?_ | refine lexE ?_))
    (refine popO rfl ?_; refine popW ?_ rfl (by rfl); refine n_call [] rfl rfl hc1 ⟨rfl, by simp, by simp⟩ rfl trivial ?_; rintro x0 σ1 nx1 ⟨rfl, rfl, rfl⟩ _)
    (repeat (first | (refine popO rfl ?_; first | (refine gA rfl ?_; first | refine yLm rfl rfl ?_ | ((first | refine yQ (md := false) rfl ?_ ?_ | refine yL rfl rfl (by assumption) rfl rfl ?_ ?_ | refine yT rfl rfl (by assumption) rfl ?_ ?_); (first | exact True.intro | omega | (simp only [oZ] at *; omega))) | (refine yB rfl ?_; intro _ _hb) | refine yU (sl := true) rfl ?_ | refine yM rfl rfl (by assumption) rfl rfl rfl ?_ | refine yV rfl rfl rfl rfl (by assumption) rfl rfl rfl rfl ?_ ) | refine popN rfl ?_ | (refine yG rfl rfl ?_ ?_ <;> intro hb <;> subst hb)) | refine AWp.seq ?_ | refine reg (by kernel_rfl) ?_ | refine lexE ?_))
    (refine popO rfl ?_; refine popW ?_ rfl (by rfl); refine n_call [] rfl rfl hc2 ⟨rfl, by simp, by simp⟩ rfl trivial ?_; rintro x0 σ1 nx1 ⟨rfl, rfl, rfl⟩ _)
    (repeat (first | (refine popO rfl ?_; first | (refine gA rfl ?_; first | refine yLm rfl rfl ?_ | ((first | refine yQ (md := false) rfl ?_ ?_ | refine yL rfl rfl (by assumption) rfl rfl ?_ ?_ | refine yT rfl rfl (by assumption) rfl ?_ ?_); (first | exact True.intro | omega | (simp only [oZ] at *; omega))) | (refine yB rfl ?_; intro _ _hb) | refine yU (sl := true) rfl ?_ | refine yM rfl rfl (by assumption) rfl rfl rfl ?_ | refine yV rfl rfl rfl rfl (by assumption) rfl rfl rfl rfl ?_ ) | refine popN rfl ?_ | (refine yG rfl rfl ?_ ?_ <;> intro hb <;> subst hb)) | refine AWp.seq ?_ | refine reg (by kernel_rfl) ?_ | refine lexE ?_))
    (refine popO rfl ?_; refine popW ?_ rfl (by rfl); refine n_append rfl rfl rfl (by first | (simp; done) | (simp; (first | omega | (simp only [oZ] at *; omega)))) rfl (by intro r hr; simp at hr; subst hr; rfl) (by rfl) (Nat.le_of_ble_eq_true rfl) (by simp; omega) ?_)
    (repeat (first | (refine popO rfl ?_; first | (refine gA rfl ?_; first | refine yLm rfl rfl ?_ | ((first | refine yQ (md := false) rfl ?_ ?_ | refine yL rfl rfl (by assumption) rfl rfl ?_ ?_ | refine yT rfl rfl (by assumption) rfl ?_ ?_); (first | exact True.intro | omega | (simp only [oZ] at *; omega))) | (refine yB rfl ?_; intro _ _hb) | refine yU (sl := true) rfl ?_ | refine yM rfl rfl (by assumption) rfl rfl rfl ?_ | refine yV rfl rfl rfl rfl (by assumption) rfl rfl rfl rfl ?_ | refine gS (fun _ _ => q_build rfl rfl (by rfl) (by rfl)) ?_) | refine popN rfl ?_ | (refine yG rfl rfl ?_ ?_ <;> intro hb <;> subst hb)) | refine AWp.seq ?_ | refine reg (by kernel_rfl) ?_ | refine lexE ?_))
    have hnm : col ∉ t.cols := by simpa using _hb
    have hn : addC t col = some ⟨t.rows, t.cols ++ [col]⟩ := by
      unfold addC
      rw [if_neg]
      rintro (h | h)
      · first | omega | (simp only [oZ] at *; omega)
      · exact hnm h
    refine AWp.names [0, 1, 3] [(4, .o (.ptr 0 2 0 0)), (5, eB true)] [(0, .cells 37 2 [[.arr 1 1 0 t.rows.length, .arr 2 1 0 (t.cols.length + 1)]]), (1, .cells 9 1 (t.rows.map tRowC)), (2, .cells 9 1 ((t.cols ++ [col]).map tRowC))] (by intro i hi; rw [hΓ] at hi; omega) (by simp) (by simp [EnvSub, StoreSub, look_cons, nm, E.ren, C.ren, C.renL, O.ren, killc, kill0, Function.comp_def, argsFrom, zC, hΓ, nmo]) (by simp [EnvSub, StoreSub, look_cons, nm, E.ren, C.ren, C.renL, O.ren, killc, kill0, Function.comp_def, argsFrom, zC, hΓ, nmo, Store.ren, killL, fillC, eC, spliceC]) ?_
    refine AWp.freezeS [1, 2] [(4, .o (.ptr 0 2 0 0)), (5, eB true)] [(0, .cells 37 2 [[.d (tList t.rows), .d (tList (t.cols ++ [col]))]])] ⟨⟨_, rfl, .keep⟩, ⟨_, rfl, .keep⟩, trivial⟩ ⟨⟨_, rfl, by simp, .cons (.full (by simp) rfl (by simp [Function.comp_def]) (by simp)) (.cons (.full (by simp) rfl (by simp [Function.comp_def]) (by simp)) .nil)⟩, trivial⟩ ?_
    refine AWp.freeze [0] [(4, .o (.ip [tList t.rows, tList (t.cols ++ [col])])), (5, eB true)] ⟨⟨_, rfl, .o (.ptr (by simp) rfl rfl rfl)⟩, ⟨_, rfl, .keep⟩, trivial⟩ ?_
    refine AWp.ret ⟨_, rfl, ?_⟩
    rw [hn]; rfl
end Go.Am
/-
  Short steps for regions that draw, with new variables in any order.
-/
namespace Go.Am.R
open Go
section
variable {P : Program} {TB : List (Nat × Obj)} {ops : Array Oper} {i c : Nat} {r : List (Nat × Nat)} {L : List (Nat × E)} {σ : Store} {nx : Nat} {pl : List (Nat × (TypeId × List Value))} {K : Sta → Prop} {d : Tmp} {ty : TypeId} {pos : String} {af : Array Edge} {g : Option (Nat × Bool)} {op : Op}
theorem yQ {md : Bool} [hT : HasT P] {q : Prop} {x : E} (hg : gval ops ⟨some d, op, ty, pos, af, g⟩ (look L) = some true) (hc : (Nat.beq c 0 || Nat.beq c 2) = true) (h : reck hT.T md (look L) op = some (q, x)) (hq : q) (hk : LexL P TB ops r K ((d, x) :: L) σ nx (killP d pl)) : LexO P TB ops ⟨some d, op, ty, pos, af, g⟩ i c r K L σ nx pl :=
  popS (fun _ _ _ => reck_ok h hq) hg hc hk
theorem yB [hT : HasT P] {b0 : Bool} (hg : gval ops ⟨some d, op, ty, pos, af, g⟩ (look L) = some true) (hc : (Nat.beq c 0 || Nat.beq c 2) = true) (h : reckB hT.T (look L) op = some b0) (hk : ∀ b, b0 = b → LexL P TB ops r K ((d, eB b) :: L) σ nx (killP d pl)) : LexO P TB ops ⟨some d, op, ty, pos, af, g⟩ i c r K L σ nx pl :=
  popB (fun _ _ _ => reckB_ok h) hg hc hk
theorem yS [hT : HasT P] {x : E} (hg : gval ops ⟨some d, op, ty, pos, af, g⟩ (look L) = some true) (hc : Nat.beq c 0 = true) (h : reckS hT.T σ (look L) op = some x) (hk : LexL P TB ops r K ((d, x) :: L) σ nx (killP d pl)) : LexO P TB ops ⟨some d, op, ty, pos, af, g⟩ i c r K L σ nx pl :=
  popQ (fun _ => reckS_ok h) hg hc hk
theorem yW [hT : HasT P] {t : TypeId} {x y : Operand} {σ' : Store} (hg : gval ops ⟨none, .store t x y, ty, pos, af, g⟩ (look L) = some true) (hc : c = 1) (h : reckW hT.T σ (look L) t x y = some σ') (hk : LexL P TB ops r K L σ' nx pl) : LexO P TB ops ⟨none, .store t x y, ty, pos, af, g⟩ i c r K L σ nx pl :=
  popW0 (fun _ => reckW_ok h hk) hg hc
/-- A store into a variable that is new. -/
theorem yA [hT : HasT P] {t : Tmp} {ts : TypeId} {y : Operand} {T : TypeId} {z : List Value} {σ' : Store} (hp : look pl t = some (T, z)) (hg : gval ops ⟨none, .store ts (.tmp t) y, ty, pos, af, g⟩ (look ((t, .o (.ptr nx z.length 0 0)) :: L)) = some true) (hc : c = 5)
    (h : reckW hT.T ((nx, .cells T z.length [z.map zC]) :: σ) (look ((t, .o (.ptr nx z.length 0 0)) :: L)) ts (.tmp t) y = some σ') (hk : LexL P TB ops r K ((t, .o (.ptr nx z.length 0 0)) :: L) σ' (nx + 1) (killP t pl)) : LexO P TB ops ⟨none, .store ts (.tmp t) y, ty, pos, af, g⟩ i c r K L σ nx pl :=
  popAS hp hg hc fun _ => reckW_ok h hk
theorem yP [hT : HasT P] {T : TypeId} {z : List Value} (hz : (tyi hT.T T).ze = some z) (hok : z.all zOk = true) (hf : look L d = none) (hc : c = 3) (h : LexL P TB ops r K L σ nx ((d, (T, z)) :: pl)) : LexO P TB ops ⟨some d, .alloc T, ty, pos, af, none⟩ i c r K L σ nx pl :=
  haveI := (tyi_ok (P := P) T hT.ok).hasZe hz
  popP hok hf hc h
theorem yG {dd : Option Tmp} {j t : Nat} {w b : Bool} (_hd : (ops[j]?).bind (·.dst) = some t) (_hv : look L t = some (eB b))
    (hT : b = true → LexL P TB ops ((i, c) :: r) K L σ nx pl) (hF : b = false → LexL P TB ops ((i, c) :: r) K L σ nx pl) : LexO P TB ops ⟨dd, op, ty, pos, af, some (j, w)⟩ i c r K L σ nx pl := by
  intro _
  cases b
  · exact hF rfl
  · exact hT rfl
end
end Go.Am.R
/-
  The table that is closed.
-/
namespace Go.Am
open Go Go.Proofs
attribute [local irreducible] QOp AOp Lex LexO AWp Spec
variable {TB : List (Nat × Obj)}

/-- A table of words that are not too long. -/
structure TBd (al : Int) (b : Nat) (t : Tab) : Prop where
  onR : ∀ w ∈ t.rows, wordOn (lsB al) w ∧ w.length ≤ b
  onC : ∀ x ∈ t.cols, wordOn (lsB al) x ∧ x.length ≤ 20000
  rl : t.rows.length ≤ 12
  cl : t.cols.length ≤ 20
/-- What an oracle must answer. -/
def OkFits (ok : W → Prop) (al : Int) : Prop := ∀ w, wordOn (lsB al) w → w.length ≤ 50000 → ok w
theorem TBd.ask {ok : W → Prop} {al : Int} {b : Nat} {t : Tab} (h : TBd al b t) (hf : OkFits ok al) (hb : b ≤ 20100) : AskOk ok t ∧ ∀ w ∈ t.rows, ∀ l ∈ lsB al, ∀ x ∈ t.cols, ok (w ++ [l] ++ x) := by
  refine ⟨⟨fun w hw x hx => hf _ ?_ ?_, fun w hw => by have := (h.onR w hw).2; omega, fun x hx => by have := (h.onC x hx).2; omega, by have := h.rl; omega, by have := h.cl; omega⟩, fun w hw l hl x hx => hf _ ?_ ?_⟩
  · intro c hc
    rcases List.mem_append.1 hc with hc | hc
    · exact (h.onR w hw).1 c hc
    · exact (h.onC x hx).1 c hc
  · have := (h.onR w hw).2; have := (h.onC x hx).2; simp; omega
  · intro c hc
    rcases List.mem_append.1 hc with hc | hc
    · rcases List.mem_append.1 hc with hc | hc
      · exact (h.onR w hw).1 c hc
      · simp at hc; subst hc; exact hl
    · exact (h.onC x hx).1 c hc
  · have := (h.onR w hw).2; have := (h.onC x hx).2; simp; omega
theorem TBd.push {L : W → Bool} {al : Int} {b : Nat} {t : Tab} {w : W} (h : TBd al b t) (ho : openW L (lsB al) t = some w) (hl : t.rows.length < 12) : TBd al (b + 1) ⟨t.rows ++ [w], t.cols⟩ := by
  obtain ⟨⟨r, hr, l, hl2, rfl⟩, _⟩ := openW_some ho
  refine ⟨fun u hu => ?_, h.onC, by simp; omega, h.cl⟩
  rcases List.mem_append.1 hu with hu | hu
  · have := h.onR u hu; exact ⟨this.1, by omega⟩
  · simp at hu
    subst hu
    have := h.onR r hr
    refine ⟨fun c hc => ?_, by simp; omega⟩
    rcases List.mem_append.1 hc with hc | hc
    · exact this.1 c hc
    · simp at hc; subst hc; exact hl2
theorem closeTable_ok {c : C} {L : W → Bool} {ok : W → Prop} (hc : AskV Tryz.prog TB c L ok) (al : Int) (t : Tab) (hf : OkFits ok al) (ht : TBd al 20000 t) :
    Pure Tryz.prog TB 51 [eOra al c, eTab t] (eTabO (closeN L (lsB al) 13 t)) := by
  have hr := ren_pur c hc.pur
  have hrl := ht.rl
  have hcl := ht.cl
  have hc1 := clone_ok (TB := TB) t.rows (by omega)
  have hc2 := clone_ok (TB := TB) t.cols (by omega)
  refine SpecK.toSpec (SpecK.ofM 2 (Nat.le_refl _) Tryz.func51 rfl rfl (by kernel_rfl) (Nat.le_of_ble_eq_true rfl) ?_); intro Γ hΓ
  (repeat (first | (refine popO rfl ?_; first | (refine gA rfl ?_; first | refine yLm rfl rfl ?_ | ((first | refine yQ (md := true) rfl ?_ ?_ | refine yL rfl rfl (by assumption) rfl rfl ?_ ?_ | refine yT rfl rfl (by assumption) rfl ?_ ?_); (first | exact True.intro | omega | (simp only [oZ] at *; omega))) | (refine yB rfl ?_; intro _ _hb) | refine yU (sl := false) rfl ?_ | refine yM rfl rfl (by assumption) rfl rfl rfl ?_ | refine yV rfl rfl rfl rfl (by assumption) rfl rfl rfl rfl ?_ ) | refine popN rfl ?_ | (refine yG rfl rfl ?_ ?_ <;> intro hb <;> subst hb)) | refine AWp.seq ?_ | refine reg (by kernel_rfl) ?_ | refine lexE ?_ | refine regD (flN []) mixed (by kernel_rfl) (by kernel_rfl) ?_))
  (refine popO rfl ?_; refine popW ?_ rfl (by rfl); refine n_box rfl rfl ?_)
  (refine popO rfl ?_; refine popS (fun _ _ => q_boxI rfl rfl rfl) rfl ?_)
  (repeat (first | (refine popO rfl ?_; first | (refine gA rfl ?_; first | refine yLm rfl rfl ?_ | ((first | refine yQ (md := true) rfl ?_ ?_ | refine yL rfl rfl (by assumption) rfl rfl ?_ ?_ | refine yT rfl rfl (by assumption) rfl ?_ ?_); (first | exact True.intro | omega | (simp only [oZ] at *; omega))) | (refine yB rfl ?_; intro _ _hb) | refine yU (sl := false) rfl ?_ | refine yM rfl rfl (by assumption) rfl rfl rfl ?_ | refine yV rfl rfl rfl rfl (by assumption) rfl rfl rfl rfl ?_ ) | refine popN rfl ?_ | (refine yG rfl rfl ?_ ?_ <;> intro hb <;> subst hb)) | refine AWp.seq ?_ | refine reg (by kernel_rfl) ?_ | refine lexE ?_))
  refine R.regR [(7,3),(0,2),(1,2),(3,2),(4,2),(2,1),(5,1),(6,0),(8,5)] mixed (by kernel_rfl) rfl (by kernel_rfl) ?_
  (repeat (first | (refine R.popO rfl ?_; first | (refine R.yQ (md := false) rfl rfl rfl ?_ ?_; (first | exact True.intro | omega | (simp only [oZ] at *; omega))) | (refine R.yB rfl rfl rfl ?_; intro _ _hb) | refine R.yS rfl rfl rfl ?_ | refine R.yP rfl rfl rfl rfl ?_ | refine R.yA rfl rfl rfl rfl ?_ | refine R.yW rfl rfl rfl ?_ | refine R.popN rfl rfl ?_ | (refine R.yG rfl rfl ?_ ?_ <;> intro hb <;> subst hb))))
  (refine R.popO rfl ?_; refine R.popW (fun _ => ?_) rfl rfl; refine n_call [] rfl rfl hc1 ⟨rfl, by simp, by simp⟩ rfl trivial ?_; rintro x0 σ1 nx1 ⟨rfl, rfl, rfl⟩ _)
  (repeat (first | (refine R.popO rfl ?_; first | (refine R.yQ (md := false) rfl rfl rfl ?_ ?_; (first | exact True.intro | omega | (simp only [oZ] at *; omega))) | (refine R.yB rfl rfl rfl ?_; intro _ _hb) | refine R.yS rfl rfl rfl ?_ | refine R.yP rfl rfl rfl rfl ?_ | refine R.yA rfl rfl rfl rfl ?_ | refine R.yW rfl rfl rfl ?_ | refine R.popN rfl rfl ?_ | (refine R.yG rfl rfl ?_ ?_ <;> intro hb <;> subst hb))))
  (refine R.popO rfl ?_; refine R.popW (fun _ => ?_) rfl rfl; refine n_call [] rfl rfl hc2 ⟨rfl, by simp, by simp⟩ rfl trivial ?_; rintro x0 σ1 nx1 ⟨rfl, rfl, rfl⟩ _)
  (repeat (first | (refine R.popO rfl ?_; first | (refine R.yQ (md := false) rfl rfl rfl ?_ ?_; (first | exact True.intro | omega | (simp only [oZ] at *; omega))) | (refine R.yB rfl rfl rfl ?_; intro _ _hb) | refine R.yS rfl rfl rfl ?_ | refine R.yP rfl rfl rfl rfl ?_ | refine R.yA rfl rfl rfl rfl ?_ | refine R.yW rfl rfl rfl ?_ | refine R.popS (fun _ _ _ => q_build rfl rfl (by rfl) (by rfl)) rfl rfl ?_ | refine R.popN rfl rfl ?_ | (refine R.yG rfl rfl ?_ ?_ <;> intro hb <;> subst hb))))
  refine R.lexQ ?_
  refine AWp.block ?_
  have hz : ∀ x : Tab, openW L (lsB al) x = none ∨ ∃ w, openW L (lsB al) x = some w := fun x => by cases openW L (lsB al) x <;> simp
  refine AWp.loopL (α := {p : Nat × Tab // p.1 ≤ 13 ∧ 13 ≤ p.1 + p.2.rows.length ∧ TBd al (20000 + p.2.rows.length) p.2 ∧ closeN L (lsB al) 13 t = closeN L (lsB al) p.1 p.2}) (fun ⟨⟨m, u⟩, hm, hmu, hu, he⟩ => [(2, .o (.ptr 0 2 0 0)), (4, .o (.ptr 1 2 0 0)), (6, .o (.ptr 4 2 0 0))]) (fun ⟨⟨m, u⟩, hm, hmu, hu, he⟩ => [(0, .cells 68 2 [[.d (iD al), c]]), (1, .cells 37 2 [[.d (.l []), .d (.l [])]]), (2, .cells 9 1 (u.rows.map tRowC)), (3, .cells 9 1 (u.cols.map tRowC)), (4, .cells 37 2 [[.arr 2 1 0 u.rows.length, .arr 3 1 0 u.cols.length]])]) 5 (fun ⟨⟨m, u⟩, hm, hmu, hu, he⟩ => m) (⟨(13, t), by simp, by simp, ⟨fun w hw => ⟨(ht.onR w hw).1, by have := (ht.onR w hw).2; omega⟩ , ht.onC, ht.rl, ht.cl⟩, rfl⟩) [0, 1, 2, 3, 4] (by first | (simp [hΓ]; done) | (rw [hΓ]; decide)) (by (repeat' (first | exact trivial | rfl | refine And.intro ?_ ?_)) <;> simp [EnvSub, StoreSub, look_cons, nm, E.ren, C.ren, C.renL, O.ren, killc, kill0, Function.comp_def, argsFrom, zC, hΓ, hr, eC, Store.ren, killL, nmo, fillC, spliceC]) ?_; rintro ⟨⟨m, u⟩, hm, hmu, hu, he⟩; try dsimp only
  dsimp only at hm hmu hu he
  have htk : ∀ l : List W, ((l.map tRowC).drop 0).take l.length = (l.map tRow).map (fun r => r.map C.d) := fun l => by rw [List.drop_zero, List.take_of_length_le (by simp)]; simp [Function.comp_def]
  have hur := hu.rl
  have huc := hu.cl
  have hask := hu.ask hf (by omega)
  have hfo := firstOpen_ok (TB := TB) hc al u hask.1 hask.2
  have hev : EVs [(0, .cells 68 2 [[.d (iD al), c]]), (1, .cells 37 2 [[.d (.l []), .d (.l [])]]), (2, .cells 9 1 (u.rows.map tRowC)), (3, .cells 9 1 (u.cols.map tRowC)), (4, .cells 37 2 [[.arr 2 1 0 u.rows.length, .arr 3 1 0 u.cols.length]])] [.a [.d (iD al), c], .a [.arr 2 1 0 u.rows.length, .arr 3 1 0 u.cols.length]] [eOra al c, eTab u] :=
    .cons (.cons (.pure rfl) (.cons (.pure hc.pur) .nil)) (.cons (.cons (.arr rfl (by simp) (htk _)) (.cons (.arr rfl (by simp) (htk _)) .nil)) .nil)
  refine AWp.block ?_
  rcases hz u with ho | ⟨w, ho⟩
  · rw [ho] at hfo
    (repeat (first | (refine popO rfl ?_; first | (refine gA rfl ?_; first | refine yLm rfl rfl ?_ | ((first | refine yQ (md := true) rfl ?_ ?_ | refine yL rfl rfl (by assumption) rfl rfl ?_ ?_ | refine yT rfl rfl (by assumption) rfl ?_ ?_); (first | exact True.intro | omega | (simp only [oZ] at *; omega))) | (refine yB rfl ?_; intro _ _hb) | refine yU (sl := false) rfl ?_ | refine yM rfl rfl (by assumption) rfl rfl rfl ?_ | refine yV rfl rfl rfl rfl (by assumption) rfl rfl rfl rfl ?_ | refine gQ (q_callB rfl rfl (hev) (hfo) rfl) rfl ?_ ) | refine popN rfl ?_ | (refine yG rfl rfl ?_ ?_ <;> intro hb <;> subst hb)) | refine AWp.seq ?_ | refine reg (by kernel_rfl) ?_ | refine lexE ?_ | refine regD (flN []) mixed (by kernel_rfl) (by kernel_rfl) ?_))
    (refine AWp.cond rfl (fun hb => ?_) (fun hb => ?_) <;> cases hb)
    · (repeat (first | (refine popO rfl ?_; first | (refine gA rfl ?_; first | refine yLm rfl rfl ?_ | ((first | refine yQ (md := true) rfl ?_ ?_ | refine yL rfl rfl (by assumption) rfl rfl ?_ ?_ | refine yT rfl rfl (by assumption) rfl ?_ ?_); (first | exact True.intro | omega | (simp only [oZ] at *; omega))) | (refine yB rfl ?_; intro _ _hb) | refine yU (sl := false) rfl ?_ | refine yM rfl rfl (by assumption) rfl rfl rfl ?_ | refine yV rfl rfl rfl rfl (by assumption) rfl rfl rfl rfl ?_ ) | refine popN rfl ?_ | (refine yG rfl rfl ?_ ?_ <;> intro hb <;> subst hb)) | refine AWp.seq ?_ | refine reg (by kernel_rfl) ?_ | refine lexE ?_ | refine regD (flN []) mixed (by kernel_rfl) (by kernel_rfl) ?_))
      have hn : closeN L (lsB al) 13 t = some u := by
        rw [he]
        obtain ⟨m', rfl⟩ : ∃ m', m = m' + 1 := ⟨m - 1, by omega⟩
        simp [closeN, ho]
      refine AWp.names [1, 2, 3] [(4, .o (.ptr 0 2 0 0)), (5, eB true)] [(0, .cells 37 2 [[.arr 1 1 0 u.rows.length, .arr 2 1 0 u.cols.length]]), (1, .cells 9 1 (u.rows.map tRowC)), (2, .cells 9 1 (u.cols.map tRowC))] (by intro i hi; rw [hΓ] at hi; omega) (by simp) (by simp [EnvSub, StoreSub, look_cons, nm, E.ren, C.ren, C.renL, O.ren, killc, kill0, Function.comp_def, argsFrom, zC, hΓ, nmo]) (by simp [EnvSub, StoreSub, look_cons, nm, E.ren, C.ren, C.renL, O.ren, killc, kill0, Function.comp_def, argsFrom, zC, hΓ, nmo, Store.ren, killL, fillC, eC, spliceC]) ?_
      refine AWp.freezeS [1, 2] [(4, .o (.ptr 0 2 0 0)), (5, eB true)] [(0, .cells 37 2 [[.d (tList u.rows), .d (tList u.cols)]])] ⟨⟨_, rfl, .keep⟩, ⟨_, rfl, .keep⟩, trivial⟩ ⟨⟨_, rfl, by simp, .cons (.full (by simp) rfl (by simp [Function.comp_def]) (by simp)) (.cons (.full (by simp) rfl (by simp [Function.comp_def]) (by simp)) .nil)⟩, trivial⟩ ?_
      refine AWp.freeze [0] [(4, .o (.ip [tList u.rows, tList u.cols])), (5, eB true)] ⟨⟨_, rfl, .o (.ptr (by simp) rfl rfl rfl)⟩, ⟨_, rfl, .keep⟩, trivial⟩ ?_
      refine AWp.ret ⟨_, rfl, ?_⟩
      rw [hn]; rfl
    · simp at _hb
  · rw [ho] at hfo
    (repeat (first | (refine popO rfl ?_; first | (refine gA rfl ?_; first | refine yLm rfl rfl ?_ | ((first | refine yQ (md := true) rfl ?_ ?_ | refine yL rfl rfl (by assumption) rfl rfl ?_ ?_ | refine yT rfl rfl (by assumption) rfl ?_ ?_); (first | exact True.intro | omega | (simp only [oZ] at *; omega))) | (refine yB rfl ?_; intro _ _hb) | refine yU (sl := false) rfl ?_ | refine yM rfl rfl (by assumption) rfl rfl rfl ?_ | refine yV rfl rfl rfl rfl (by assumption) rfl rfl rfl rfl ?_ | refine gQ (q_callB rfl rfl (hev) (hfo) rfl) rfl ?_ ) | refine popN rfl ?_ | (refine yG rfl rfl ?_ ?_ <;> intro hb <;> subst hb)) | refine AWp.seq ?_ | refine reg (by kernel_rfl) ?_ | refine lexE ?_ | refine regD (flN []) mixed (by kernel_rfl) (by kernel_rfl) ?_))
    (refine AWp.cond rfl (fun hb => ?_) (fun hb => ?_) <;> cases hb)
    · simp at _hb
    · refine AWp.skip ?_
      (repeat (first | (refine popO rfl ?_; first | (refine gA rfl ?_; first | refine yLm rfl rfl ?_ | ((first | refine yQ (md := true) rfl ?_ ?_ | refine yL rfl rfl (by assumption) rfl rfl ?_ ?_ | refine yT rfl rfl (by assumption) rfl ?_ ?_); (first | exact True.intro | omega | (simp only [oZ] at *; omega))) | (refine yB rfl ?_; intro _ _hb) | refine yU (sl := false) rfl ?_ | refine yM rfl rfl (by assumption) rfl rfl rfl ?_ | refine yV rfl rfl rfl rfl (by assumption) rfl rfl rfl rfl ?_ ) | refine popN rfl ?_ | (refine yG rfl rfl ?_ ?_ <;> intro hb <;> subst hb)) | refine AWp.seq ?_ | refine reg (by kernel_rfl) ?_ | refine lexE ?_ | refine regD (flN []) mixed (by kernel_rfl) (by kernel_rfl) ?_))
      (refine AWp.cond rfl (fun hb => ?_) (fun hb => ?_) <;> cases hb)
      · (repeat (first | (refine popO rfl ?_; first | (refine gA rfl ?_; first | refine yLm rfl rfl ?_ | ((first | refine yQ (md := true) rfl ?_ ?_ | refine yL rfl rfl (by assumption) rfl rfl ?_ ?_ | refine yT rfl rfl (by assumption) rfl ?_ ?_); (first | exact True.intro | omega | (simp only [oZ] at *; omega))) | (refine yB rfl ?_; intro _ _hb) | refine yU (sl := false) rfl ?_ | refine yM rfl rfl (by assumption) rfl rfl rfl ?_ | refine yV rfl rfl rfl rfl (by assumption) rfl rfl rfl rfl ?_ | refine gS (fun _ _ => q_build rfl rfl (by rfl) (by rfl)) ?_) | refine popN rfl ?_ | (refine yG rfl rfl ?_ ?_ <;> intro hb <;> subst hb)) | refine AWp.seq ?_ | refine reg (by kernel_rfl) ?_ | refine lexE ?_ | refine regD (flN []) mixed (by kernel_rfl) (by kernel_rfl) ?_))
        have hn : closeN L (lsB al) 13 t = none := by
          have h12 : u.rows.length = 12 := by first | omega | (simp only [oZ] at *; omega)
          rw [he]
          obtain ⟨m', rfl⟩ : ∃ m', m = m' + 1 := ⟨m - 1, by omega⟩
          simp [closeN, ho, h12]
        refine AWp.freeze [1] [(4, .o (.ip [.l [], .l []])), (5, eB false)] ⟨⟨_, rfl, .o (.ptr (by simp) rfl rfl rfl)⟩, ⟨_, rfl, .keep⟩, trivial⟩ ?_
        refine AWp.ret ⟨_, rfl, ?_⟩
        rw [hn]; rfl
      · refine AWp.skip ?_
        have hlt : u.rows.length < 12 := by first | omega | (simp only [oZ] at *; omega)
        obtain ⟨m', rfl⟩ : ∃ m', m = m' + 1 := ⟨m - 1, by omega⟩
        have hn : closeN L (lsB al) 13 t = closeN L (lsB al) m' ⟨u.rows ++ [w], u.cols⟩ := by
          rw [he]
          conv => lhs; unfold closeN
          rw [ho]
          dsimp only
          rw [if_neg (by omega)]
        have hp := hu.push ho hlt
        (repeat (first | (refine popO rfl ?_; first | (refine gA rfl ?_; first | refine yLm rfl rfl ?_ | ((first | refine yQ (md := false) rfl ?_ ?_ | refine yL rfl rfl (by assumption) rfl rfl ?_ ?_ | refine yT rfl rfl (by assumption) rfl ?_ ?_); (first | exact True.intro | omega | (simp only [oZ] at *; omega))) | (refine yB rfl ?_; intro _ _hb) | refine yU (sl := true) rfl ?_ | refine yM rfl rfl (by assumption) rfl rfl rfl ?_ | refine yV rfl rfl rfl rfl (by assumption) rfl rfl rfl rfl ?_ ) | refine popN rfl ?_ | (refine yG rfl rfl ?_ ?_ <;> intro hb <;> subst hb)) | refine AWp.seq ?_ | refine reg (by kernel_rfl) ?_ | refine lexE ?_))
        (refine popO rfl ?_; refine popW ?_ rfl (by rfl); refine n_append rfl rfl rfl (by first | (simp; done) | (simp; (first | omega | (simp only [oZ] at *; omega)))) rfl (by intro r hr; simp at hr; subst hr; rfl) (by rfl) (Nat.le_of_ble_eq_true rfl) (by simp; omega) ?_)
        (repeat (first | (refine popO rfl ?_; first | (refine gA rfl ?_; first | refine yLm rfl rfl ?_ | ((first | refine yQ (md := true) rfl ?_ ?_ | refine yL rfl rfl (by assumption) rfl rfl ?_ ?_ | refine yT rfl rfl (by assumption) rfl ?_ ?_); (first | exact True.intro | omega | (simp only [oZ] at *; omega))) | (refine yB rfl ?_; intro _ _hb) | refine yU (sl := false) rfl ?_ | refine yM rfl rfl (by assumption) rfl rfl rfl ?_ | refine yV rfl rfl rfl rfl (by assumption) rfl rfl rfl rfl ?_ ) | refine popN rfl ?_ | (refine yG rfl rfl ?_ ?_ <;> intro hb <;> subst hb)) | refine AWp.seq ?_ | refine reg (by kernel_rfl) ?_ | refine lexE ?_ | refine regD (flN []) mixed (by kernel_rfl) (by kernel_rfl) ?_))
        refine ⟨⟨⟨m', ⟨u.rows ++ [w], u.cols⟩⟩, by dsimp only; omega, by simp; omega, by simpa [Nat.add_assoc] using hp, hn⟩, by dsimp only; (first | omega | (simp only [oZ] at *; omega)), [0, 1, 5, 3, 4], ?_⟩
        simp [EnvSub, StoreSub, look_cons, nm, E.ren, C.ren, C.renL, O.ren, killc, kill0, Function.comp_def, argsFrom, zC, hΓ, hr, eC, Store.ren, killL, nmo, fillC, spliceC]
end Go.Am
/-
  The first table.
-/
namespace Go.Am
open Go Go.Proofs
attribute [local irreducible] QOp AOp Lex LexO AWp Spec
variable {TB : List (Nat × Obj)}

def tabOne : Tab := ⟨[[]], [[]]⟩
theorem tabOne_bd (al : Int) : TBd al 20000 tabOne := by
  refine ⟨fun w hw => ?_, fun w hw => ?_, by decide, by decide⟩ <;> (simp [tabOne] at hw; subst hw; exact ⟨fun c hc => by simp at hc, by simp⟩)
theorem newTable_ok {c : C} {L : W → Bool} {ok : W → Prop} (hc : AskV Tryz.prog TB c L ok) (al : Int) (hf : OkFits ok al) :
    Pure Tryz.prog TB 28 [eOra al c] (eTabO (closeN L (lsB al) 13 tabOne)) := by
  have hr := ren_pur c hc.pur
  have h := closeTable_ok hc al tabOne hf (tabOne_bd al)
  refine SpecK.toSpec (SpecK.ofM 2 (Nat.le_refl _) Tryz.func28 rfl rfl (by kernel_rfl) (Nat.le_of_ble_eq_true rfl) ?_); intro Γ hΓ
  generalize closeN L (lsB al) 13 tabOne = o at h ⊢
  (repeat (first | (refine popO rfl ?_; first | (refine gA rfl ?_; first | refine yLm rfl rfl ?_ | ((first | refine yQ (md := true) rfl ?_ ?_ | refine yL rfl rfl (by assumption) rfl rfl ?_ ?_ | refine yT rfl rfl (by assumption) rfl ?_ ?_); (first | exact True.intro | omega | (simp only [oZ] at *; omega))) | (refine yB rfl ?_; intro _ _hb) | refine yU (sl := false) rfl ?_ | refine yM rfl rfl (by assumption) rfl rfl rfl ?_ | refine yV rfl rfl rfl rfl (by assumption) rfl rfl rfl rfl ?_ ) | refine popN rfl ?_ | (refine yG rfl rfl ?_ ?_ <;> intro hb <;> subst hb)) | refine AWp.seq ?_ | refine reg (by kernel_rfl) ?_ | refine lexE ?_ | refine regD (flN []) mixed (by kernel_rfl) (by kernel_rfl) ?_))
  (refine popO rfl ?_; refine popW ?_ rfl (by rfl); refine n_box rfl rfl ?_)
  (repeat (first | (refine popO rfl ?_; first | (refine gA rfl ?_; first | refine yLm rfl rfl ?_ | ((first | refine yQ (md := true) rfl ?_ ?_ | refine yL rfl rfl (by assumption) rfl rfl ?_ ?_ | refine yT rfl rfl (by assumption) rfl ?_ ?_); (first | exact True.intro | omega | (simp only [oZ] at *; omega))) | (refine yB rfl ?_; intro _ _hb) | refine yU (sl := false) rfl ?_ | refine yM rfl rfl (by assumption) rfl rfl rfl ?_ | refine yV rfl rfl rfl rfl (by assumption) rfl rfl rfl rfl ?_ ) | refine popN rfl ?_ | (refine yG rfl rfl ?_ ?_ <;> intro hb <;> subst hb)) | refine AWp.seq ?_ | refine reg (by kernel_rfl) ?_ | refine lexE ?_ | refine regD (flN []) mixed (by kernel_rfl) (by kernel_rfl) ?_))
  have hpu : ([eOra al c, eTab tabOne].all E.pur && C.purL []) = true := by simp [eOra, eTab, E.pur, C.purL, C.pur, hc.pur]
  cases o with
  | none =>
    (repeat (first | (refine popO rfl ?_; first | (refine gA rfl ?_; first | refine yLm rfl rfl ?_ | ((first | refine yQ (md := false) rfl ?_ ?_ | refine yL rfl rfl (by assumption) rfl rfl ?_ ?_ | refine yT rfl rfl (by assumption) rfl ?_ ?_); (first | exact True.intro | omega | (simp only [oZ] at *; omega))) | (refine yB rfl ?_; intro _ _hb) | refine yU (sl := true) rfl ?_ | refine yM rfl rfl (by assumption) rfl rfl rfl ?_ | refine yV rfl rfl rfl rfl (by assumption) rfl rfl rfl rfl ?_ | refine gS (fun _ _ => q_call rfl rfl hpu h rfl) ?_ | refine gS (fun _ _ => q_build rfl rfl (by rfl) (by rfl)) ?_) | refine popN rfl ?_ | (refine yG rfl rfl ?_ ?_ <;> intro hb <;> subst hb)) | refine AWp.seq ?_ | refine reg (by kernel_rfl) ?_ | refine lexE ?_))
    refine AWp.freeze [1] [(2, .o (.ip [.l [], .l []])), (3, eB false)] ⟨⟨_, rfl, .o (.ptr (by simp) rfl rfl rfl)⟩, ⟨_, rfl, .keep⟩, trivial⟩ ?_
    refine AWp.ret ⟨_, rfl, ?_⟩
    rfl
  | some u =>
    (repeat (first | (refine popO rfl ?_; first | (refine gA rfl ?_; first | refine yLm rfl rfl ?_ | ((first | refine yQ (md := false) rfl ?_ ?_ | refine yL rfl rfl (by assumption) rfl rfl ?_ ?_ | refine yT rfl rfl (by assumption) rfl ?_ ?_); (first | exact True.intro | omega | (simp only [oZ] at *; omega))) | (refine yB rfl ?_; intro _ _hb) | refine yU (sl := true) rfl ?_ | refine yM rfl rfl (by assumption) rfl rfl rfl ?_ | refine yV rfl rfl rfl rfl (by assumption) rfl rfl rfl rfl ?_ | refine gS (fun _ _ => q_call rfl rfl hpu h rfl) ?_ | refine gS (fun _ _ => q_build rfl rfl (by rfl) (by rfl)) ?_) | refine popN rfl ?_ | (refine yG rfl rfl ?_ ?_ <;> intro hb <;> subst hb)) | refine AWp.seq ?_ | refine reg (by kernel_rfl) ?_ | refine lexE ?_))
    refine AWp.freeze [1] [(2, .o (.ip [tList u.rows, tList u.cols])), (3, eB true)] ⟨⟨_, rfl, .o (.ptr (by simp) rfl rfl rfl)⟩, ⟨_, rfl, .keep⟩, trivial⟩ ?_
    refine AWp.ret ⟨_, rfl, ?_⟩
    rfl
end Go.Am
/-
  The automaton of a closed table.
-/
namespace Go.Am
open Go Go.Proofs
attribute [local irreducible] QOp AOp Lex LexO AWp Spec
variable {TB : List (Nat × Obj)}

/-- The automaton of a closed table. -/
def autM (L : W → Bool) (al : Int) (t : Tab) : Aut := ⟨al, t.rows.map fun r => (letters al).map fun l => ((idxM L t (r ++ [lb l]) : Nat) : Int), t.rows.map L⟩
/-- What a look-up gives: for a closed table the row's number. -/
theorem look_idx {L : W → Bool} {al : Int} {t : Tab} (ho : openW L (lsB al) t = none) {r : W} (hr : r ∈ t.rows) {l : Int} (hl : l ∈ letters al) :
    (findT (numsTo L t t.rows.length) (marks L t.cols (r ++ [lb l]))).getD 0 = ((idxM L t (r ++ [lb l]) : Nat) : Int) := by
  have hm : marks L t.cols (r ++ [lb l]) ∈ rowsM L t := by
    have := List.find?_eq_none.1 ho (r ++ [lb l]) (by
      unfold nextsB
      exact List.mem_flatMap.2 ⟨r, hr, List.mem_map.2 ⟨lb l, List.mem_map.2 ⟨l, hl, rfl⟩, rfl⟩⟩)
    simpa using this
  rw [nums_all, if_pos hm]
  rfl
end Go.Am
/-
  Wrong words show new columns, and these open the table.
-/
namespace Go.Am
set_option linter.unusedVariables false

theorem marks_app (L : W → Bool) (cols : List W) (v w : W) : marks L (cols ++ [v]) w = marks L cols w ++ [mkB (L (w ++ v))] := by simp [marks]
theorem Closed.row {L : W → Bool} {ls : List UInt8} {t : Tab} (h : Closed L ls t) {i j : Nat} {r s : W} (hi : t.rows[i]? = some r) (hj : t.rows[j]? = some s) (he : marks L t.cols r = marks L t.cols s) : i = j := by
  have h1 : (rowsM L t)[i]? = some (marks L t.cols r) := by simp [rowsM, hi]
  have h2 : (rowsM L t)[j]? = some (marks L t.cols r) := by simp [rowsM, hj, he]
  have l1 := (List.getElem?_eq_some_iff.1 h1).1
  have l2 := (List.getElem?_eq_some_iff.1 h2).1
  have e1 := (List.getElem?_eq_some_iff.1 h1).2
  have e2 := (List.getElem?_eq_some_iff.1 h2).2
  have hp := List.pairwise_iff_getElem.1 h.nd
  rcases Nat.lt_trichotomy i j with h3 | h3 | h3
  · exact absurd (e1.trans e2.symm) (hp i j l1 l2 h3)
  · exact h3
  · exact absurd (e2.trans e1.symm) (hp j i l2 l1 h3)
structure Split (L : W → Bool) (ls : List UInt8) (t : Tab) (u v : W) : Prop where
  suf : ∃ p, p ≠ [] ∧ u = p ++ v
  new : v ∉ t.cols
  opens : ∃ r ∈ t.rows, ∃ c ∈ ls, marks L (t.cols ++ [v]) (r ++ [c]) ∉ rowsM L ⟨t.rows, t.cols ++ [v]⟩
theorem split_ok {L : W → Bool} {ls : List UInt8} {t : Tab} (h : Closed L ls t) (b : Bool) : ∀ (u : W) (i : Nat) (r : W), wordOn ls u → t.rows[i]? = some r → L (r ++ u) = b → L (t.rows.getD (runM L t i u) []) ≠ b → ∃ v, splitAt L t b i u = some v ∧ Split L ls t u v
  | [], i, r, _, hi, hb, hn => by
    have h1 : t.rows.getD i [] = r := by simp [hi]
    rw [List.append_nil] at hb
    exact absurd (by show L (t.rows.getD i []) = b; rw [h1]; exact hb) hn
  | c :: v, i, r, hu, hi, hb, hn => by
    have hc : c ∈ ls := hu c (by simp)
    have hgd : t.rows.getD i [] = r := by simp [hi]
    obtain ⟨r', h1, h2⟩ := h.idx hi hc
    have hgd' : t.rows.getD (idxM L t (r ++ [c])) [] = r' := by simp [h1]
    unfold splitAt
    rw [hgd, hgd']
    by_cases hv : L (r' ++ v) ≠ b
    · rw [if_pos hv]
      have hrc : r ++ c :: v = (r ++ [c]) ++ v := by simp
      have hne : L ((r ++ [c]) ++ v) ≠ L (r' ++ v) := by rw [← hrc, hb]; exact fun e => hv e.symm
      refine ⟨v, rfl, ⟨[c], by simp, rfl⟩, fun hm => hne ((marks_eq.1 h2 v hm).symm), r, List.mem_of_getElem? hi, c, hc, fun hm => ?_⟩
      unfold rowsM at hm
      obtain ⟨s, hs, he⟩ := List.mem_map.1 hm
      simp only [marks_app] at he
      obtain ⟨e1, e2⟩ := List.append_inj' he rfl
      obtain ⟨q, hq, hqe⟩ := List.getElem_of_mem hs
      have hsq : t.rows[q]? = some s := by rw [List.getElem?_eq_getElem hq, hqe]
      have := h.row hsq h1 (e1.trans h2.symm)
      subst this
      rw [hsq] at h1
      injection h1 with h1
      subst h1
      have e3 : mkB (L (s ++ v)) = mkB (L (r ++ [c] ++ v)) := by simpa using e2
      exact hne (mkB_inj e3).symm
    · rw [if_neg hv]
      have hv' : L (r' ++ v) = b := by simpa using hv
      have hn' : L (t.rows.getD (runM L t (idxM L t (r ++ [c])) v) []) ≠ b := by
        have : runM L t i (c :: v) = runM L t (idxM L t (r ++ [c])) v := by show runM L t (idxM L t (t.rows.getD i [] ++ [c])) v = _; rw [hgd]
        rwa [this] at hn
      obtain ⟨w, h3, ⟨p, hp, h4⟩, h5, h6⟩ := split_ok h b v _ r' (fun x hx => hu x (by simp [hx])) h1 hv' hn'
      exact ⟨w, h3, ⟨c :: p, by simp, by rw [h4]; rfl⟩, h5, h6⟩
/-- The table with the new column is valid, and open. -/
theorem TOk.col {L : W → Bool} {ls : List UInt8} {t : Tab} {v : W} (h : TOk L ls t) (hv : wordOn ls v) (hn : v ∉ t.cols) : TOk L ls ⟨t.rows, t.cols ++ [v]⟩ := by
  have h0 : 0 < t.cols.length := (List.getElem?_eq_some_iff.1 h.c0).1
  refine ⟨h.r0, by show (t.cols ++ [v])[0]? = _; rw [List.getElem?_append_left h0]; exact h.c0, h.pre, h.onR, fun c hc => ?_, ?_, ?_⟩
  · rcases List.mem_append.1 hc with hc | hc
    · exact h.onC c hc
    · simp at hc; subst hc; exact hv
  · have hnd := h.nd
    unfold rowsM List.Nodup at *
    rw [List.pairwise_map] at *
    refine hnd.imp fun {a b} hne he => hne ?_
    simp only [marks_app] at he
    exact (List.append_inj' he rfl).1
  · rw [List.nodup_append]
    exact ⟨h.ndC, by simp, fun a ha b hb e => by simp at hb; subst hb; exact hn (e ▸ ha)⟩
theorem open_of {L : W → Bool} {ls : List UInt8} {t : Tab} {r : W} {c : UInt8} (hr : r ∈ t.rows) (hc : c ∈ ls) (hm : marks L t.cols (r ++ [c]) ∉ rowsM L t) : openW L ls t ≠ none := fun h => hm (openW_none h r hr c hc)
end Go.Am
/-
  Learning ends: each round adds a row, and there are few.
-/
namespace Go.Am
set_option linter.unusedVariables false

def accM (L : W → Bool) (t : Tab) (w : W) : Bool := L (t.rows.getD (runM L t 0 w) [])
/-- The next table, after a wrong word. -/
def nextT (L : W → Bool) (ls : List UInt8) (t : Tab) (w : W) : Option Tab := (splitAt L t (L w) 0 w).bind fun v => closeN L ls 13 ⟨t.rows, t.cols ++ [v]⟩
structure Next (L : W → Bool) (ls : List UInt8) (t : Tab) (w v : W) (t' : Tab) : Prop where
  split : splitAt L t (L w) 0 w = some v
  close : closeN L ls 13 ⟨t.rows, t.cols ++ [v]⟩ = some t'
  next : nextT L ls t w = some t'
  ok : Closed L ls t'
  cols : t'.cols = t.cols ++ [v]
  new : v ∉ t.cols
  suf : ∃ p, p ≠ [] ∧ w = p ++ v
  more : t.rows.length < t'.rows.length
  pre : t.rows <+: t'.rows
theorem TOk.closed {L : W → Bool} {ls : List UInt8} {t : Tab} (h : TOk L ls t) (ho : openW L ls t = none) : Closed L ls t := ⟨h, openW_none ho⟩
theorem next_ok {L : W → Bool} {ls : List UInt8} {n : Nat} (f : Fin L ls n) (hn : n ≤ 12) {t : Tab} (h : Closed L ls t) {w : W} (hw : wordOn ls w) (hd : accM L t w ≠ L w) : ∃ v t', Next L ls t w v t' := by
  obtain ⟨v, h1, ⟨p, hp, h2⟩, h3, r, hr, c, hc, h4⟩ := split_ok h (L w) w 0 [] hw h.r0 rfl hd
  have hv : wordOn ls v := fun x hx => hw x (by rw [h2]; simp [hx])
  have h5 := h.toTOk.col hv h3
  have h6 := open_of (t := ⟨t.rows, t.cols ++ [v]⟩) hr hc h4
  have h0 : 0 < t.rows.length := (List.getElem?_eq_some_iff.1 h.r0).1
  obtain ⟨t', e1, e2, e3, e4, e5, e6⟩ := closeN_ok f hn 13 _ h5 (by omega)
  exact ⟨v, t', h1, e1, by simp [nextT, h1, e1], e2.closed e3, e5, h3, ⟨p, hp, h2⟩, e6 h6, e4⟩
/-- The tables of the rounds; 'wr': the wrong word of a table, if it has one. -/
def tabAt (L : W → Bool) (ls : List UInt8) (wr : Tab → Option W) (t0 : Tab) : Nat → Tab
  | 0 => t0
  | k + 1 => match wr (tabAt L ls wr t0 k) with
    | none => tabAt L ls wr t0 k
    | some w => (nextT L ls (tabAt L ls wr t0 k) w).getD (tabAt L ls wr t0 k)
structure Wr (L : W → Bool) (ls : List UInt8) (wr : Tab → Option W) : Prop where
  on : ∀ t w, wr t = some w → Closed L ls t → wordOn ls w ∧ accM L t w ≠ L w
theorem tabAt_ok {L : W → Bool} {ls : List UInt8} {n : Nat} (f : Fin L ls n) (hn : n ≤ 12) {wr : Tab → Option W} (hwr : Wr L ls wr) {t0 : Tab} (h0 : Closed L ls t0) (hc : t0.cols.length = 1) : ∀ k, (∀ j, j < k → wr (tabAt L ls wr t0 j) ≠ none) →
    Closed L ls (tabAt L ls wr t0 k) ∧ k + 1 ≤ (tabAt L ls wr t0 k).rows.length ∧ (tabAt L ls wr t0 k).cols.length = k + 1
  | 0, _ => ⟨h0, (List.getElem?_eq_some_iff.1 h0.r0).1, hc⟩
  | k + 1, h => by
    obtain ⟨h1, h2, h3⟩ := tabAt_ok f hn hwr h0 hc k fun j hj => h j (by omega)
    have h4 := h k (by omega)
    unfold tabAt
    cases hw : wr (tabAt L ls wr t0 k) with
    | none => exact absurd hw h4
    | some w =>
      obtain ⟨h5, h6⟩ := hwr.on _ w hw h1
      obtain ⟨v, t', hN⟩ := next_ok f hn h1 h5 h6
      simp only [hN.next, Option.getD_some]
      refine ⟨hN.ok, by have := hN.more; omega, by rw [hN.cols]; simp [h3]⟩
/-- The last round: the first table that is right, below twelve. -/
theorem last_round {L : W → Bool} {ls : List UInt8} {n : Nat} (f : Fin L ls n) (hn : n ≤ 12) {wr : Tab → Option W} (hwr : Wr L ls wr) {t0 : Tab} (h0 : Closed L ls t0) (hc : t0.cols.length = 1) :
    ∃ k, k < 12 ∧ wr (tabAt L ls wr t0 k) = none ∧ ∀ j, j < k → wr (tabAt L ls wr t0 j) ≠ none := by
  have key : ∀ m, (∃ k, k < m ∧ wr (tabAt L ls wr t0 k) = none ∧ ∀ j, j < k → wr (tabAt L ls wr t0 j) ≠ none) ∨ ∀ j, j < m → wr (tabAt L ls wr t0 j) ≠ none := by
    intro m
    induction m with
    | zero => exact .inr fun j hj => by omega
    | succ m ih =>
      rcases ih with ⟨k, h1, h2, h3⟩ | ih
      · exact .inl ⟨k, by omega, h2, h3⟩
      · by_cases hm : wr (tabAt L ls wr t0 m) = none
        · exact .inl ⟨m, by omega, hm, ih⟩
        · refine .inr fun j hj => ?_
          by_cases hjm : j = m
          · subst hjm; exact hm
          · exact ih j (by omega)
  rcases key 12 with h | h
  · exact h
  · have h1 := tabAt_ok f hn hwr h0 hc 12 h
    have := h1.1.few f
    omega
end Go.Am
/-
  The language of an automaton: few states tell it.
-/
namespace Go.Am
set_option linter.unusedVariables false

def runA (a : Aut) : Int → W → Int
  | q, [] => q
  | q, c :: w => runA a (goA a q.toNat ((c.toNat : Int) - 97)) w
def LA (a : Aut) (w : W) : Bool := a.ac.getD (runA a 0 w).toNat false
theorem runA_app (a : Aut) : ∀ (u w : W) (q : Int), runA a q (u ++ w) = runA a (runA a q u) w
  | [], _, _ => rfl
  | c :: u, w, q => runA_app a u w _
theorem lb_num {l : Int} (h0 : 0 ≤ l) (h1 : l < 6) : ((lb l).toNat : Int) - 97 = l := by
  unfold lb
  have : (97 + l.toNat) % 256 = 97 + l.toNat := by omega
  simp [this]
  omega
theorem lsB_num {al : Int} {c : UInt8} (h : c ∈ lsB al) : 0 ≤ (c.toNat : Int) - 97 ∧ (c.toNat : Int) - 97 < 6 := by
  obtain ⟨l, hl, rfl⟩ := List.mem_map.1 h
  have h1 := lettersTo_in hl
  rw [lb_num h1.1 (by omega)]
  omega
theorem runA_in {a : Aut} (ha : autOk a = true) {al : Int} : ∀ (w : W) (q : Int), wordOn (lsB al) w → 0 ≤ q ∧ q < a.nx.length → 0 ≤ runA a q w ∧ runA a q w < a.nx.length
  | [], q, _, hq => hq
  | c :: w, q, hw, hq => by
    have h1 := lsB_num (hw c (by simp))
    have h2 := goA_in ha (q := q.toNat) (by omega) h1.1 h1.2
    exact runA_in ha w _ (fun x hx => hw x (by simp [hx])) h2
def finA {a : Aut} (ha : autOk a = true) (al : Int) : Fin (LA a) (lsB al) a.nx.length where
  st w := (runA a 0 w).toNat
  lt w hw := by
    have h1 := autOk_head ha
    have := runA_in ha w 0 hw (by omega)
    omega
  same u w v hu hw hv h := by
    have h1 := autOk_head ha
    have h2 := runA_in ha u 0 hu (by omega)
    have h3 := runA_in ha w 0 hw (by omega)
    have h4 : runA a 0 u = runA a 0 w := by omega
    unfold LA
    rw [runA_app, runA_app, h4]
end Go.Am
/-
  The automaton of a closed table, plainly: valid; its states are the rows' numbers.
-/
namespace Go.Am
set_option linter.unusedVariables false

theorem lsB_mem {al : Int} {l : Int} (h : l ∈ letters al) : lb l ∈ lsB al := List.mem_map.2 ⟨l, h, rfl⟩
theorem autM_ok {L : W → Bool} {al : Int} {t : Tab} (hal : alphB al = true) (h : Closed L (lsB al) t) (hr : t.rows.length ≤ 12) : autOk (autM L al t) = true := by
  have h0 : 0 < t.rows.length := (List.getElem?_eq_some_iff.1 h.r0).1
  unfold autOk
  simp only [Bool.and_eq_true, decide_eq_true_eq, List.all_eq_true]
  refine ⟨⟨⟨hal, by simp [autM]; omega⟩, by simp [autM]⟩, fun row hrow => ?_⟩
  simp only [autM, List.mem_map] at hrow
  obtain ⟨r, hr, rfl⟩ := hrow
  unfold rowOk
  simp only [Bool.and_eq_true, decide_eq_true_eq, List.all_eq_true]
  refine ⟨by simp [autM], fun y hy => ?_⟩
  obtain ⟨l, hl, rfl⟩ := List.mem_map.1 hy
  obtain ⟨i, hi, he⟩ := List.getElem_of_mem hr
  obtain ⟨r', h2, _⟩ := h.idx (i := i) (r := r) (by rw [List.getElem?_eq_getElem hi, he]) (lsB_mem hl)
  have h3 := (List.getElem?_eq_some_iff.1 h2).1
  unfold stOk
  simp [autM]
  exact h3
theorem goA_autM {L : W → Bool} {al : Int} {t : Tab} {q : Nat} {c : UInt8} (hq : q < t.rows.length) (hc : c ∈ lsB al) : goA (autM L al t) q ((c.toNat : Int) - 97) = ((idxM L t (t.rows.getD q [] ++ [c]) : Nat) : Int) := by
  obtain ⟨l, hl, rfl⟩ := List.mem_map.1 hc
  have h1 := lettersTo_in hl
  rw [lb_num h1.1 (by omega)]
  obtain ⟨k, hk, he⟩ := List.getElem_of_mem hl
  have h2 : (lettersTo al 6)[k]? = some l := by rw [List.getElem?_eq_getElem hk, he]
  have h3 := letters_place h2
  unfold goA
  have h4 : bitB (autM L al t).al l.toNat = true := h1.2.2
  rw [if_pos h4]
  have h5 : (lettersTo (autM L al t).al l.toNat).length = k := h3
  rw [h5]
  have h6 : (autM L al t).nx.getD q [] = (letters al).map fun l => ((idxM L t (t.rows.getD q [] ++ [lb l]) : Nat) : Int) := by
    simp [autM, List.getD, hq]
  rw [h6]
  simp [List.getD, h2]
theorem runA_autM {L : W → Bool} {al : Int} {t : Tab} (h : Closed L (lsB al) t) : ∀ (w : W) (q : Nat), wordOn (lsB al) w → q < t.rows.length → runA (autM L al t) q w = ((runM L t q w : Nat) : Int)
  | [], q, _, _ => rfl
  | c :: w, q, hw, hq => by
    have h1 : t.rows[q]? = some t.rows[q] := List.getElem?_eq_getElem hq
    have hc := hw c (by simp)
    obtain ⟨_, h2, _⟩ := h.idx h1 hc
    have h3 : t.rows.getD q [] = t.rows[q] := by simp [h1]
    have h4 := (List.getElem?_eq_some_iff.1 h2).1
    show runA (autM L al t) (goA (autM L al t) ((q : Int)).toNat ((c.toNat : Int) - 97)) w = _
    rw [Int.toNat_natCast, goA_autM hq hc]
    rw [← h3] at h4
    exact runA_autM h w _ (fun x hx => hw x (by simp [hx])) h4
theorem LA_autM {L : W → Bool} {al : Int} {t : Tab} (h : Closed L (lsB al) t) {w : W} (hw : wordOn (lsB al) w) : LA (autM L al t) w = accM L t w := by
  have h0 : 0 < t.rows.length := (List.getElem?_eq_some_iff.1 h.r0).1
  have h1 := h.run w 0 hw h0
  unfold LA accM
  have h2 := runA_autM h w 0 hw h0
  rw [show ((0 : Nat) : Int) = 0 from rfl] at h2
  rw [h2, Int.toNat_natCast]
  simp [autM, List.getD, h1]
end Go.Am
