/-
  The table of an automaton.
-/
import Derived.Test.YtilhofhoebpcgaaDoorPart12
namespace Go.Am
open Go Go.Proofs
set_option linter.unusedSimpArgs false
set_option linter.unusedVariables false
attribute [local irreducible] QOp AOp Lex LexO AWp Spec
variable {TB : List (Nat × Obj)}

def rowF (h : Nat → Int) : List C := (List.range 6).map fun l => .d (iD (h l))
def rowD (h : Nat → Int) : List D := (List.range 6).map fun l => iD (h l)
theorem rowF_d (h : Nat → Int) : rowF h = (rowD h).map .d := by simp [rowF, rowD]
def rowsF {α : Type} (n : Nat) (g : Nat → α) : List α := (List.range n).map g
theorem rowsF_get {α : Type} {n q : Nat} {g : Nat → α} (h : q < n) : (rowsF n g)[q]? = some (g q) := by simp [rowsF, h]
theorem rowsF_set {α : Type} {n q : Nat} {g : Nat → α} {x : α} : (rowsF n g).set q x = rowsF n fun i => if i = q then x else g i := by
  apply List.ext_getElem?
  intro i
  by_cases hi : i < n
  · rw [rowsF_get hi]
    by_cases hq : q = i
    · subst hq; rw [List.getElem?_set_self (by simp [rowsF, hi])]; simp
    · rw [List.getElem?_set_ne hq, rowsF_get hi, if_neg (Ne.symm hq)]
  · rw [List.getElem?_eq_none (by simp [rowsF]; omega), List.getElem?_eq_none (by simp [rowsF]; omega)]
theorem rowsF_congr {α : Type} {n : Nat} {g g' : Nat → α} (h : ∀ i, i < n → g i = g' i) : rowsF n g = rowsF n g' := by
  unfold rowsF
  exact List.map_congr_left fun i hi => h i (List.mem_range.1 hi)
theorem rowF_set {h : Nat → Int} {l : Nat} {v : Int} (hl : l < 6) : spliceC (rowF h) (0 + l * 1) (eC (eI .i64 v)) = rowF fun x => if x = l then v else h x := by
  have e : eC (eI .i64 v) = [C.d (iD v)] := rfl
  rw [e, splice_set (by simp [rowF]; omega)]
  have := rowsF_set (n := 6) (q := l) (g := fun l => C.d (iD (h l))) (x := C.d (iD v))
  have e1 : 0 + l * 1 = l := by omega
  rw [e1]
  refine Eq.trans this (rowsF_congr fun i _ => ?_)
  by_cases e : i = l <;> simp [e]
theorem rowF_congr {h h' : Nat → Int} (hh : ∀ l, l < 6 → h l = h' l) : rowF h = rowF h' := rowsF_congr fun i hi => by rw [hh i hi]
theorem lettersTo_pre (s : Int) : ∀ (n k : Nat), k ≤ n → lettersTo s k <+: lettersTo s n
  | 0, k, h => by have : k = 0 := by omega
                  subst this; exact List.prefix_refl _
  | n + 1, k, h => by
    rcases Nat.lt_or_ge k (n + 1) with h1 | h1
    · rw [lettersTo_succ]
      exact (lettersTo_pre s n k (by omega)).trans (List.prefix_append _ _)
    · have : k = n + 1 := by omega
      subst this; exact List.prefix_refl _
theorem letters_place {s : Int} {k n : Nat} {l : Int} (h : (lettersTo s n)[k]? = some l) : (lettersTo s l.toNat).length = k := by
  have h1 := lettersTo_in (List.mem_of_getElem? h)
  have h2 : (lettersTo s (l.toNat + 1))[(lettersTo s l.toNat).length]? = some l := by
    rw [lettersTo_succ, if_pos h1.2.2, List.getElem?_append_right (Nat.le_refl _)]
    simp; omega
  have h3 : (lettersTo s n)[(lettersTo s l.toNat).length]? = some l := by
    obtain ⟨t, ht⟩ := lettersTo_pre s n (l.toNat + 1) (by omega)
    rw [← ht, List.getElem?_append_left (List.getElem?_eq_some_iff.1 h2).1]; exact h2
  have hp := letters_sorted s n
  rw [List.pairwise_iff_getElem] at hp
  obtain ⟨a1, a2⟩ := List.getElem?_eq_some_iff.1 h
  obtain ⟨b1, b2⟩ := List.getElem?_eq_some_iff.1 h3
  rcases Nat.lt_trichotomy (lettersTo s l.toNat).length k with h4 | h4 | h4
  · have := hp _ _ b1 a1 h4; omega
  · exact h4
  · have := hp _ _ a1 b1 h4; omega
theorem mem_lettersTo {s : Int} {n l : Nat} : (l : Int) ∈ lettersTo s n ↔ l < n ∧ bitB s l = true := by
  unfold lettersTo
  simp only [List.mem_map, List.mem_filter, List.mem_range]
  constructor
  · rintro ⟨a, ha, e⟩
    have : a = l := by have e : ((a : Nat) : Int) = l := e; omega
    subst this; exact ha
  · intro h; exact ⟨l, h, rfl⟩
/-- Rows of six. -/
def tbC (n : Nat) (H : Nat → Nat → Int) : List (List C) := rowsF n fun i => rowF (H i)
theorem tbC_ren (r : Nat → Nat) (n : Nat) (H : Nat → Nat → Int) : (tbC n H).map (C.renL r) = tbC n H := by
  unfold tbC rowsF
  rw [List.map_map]
  exact List.map_congr_left fun i _ => by simp only [Function.comp_def, rowF_d, renL_d]
theorem tbC_zero (n : Nat) : tbC n (fun _ _ => 0) = List.replicate n [C.d (D.v (Value.int IntKind.i64 0)), C.d (D.v (Value.int IntKind.i64 0)), C.d (D.v (Value.int IntKind.i64 0)), C.d (D.v (Value.int IntKind.i64 0)), C.d (D.v (Value.int IntKind.i64 0)), C.d (D.v (Value.int IntKind.i64 0))] := by
  unfold tbC rowsF
  rw [List.map_const']; simp; exact .inr rfl
theorem tbC_get {n q : Nat} {H : Nat → Nat → Int} (h : q < n) : (tbC n H)[0 + ((q : Nat) : Int).toNat]? = some (rowF (H q)) := by
  rw [Nat.zero_add, Int.toNat_natCast]; exact rowsF_get (g := fun i => rowF (H i)) h
theorem tbC_set {n q l : Nat} {v : Int} {H : Nat → Nat → Int} (hl : l < 6) : (tbC n H).set (0 + ((q : Nat) : Int).toNat) (spliceC (rowF (H q)) (0 + ((l : Nat) : Int).toNat * 1) (eC (eI .i64 v))) = tbC n fun i x => if i = q ∧ x = l then v else H i x := by
  rw [Nat.zero_add, Int.toNat_natCast, Int.toNat_natCast, rowF_set hl]
  unfold tbC
  rw [rowsF_set]
  refine rowsF_congr fun i _ => ?_
  by_cases e : i = q
  · subst e; rw [if_pos rfl]; exact rowF_congr fun l _ => by simp
  · rw [if_neg e]; exact rowF_congr fun l _ => by simp [e]
theorem tbC_congr {n : Nat} {H H' : Nat → Nat → Int} (h : ∀ i, i < n → ∀ l, l < 6 → H i l = H' i l) : tbC n H = tbC n H' := rowsF_congr fun i hi => rowF_congr fun l hl => h i hi l hl
theorem tbC_len (n : Nat) (H : Nat → Nat → Int) : (tbC n H).length = n := by simp [tbC, rowsF]
/-- The table. -/
def tblD (a : Aut) : List (List D) := rowsF a.nx.length fun q => rowD fun l => goA a q l
theorem tbC_d (a : Aut) : tbC a.nx.length (fun i l => goA a i l) = (tblD a).map fun r => r.map .d := by
  unfold tbC tblD rowsF
  rw [List.map_map]
  exact List.map_congr_left fun i _ => by simp only [Function.comp_def, rowF_d]
theorem tableOf_ok (a : Aut) (h : autOk a = true) : Pure Tryd.prog TB 70 [eAut a] (.o (.d (.l (tblD a)))) := by
  have hh := autOk_head h
  have hll : (letters a.al).length ≤ 6 := lettersTo_len a.al 6
  refine Spec.of Tryd.func70 rfl (by kernel_rfl) (Nat.le_of_ble_eq_true rfl) ?_; intro Γ hΓ
  (repeat (first | (refine popO rfl ?_; first | (refine gA rfl ?_; first | refine yLm rfl rfl ?_ | ((first | refine yQ (md := true) rfl ?_ ?_ | refine yL rfl rfl (by assumption) rfl rfl ?_ ?_ | refine yT rfl rfl (by assumption) rfl ?_ ?_); (first | exact True.intro | omega | (simp only [oA, oB, oC, oD, oE, oF, oG] at *; omega))) | (refine yB rfl ?_; intro _ _hb) | refine yS rfl rfl ?_ | refine yM rfl rfl (by assumption) rfl rfl rfl ?_ | refine yO rfl rfl rfl ?_ | refine yW rfl rfl ?_ | refine yV rfl rfl rfl rfl (by assumption) rfl rfl rfl rfl ?_ ) | refine popN rfl ?_ | (refine yG rfl rfl ?_ ?_ <;> intro hb <;> subst hb)) | refine AWp.seq ?_ | refine reg (by kernel_rfl) ?_ | refine lexE ?_ | refine regD (noisy []) mixed (by kernel_rfl) (by kernel_rfl) ?_))
  (refine popO rfl ?_; refine popS (fun _ _ => q_boxI rfl rfl rfl) rfl ?_)
  (refine popO rfl ?_; refine popS (fun _ _ => q_assign rfl) rfl ?_)
  (repeat (first | (refine popO rfl ?_; first | (refine gA rfl ?_; first | refine yLm rfl rfl ?_ | ((first | refine yQ (md := true) rfl ?_ ?_ | refine yL rfl rfl (by assumption) rfl rfl ?_ ?_ | refine yT rfl rfl (by assumption) rfl ?_ ?_); (first | exact True.intro | omega | (simp only [oA, oB, oC, oD, oE, oF, oG] at *; omega))) | (refine yB rfl ?_; intro _ _hb) | refine yS rfl rfl ?_ | refine yM rfl rfl (by assumption) rfl rfl rfl ?_ | refine yO rfl rfl rfl ?_ | refine yW rfl rfl ?_ | refine yV rfl rfl rfl rfl (by assumption) rfl rfl rfl rfl ?_ ) | refine popN rfl ?_ | (refine yG rfl rfl ?_ ?_ <;> intro hb <;> subst hb)) | refine AWp.seq ?_ | refine reg (by kernel_rfl) ?_ | refine lexE ?_ | refine regD (noisy []) mixed (by kernel_rfl) (by kernel_rfl) ?_))
  (refine popO rfl ?_; refine popW ?_ rfl (by rfl); refine n_make rfl rfl (by rfl) (by rfl) (Nat.le_of_ble_eq_true rfl) (by omega) (by omega) (by omega) ?_)
  (repeat (first | (refine popO rfl ?_; first | (refine gA rfl ?_; first | refine yLm rfl rfl ?_ | ((first | refine yQ (md := true) rfl ?_ ?_ | refine yL rfl rfl (by assumption) rfl rfl ?_ ?_ | refine yT rfl rfl (by assumption) rfl ?_ ?_); (first | exact True.intro | omega | (simp only [oA, oB, oC, oD, oE, oF, oG] at *; omega))) | (refine yB rfl ?_; intro _ _hb) | refine yS rfl rfl ?_ | refine yM rfl rfl (by assumption) rfl rfl rfl ?_ | refine yO rfl rfl rfl ?_ | refine yW rfl rfl ?_ | refine yV rfl rfl rfl rfl (by assumption) rfl rfl rfl rfl ?_ | refine yP rfl rfl rfl (lettersOf_ok a.al) rfl ?_ ) | refine popN rfl ?_ | (refine yG rfl rfl ?_ ?_ <;> intro hb <;> subst hb)) | refine AWp.seq ?_ | refine reg (by kernel_rfl) ?_ | refine lexE ?_ | refine regD (noisy []) mixed (by kernel_rfl) (by kernel_rfl) ?_))
  refine AWp.block ?_
  refine AWp.loopL (α := {q : Nat // q ≤ a.nx.length}) (fun ⟨q, hq⟩ => [(1, .o (.ip (auRow a))), (3, .o (.arr 0 6 0 a.nx.length)), (4, eInts (letters a.al)), (18, eIntss a.nx), (19, eI .i64 a.nx.length), (20, eI .i64 q)]) (fun ⟨q, hq⟩ => [(0, .cells 102 6 (tbC a.nx.length fun i l => if i < q then goA a i l else 0))]) 1 (fun ⟨q, hq⟩ => a.nx.length - q) (⟨0, by omega⟩) [0] (by first | (simp [hΓ]; done) | (rw [hΓ]; decide)) (by (repeat' (first | exact trivial | rfl | refine And.intro ?_ ?_)) <;> simp [EnvSub, StoreSub, look_cons, nm, E.ren, C.ren, C.renL, O.ren, killc, kill0, Function.comp_def, argsFrom, zC, hΓ, tbC_ren, tbC_zero]) ?_; rintro ⟨q, hq⟩; try dsimp only
  (repeat (first | (refine popO rfl ?_; first | (refine gA rfl ?_; first | refine yLm rfl rfl ?_ | ((first | refine yQ (md := true) rfl ?_ ?_ | refine yL rfl rfl (by assumption) rfl rfl ?_ ?_ | refine yT rfl rfl (by assumption) rfl ?_ ?_); (first | exact True.intro | omega | (simp only [oA, oB, oC, oD, oE, oF, oG] at *; omega))) | (refine yB rfl ?_; intro _ _hb) | refine yS rfl rfl ?_ | refine yM rfl rfl (by assumption) rfl rfl rfl ?_ | refine yO rfl rfl rfl ?_ | refine yW rfl rfl ?_ | refine yV rfl rfl rfl rfl (by assumption) rfl rfl rfl rfl ?_ ) | refine popN rfl ?_ | (refine yG rfl rfl ?_ ?_ <;> intro hb <;> subst hb)) | refine AWp.seq ?_ | refine reg (by kernel_rfl) ?_ | refine lexE ?_ | refine regD (noisy []) mixed (by kernel_rfl) (by kernel_rfl) ?_))
  (refine AWp.cond rfl (fun hb => ?_) (fun hb => ?_) <;> cases hb)
  · have hqn : q < a.nx.length := by first | omega | (simp only [oA, oB, oC, oD, oE, oF, oG] at *; omega)
    obtain ⟨row, hr, hrl, hrx⟩ := autOk_row h hqn
    have hr' := get_map (g := iiRow) hr
    refine AWp.skip ?_
    refine AWp.seq (AWp.block ?_)
    (repeat (first | (refine popO rfl ?_; first | (refine gA rfl ?_; first | refine yLm rfl rfl ?_ | ((first | refine yQ (md := true) rfl ?_ ?_ | refine yL rfl rfl (by assumption) rfl rfl ?_ ?_ | refine yT rfl rfl (by assumption) rfl ?_ ?_); (first | exact True.intro | omega | (simp only [oA, oB, oC, oD, oE, oF, oG] at *; omega))) | (refine yB rfl ?_; intro _ _hb) | refine yS rfl rfl ?_ | refine yM rfl rfl (by assumption) rfl rfl rfl ?_ | refine yO rfl rfl rfl ?_ | refine yW rfl rfl ?_ | refine yV rfl rfl rfl rfl (by assumption) rfl rfl rfl rfl ?_ ) | refine popN rfl ?_ | (refine yG rfl rfl ?_ ?_ <;> intro hb <;> subst hb)) | refine AWp.seq ?_ | refine reg (by kernel_rfl) ?_ | refine lexE ?_ | refine regD (noisy []) mixed (by kernel_rfl) (by kernel_rfl) ?_))
    refine AWp.block ?_
    refine AWp.loopL (α := {m : Nat // m ≤ 6}) (fun ⟨m, hm⟩ => [(1, .o (.ip (auRow a))), (3, .o (.arr 0 6 0 a.nx.length)), (4, eInts (letters a.al)), (18, eIntss a.nx), (19, eI .i64 a.nx.length), (20, eI .i64 q), (5, eI .i64 q), (6, eInts row), (25, eI .i64 m)]) (fun ⟨m, hm⟩ => [(0, .cells 102 6 (tbC a.nx.length fun i l => if i < q then goA a i l else if i = q ∧ l < m then q else 0))]) 1 (fun ⟨m, hm⟩ => 6 - m) (⟨0, by omega⟩) [0] (by first | (simp [hΓ]; done) | (rw [hΓ]; decide)) (by (repeat' (first | exact trivial | rfl | refine And.intro ?_ ?_)) <;> simp [EnvSub, StoreSub, look_cons, nm, E.ren, C.ren, C.renL, O.ren, killc, kill0, Function.comp_def, argsFrom, zC, hΓ, tbC_ren]) ?_; rintro ⟨m, hm⟩; try dsimp only
    (repeat (first | (refine popO rfl ?_; first | (refine gA rfl ?_; first | refine yLm rfl rfl ?_ | ((first | refine yQ (md := true) rfl ?_ ?_ | refine yL rfl rfl (by assumption) rfl rfl ?_ ?_ | refine yT rfl rfl (by assumption) rfl ?_ ?_); (first | exact True.intro | omega | (simp only [oA, oB, oC, oD, oE, oF, oG] at *; omega))) | (refine yB rfl ?_; intro _ _hb) | refine yS rfl rfl ?_ | refine yM rfl rfl (by assumption) rfl rfl rfl ?_ | refine yO rfl rfl rfl ?_ | refine yW rfl rfl ?_ | refine yV rfl rfl rfl rfl (by assumption) rfl rfl rfl rfl ?_ ) | refine popN rfl ?_ | (refine yG rfl rfl ?_ ?_ <;> intro hb <;> subst hb)) | refine AWp.seq ?_ | refine reg (by kernel_rfl) ?_ | refine lexE ?_ | refine regD (noisy []) mixed (by kernel_rfl) (by kernel_rfl) ?_))
    (refine AWp.cond rfl (fun hb => ?_) (fun hb => ?_) <;> cases hb)
    · have hm6 : m < 6 := by first | omega | (simp only [oA, oB, oC, oD, oE, oF, oG] at *; omega)
      have hmj : 0 + ((m : Nat) : Int).toNat * 1 + 1 ≤ 6 := by omega
      have hg := tbC_get (H := fun i l => if i < q then goA a i l else if i = q ∧ l < m then q else 0) hqn
      have hs := tbC_set (n := a.nx.length) (q := q) (v := q) (H := fun i l => if i < q then goA a i l else if i = q ∧ l < m then q else 0) hm6
      have hc : (tbC a.nx.length fun (i x : Nat) => if i = q ∧ x = m then (q : Int) else (fun (i l : Nat) => if i < q then goA a i l else if i = q ∧ l < m then (q : Int) else 0) i x) = tbC a.nx.length fun i l => if i < q then goA a i l else if i = q ∧ l < m + 1 then (q : Int) else 0 := tbC_congr fun i _ l _ => by dsimp only; grind
      refine AWp.skip ?_
      refine AWp.seq (AWp.block ?_)
      (repeat (first | (refine popO rfl ?_; first | (refine gA rfl ?_; first | refine yLm rfl rfl ?_ | ((first | refine yQ (md := true) rfl ?_ ?_ | refine yL rfl rfl (by assumption) rfl rfl ?_ ?_ | refine yT rfl rfl (by assumption) rfl ?_ ?_); (first | exact True.intro | omega | (simp only [oA, oB, oC, oD, oE, oF, oG] at *; omega))) | (refine yB rfl ?_; intro _ _hb) | refine yS rfl rfl ?_ | refine yM rfl rfl (by assumption) rfl rfl rfl ?_ | refine yO rfl rfl rfl ?_ | refine yW rfl rfl ?_ | refine yV rfl rfl rfl rfl (by assumption) rfl rfl rfl rfl ?_ ) | refine popN rfl ?_ | (refine yG rfl rfl ?_ ?_ <;> intro hb <;> subst hb)) | refine AWp.seq ?_ | refine reg (by kernel_rfl) ?_ | refine lexE ?_ | refine regD (noisy []) mixed (by kernel_rfl) (by kernel_rfl) ?_))
      (refine popO rfl ?_; refine popW0 ?_ rfl (by rfl); refine n_store rfl rfl rfl rfl (hg) rfl (hmj) ?_)
      (repeat (first | (refine popO rfl ?_; first | (refine gA rfl ?_; first | refine yLm rfl rfl ?_ | ((first | refine yQ (md := true) rfl ?_ ?_ | refine yL rfl rfl (by assumption) rfl rfl ?_ ?_ | refine yT rfl rfl (by assumption) rfl ?_ ?_); (first | exact True.intro | omega | (simp only [oA, oB, oC, oD, oE, oF, oG] at *; omega))) | (refine yB rfl ?_; intro _ _hb) | refine yS rfl rfl ?_ | refine yM rfl rfl (by assumption) rfl rfl rfl ?_ | refine yO rfl rfl rfl ?_ | refine yW rfl rfl ?_ | refine yV rfl rfl rfl rfl (by assumption) rfl rfl rfl rfl ?_ ) | refine popN rfl ?_ | (refine yG rfl rfl ?_ ?_ <;> intro hb <;> subst hb)) | refine AWp.seq ?_ | refine reg (by kernel_rfl) ?_ | refine lexE ?_))
      refine ⟨⟨m + 1, by first | omega | (simp only [oA, oB, oC, oD, oE, oF, oG] at *; omega)⟩, by dsimp only; (first | omega | (simp only [oA, oB, oC, oD, oE, oF, oG] at *; omega)), [0], ?_⟩
      rw [hs, hc]
      simp [EnvSub, StoreSub, look_cons, nm, E.ren, C.ren, C.renL, O.ren, killc, kill0, Function.comp_def, argsFrom, zC, hΓ, tbC_ren]
    · obtain rfl : m = 6 := by first | omega | (simp only [oA, oB, oC, oD, oE, oF, oG] at *; omega)
      have hc0 := tbC_congr (n := a.nx.length) (H := fun i l => if i < q then goA a i l else if i = q ∧ l < 6 then (q : Int) else 0) (H' := fun i l => if i < q then goA a i l else if i = q then (if (l : Int) ∈ (letters a.al).take 0 then goA a q l else (q : Int)) else 0) fun i _ l hl => by simp [hl]
      rw [hc0]
      refine AWp.exit ?_
      (repeat (first | (refine popO rfl ?_; first | (refine gA rfl ?_; first | refine yLm rfl rfl ?_ | ((first | refine yQ (md := true) rfl ?_ ?_ | refine yL rfl rfl (by assumption) rfl rfl ?_ ?_ | refine yT rfl rfl (by assumption) rfl ?_ ?_); (first | exact True.intro | omega | (simp only [oA, oB, oC, oD, oE, oF, oG] at *; omega))) | (refine yB rfl ?_; intro _ _hb) | refine yS rfl rfl ?_ | refine yM rfl rfl (by assumption) rfl rfl rfl ?_ | refine yO rfl rfl rfl ?_ | refine yW rfl rfl ?_ | refine yV rfl rfl rfl rfl (by assumption) rfl rfl rfl rfl ?_ ) | refine popN rfl ?_ | (refine yG rfl rfl ?_ ?_ <;> intro hb <;> subst hb)) | refine AWp.seq ?_ | refine reg (by kernel_rfl) ?_ | refine lexE ?_ | refine regD (noisy []) mixed (by kernel_rfl) (by kernel_rfl) ?_))
      refine AWp.block ?_
      refine AWp.loopL (α := {k : Nat // k ≤ (letters a.al).length}) (fun ⟨k, hk⟩ => [(1, .o (.ip (auRow a))), (3, .o (.arr 0 6 0 a.nx.length)), (4, eInts (letters a.al)), (18, eIntss a.nx), (19, eI .i64 a.nx.length), (20, eI .i64 q), (5, eI .i64 q), (6, eInts row), (35, eInts (letters a.al)), (36, eI .i64 (letters a.al).length), (37, eI .i64 k)]) (fun ⟨k, hk⟩ => [(0, .cells 102 6 (tbC a.nx.length fun i l => if i < q then goA a i l else if i = q then (if (l : Int) ∈ (letters a.al).take k then goA a q l else (q : Int)) else 0))]) 1 (fun ⟨k, hk⟩ => (letters a.al).length - k) (⟨0, by omega⟩) [0] (by first | (simp [hΓ]; done) | (rw [hΓ]; decide)) (by (repeat' (first | exact trivial | rfl | refine And.intro ?_ ?_)) <;> simp [EnvSub, StoreSub, look_cons, nm, E.ren, C.ren, C.renL, O.ren, killc, kill0, Function.comp_def, argsFrom, zC, hΓ, tbC_ren]) ?_; rintro ⟨k, hk⟩; try dsimp only
      (repeat (first | (refine popO rfl ?_; first | (refine gA rfl ?_; first | refine yLm rfl rfl ?_ | ((first | refine yQ (md := true) rfl ?_ ?_ | refine yL rfl rfl (by assumption) rfl rfl ?_ ?_ | refine yT rfl rfl (by assumption) rfl ?_ ?_); (first | exact True.intro | omega | (simp only [oA, oB, oC, oD, oE, oF, oG] at *; omega))) | (refine yB rfl ?_; intro _ _hb) | refine yS rfl rfl ?_ | refine yM rfl rfl (by assumption) rfl rfl rfl ?_ | refine yO rfl rfl rfl ?_ | refine yW rfl rfl ?_ | refine yV rfl rfl rfl rfl (by assumption) rfl rfl rfl rfl ?_ ) | refine popN rfl ?_ | (refine yG rfl rfl ?_ ?_ <;> intro hb <;> subst hb)) | refine AWp.seq ?_ | refine reg (by kernel_rfl) ?_ | refine lexE ?_ | refine regD (noisy []) mixed (by kernel_rfl) (by kernel_rfl) ?_))
      (refine AWp.cond rfl (fun hb => ?_) (fun hb => ?_) <;> cases hb)
      · obtain ⟨l, hl⟩ := get_some (l := letters a.al) (k := k) (by first | omega | (simp only [oA, oB, oC, oD, oE, oF, oG] at *; omega))
        have hl' := get_map (g := iRow) hl
        have hlb := lettersTo_in (List.mem_of_getElem? hl)
        have hpl := letters_place hl
        obtain ⟨y, hy⟩ := get_some (l := row) (k := k) (by first | omega | (simp only [oA, oB, oC, oD, oE, oF, oG] at *; omega))
        have hy' := get_map (g := iRow) hy
        obtain ⟨m, rfl⟩ : ∃ m : Nat, l = m := ⟨l.toNat, by omega⟩
        have hgo : goA a q m = y := by
          unfold goA
          rw [if_pos hlb.2.2, hpl]; simp [List.getD, hr, hy]
        have hm6 : m < 6 := by omega
        have hmj : 0 + ((m : Nat) : Int).toNat * 1 + 1 ≤ 6 := by omega
        have hg := tbC_get (H := fun i l => if i < q then goA a i l else if i = q then (if (l : Int) ∈ (letters a.al).take k then goA a q l else (q : Int)) else 0) hqn
        have hs := tbC_set (n := a.nx.length) (q := q) (v := y) (H := fun i l => if i < q then goA a i l else if i = q then (if (l : Int) ∈ (letters a.al).take k then goA a q l else (q : Int)) else 0) hm6
        have hc : (tbC a.nx.length fun (i x : Nat) => if i = q ∧ x = m then y else (fun (i l : Nat) => if i < q then goA a i l else if i = q then (if (l : Int) ∈ (letters a.al).take k then goA a q l else (q : Int)) else 0) i x) = tbC a.nx.length fun i l => if i < q then goA a i l else if i = q then (if (l : Int) ∈ (letters a.al).take (k + 1) then goA a q l else (q : Int)) else 0 := tbC_congr fun i _ l _ => by
          try dsimp only
          rw [List.take_add_one, hl]
          by_cases e : i = q
          · subst e
            by_cases e2 : l = m
            · subst e2; simp [hgo]
            · have e3 : ¬ (l : Int) = (m : Int) := by omega
              simp [e2, e3]
          · simp [e]
        refine AWp.skip ?_
        refine AWp.seq (AWp.block ?_)
        (repeat (first | (refine popO rfl ?_; first | (refine gA rfl ?_; first | refine yLm rfl rfl ?_ | ((first | refine yQ (md := true) rfl ?_ ?_ | refine yL rfl rfl (by assumption) rfl rfl ?_ ?_ | refine yT rfl rfl (by assumption) rfl ?_ ?_); (first | exact True.intro | omega | (simp only [oA, oB, oC, oD, oE, oF, oG] at *; omega))) | (refine yB rfl ?_; intro _ _hb) | refine yS rfl rfl ?_ | refine yM rfl rfl (by assumption) rfl rfl rfl ?_ | refine yO rfl rfl rfl ?_ | refine yW rfl rfl ?_ | refine yV rfl rfl rfl rfl (by assumption) rfl rfl rfl rfl ?_ ) | refine popN rfl ?_ | (refine yG rfl rfl ?_ ?_ <;> intro hb <;> subst hb)) | refine AWp.seq ?_ | refine reg (by kernel_rfl) ?_ | refine lexE ?_))
        refine regD (noisy [9]) mixed (by kernel_rfl) (by kernel_rfl) ?_
        (repeat (first | (refine popO rfl ?_; first | (refine gA rfl ?_; first | refine yLm rfl rfl ?_ | ((first | refine yQ (md := true) rfl ?_ ?_ | refine yL rfl rfl (by assumption) rfl rfl ?_ ?_ | refine yT rfl rfl (by assumption) rfl ?_ ?_); (first | exact True.intro | omega | (simp only [oA, oB, oC, oD, oE, oF, oG] at *; omega))) | (refine yB rfl ?_; intro _ _hb) | refine yS rfl rfl ?_ | refine yM rfl rfl (by assumption) rfl rfl rfl ?_ | refine yO rfl rfl rfl ?_ | refine yW rfl rfl ?_ | refine yV rfl rfl rfl rfl (by assumption) rfl rfl rfl rfl ?_ ) | refine popN rfl ?_ | (refine yG rfl rfl ?_ ?_ <;> intro hb <;> subst hb)) | refine AWp.seq ?_ | refine reg (by kernel_rfl) ?_ | refine lexE ?_ | refine regD (noisy []) mixed (by kernel_rfl) (by kernel_rfl) ?_))
        (refine popO rfl ?_; refine popW0 ?_ rfl (by rfl); refine n_store rfl rfl rfl rfl (hg) rfl (hmj) ?_)
        (repeat (first | (refine popO rfl ?_; first | (refine gA rfl ?_; first | refine yLm rfl rfl ?_ | ((first | refine yQ (md := true) rfl ?_ ?_ | refine yL rfl rfl (by assumption) rfl rfl ?_ ?_ | refine yT rfl rfl (by assumption) rfl ?_ ?_); (first | exact True.intro | omega | (simp only [oA, oB, oC, oD, oE, oF, oG] at *; omega))) | (refine yB rfl ?_; intro _ _hb) | refine yS rfl rfl ?_ | refine yM rfl rfl (by assumption) rfl rfl rfl ?_ | refine yO rfl rfl rfl ?_ | refine yW rfl rfl ?_ | refine yV rfl rfl rfl rfl (by assumption) rfl rfl rfl rfl ?_ ) | refine popN rfl ?_ | (refine yG rfl rfl ?_ ?_ <;> intro hb <;> subst hb)) | refine AWp.seq ?_ | refine reg (by kernel_rfl) ?_ | refine lexE ?_))
        refine ⟨⟨k + 1, by first | omega | (simp only [oA, oB, oC, oD, oE, oF, oG] at *; omega)⟩, by dsimp only; (first | omega | (simp only [oA, oB, oC, oD, oE, oF, oG] at *; omega)), [0], ?_⟩
        rw [hs, hc]
        simp [EnvSub, StoreSub, look_cons, nm, E.ren, C.ren, C.renL, O.ren, killc, kill0, Function.comp_def, argsFrom, zC, hΓ, tbC_ren]
      · obtain rfl : k = (letters a.al).length := by first | omega | (simp only [oA, oB, oC, oD, oE, oF, oG] at *; omega)
        have hc0 := tbC_congr (n := a.nx.length) (H := fun i l => if i < q then goA a i l else if i = q then (if (l : Int) ∈ (letters a.al).take (letters a.al).length then goA a q l else (q : Int)) else 0) (H' := fun i l => if i < q + 1 then goA a i l else 0) fun i _ l hl => by
          try dsimp only
          rw [List.take_length]
          by_cases e : i = q
          · subst e
            simp only [Nat.lt_irrefl, if_false, if_true, Nat.lt_succ_self]
            by_cases e2 : bitB a.al l = true
            · rw [if_pos (mem_lettersTo.2 ⟨hl, e2⟩)]
            · rw [if_neg (fun h => e2 (mem_lettersTo.1 h).2)]; unfold goA; rw [if_neg (by simpa using e2)]
          · by_cases e2 : i < q
            · rw [if_pos e2, if_pos (by omega)]
            · rw [if_neg e2, if_neg e, if_neg (by omega)]
        rw [hc0]
        refine AWp.exit ?_
        (repeat (first | (refine popO rfl ?_; first | (refine gA rfl ?_; first | refine yLm rfl rfl ?_ | ((first | refine yQ (md := true) rfl ?_ ?_ | refine yL rfl rfl (by assumption) rfl rfl ?_ ?_ | refine yT rfl rfl (by assumption) rfl ?_ ?_); (first | exact True.intro | omega | (simp only [oA, oB, oC, oD, oE, oF, oG] at *; omega))) | (refine yB rfl ?_; intro _ _hb) | refine yS rfl rfl ?_ | refine yM rfl rfl (by assumption) rfl rfl rfl ?_ | refine yO rfl rfl rfl ?_ | refine yW rfl rfl ?_ | refine yV rfl rfl rfl rfl (by assumption) rfl rfl rfl rfl ?_ ) | refine popN rfl ?_ | (refine yG rfl rfl ?_ ?_ <;> intro hb <;> subst hb)) | refine AWp.seq ?_ | refine reg (by kernel_rfl) ?_ | refine lexE ?_ | refine regD (noisy []) mixed (by kernel_rfl) (by kernel_rfl) ?_))
        refine ⟨⟨q + 1, by first | omega | (simp only [oA, oB, oC, oD, oE, oF, oG] at *; omega)⟩, by dsimp only; (first | omega | (simp only [oA, oB, oC, oD, oE, oF, oG] at *; omega)), [0], ?_⟩
        simp [EnvSub, StoreSub, look_cons, nm, E.ren, C.ren, C.renL, O.ren, killc, kill0, Function.comp_def, argsFrom, zC, hΓ, tbC_ren]
  · obtain rfl : q = a.nx.length := by first | omega | (simp only [oA, oB, oC, oD, oE, oF, oG] at *; omega)
    have hc := tbC_congr (n := a.nx.length) (H := fun i l => if i < a.nx.length then goA a i l else 0) (H' := fun i l => goA a i l) fun i hi l _ => by rw [if_pos hi]
    rw [hc]
    refine AWp.exit ?_
    (repeat (first | (refine popO rfl ?_; first | (refine gA rfl ?_; first | refine yLm rfl rfl ?_ | ((first | refine yQ (md := true) rfl ?_ ?_ | refine yL rfl rfl (by assumption) rfl rfl ?_ ?_ | refine yT rfl rfl (by assumption) rfl ?_ ?_); (first | exact True.intro | omega | (simp only [oA, oB, oC, oD, oE, oF, oG] at *; omega))) | (refine yB rfl ?_; intro _ _hb) | refine yS rfl rfl ?_ | refine yM rfl rfl (by assumption) rfl rfl rfl ?_ | refine yO rfl rfl rfl ?_ | refine yW rfl rfl ?_ | refine yV rfl rfl rfl rfl (by assumption) rfl rfl rfl rfl ?_ ) | refine popN rfl ?_ | (refine yG rfl rfl ?_ ?_ <;> intro hb <;> subst hb)) | refine AWp.seq ?_ | refine reg (by kernel_rfl) ?_ | refine lexE ?_ | refine regD (noisy []) mixed (by kernel_rfl) (by kernel_rfl) ?_))
    refine AWp.freeze [0] [(2, .o (.d (.l (tblD a))))] ⟨⟨_, rfl, .o (.full (by simp) rfl (tbC_d a) (by simp [tbC_len]))⟩, trivial⟩ ?_
    refine AWp.ret ⟨_, rfl, rfl⟩
end Go.Am
/-
  A struct's literal with a slice of the call's own; results in memory.
-/
namespace Go.Am
open Go
section
variable {P : Program} {TB : List (Nat × Obj)} {Γ : Ctx} {d : Option Tmp} {ty : TypeId} {pos : String} {af : Array Edge} {g : Option (Nat × Bool)} {f : Env} {σ : Store} {nx : Nat}
variable {K : E → Store → Nat → Prop}
theorem run_build {t : TypeId} {fl : List (Nat × Nat)} {parts : Array (Nat × Operand)} {ρ : Operand → Value} {V : View} {i : TypeInfo} {zv : Value} {cells : Array Value} (hi : P.info? t = some i) (hzv : i.zero = some zv) (hh : flF P t = some fl)
    (h3 : Instr.fill (fl[·]?) zv.cells (parts.toList.map fun (i, x) => (i, ρ x)) = some cells) : (Instr.build t (parts.map fun (i, x) => (i, ρ x))).run P V.w = .ok (.agg cells) V.w := by
  have hparts : (parts.map fun (i, x) => (i, ρ x)).toList = parts.toList.map fun (i, x) => (i, ρ x) := by simp
  unfold flF at hh
  split at hh
  · rename_i fs hu
    have hpl : ∀ (l : List Field) (ll : List (Nat × Nat)), (l.mapM fun f => (P.info? f.type).map fun i => (f.offset, i.size)) = some ll → ∀ w, ((l.mapM fun f => do pure (f.offset, ← sizeOf f.type)) : Sem (List (Nat × Nat))).run P w = .ok ll w := by
      intro l
      induction l with
      | nil => intro ll h w; simp at h; subst h; simp [go_sem]
      | cons y l ih =>
        intro ll h w
        simp only [List.mapM_cons, Option.bind_eq_bind, Option.bind_eq_some_iff, Option.map_eq_some_iff] at h
        obtain ⟨p, ⟨ii, hii, rfl⟩, ll', h5, h6⟩ := h
        simp at h6
        subst h6
        have hs : (sizeOf y.type).run P w = .ok ii.size w := by simp [sizeOf, typeInfo, hii, go_sem]
        have ihh := ih ll' h5 w
        simp only [bind_pure_comp] at ihh
        simp only [List.mapM_cons, Sem.run_bind, hs, Result.andThen_ok, bind_pure_comp, Sem.run_map, ihh]
    have hpl2 := hpl fs.toList fl hh V.w
    have hz0 : (zeroValue t).run P V.w = .ok zv V.w := by simp [zeroValue, typeInfo, hi, hzv, go_sem]
    have ha : ((fs.mapM fun f => do pure (f.offset, ← sizeOf f.type)) : Sem (Array (Nat × Nat))).run P V.w = .ok fl.toArray V.w := by
      rw [Array.mapM_eq_mapM_toList, Sem.run_map, hpl2]; rfl
    rw [← hparts] at h3
    simp only [Instr.build, Sem.run_bind, hz0, Result.andThen_ok, run_underlying hu, ha]
    simp only [List.getElem?_toArray]
    rw [h3]
    rfl
  · rename_i n e hu
    simp only [Option.map_eq_some_iff] at hh
    obtain ⟨ii, hii, rfl⟩ := hh
    have hz0 : (zeroValue t).run P V.w = .ok zv V.w := by simp [zeroValue, typeInfo, hi, hzv, go_sem]
    have hs : (sizeOf e).run P V.w = .ok ii.size V.w := by simp [sizeOf, typeInfo, hii, go_sem]
    have hfill : ∀ (ps : List (Nat × Value)) (c c' : Array Value), Instr.fill (fun i => ((List.range n).map fun j => (j * ii.size, ii.size))[i]?) c ps = some c' → Instr.fill (fun i => some (i * ii.size, ii.size)) c ps = some c' := by
      intro ps
      induction ps with
      | nil => intro c c' h; simpa [Instr.fill] using h
      | cons p ps ih =>
        intro c c' h
        obtain ⟨i', v'⟩ := p
        unfold Instr.fill at h ⊢
        by_cases hlt : i' < n
        · simp only [List.getElem?_map, List.getElem?_range hlt, Option.map_some] at h
          simp only at h ⊢
          split at h
          · cases h
          · rename_i hno
            rw [if_neg hno]; exact ih _ _ (by simpa only [List.getElem?_map] using h)
        · simp [hlt] at h
    rw [← hparts] at h3
    simp only [Instr.build, Sem.run_bind, hz0, Result.andThen_ok, run_underlying hu, hs]
    rw [hfill _ _ _ h3]
    rfl
  · cases hh
/-- A struct's literal; of its zeros one, a slice, is the call's own. -/
theorem n_buildN {t : TypeId} {z : List Value} {fl : List (Nat × Nat)} {parts : Array (Nat × Operand)} {es : List E} {qs : List (Nat × List C)} [hz : HasZe P t z] [hf : HasFl P t fl] (p k e : Nat) (hp : z[p]? = some (.slice none 0 0)) (hes : evs f (parts.toList.map (·.2)) = some es) (hq : offParts fl parts.toList es = some qs)
    (hok : z.all zOk = true) (hle : (qs.all fun x => Nat.ble (x.1 + x.2.length) z.length) = true) (hK : K (.a (fillC qs ((z.map zC).set p (.arr nx k 0 0)))) ((nx, .cells e k []) :: σ) (nx + 1)) : AOp P TB Γ ⟨d, .build t parts, ty, pos, af, g⟩ f σ nx K :=
  n_of_run fun V ρ h1 h2 h3 => by
    subst h3
    obtain ⟨i, zv, hi, hzv, hzz⟩ := ze_inv hz.out
    obtain ⟨hi2, he2⟩ := h2.alloc (c := 0) (nl := True) (w := V.w) (ob := .cells e k []) rfl rfl rfl (Nat.le_refl _) (fun _ _ => rfl) (.inl ⟨by simp [newV], rfl⟩)
    have hfo := offParts_fill (V := newV V V.w.heap.size 0 True V.w) (ρ := ρ) parts.toList es qs (fun x hx e he => (h1.get (by simp only [Op.operands]; simpa using hx) he).ext he2) hes hq
    have hzr : LRel (newV V V.w.heap.size 0 True V.w) ((z.map zC).set p (.arr V.nx k 0 0)) zv.cells := by
      refine ⟨by rw [List.length_set, List.length_map, ← hzz]; simp, fun j c v hj hv => ?_⟩
      have hzj : z[j]? = some v := by rw [← hzz, Array.getElem?_toList]; exact hv
      by_cases hjp : p = j
      · subst hjp
        rw [hp] at hzj
        injection hzj with hzj
        subst hzj
        rw [List.getElem?_set_self (by rw [List.length_map]; exact (List.getElem?_eq_some_iff.1 hp).1)] at hj
        injection hj with hj
        subst hj
        exact CRel.nil (by simp [newV]) (by simp [newV])
      · rw [List.getElem?_set_ne hjp, List.getElem?_map, hzj] at hj
        injection hj with hj
        subst hj
        exact zC_rel (List.all_eq_true.1 hok v (List.mem_of_getElem? hzj))
    obtain ⟨cells, h4, h5⟩ := fill_rel _ _ _ _ hfo hzr (fun x hx => by rw [List.length_set, List.length_map]; exact fillC_ok _ _ hle x hx)
    have hb := run_build (P := P) (ρ := ρ) (parts := parts) (V := V) hi hzv hf.out h4
    refine ⟨.agg cells, _, _, _, ?_, he2, hi2, (show ERel _ (.a _) _ from ⟨cells, rfl, h5⟩), hK⟩
    show ((do let v ← Instr.build t (parts.map fun (i, x) => (i, ρ x)); pure (Next.value v) : Sem Next)).run P V.w = _
    simp only [Sem.run_bind, hb, Result.andThen_ok]
    rfl
end

/-! Results in memory. -/
section
variable {P : Program} {TB : List (Nat × Obj)}
def RetQC (t : Tmp) (ids : List Nat) (post : E → Store → Nat → Prop) : Exit → Env → Store → Nat → Prop
  | .ret, f, σ, nx | .normal, f, σ, nx => ∃ id k i T rows r x, f t = some (.o (.ptr id k i 0)) ∧ look σ id = some (.cells T k rows) ∧ rows[i]? = some r ∧ FE σ ids (.a r) x ∧ post x (killL ids σ) nx
  | _, _, _, _ => False
theorem res_cell {fn : Func} {V : View} {Γ : Ctx} {f : Env} {a : Act} {σ : Store} {t : Tmp} {T' : TypeId} {n : Nat} {id k i : Nat} {T : TypeId} {rows : List (List C)} {r : List C} [hl : HasLd P T' true n] (hn : n = k) (hrs : fn.results = #[.cell t T']) (hE : EnvRel V f a.tmps) (hi : Inv TB Γ V σ) (ht : f t = some (.o (.ptr id k i 0))) (ho : look σ id = some (.cells T k rows)) (hr : rows[i]? = some r) :
    ∃ v, (results fn a.tmps).run P V.w = .ok v V.w ∧ ERel V (.a r) v := by
  have h3 := hE t _ ht
  subst hn
  have hres : ∀ w, (results fn a.tmps).run P w = ((do loadVar T' (← asAddr (a.tmps.getD t undef))) : Sem Value).run P w := fun w => by
    simp [results, hrs, -Array.getD_eq_getD_getElem?, go_sem]
  generalize hv : a.tmps.getD t undef = v0 at h3 hres
  cases h3 with
  | ptr hid hnl =>
    rcases hi.st.obj id _ ho with ⟨h4, _⟩ | ⟨_, cur, h4, h5, h6, h7, h8, h9⟩
    · exact absurd h4 hnl
    · have hrl := h8 r (List.mem_of_getElem? hr)
      rw [Nat.add_zero] at hres
      have hcell : ∀ q, q < n → ∃ v, cur[i * n + q]? = some v ∧ CRel V (r[q]?.getD (.d (.l []))) v := fun q hq => by
        have hlt : q < r.length := by omega
        obtain ⟨v, h10, h11⟩ := h9 i r q r[q] hr (List.getElem?_eq_getElem hlt)
        exact ⟨v, h10, by rw [List.getElem?_eq_getElem hlt]; exact h11⟩
      refine ⟨.agg ((List.range n).map fun q => cur.getD (i * n + q) undef).toArray, ?_, _, rfl, by simp [hrl], ?_⟩
      · have : (loadCells ⟨V.ρ id, i * n, none⟩ n).run P V.w = .ok ((List.range n).map fun q => cur.getD (i * n + q) undef).toArray V.w := run_loadCells V.w _ n _ fun q hq => by
          rw [addr_add]
          obtain ⟨v, h10, _⟩ := hcell q hq
          have : cur.getD (i * n + q) undef = v := by simp [h10]
          rw [this]
          simp [World.cell?, h4, h10]
        unfold loadCells at this
        rw [hres]
        simp [asAddr, loadVar, (run_isAgg hl.out V.w).1, (run_isAgg hl.out V.w).2, this, go_sem]
      · intro q c v hj hv'
        have hq : q < n := by have := (List.getElem?_eq_some_iff.1 hj).1; omega
        obtain ⟨v', h10, h11⟩ := hcell q hq
        rw [hj] at h11
        have : v = v' := by simpa [hq, h10] using hv'.symm
        rw [this]; exact h11
theorem frz_inv {V : View} {Γ : Ctx} {σ : Store} (hi : Inv TB Γ V σ) (ids : List Nat) : Inv TB Γ (frzV V σ ids) (killL ids σ) := by
  have h : RelSt TB Γ 0 V (fun _ => none) σ V.nx { tmps := #[], defers := [] } := ⟨fun t e h => (by cases h), fun t e h => (by cases h), rfl, hi, rfl, rfl⟩
  exact (h.freeze ids [] trivial).inv
theorem Spec.ofC {g : FuncId} {fn : Func} {c : Code} {σ : Store} {nx : Nat} {args : List E} {post : E → Store → Nat → Prop} (t : Tmp) (T' : TypeId) (n : Nat) (ids : List Nat) [hl : HasLd P T' true n] (hf : P.funcs[g]? = some fn) (hb : fn.body = some c) (hname : (fn.name == "runtime.NumGoroutine") = false) (hrs : fn.results = #[.cell t T'])
    (hargs : args.length ≤ fn.ntmps) (h : ∀ Γ : Ctx, Γ.V.nx = nx → AWp P TB Γ fn.ntmps c (fun e f σ nx => RetQC t ids post e f σ nx ∧ ∀ id k i, f t = some (.o (.ptr id k i 0)) → k = n) (look (argsFrom 0 args)) σ nx) : Spec P TB g σ nx args post := by
  refine ⟨⟨fn, hf, hname, by rw [hb]; rfl⟩, ?_⟩
  intro V vs hg ha
  refine calls_of_wp hf hb ?_
  have hs : vs.size ≤ fn.ntmps := by rw [ha.1]; exact hargs
  have hr : RelSt TB ⟨V, Foot V σ⟩ fn.ntmps V (look (argsFrom 0 args)) σ nx { tmps := vs ++ Array.replicate (fn.ntmps - vs.size) undef, defers := [] } := by
    refine ⟨?_, ?_, by simp; omega, hg.inv, hg.nx, rfl⟩
    · intro t e he
      obtain ⟨_, h2⟩ := argsFrom_look args 0 t e he
      have h2 : args[t]? = some e := by simpa using h2
      have hlt : t < vs.size := by rw [ha.1]; exact (List.getElem?_eq_some_iff.1 h2).1
      have h3 := ha.2 t e vs[t] h2 (Array.getElem?_eq_getElem hlt)
      simpa [Array.getElem?_append_left hlt, hlt] using h3
    · intro t e he
      obtain ⟨_, h2⟩ := argsFrom_look args 0 t e he
      have h2 : args[t]? = some e := by simpa using h2
      have := (List.getElem?_eq_some_iff.1 h2).1
      omega
  refine wp_mono (h ⟨V, Foot V σ⟩ hg.nx V _ hr) ?_
  rintro e a' w' ⟨V', f', σ', rfl, ⟨hq, hkn⟩, hr'⟩
  have fin : (∃ id k i T rows r x, f' t = some (.o (.ptr id k i 0)) ∧ look σ' id = some (.cells T k rows) ∧ rows[i]? = some r ∧ FE σ' ids (.a r) x ∧ post x (killL ids σ') V'.nx) → ∃ v, (results fn a'.tmps).run P V'.w = .ok v V'.w ∧ ∃ V'' v' x σ'', Ending.returned v = .returned v' ∧ V''.w = V'.w ∧ Inv TB ⟨V, Foot V σ⟩ V'' σ'' ∧ ERel V'' x v' ∧ post x σ'' V''.nx := by
    rintro ⟨id, k, i, T, rows, r, x, h1, h2, h3, h4, h5⟩
    obtain ⟨v, hv, he⟩ := res_cell (P := P) (hkn id k i h1).symm hrs hr'.env hr'.inv h1 h2 h3
    exact ⟨v, hv, frzV V' σ' ids, v, x, _, rfl, rfl, frz_inv hr'.inv ids, h4.rel hr'.inv he, h5⟩
  cases e with
  | normal => exact ⟨hr'.defers, fin hq⟩
  | ret => exact ⟨hr'.defers, fin hq⟩
  | exit id => exact hq.elim
  | goto l => exact hq.elim
  | panic ch => exact hq.elim
  | outgrown => exact hq.elim
end
end Go.Am
/-
  Systems that run together.
-/
namespace Go.Am
open Go Go.Proofs
set_option linter.unusedSimpArgs false
set_option linter.unusedVariables false
attribute [local irreducible] QOp AOp Lex LexO AWp Spec
variable {TB : List (Nat × Obj)}

abbrev mvpRow (s : Sys) : List D := [.p (mvRow s.es)]
abbrev mvpRowC (s : Sys) : List C := [.d (.p (mvRow s.es))]
abbrev eParts (l : List Sys) : E := .a [.d (syList l), .d (.l (l.map mvpRow))]
abbrev paRow (l : List Sys) : List D := [syList l, .l (l.map mvpRow)]
theorem newParts_ok (l : List Sys) (h : ∀ s ∈ l, sysOk s = true) (hl : l.length ≤ 3) : Pure Tryd.prog TB 68 [eSyss l] (eParts l) := by
  refine Spec.ofC 2 98 2 [1] Tryd.func68 rfl (by kernel_rfl) rfl (Nat.le_of_ble_eq_true rfl) ?_; intro Γ hΓ
  (repeat (first | (refine popO rfl ?_; first | (refine gA rfl ?_; first | refine yLm rfl rfl ?_ | ((first | refine yQ (md := true) rfl ?_ ?_ | refine yL rfl rfl (by assumption) rfl rfl ?_ ?_ | refine yT rfl rfl (by assumption) rfl ?_ ?_); (first | exact True.intro | omega | (simp only [oA, oB, oC, oD, oE, oF, oG] at *; omega))) | (refine yB rfl ?_; intro _ _hb) | refine yS rfl rfl ?_ | refine yM rfl rfl (by assumption) rfl rfl rfl ?_ | refine yO rfl rfl rfl ?_ | refine yW rfl rfl ?_ | refine yV rfl rfl rfl rfl (by assumption) rfl rfl rfl rfl ?_ ) | refine popN rfl ?_ | (refine yG rfl rfl ?_ ?_ <;> intro hb <;> subst hb)) | refine AWp.seq ?_ | refine reg (by kernel_rfl) ?_ | refine lexE ?_))
  (refine popO rfl ?_; refine popW ?_ rfl (by rfl); refine n_buildN 1 1 112 rfl rfl rfl (by rfl) (by rfl) ?_)
  (repeat (first | (refine popO rfl ?_; first | (refine gA rfl ?_; first | refine yLm rfl rfl ?_ | ((first | refine yQ (md := true) rfl ?_ ?_ | refine yL rfl rfl (by assumption) rfl rfl ?_ ?_ | refine yT rfl rfl (by assumption) rfl ?_ ?_); (first | exact True.intro | omega | (simp only [oA, oB, oC, oD, oE, oF, oG] at *; omega))) | (refine yB rfl ?_; intro _ _hb) | refine yS rfl rfl ?_ | refine yM rfl rfl (by assumption) rfl rfl rfl ?_ | refine yO rfl rfl rfl ?_ | refine yW rfl rfl ?_ | refine yV rfl rfl rfl rfl (by assumption) rfl rfl rfl rfl ?_ ) | refine popN rfl ?_ | (refine yG rfl rfl ?_ ?_ <;> intro hb <;> subst hb)) | refine AWp.seq ?_ | refine reg (by kernel_rfl) ?_ | refine lexE ?_))
  refine AWp.block ?_
  refine AWp.loopL (α := {k : Nat // k ≤ l.length}) (fun ⟨k, hk⟩ => [(2, .o (.ptr 0 2 0 0)), (3, .o (.ptr 2 2 0 0)), (8, eSyss l), (9, eI .i64 l.length), (10, eI .i64 k)]) (fun ⟨k, hk⟩ => [(0, .cells 98 2 [[.d (.l []), .d (.l [])]]), (1, .cells 112 1 ((l.take k).map mvpRowC)), (2, .cells 98 2 [[.d (syList l), .arr 1 1 0 k]])]) 3 (fun ⟨k, hk⟩ => l.length - k) (⟨0, by omega⟩) [0, 1, 2] (by first | (simp [hΓ]; done) | (rw [hΓ]; decide)) (by (repeat' (first | exact trivial | rfl | refine And.intro ?_ ?_)) <;> simp [EnvSub, StoreSub, look_cons, nm, E.ren, C.ren, C.renL, O.ren, killc, kill0, Function.comp_def, argsFrom, zC, hΓ, List.set_cons_zero, spliceC, eC]) ?_; rintro ⟨k, hk⟩; try dsimp only
  (repeat (first | (refine popO rfl ?_; first | (refine gA rfl ?_; first | refine yLm rfl rfl ?_ | ((first | refine yQ (md := true) rfl ?_ ?_ | refine yL rfl rfl (by assumption) rfl rfl ?_ ?_ | refine yT rfl rfl (by assumption) rfl ?_ ?_); (first | exact True.intro | omega | (simp only [oA, oB, oC, oD, oE, oF, oG] at *; omega))) | (refine yB rfl ?_; intro _ _hb) | refine yS rfl rfl ?_ | refine yM rfl rfl (by assumption) rfl rfl rfl ?_ | refine yO rfl rfl rfl ?_ | refine yW rfl rfl ?_ | refine yV rfl rfl rfl rfl (by assumption) rfl rfl rfl rfl ?_ ) | refine popN rfl ?_ | (refine yG rfl rfl ?_ ?_ <;> intro hb <;> subst hb)) | refine AWp.seq ?_ | refine reg (by kernel_rfl) ?_ | refine lexE ?_ | refine regD (noisy []) mixed (by kernel_rfl) (by kernel_rfl) ?_))
  (refine AWp.cond rfl (fun hb => ?_) (fun hb => ?_) <;> cases hb)
  · obtain ⟨x, hx⟩ := get_some (l := l) (k := k) (by first | omega | (simp only [oA, oB, oC, oD, oE, oF, oG] at *; omega))
    have hx' := get_map (g := syRow) hx
    have hxo := h x (List.mem_of_getElem? hx)
    refine AWp.skip ?_
    refine AWp.seq (AWp.block ?_)
    (repeat (first | (refine popO rfl ?_; first | (refine gA rfl ?_; first | refine yLm rfl rfl ?_ | ((first | refine yQ (md := false) rfl ?_ ?_ | refine yL rfl rfl (by assumption) rfl rfl ?_ ?_ | refine yT rfl rfl (by assumption) rfl ?_ ?_); (first | exact True.intro | omega | (simp only [oA, oB, oC, oD, oE, oF, oG] at *; omega))) | (refine yB rfl ?_; intro _ _hb) | refine yS rfl rfl ?_ | refine yM rfl rfl (by assumption) rfl rfl rfl ?_ | refine yZ rfl rfl rfl rfl rfl rfl ?_ | refine yY rfl rfl rfl ?_ | refine yO rfl rfl rfl ?_ | refine yW rfl rfl ?_ | refine yV rfl rfl rfl rfl (by assumption) rfl rfl rfl rfl ?_ ) | refine popN rfl ?_ | (refine yG rfl rfl ?_ ?_ <;> intro hb <;> subst hb)) | refine AWp.seq ?_ | refine reg (by kernel_rfl) ?_ | refine lexE ?_))
    refine regD (noisy [5, 7]) mixed (by kernel_rfl) (by kernel_rfl) ?_
    (repeat (first | (refine popO rfl ?_; first | (refine gA rfl ?_; first | refine yLm rfl rfl ?_ | ((first | refine yQ (md := false) rfl ?_ ?_ | refine yL rfl rfl (by assumption) rfl rfl ?_ ?_ | refine yT rfl rfl (by assumption) rfl ?_ ?_); (first | exact True.intro | omega | (simp only [oA, oB, oC, oD, oE, oF, oG] at *; omega))) | (refine yB rfl ?_; intro _ _hb) | refine yS rfl rfl ?_ | refine yM rfl rfl (by assumption) rfl rfl rfl ?_ | refine yZ rfl rfl rfl rfl rfl rfl ?_ | refine yY rfl rfl rfl ?_ | refine yO rfl rfl rfl ?_ | refine yW rfl rfl ?_ | refine yV rfl rfl rfl rfl (by assumption) rfl rfl rfl rfl ?_ | refine yP rfl rfl rfl (movesOf_ok x hxo) rfl ?_ ) | refine popN rfl ?_ | (refine yG rfl rfl ?_ ?_ <;> intro hb <;> subst hb)) | refine AWp.seq ?_ | refine reg (by kernel_rfl) ?_ | refine lexE ?_ | refine regD (noisy []) mixed (by kernel_rfl) (by kernel_rfl) ?_))
    (refine popO rfl ?_; refine popW ?_ rfl (by rfl); refine n_append rfl rfl rfl (by first | (simp; done) | (simp; (first | omega | (simp only [oA, oB, oC, oD, oE, oF, oG] at *; omega)))) rfl (by intro r hr; simp at hr; subst hr; rfl) (by rfl) (Nat.le_of_ble_eq_true rfl) (by simp; first | omega | (simp only [oA, oB, oC, oD, oE, oF, oG] at *; omega)) ?_)
    (repeat (first | (refine popO rfl ?_; first | (refine gA rfl ?_; first | refine yLm rfl rfl ?_ | ((first | refine yQ (md := false) rfl ?_ ?_ | refine yL rfl rfl (by assumption) rfl rfl ?_ ?_ | refine yT rfl rfl (by assumption) rfl ?_ ?_); (first | exact True.intro | omega | (simp only [oA, oB, oC, oD, oE, oF, oG] at *; omega))) | (refine yB rfl ?_; intro _ _hb) | refine yS rfl rfl ?_ | refine yM rfl rfl (by assumption) rfl rfl rfl ?_ | refine yO rfl rfl rfl ?_ | refine yW rfl rfl ?_ | refine yV rfl rfl rfl rfl (by assumption) rfl rfl rfl rfl ?_ ) | refine popN rfl ?_ | (refine yG rfl rfl ?_ ?_ <;> intro hb <;> subst hb)) | refine AWp.seq ?_ | refine reg (by kernel_rfl) ?_ | refine lexE ?_ | refine regD (noisy []) mixed (by kernel_rfl) (by kernel_rfl) ?_))
    refine ⟨⟨k + 1, by first | omega | (simp only [oA, oB, oC, oD, oE, oF, oG] at *; omega)⟩, by dsimp only; (first | omega | (simp only [oA, oB, oC, oD, oE, oF, oG] at *; omega)), [0, 4, 2], ?_⟩
    simp [EnvSub, StoreSub, look_cons, nm, E.ren, C.ren, C.renL, O.ren, killc, kill0, Function.comp_def, argsFrom, zC, hΓ, List.take_add_one, hx, spliceC, eC]
  · obtain rfl : k = l.length := by first | omega | (simp only [oA, oB, oC, oD, oE, oF, oG] at *; omega)
    refine AWp.exit ?_
    (repeat (first | (refine popO rfl ?_; first | (refine gA rfl ?_; first | refine yLm rfl rfl ?_ | ((first | refine yQ (md := true) rfl ?_ ?_ | refine yL rfl rfl (by assumption) rfl rfl ?_ ?_ | refine yT rfl rfl (by assumption) rfl ?_ ?_); (first | exact True.intro | omega | (simp only [oA, oB, oC, oD, oE, oF, oG] at *; omega))) | (refine yB rfl ?_; intro _ _hb) | refine yS rfl rfl ?_ | refine yM rfl rfl (by assumption) rfl rfl rfl ?_ | refine yO rfl rfl rfl ?_ | refine yW rfl rfl ?_ | refine yV rfl rfl rfl rfl (by assumption) rfl rfl rfl rfl ?_ ) | refine popN rfl ?_ | (refine yG rfl rfl ?_ ?_ <;> intro hb <;> subst hb)) | refine AWp.seq ?_ | refine reg (by kernel_rfl) ?_ | refine lexE ?_ | refine regD (noisy []) mixed (by kernel_rfl) (by kernel_rfl) ?_))
    rw [List.take_length]
    refine AWp.ret ⟨⟨0, 2, 0, 98, _, [.d (syList l), .arr 1 1 0 l.length], _, rfl, rfl, rfl, .cons .keep (.cons (.full (by simp) rfl (by simp [Function.comp_def]) (by simp)) .nil), rfl⟩, ?_⟩
    intro id k i h
    injection h with h; injection h with h; injection h with _ h; exact h.symm
/-- The number of states together. -/
theorem size_ok (l : List Sys) (h : ∀ s ∈ l, sysOk s = true) (hl : l.length ≤ 3) : Pure Tryd.prog TB 75 [eParts l] (eI .i64 (prodI (l.map (·.st)))) := by
  have hpos : ∀ z ∈ l.map (·.st), 1 ≤ z ∧ z ≤ 16 := by
    intro z hz
    obtain ⟨s, hs, rfl⟩ := List.mem_map.1 hz
    have := sysOk_head (h s hs)
    omega
  refine Spec.of Tryd.func75 rfl (by kernel_rfl) (Nat.le_of_ble_eq_true rfl) ?_; intro Γ hΓ
  (repeat (first | (refine popO rfl ?_; first | (refine gA rfl ?_; first | refine yLm rfl rfl ?_ | ((first | refine yQ (md := true) rfl ?_ ?_ | refine yL rfl rfl (by assumption) rfl rfl ?_ ?_ | refine yT rfl rfl (by assumption) rfl ?_ ?_); (first | exact True.intro | omega | (simp only [oA, oB, oC, oD, oE, oF, oG] at *; omega))) | (refine yB rfl ?_; intro _ _hb) | refine yS rfl rfl ?_ | refine yM rfl rfl (by assumption) rfl rfl rfl ?_ | refine yO rfl rfl rfl ?_ | refine yW rfl rfl ?_ | refine yV rfl rfl rfl rfl (by assumption) rfl rfl rfl rfl ?_ ) | refine popN rfl ?_ | (refine yG rfl rfl ?_ ?_ <;> intro hb <;> subst hb)) | refine AWp.seq ?_ | refine reg (by kernel_rfl) ?_ | refine lexE ?_ | refine regD (noisy []) mixed (by kernel_rfl) (by kernel_rfl) ?_))
  (refine popO rfl ?_; refine popS (fun _ _ => q_boxI rfl rfl rfl) rfl ?_)
  (repeat (first | (refine popO rfl ?_; first | (refine gA rfl ?_; first | refine yLm rfl rfl ?_ | ((first | refine yQ (md := true) rfl ?_ ?_ | refine yL rfl rfl (by assumption) rfl rfl ?_ ?_ | refine yT rfl rfl (by assumption) rfl ?_ ?_); (first | exact True.intro | omega | (simp only [oA, oB, oC, oD, oE, oF, oG] at *; omega))) | (refine yB rfl ?_; intro _ _hb) | refine yS rfl rfl ?_ | refine yM rfl rfl (by assumption) rfl rfl rfl ?_ | refine yO rfl rfl rfl ?_ | refine yW rfl rfl ?_ | refine yV rfl rfl rfl rfl (by assumption) rfl rfl rfl rfl ?_ ) | refine popN rfl ?_ | (refine yG rfl rfl ?_ ?_ <;> intro hb <;> subst hb)) | refine AWp.seq ?_ | refine reg (by kernel_rfl) ?_ | refine lexE ?_ | refine regD (noisy []) mixed (by kernel_rfl) (by kernel_rfl) ?_))
  refine AWp.block ?_
  refine AWp.loopL (α := {k : Nat // k ≤ l.length}) (fun ⟨k, hk⟩ => [(3, eI .i64 (prodI ((l.map (·.st)).take k))), (7, eSyss l), (8, eI .i64 l.length), (9, eI .i64 k)]) (fun ⟨k, hk⟩ => []) 0 (fun ⟨k, hk⟩ => l.length - k) (⟨0, by omega⟩) [] (by first | (simp [hΓ]; done) | (rw [hΓ]; decide)) (by (repeat' (first | exact trivial | rfl | refine And.intro ?_ ?_)) <;> simp [EnvSub, StoreSub, look_cons, nm, E.ren, C.ren, C.renL, O.ren, killc, kill0, Function.comp_def, argsFrom, zC, hΓ, prodI]) ?_; rintro ⟨k, hk⟩; try dsimp only
  (repeat (first | (refine popO rfl ?_; first | (refine gA rfl ?_; first | refine yLm rfl rfl ?_ | ((first | refine yQ (md := true) rfl ?_ ?_ | refine yL rfl rfl (by assumption) rfl rfl ?_ ?_ | refine yT rfl rfl (by assumption) rfl ?_ ?_); (first | exact True.intro | omega | (simp only [oA, oB, oC, oD, oE, oF, oG] at *; omega))) | (refine yB rfl ?_; intro _ _hb) | refine yS rfl rfl ?_ | refine yM rfl rfl (by assumption) rfl rfl rfl ?_ | refine yO rfl rfl rfl ?_ | refine yW rfl rfl ?_ | refine yV rfl rfl rfl rfl (by assumption) rfl rfl rfl rfl ?_ ) | refine popN rfl ?_ | (refine yG rfl rfl ?_ ?_ <;> intro hb <;> subst hb)) | refine AWp.seq ?_ | refine reg (by kernel_rfl) ?_ | refine lexE ?_ | refine regD (noisy []) mixed (by kernel_rfl) (by kernel_rfl) ?_))
  (refine AWp.cond rfl (fun hb => ?_) (fun hb => ?_) <;> cases hb)
  · obtain ⟨x, hx⟩ := get_some (l := l) (k := k) (by first | omega | (simp only [oA, oB, oC, oD, oE, oF, oG] at *; omega))
    have hx' := get_map (g := syRow) hx
    have hxo := hpos x.st (List.mem_map.2 ⟨x, List.mem_of_getElem? hx, rfl⟩)
    have hz : (l.map (·.st))[k]? = some x.st := by simp [hx]
    have h1 := prodI_step hz
    have h2 := prodI_le ((l.map (·.st)).take (k + 1)) fun z hz => hpos z (List.mem_of_mem_take hz)
    have h3 : (16 : Int) ^ ((l.map (·.st)).take (k + 1)).length ≤ 4096 := by
      have : ((l.map (·.st)).take (k + 1)).length ≤ 3 := by simp; omega
      generalize ((l.map (·.st)).take (k + 1)).length = n at this
      have : n = 0 ∨ n = 1 ∨ n = 2 ∨ n = 3 := by omega
      rcases this with rfl | rfl | rfl | rfl <;> decide
    rw [h1] at h2
    refine AWp.skip ?_
    refine AWp.seq (AWp.block ?_)
    (repeat (first | (refine popO rfl ?_; first | (refine gA rfl ?_; first | refine yLm rfl rfl ?_ | ((first | refine yQ (md := false) rfl ?_ ?_ | refine yL rfl rfl (by assumption) rfl rfl ?_ ?_ | refine yT rfl rfl (by assumption) rfl ?_ ?_); (first | exact True.intro | omega | (simp only [oA, oB, oC, oD, oE, oF, oG] at *; omega))) | (refine yB rfl ?_; intro _ _hb) | refine yS rfl rfl ?_ | refine yM rfl rfl (by assumption) rfl rfl rfl ?_ | refine yZ rfl rfl rfl rfl rfl rfl ?_ | refine yY rfl rfl rfl ?_ | refine yO rfl rfl rfl ?_ | refine yW rfl rfl ?_ | refine yV rfl rfl rfl rfl (by assumption) rfl rfl rfl rfl ?_ ) | refine popN rfl ?_ | (refine yG rfl rfl ?_ ?_ <;> intro hb <;> subst hb)) | refine AWp.seq ?_ | refine reg (by kernel_rfl) ?_ | refine lexE ?_ | refine regD (noisy []) mixed (by kernel_rfl) (by kernel_rfl) ?_))
    refine ⟨⟨k + 1, by first | omega | (simp only [oA, oB, oC, oD, oE, oF, oG] at *; omega)⟩, by dsimp only; (first | omega | (simp only [oA, oB, oC, oD, oE, oF, oG] at *; omega)), [], ?_⟩
    simp [EnvSub, StoreSub, look_cons, nm, E.ren, C.ren, C.renL, O.ren, killc, kill0, Function.comp_def, argsFrom, zC, hΓ, h1]
  · obtain rfl : k = l.length := by first | omega | (simp only [oA, oB, oC, oD, oE, oF, oG] at *; omega)
    refine AWp.exit ?_
    (repeat (first | (refine popO rfl ?_; first | (refine gA rfl ?_; first | refine yLm rfl rfl ?_ | ((first | refine yQ (md := true) rfl ?_ ?_ | refine yL rfl rfl (by assumption) rfl rfl ?_ ?_ | refine yT rfl rfl (by assumption) rfl ?_ ?_); (first | exact True.intro | omega | (simp only [oA, oB, oC, oD, oE, oF, oG] at *; omega))) | (refine yB rfl ?_; intro _ _hb) | refine yS rfl rfl ?_ | refine yM rfl rfl (by assumption) rfl rfl rfl ?_ | refine yO rfl rfl rfl ?_ | refine yW rfl rfl ?_ | refine yV rfl rfl rfl rfl (by assumption) rfl rfl rfl rfl ?_ ) | refine popN rfl ?_ | (refine yG rfl rfl ?_ ?_ <;> intro hb <;> subst hb)) | refine AWp.seq ?_ | refine reg (by kernel_rfl) ?_ | refine lexE ?_ | refine regD (noisy []) mixed (by kernel_rfl) (by kernel_rfl) ?_))
    rw [List.take_of_length_le (by simp)]
    refine AWp.ret ⟨_, rfl, rfl⟩
end Go.Am
/-
  Nodes of systems together, from the last member on.
-/
namespace Go.Am
open Go

def lowN : List Int → List (List Int) → List Int
  | _ :: zs, c :: cs => c.flatMap fun q => (lowN zs cs).map fun r => q * prodI zs + r
  | _, _ => [0]
theorem mixN_low : ∀ {zs : List Int} {cs : List (List Int)}, ChOk zs cs → ∀ out : List Int, mixN zs cs out = out.flatMap fun o => (lowN zs cs).map fun r => o * prodI zs + r := by
  intro zs cs h
  induction h with
  | nil => intro out; simp [mixN, lowN, prodI]
  | @cons z c zs cs _ _ _ ih =>
    intro out
    rw [mixN, ih, List.flatMap_assoc]
    congr 1
    funext o
    rw [List.flatMap_map, lowN, List.map_flatMap]
    congr 1
    funext q
    rw [List.map_map]
    congr 1
    funext r
    simp only [Function.comp_def, prodI]
    rw [Int.add_mul, Int.mul_assoc]; omega
theorem mixN_low0 {zs : List Int} {cs : List (List Int)} (h : ChOk zs cs) : mixN zs cs [0] = lowN zs cs := by
  rw [mixN_low h]; simp
theorem ChOk.drop {zs : List Int} {cs : List (List Int)} (h : ChOk zs cs) : ∀ k, ChOk (zs.drop k) (cs.drop k) := by
  induction h with
  | nil => intro k; simp; exact .nil
  | cons h1 h2 h3 ih =>
    intro k
    cases k with
    | zero => exact .cons h1 h2 h3
    | succ k => exact ih k
theorem lowN_in {zs : List Int} {cs : List (List Int)} (h : ChOk zs cs) : (∀ v ∈ lowN zs cs, 0 ≤ v ∧ v < prodI zs) ∧ ((lowN zs cs).length : Int) ≤ prodI zs := by
  have := mixN_in h [0] 1 (by simp) (by omega) (by simp)
  rw [mixN_low0 h, Int.one_mul] at this
  exact this
theorem lowN_step {zs : List Int} {cs : List (List Int)} {k : Nat} {z : Int} {c : List Int} (hz : zs[k]? = some z) (hc : cs[k]? = some c) : lowN (zs.drop k) (cs.drop k) = c.flatMap fun q => (lowN (zs.drop (k + 1)) (cs.drop (k + 1))).map fun r => q * prodI (zs.drop (k + 1)) + r := by
  rw [drop_some hz, drop_some hc, lowN]
theorem prodI_drop {zs : List Int} {k : Nat} {z : Int} (hz : zs[k]? = some z) : prodI (zs.drop k) = z * prodI (zs.drop (k + 1)) := by
  rw [drop_some hz, prodI]
theorem decN_get : ∀ {zs : List Int} {k : Nat} {z : Int} (n : Int), zs[k]? = some z → (decN zs n)[k]? = some (n / prodI (zs.drop (k + 1)) % z)
  | [], k, z, n, h => by simp at h
  | a :: zs, 0, z, n, h => by simp at h; subst h; simp [decN]
  | a :: zs, k + 1, z, n, h => by
    rw [decN, List.getElem?_cons_succ, List.drop_succ_cons]
    exact decN_get n (by simpa using h)
theorem prodI_app : ∀ (zs ws : List Int), prodI (zs ++ ws) = prodI zs * prodI ws
  | [], ws => by simp [prodI]
  | z :: zs, ws => by simp [prodI, prodI_app zs ws, Int.mul_assoc]
theorem decN_app : ∀ (zs ws : List Int) (n : Int), (∀ w ∈ ws, 0 < w) → decN (zs ++ ws) n = decN zs (n / prodI ws) ++ decN ws n
  | [], ws, n, _ => rfl
  | z :: zs, ws, n, h => by
    have hp := prodI_pos h
    simp only [List.cons_append, decN, decN_app zs ws n h, prodI_app]
    rw [Int.mul_comm (prodI zs), Int.ediv_ediv_of_nonneg (by omega)]
/-- The choices of systems. -/
def csP (l : List Sys) (node letter : Int) : List (List Int) := l.zipWith (fun s q => sysTo s q letter) (decN (l.map (·.st)) node)
theorem csP_ok {l : List Sys} (h : ∀ s ∈ l, sysOk s = true) (hl : l.length ≤ 3) {letter : Int} (h0 : 0 ≤ letter) (h1 : letter < 6) (node : Int) : ChOk (l.map (·.st)) (csP l node letter) := by
  have hn : NetOk ⟨l, [], [], 0, 0, 0⟩ := ⟨h, fun a ha => (by cases ha), hl, by simp⟩
  have hz : sizesN ⟨l, [], [], 0, 0, 0⟩ = l.map (·.st) := by simp [sizesN]
  have hf := dec_fits hn node
  have := choL_ok hn hf h0 h1
  rw [hz] at this
  unfold choL at this
  simpa [csP] using this
theorem csP_get {l : List Sys} {k : Nat} {s : Sys} (hs : l[k]? = some s) (node letter : Int) : (csP l node letter)[k]? = some (sysTo s (node / prodI ((l.map (·.st)).drop (k + 1)) % s.st) letter) := by
  unfold csP
  rw [List.getElem?_zipWith, hs, decN_get (z := s.st) node (by simp [hs])]
end Go.Am
