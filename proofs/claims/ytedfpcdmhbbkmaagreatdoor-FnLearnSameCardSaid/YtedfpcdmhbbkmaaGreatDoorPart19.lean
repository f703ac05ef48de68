/-
  Valid and closed tables, plainly; two teachers that agree where they are asked.
-/
import Derived.Test.YtedfpcdmhbbkmaaGreatDoorPart18
import Derived.Test.YtedfpcdmhbbkmaaGreatDoorPart17
import Derived.Test.YtedfpcdmhbbkmaaGreatDoorPart16
import Derived.Test.YtedfpcdmhbbkmaaGreatDoorRows
import Derived.JoinedCond
import Derived.KernelRfl
set_option linter.constructorNameAsVariable false
set_option linter.unusedSimpArgs false
set_option linter.unusedVariables false
namespace Go.Am
open Go
set_option linter.unusedVariables false

structure ShF (al : Int) (t : Tab) : Prop where
  pos : 0 ≤ al
  r1 : 1 ≤ t.rows.length
  rl : t.rows.length ≤ 12
  c1 : 1 ≤ t.cols.length
  cl : t.cols.length ≤ 20
  r0 : t.rows[0]? = some []
  c0 : t.cols[0]? = some []
  rw : ∀ w ∈ t.rows, w.length ≤ 50000 ∧ wordOn (lsB al) w
  cw : ∀ w ∈ t.cols, w.length ≤ 4000 ∧ wordOn (lsB al) w
  pre : ∀ (i : Nat) w, t.rows[i]? = some w → 0 < i → w ≠ [] ∧ ∃ j, j < i ∧ t.rows[j]? = some w.dropLast
  ndC : t.cols.Nodup
/-- Two languages that agree on the words over an alphabet that are not too long. -/
def Agr (A L : W → Bool) (al : Int) : Prop := ∀ w, wordOn (lsB al) w → w.length ≤ 50000 → A w = L w
theorem on_app {ls : List UInt8} {u w : W} (hu : wordOn ls u) (hw : wordOn ls w) : wordOn ls (u ++ w) := fun c hc => by
  rcases List.mem_append.1 hc with h | h
  · exact hu c h
  · exact hw c h
theorem marks_agr {A L : W → Bool} {al : Int} (h : Agr A L al) {cols : List W} {w : W} (hw : wordOn (lsB al) w) (hc : ∀ x ∈ cols, wordOn (lsB al) x ∧ w.length + x.length ≤ 50000) : marks A cols w = marks L cols w := by
  rw [marks, marks, List.map_inj_left]
  intro x hx
  rw [h _ (on_app hw (hc x hx).1) (by simp; exact (hc x hx).2)]
theorem rowsM_agr {A L : W → Bool} {al : Int} {b : Nat} {t : Tab} (h : Agr A L al) (ht : TBd al b t) (hb : b ≤ 20100) : rowsM A t = rowsM L t := by
  rw [rowsM, rowsM, List.map_inj_left]
  intro r hr
  have := ht.onR r hr
  exact marks_agr h this.1 fun x hx => ⟨(ht.onC x hx).1, by have := (ht.onC x hx).2; omega⟩
theorem next_agr {A L : W → Bool} {al : Int} {b : Nat} {t : Tab} (h : Agr A L al) (ht : TBd al b t) (hb : b ≤ 20100) {r : W} {l : UInt8} (hr : r ∈ t.rows) (hl : l ∈ lsB al) : marks A t.cols (r ++ [l]) = marks L t.cols (r ++ [l]) := by
  have := ht.onR r hr
  refine marks_agr h (on_app this.1 (fun c hc => by simp at hc; subst hc; exact hl)) fun x hx => ⟨(ht.onC x hx).1, by have := (ht.onC x hx).2; simp; omega⟩
theorem find_agr {α : Type} {p q : α → Bool} : ∀ {l : List α}, (∀ x ∈ l, p x = q x) → l.find? p = l.find? q
  | [], _ => rfl
  | x :: l, h => by
    rw [List.find?_cons, List.find?_cons, h x (by simp), find_agr (l := l) fun y hy => h y (by simp [hy])]
theorem openW_agr {A L : W → Bool} {al : Int} {b : Nat} {t : Tab} (h : Agr A L al) (ht : TBd al b t) (hb : b ≤ 20100) : openW A (lsB al) t = openW L (lsB al) t := by
  unfold openW
  refine find_agr fun w hw => ?_
  unfold nextsB at hw
  simp only [List.mem_flatMap, List.mem_map] at hw
  obtain ⟨r, hr, l, hl, rfl⟩ := hw
  rw [rowsM_agr h ht hb, next_agr h ht hb hr hl]
theorem closeN_agr {A L : W → Bool} {al : Int} (h : Agr A L al) : ∀ (n : Nat) {b : Nat} {t : Tab}, TBd al b t → b + n ≤ 20100 → closeN A (lsB al) n t = closeN L (lsB al) n t
  | 0, _, _, _, _ => rfl
  | n + 1, b, t, ht, hb => by
    unfold closeN
    rw [openW_agr h ht (by omega)]
    cases ho : openW L (lsB al) t with
    | none => rfl
    | some w =>
      dsimp only
      by_cases h12 : t.rows.length = 12
      · rw [if_pos h12, if_pos h12]
      · rw [if_neg h12, if_neg h12]
        have hrl := ht.rl
        exact closeN_agr h n (ht.push ho (by omega)) (by omega)
theorem idxM_agr {A L : W → Bool} {al : Int} {b : Nat} {t : Tab} (h : Agr A L al) (ht : TBd al b t) (hb : b ≤ 20100) {r : W} {l : UInt8} (hr : r ∈ t.rows) (hl : l ∈ lsB al) : idxM A t (r ++ [l]) = idxM L t (r ++ [l]) := by
  unfold idxM
  rw [rowsM_agr h ht hb, next_agr h ht hb hr hl]
theorem autM_agr {A L : W → Bool} {al : Int} {b : Nat} {t : Tab} (h : Agr A L al) (ht : TBd al b t) (hb : b ≤ 20100) : autM A al t = autM L al t := by
  unfold autM
  congr 1
  · refine List.map_inj_left.2 fun r hr => List.map_inj_left.2 fun l hl => ?_
    rw [idxM_agr h ht hb hr (lsB_mem hl)]
  · refine List.map_inj_left.2 fun r hr => ?_
    have := ht.onR r hr
    rw [h r this.1 (by omega)]
theorem row_in {A : W → Bool} {al : Int} {t : Tab} (h : Closed A (lsB al) t) {q : Nat} (hq : q < t.rows.length) : t.rows.getD q [] ∈ t.rows := by
  rw [List.getD, List.getElem?_eq_getElem hq]; exact List.getElem_mem hq
theorem splitAt_agr {A L : W → Bool} {al : Int} {b0 : Nat} {t : Tab} (h : Agr A L al) (ht : TBd al b0 t) (hb : b0 ≤ 20100) (hk : Closed L (lsB al) t) (b : Bool) : ∀ (w : W) (q : Nat), q < t.rows.length → wordOn (lsB al) w → w.length ≤ 20000 → splitAt A t b q w = splitAt L t b q w
  | [], _, _, _, _ => rfl
  | c :: w, q, hq, hw, hl => by
    have hr := row_in hk hq
    have hc := hw c (by simp)
    have he := idxM_agr h ht hb hr hc
    obtain ⟨r', h2, _⟩ := hk.idx (i := q) (List.getElem?_eq_getElem hq) hc
    have hg : t.rows.getD q [] = t.rows[q] := by rw [List.getD, List.getElem?_eq_getElem hq]; rfl
    rw [← hg] at h2
    have hq2 := (List.getElem?_eq_some_iff.1 h2).1
    have hr2 := row_in hk hq2
    have hww : wordOn (lsB al) w := fun x hx => hw x (by simp [hx])
    simp at hl
    have hA : A (t.rows.getD (idxM L t (t.rows.getD q [] ++ [c])) [] ++ w) = L (t.rows.getD (idxM L t (t.rows.getD q [] ++ [c])) [] ++ w) :=
      h _ (on_app (ht.onR _ hr2).1 hww) (by have := (ht.onR _ hr2).2; simp only [List.length_append]; omega)
    unfold splitAt
    rw [he, hA]
    split
    · rfl
    · exact splitAt_agr h ht hb hk b w _ hq2 hww (by omega)
end Go.Am
/-
  Learning sees the language alone, plainly.
-/
namespace Go.Am
open Go
set_option linter.unusedVariables false

theorem hit_gB {a b : Aut} (ha : autOk a = true) (hb : autOk b = true) {w : List Int} (h1 : ∀ l ∈ w, l ∈ letters a.al) : hit (gPr a b 0 bne) w ↔ LA a (txt w) ≠ LA b (txt w) := by
  have han := autOk_head ha
  have hbn := autOk_head hb
  have hon := txt_on (al := a.al) h1
  have hra := runA_in ha (txt w) 0 hon (by omega)
  have hrb := runA_in hb (txt w) 0 (al := a.al) hon (by omega)
  have h5 : (runA a 0 (txt w) * b.nx.length + runA b 0 (txt w)) / b.nx.length = runA a 0 (txt w) := by
    rw [Int.add_comm, Int.add_mul_ediv_right _ _ (by omega), Int.ediv_eq_zero_of_lt hrb.1 hrb.2, Int.zero_add]
  have h6 : (runA a 0 (txt w) * b.nx.length + runA b 0 (txt w)) % b.nx.length = runA b 0 (txt w) := by
    rw [Int.add_comm, Int.add_mul_emod_self_right, Int.emod_eq_of_lt hrb.1 hrb.2]
  have hr : ∀ x, reach (gPr a b 0 bne) w (gPr a b 0 bne).s0 x ↔ x = runA a 0 (txt w) * b.nx.length + runA b 0 (txt w) := fun x => by
    have := reach_gB ha hb (op := bne) (s0 := 0) (i := 0) (j := 0) (x := x) h1 ⟨by omega, by omega⟩ ⟨by omega, by omega⟩
    simpa [gPr] using this
  have hg : (gPr a b 0 bne).goal (runA a 0 (txt w) * b.nx.length + runA b 0 (txt w)) = (LA a (txt w) != LA b (txt w)) := by simp only [gPr, h5, h6, LA]
  constructor
  · rintro ⟨x, hx, hgx⟩
    rw [(hr x).1 hx, hg] at hgx
    simpa using hgx
  · intro hne
    exact ⟨_, (hr _).2 rfl, by rw [hg]; simpa using hne⟩
theorem IsAns.hits {g g' : Gr} (hls : g.ls = g'.ls) (hh : ∀ w, over g w → (hit g w ↔ hit g' w)) {r : Option (List Int)} (h : IsAns g r) : IsAns g' r := by
  have ho : ∀ w, over g w ↔ over g' w := fun w => by unfold over; rw [hls]
  cases r with
  | none => exact fun u hu hx => h u ((ho u).2 hu) ((hh u ((ho u).2 hu)).2 hx)
  | some w => exact ⟨(ho w).1 h.1, (hh w h.1).1 h.2.1, fun u hu hx => h.2.2 u ((ho u).2 hu) ((hh u ((ho u).2 hu)).2 hx)⟩
/-- What tells an automaton from another one depends on the other one's language alone. -/
theorem difD_congr {x a b : Aut} (ha : autOk a = true) (hb : autOk b = true) (hal : a.al = b.al) (hL : ∀ w, wordOn (lsB a.al) w → LA a w = LA b w) : difD x a = difD x b := by
  unfold difD validD
  rw [ha, hb, hal]
  by_cases hv : (autOk x && true && decide (x.al = b.al)) = true
  · rw [if_pos hv, if_pos hv]
    simp only [Bool.and_true, Bool.and_eq_true, decide_eq_true_eq] at hv
    rw [← netD_ans (op := bne) hv.1 ha (fun x y => by simp) (.inl rfl), ← netD_ans (op := bne) hv.1 hb (fun x y => by simp) (.inl rfl)]
    refine IsAns.unique (IsAns.hits (g := gPr x a 0 bne) (g' := gPr x b 0 bne) rfl (fun w hw => ?_) (ansOf_is _)) (ansOf_is _)
    rw [hit_gB hv.1 ha hw, hit_gB hv.1 hb hw]
    have hon := txt_on (al := x.al) hw
    rw [hL (txt w) (by rw [hal, ← hv.2]; exact hon)]
  · rw [if_neg hv, if_neg hv]
section
variable {a b : Aut} (ha : autOk a = true) (hb : autOk b = true) (hal : a.al = b.al) (hL : ∀ w, wordOn (lsB a.al) w → LA a w = LA b w)
include ha hb hal hL
theorem wrD_same {t : Tab} {n : Nat} (ht : TBd a.al n t) (hn : n ≤ 20100) (hc : Closed (LA a) (lsB a.al) t) : wrD a t = wrD b t := by
  have hag : Agr (LA b) (LA a) a.al := fun w hw _ => (hL w hw).symm
  unfold wrD
  rw [← hal, autM_agr hag ht hn]
  rw [difD_congr ha hb hal hL]
theorem tabK_same : ∀ k, k ≤ lastK a → tabK b k = tabK a k
  | 0, _ => by
    have hag : Agr (LA b) (LA a) a.al := fun w hw _ => (hL w hw).symm
    show tabZ b = tabZ a
    unfold tabZ
    rw [← hal, closeN_agr hag 13 (tabOne_bd a.al) (by omega)]
  | k + 1, hk => by
    have hag : Agr (LA b) (LA a) a.al := fun w hw _ => (hL w hw).symm
    have ih := tabK_same k (by omega)
    have hc := (tabK_ok ha k (by omega)).1
    have hbd := tabK_bd ha (k := k) (by omega)
    have hw := wrD_same ha hb hal hL hbd (by omega) hc
    obtain ⟨w, v, hwr, hN⟩ := tabK_step ha (k := k) (by omega)
    obtain ⟨h7, h8⟩ := (wrD_ok a).on _ w hwr hc
    have hlen := wrD_short hwr
    have e : ∀ p : Aut, tabK p (k + 1) = match wrD p (tabK p k) with
      | none => tabK p k
      | some w => (nextT (LA p) (lsB p.al) (tabK p k) w).getD (tabK p k) := fun p => rfl
    have h0 : 0 < (tabK a k).rows.length := (List.getElem?_eq_some_iff.1 hc.r0).1
    have hsp : splitAt (LA b) (tabK a k) (LA b w) 0 w = some v := by
      rw [← hL w h7, splitAt_agr hag hbd (by omega) hc (LA a w) w 0 h0 h7 (by omega)]; exact hN.split
    have hv : wordOn (lsB a.al) v ∧ v.length ≤ 20000 := by
      obtain ⟨q, _, hq⟩ := hN.suf
      rw [hq] at h7 hlen
      exact ⟨fun c hc => h7 c (List.mem_append_right _ hc), by simp at hlen; omega⟩
    have hbd2 : TBd a.al 20000 ⟨(tabK a k).rows, (tabK a k).cols ++ [v]⟩ := by
      refine ⟨hbd.onR, fun x hx => ?_, hbd.rl, ?_⟩
      · rcases List.mem_append.1 hx with hx | hx
        · exact hbd.onC x hx
        · simp at hx; subst hx; exact hv
      · have h9 := (tabK_ok ha k (by omega)).2.2.2.1
        have h10 := (lastK_ok ha).1
        simp; omega
    have hn : nextT (LA b) (lsB a.al) (tabK a k) w = some (tabK a (k + 1)) := by
      unfold nextT
      rw [hsp]
      show closeN (LA b) (lsB a.al) 13 _ = _
      rw [closeN_agr hag 13 hbd2 (by omega)]
      exact hN.close
    rw [e b, ih, ← hw, hwr, ← hal]
    simp only [hn, Option.getD_some]
theorem lastK_same : lastK b = lastK a := by
  have h1 := lastK_ok ha
  have h2 := lastK_ok hb
  have hk : ∀ k, k ≤ lastK a → wrD b (tabK b k) = wrD a (tabK a k) := fun k hk => by
    rw [tabK_same ha hb hal hL k hk]
    exact (wrD_same ha hb hal hL (tabK_bd ha hk) (by omega) (tabK_ok ha k hk).1).symm
  rcases Nat.lt_trichotomy (lastK b) (lastK a) with h | h | h
  · exact absurd ((hk _ (by omega)).symm.trans h2.2.1) (h1.2.2 _ h)
  · exact h
  · exact absurd ((hk _ (by omega)).trans h1.2.1) (h2.2.2 _ h)
end
theorem learn_same {a b : Aut} (hv : validD a b = true) (h : difD a b = none) : learnT a = learnT b ∧ learnN a = learnN b ∧ 0 < learnN a ∧ autOk a = true ∧ autOk b = true := by
  have hL := difD_none hv h
  unfold validD at hv
  simp only [Bool.and_eq_true, decide_eq_true_eq] at hv
  obtain ⟨⟨ha, hb⟩, hal⟩ := hv
  unfold learnT learnN
  rw [if_pos ha, if_pos hb, if_pos ha, if_pos hb, lastK_same ha hb hal hL, tabK_same ha hb hal hL _ (Nat.le_refl _)]
  exact ⟨rfl, rfl, by omega, ha, hb⟩
end Go.Am
/-
  The table of an automaton, and whether two tables are the same: walked.
-/
namespace Go.Am
open Go Go.Proofs
set_option maxHeartbeats 1000000
attribute [local irreducible] QOp AOp Lex LexO AWp Spec
variable {TB : List (Nat × Obj)}

theorem implLearnTable_ok (p : Aut) : Pure Tryz.prog TB 10 [eAut p] (.t [(true, [.d (tList (learnT p).rows), .d (tList (learnT p).cols)]), (false, [.d (bD (decide (learnN p > 0)))])]) := by
  refine SpecK.toSpec (SpecK.ofG (Nat.le_refl _) Tryz.func10 rfl (by kernel_rfl) (Nat.le_of_ble_eq_true rfl) ?_); intro Γ hΓ
  (repeat first | refine sN rfl ?_ | ((first|refine sA rfl ?_ ?_|refine s4 rfl ‹_› rfl ?_ ?_);first|exact tI|omega|(simp only[oZ] at *;omega)) | (refine s2 rfl ?_;intro _ _hb) |refine sP rfl (learn0_ok p) rfl ?_ | (refine popO rfl ?_;refine gA rfl ?_;first | refine gS (fun _ _ => q_decide rfl) ?_) | (refine s3 rfl ?_ ?_<;>intro hb<;>subst hb) | refine aS ?_ | refine reg (by kernel_rfl) ?_ | refine lexE ?_)
  subst _hb
  exact AWp.ret ⟨_, rfl, rfl⟩
theorem agStrings_ok (a b : List W) : Pure Tryz.prog TB 30 [eTexts a, eTexts b] (eB (decide (a = b))) := by
  refine eN Tryz.func30 rfl (by kernel_rfl) rfl ?_;intro Γ hΓ
  refine AWp.bound 0 rfl fun hB => ?_
  have hB := hB (a.map tRow) .refl
  rw [List.length_map] at hB
  (repeat first | refine sN rfl ?_ | ((first|refine sA rfl ?_ ?_|refine s4 rfl ‹_› rfl ?_ ?_);first|exact tI|omega|(simp only[oZ] at *;omega)) | (refine s2 rfl ?_;intro _ _hb) | (refine s3 rfl ?_ ?_<;>intro hb<;>subst hb) | refine aS ?_ | refine reg (by kernel_rfl) ?_ | refine lexE ?_)
  (refine aC rfl ?_ ?_<;>intro hb<;>cases hb)
  · (repeat first | refine sN rfl ?_ | ((first|refine sA rfl ?_ ?_|refine s4 rfl ‹_› rfl ?_ ?_);first|exact tI|omega|(simp only[oZ] at *;omega)) | (refine s2 rfl ?_;intro _ _hb) | (refine s3 rfl ?_ ?_<;>intro hb<;>subst hb) | refine aS ?_ | refine reg (by kernel_rfl) ?_ | refine lexE ?_)
    refine AWp.ret ⟨_, rfl, ?_⟩
    have hne : a ≠ b := fun h => by subst h; first | omega | (simp only [oZ] at *; omega)
    show E.o _ = E.o _; congr; grind
  refine AWp.skip ?_
  have hab : a.length = b.length := by first | omega | (simp only [oZ] at *; omega)
  (repeat first | refine sN rfl ?_ | ((first|refine sA rfl ?_ ?_|refine s4 rfl ‹_› rfl ?_ ?_);first|exact tI|omega|(simp only[oZ] at *;omega)) | (refine s2 rfl ?_;intro _ _hb) | (refine s3 rfl ?_ ?_<;>intro hb<;>subst hb) | refine aS ?_ | refine reg (by kernel_rfl) ?_ | refine lexE ?_)
  refine aB ?_
  refine AWp.loopL (α := {k : Nat // k ≤ a.length ∧ a.take k = b.take k}) (fun ⟨k, hk, he⟩ => [(0, eTexts a), (1, eTexts b), (5, eI .i64 k)]) (fun ⟨k, hk, he⟩ => []) 0 (fun ⟨k, hk, he⟩ => a.length - k) (⟨0, by omega, by simp⟩) [] (by first | (simp [hΓ]; done) | (rw [hΓ]; decide)) (by (repeat' (first | exact trivial | rfl | refine And.intro ?_ ?_)) <;> simp [EnvSub, StoreSub, look_cons, nm, E.ren, C.ren, C.renL, O.ren, killc, kill0, Function.comp_def, argsFrom, zC, hΓ]) ?_; rintro ⟨k, hk, he⟩; (try dsimp only)
  (repeat first | refine sN rfl ?_ | ((first|refine sA rfl ?_ ?_|refine s4 rfl ‹_› rfl ?_ ?_);first|exact tI|omega|(simp only[oZ] at *;omega)) | (refine s2 rfl ?_;intro _ _hb) | (refine s3 rfl ?_ ?_<;>intro hb<;>subst hb) | refine aS ?_ | refine reg (by kernel_rfl) ?_ | refine lexE ?_)
  ((refine aC rfl ?_ ?_<;>intro hb<;>cases hb); all_goals try (simp at _hb; done))
  · have hlt : k < a.length := by first | omega | (simp only [oZ] at *; omega)
    obtain ⟨x, hx⟩ := get_some (l := a) (k := k) hlt
    obtain ⟨y, hy⟩ := get_some (l := b) (k := k) (by omega)
    have hx' := get_map (g := tRow) hx
    have hy' := get_map (g := tRow) hy
    refine AWp.skip ?_
    refine AWp.seq (AWp.block ?_)
    (repeat first | refine sN rfl ?_ | ((first|refine sA rfl ?_ ?_|refine s4 rfl ‹_› rfl ?_ ?_);first|exact tI|omega|(simp only[oZ] at *;omega)) | (refine s2 rfl ?_;intro _ _hb) | (refine s3 rfl ?_ ?_<;>intro hb<;>subst hb) | refine aS ?_ | refine reg (by kernel_rfl) ?_ | refine lexE ?_)
    refine regD (flN []) mixed (by kernel_rfl) (by kernel_rfl) ?_
    (repeat first | refine sN rfl ?_ | ((first|refine sA rfl ?_ ?_|refine s4 rfl ‹_› rfl ?_ ?_);first|exact tI|omega|(simp only[oZ] at *;omega)) | (refine s2 rfl ?_;intro _ _hb) | (refine s3 rfl ?_ ?_<;>intro hb<;>subst hb) | refine aS ?_ | refine reg (by kernel_rfl) ?_ | refine lexE ?_)
    (refine aC rfl ?_ ?_<;>intro hb<;>cases hb)
    all_goals first
      | ((repeat first | refine sN rfl ?_ | ((first|refine sA rfl ?_ ?_|refine s4 rfl ‹_› rfl ?_ ?_);first|exact tI|omega|(simp only[oZ] at *;omega)) | (refine s2 rfl ?_;intro _ _hb) | (refine s3 rfl ?_ ?_<;>intro hb<;>subst hb) | refine aS ?_ | refine reg (by kernel_rfl) ?_ | refine lexE ?_)
         refine AWp.ret ⟨_, rfl, ?_⟩
         show E.o _ = E.o _; congr; grind
         done)
      | (refine AWp.skip ?_
         (repeat first | refine sN rfl ?_ | ((first|refine sA rfl ?_ ?_|refine s4 rfl ‹_› rfl ?_ ?_);first|exact tI|omega|(simp only[oZ] at *;omega)) | (refine s2 rfl ?_;intro _ _hb) | (refine s3 rfl ?_ ?_<;>intro hb<;>subst hb) | refine aS ?_ | refine reg (by kernel_rfl) ?_ | refine lexE ?_)
         refine ⟨⟨k + 1, by first | omega | (simp only [oZ] at *; omega), by rw [List.take_add_one, List.take_add_one, hx, hy]; grind⟩, by dsimp only; (first | omega | (simp only [oZ] at *; omega)), [], ?_⟩
         simp [EnvSub, StoreSub, look_cons, nm, E.ren, C.ren, C.renL, O.ren, killc, kill0, Function.comp_def, argsFrom, zC, hΓ])
  · refine AWp.exit ?_
    (repeat first | refine sN rfl ?_ | ((first|refine sA rfl ?_ ?_|refine s4 rfl ‹_› rfl ?_ ?_);first|exact tI|omega|(simp only[oZ] at *;omega)) | (refine s2 rfl ?_;intro _ _hb) | (refine s3 rfl ?_ ?_<;>intro hb<;>subst hb) | refine aS ?_ | refine reg (by kernel_rfl) ?_ | refine lexE ?_)
    refine AWp.ret ⟨_, rfl, ?_⟩
    have hk2 : a.length ≤ k := by first | omega | (simp only [oZ] at *; omega)
    rw [List.take_of_length_le hk2, List.take_of_length_le (by omega)] at he
    show E.o _ = E.o _; congr; grind
theorem agTables_ok (a b c d : List W) : Pure Tryz.prog TB 11 [.a [.d (tList a), .d (tList b)], .a [.d (tList c), .d (tList d)]] (eB (decide (a = c ∧ b = d))) := by
  refine eN Tryz.func11 rfl (by kernel_rfl) rfl ?_;intro Γ hΓ
  (repeat' first | refine sN rfl ?_ | ((first|refine sA rfl ?_ ?_|refine s4 rfl ‹_› rfl ?_ ?_);first|exact tI|omega|(simp only[oZ] at *;omega)) | (refine s2 rfl ?_;intro _ _hb) |(refine sC rfl (agStrings_ok a c) ?_;intro _ _hb)|(refine sC rfl (agStrings_ok b d) ?_;intro _ _hb) | (refine s3 rfl ?_ ?_<;>intro hb<;>subst hb) | refine aS ?_ | refine reg (by kernel_rfl) ?_ | refine lexE ?_ | refine rD (by kernel_rfl) (by kernel_rfl) ?_ | (refine aC rfl ?_ ?_<;>intro hb<;>cases hb) | refine aK ?_ | refine aE ?_ | refine aB ?_ | refine AWp.ret ⟨_,rfl,?_⟩)
  all_goals (show E.o _ = E.o _; congr; grind)
end Go.Am
/-
  The law that automata of one language have the same table: walked.
-/
namespace Go.Am
open Go Go.Proofs
set_option maxHeartbeats 1000000
attribute [local irreducible] QOp AOp Lex LexO AWp Spec
variable {TB : List (Nat × Obj)}

theorem lawLearnSame_ok (b : List UInt8) : Pure Tryz.prog TB 3 [.o (.d (uList b))] (eB true) := by
  refine SpecK.toSpec (SpecK.ofG (Nat.le_refl _) Tryz.func3 rfl (by kernel_rfl) (Nat.le_of_ble_eq_true rfl) ?_); intro Γ hΓ
  (repeat first | refine sN rfl ?_ | ((first|refine sA rfl ?_ ?_|refine s4 rfl ‹_› rfl ?_ ?_);first|exact tI|omega|(simp only[oZ] at *;omega)) | (refine s2 rfl ?_;intro _ _hb) | (refine s3 rfl ?_ ?_<;>intro hb<;>subst hb) | refine aS ?_ | refine reg (by kernel_rfl) ?_ | refine lexE ?_)
  (refine aC rfl ?_ ?_<;>intro hb<;>cases hb)
  · (repeat first | refine sN rfl ?_ | ((first|refine sA rfl ?_ ?_|refine s4 rfl ‹_› rfl ?_ ?_);first|exact tI|omega|(simp only[oZ] at *;omega)) | (refine s2 rfl ?_;intro _ _hb) | (refine s3 rfl ?_ ?_<;>intro hb<;>subst hb) | refine aS ?_ | refine reg (by kernel_rfl) ?_ | refine lexE ?_)
    exact AWp.ret ⟨_, rfl, rfl⟩
  have hbl : b.length ≤ 9223372036854775807 := by first | omega | (simp only [oZ] at *; omega)
  refine AWp.skip ?_
  (repeat first | refine sN rfl ?_ | ((first|refine sA rfl ?_ ?_|refine s4 rfl ‹_› rfl ?_ ?_);first|exact tI|omega|(simp only[oZ] at *;omega)) | (refine s2 rfl ?_;intro _ _hb) | (refine s3 rfl ?_ ?_<;>intro hb<;>subst hb) | refine aS ?_ | refine reg (by kernel_rfl) ?_ | refine lexE ?_)
  (refine popO rfl ?_;refine popW ?_ rfl (by rfl);refine n_call [] rfl rfl (DrawSameLanguage_ok (TB := TB) b hbl) ⟨rfl, by decide, by decide⟩ rfl trivial ?_;rintro x0 σ1 nx1 ⟨⟨x, y⟩, _, rfl, rfl, rfl⟩ _)
  have e1 := implSameLanguage_ok (TB := TB) x y
  have e2 := specSameLanguage_ok (TB := TB) x y
  by_cases hs : (validD x y && (difD x y).isNone) = true
  · rw [hs] at e1 e2
    rw [Bool.and_eq_true, Option.isNone_iff_eq_none] at hs
    obtain ⟨k1, k2, k3, k4, k5⟩ := learn_same hs.1 hs.2
    have h1 := implLearnTable_ok (TB := TB) x
    have h2 := implLearnTable_ok (TB := TB) y
    have r1 := implLearnRounds_ok (TB := TB) x
    have r2 := implLearnRounds_ok (TB := TB) y
    have ag := agTables_ok (TB := TB) (learnT x).rows (learnT x).cols (learnT x).rows (learnT x).cols
    have h9 : decide (learnN x > 0) = true := decide_eq_true k3
    rw [show decide ((learnT x).rows = (learnT x).rows ∧ (learnT x).cols = (learnT x).cols) = true from decide_eq_true ⟨rfl, rfl⟩] at ag
    rw [← k1, ← k2, h9] at h2
    rw [← k2] at r2
    rw [h9] at h1
    (repeat first | refine sN rfl ?_ | ((first|refine sA rfl ?_ ?_|refine s4 rfl ‹_› rfl ?_ ?_);first|exact tI|omega|(simp only[oZ] at *;omega)) | (refine s2 rfl ?_;intro _ _hb) |refine sP rfl (e1) rfl ?_|refine sP rfl (e2) rfl ?_ | (refine s3 rfl ?_ ?_<;>intro hb<;>subst hb) | refine aS ?_ | refine reg (by kernel_rfl) ?_ | refine lexE ?_)
    (repeat' first | refine sN rfl ?_ | ((first|refine sA rfl ?_ ?_|refine s4 rfl ‹_› rfl ?_ ?_);first|exact tI|omega|(simp only[oZ] at *;omega)) | (refine s2 rfl ?_;intro _ _hb) |refine sP rfl (e1) rfl ?_|refine sP rfl (e2) rfl ?_ | (refine s3 rfl ?_ ?_<;>intro hb<;>subst hb) | refine aS ?_ | refine reg (by kernel_rfl) ?_ | refine lexE ?_ | (refine aC rfl ?_ ?_<;>intro hb<;>cases hb))
    all_goals first
      | exact absurd ‹(!true) = true› (by decide)
      | (refine AWp.skip ?_
         (repeat first | refine sN rfl ?_ | ((first|refine sA rfl ?_ ?_|refine s4 rfl ‹_› rfl ?_ ?_);first|exact tI|omega|(simp only[oZ] at *;omega)) | (refine s2 rfl ?_;intro _ _hb) |refine sP rfl (h1) rfl ?_|refine sP rfl (h2) rfl ?_ | (refine s3 rfl ?_ ?_<;>intro hb<;>subst hb) | refine aS ?_ | refine reg (by kernel_rfl) ?_ | refine lexE ?_))
    refine regD (flN []) mixed (by kernel_rfl) (by kernel_rfl) ?_
    (repeat' first | refine sN rfl ?_ | ((first|refine sA rfl ?_ ?_|refine s4 rfl ‹_› rfl ?_ ?_);first|exact tI|omega|(simp only[oZ] at *;omega)) | (refine s2 rfl ?_;intro _ _hb) |refine sP rfl (ag) rfl ?_|refine sP rfl (r1) rfl ?_|refine sP rfl (r2) rfl ?_ | (refine s3 rfl ?_ ?_<;>intro hb<;>subst hb) | refine aS ?_ | refine reg (by kernel_rfl) ?_ | refine lexE ?_ | (refine aC rfl ?_ ?_<;>intro hb<;>cases hb))
    have hb2 := _hb.symm.trans (decide_eq_true rfl)
    subst hb2
    exact AWp.ret ⟨_, rfl, rfl⟩
  · rw [Bool.not_eq_true _ |>.mp hs] at e1 e2
    (repeat first | refine sN rfl ?_ | ((first|refine sA rfl ?_ ?_|refine s4 rfl ‹_› rfl ?_ ?_);first|exact tI|omega|(simp only[oZ] at *;omega)) | (refine s2 rfl ?_;intro _ _hb) |refine sP rfl (e1) rfl ?_|refine sP rfl (e2) rfl ?_ | (refine s3 rfl ?_ ?_<;>intro hb<;>subst hb) | refine aS ?_ | refine reg (by kernel_rfl) ?_ | refine lexE ?_)
    (repeat' first | refine sN rfl ?_ | ((first|refine sA rfl ?_ ?_|refine s4 rfl ‹_› rfl ?_ ?_);first|exact tI|omega|(simp only[oZ] at *;omega)) | (refine s2 rfl ?_;intro _ _hb) |refine sP rfl (e1) rfl ?_|refine sP rfl (e2) rfl ?_ | (refine s3 rfl ?_ ?_<;>intro hb<;>subst hb) | refine aS ?_ | refine reg (by kernel_rfl) ?_ | refine lexE ?_ | (refine aC rfl ?_ ?_<;>intro hb<;>cases hb))
    all_goals first
      | exact absurd ‹(!false) = false› (by decide)
      | (subst_vars; exact AWp.ret ⟨_, rfl, rfl⟩)
end Go.Am
/-
  A fact over the whole program, by itself: mapsRowed.
-/
namespace Go.Proofs.YtedfpcdmhbbkmaaGreatDoor
open Go
theorem factMapsRowed : mapsRowed Tryz.prog = true := by kernel_rfl
theorem factStops : (Tryz.prog.stops == []) = true := by kernel_rfl
theorem factKnobs : (Tryz.prog.stopKnobs == []) = true := by kernel_rfl
theorem factHeard : Tryz.prog.stopsHeard = true := by kernel_rfl
theorem factPlainKeys : (false == Tryz.prog.plainKeys) = true := by kernel_rfl
end Go.Proofs.YtedfpcdmhbbkmaaGreatDoor
