/-
  Two automata side by side: the graph, and that the reference's is the same.
-/
import Derived.Test.YtnnalheaipnnaaaGreatDoorPart12
import Derived.Test.YtnnalheaipnnaaaGreatDoorPart14
set_option linter.constructorNameAsVariable false
set_option linter.unusedSimpArgs false
set_option linter.unusedVariables false
namespace Go.Am
open Go
set_option linter.unusedVariables false

def gPr (a b : Aut) (s0 : Int) (op : Bool → Bool → Bool) : Gr :=
  ⟨a.nx.length * b.nx.length, fun x l => [goA a (x / b.nx.length).toNat l * b.nx.length + goA b (x % b.nx.length).toNat l], fun x => op (a.ac.getD (x / b.nx.length).toNat false) (b.ac.getD (x % b.nx.length).toNat false), letters a.al, s0⟩
def netD (a b : Aut) (kd : Int) : Net := ⟨[], [a, b], [0, 0], a.al, kd, 0⟩
theorem gPr_node {a b : Aut} (hb : autOk b = true) {x : Int} (hx : 0 ≤ x ∧ x < (gPr a b 0 bne).N) : 0 ≤ x / b.nx.length ∧ x / b.nx.length < a.nx.length ∧ 0 ≤ x % b.nx.length ∧ x % b.nx.length < b.nx.length := by
  have h1 := autOk_head hb
  have h2 : x < ((a.nx.length * b.nx.length : Nat) : Int) := hx.2
  rw [Int.natCast_mul] at h2
  exact ⟨Int.ediv_nonneg hx.1 (by omega), Int.ediv_lt_of_lt_mul (by omega) h2, Int.emod_nonneg _ (by omega), Int.emod_lt_of_pos _ (by omega)⟩
theorem gPr_ok {a b : Aut} (ha : autOk a = true) (hb : autOk b = true) {s0 : Int} {op : Bool → Bool → Bool} (hs : 0 ≤ s0 ∧ s0 < a.nx.length * b.nx.length) : GrOk (gPr a b s0 op) := by
  refine ⟨⟨hs.1, by show s0 < ((a.nx.length * b.nx.length : Nat) : Int); rw [Int.natCast_mul]; exact hs.2⟩, fun x hx l hl y hy => ?_, letters_sorted _ _⟩
  have hl := lettersTo_in (show l ∈ lettersTo a.al 6 from hl)
  have h1 := gPr_node hb hx
  have h2 := goA_in ha (q := (x / b.nx.length).toNat) (by omega) hl.1 (by omega)
  have h3 := goA_in hb (q := (x % b.nx.length).toNat) (by omega) hl.1 (by omega)
  have hy : y = goA a (x / b.nx.length).toNat l * b.nx.length + goA b (x % b.nx.length).toNat l := by simpa [gPr] using hy
  subst hy
  generalize goA a (x / b.nx.length).toNat l = u at *
  generalize goA b (x % b.nx.length).toNat l = v at *
  show 0 ≤ u * (b.nx.length : Int) + v ∧ u * (b.nx.length : Int) + v < ((a.nx.length * b.nx.length : Nat) : Int)
  rw [Int.natCast_mul]
  have h4 : 0 ≤ u * (b.nx.length : Int) := Int.mul_nonneg h2.1 (by omega)
  have h5 : (u + 1) * (b.nx.length : Int) ≤ a.nx.length * b.nx.length := Int.mul_le_mul_of_nonneg_right (by omega) (by omega)
  rw [Int.add_mul] at h5
  omega
theorem netD_ok {a b : Aut} {kd : Int} (ha : autOk a = true) (hb : autOk b = true) : NetOk (netD a b kd) ∧ KdOk (netD a b kd) ∧ Fits (sizesN (netD a b kd)) (netD a b kd).st := by
  have h1 := autOk_head ha
  have h2 := autOk_head hb
  refine ⟨⟨fun s hs => (by cases hs), fun x hx => ?_, by simp [netD], by simp [netD]⟩, ⟨fun _ => by simp [netD], fun _ => by simp [netD]⟩, ?_⟩
  · simp [netD] at hx; rcases hx with rfl | rfl <;> assumption
  · refine fits_zero (zs := sizesN (netD a b kd)) fun z hz => ?_
    simp [sizesN, netD] at hz
    rcases hz with rfl | rfl <;> omega
theorem netD_ans {a b : Aut} {kd : Int} {op : Bool → Bool → Bool} (ha : autOk a = true) (hb : autOk b = true) (ho : ∀ x y, op x y = if kd = 1 then x != y else (x && !y)) (hk : kd = 1 ∨ kd = 2) : ansOf (gPr a b 0 op) = ansOf (gOf (netD a b kd)) := by
  obtain ⟨hn, _, hst⟩ := netD_ok (kd := kd) ha hb
  have han := autOk_head ha
  have hbn := autOk_head hb
  have hg := gOf_ok hn hst
  refine ansOf_eq (IsAns.congr hg ?_ ?_ (fun x hx l hl => ?_) (fun x hx => ?_) (ansOf_is _))
  · rfl
  · exact encN_zero (sizesN (netD a b kd)) 2
  · have hl := lettersTo_in (show l ∈ lettersTo a.al 6 from hl)
    show nextsN (netD a b kd) (sizesN (netD a b kd)) (decN (sizesN (netD a b kd)) x) l = _
    have e := nextsN_split (l := []) (aus := [a, b]) (st := [0, 0]) (ls := a.al) (kd := kd) (gl := 0) hn (node := x) hl.1 (by omega)
    refine Eq.trans e ?_
    have hxN : x / b.nx.length % a.nx.length = x / b.nx.length := by
      have h2 : (gOf (netD a b kd)).N = a.nx.length * b.nx.length := by
        show (prodI (sizesN (netD a b kd))).toNat = _
        simp only [sizesN, netD, List.map_nil, List.nil_append, List.map_cons, prodI, Int.mul_one]
        rw [← Int.natCast_mul, Int.toNat_natCast]
      rw [h2] at hx
      have := gPr_node (a := a) hb (x := x) hx
      exact Int.emod_eq_of_lt this.1 this.2.1
    simp only [List.map_cons, List.map_nil, prodI, Int.mul_one, decN, csP, List.zipWith_nil_left, List.zipWith_cons_cons, lowN, List.flatMap_cons, List.flatMap_nil, List.append_nil, Int.ediv_one, Int.add_zero, Int.zero_mul, Int.zero_add, hxN, gPr]
  · show foundN (netD a b kd) (decN (sizesN (netD a b kd)) x) (rowN (netD a b kd) x.toNat) = _
    have hxN : x / b.nx.length % a.nx.length = x / b.nx.length := by
      have h2 : (gOf (netD a b kd)).N = a.nx.length * b.nx.length := by
        show (prodI (sizesN (netD a b kd))).toNat = _
        simp only [sizesN, netD, List.map_nil, List.nil_append, List.map_cons, prodI, Int.mul_one]
        rw [← Int.natCast_mul, Int.toNat_natCast]
      rw [h2] at hx
      have := gPr_node (a := a) hb (x := x) hx
      exact Int.emod_eq_of_lt this.1 this.2.1
    show _ = op (a.ac.getD (x / b.nx.length).toNat false) (b.ac.getD (x % b.nx.length).toNat false)
    rw [ho]
    unfold foundN okN
    rcases hk with rfl | rfl
    · simp [netD, sizesN, decN, prodI, List.getD, hxN]
    · simp [netD, sizesN, decN, prodI, List.getD, hxN]
def validD (a b : Aut) : Bool := autOk a && autOk b && decide (a.al = b.al)
/-- The first word that exactly one of two automata accepts. -/
noncomputable def difD (a b : Aut) : Option (List Int) := if validD a b then ansOf (gOf (netD a b 1)) else none
end Go.Am
/-
  What the first word that tells two automata apart says; it is short.
-/
namespace Go.Am
open Go
set_option linter.unusedVariables false

theorem reach_app {g : Gr} : ∀ {u v : List Int} {a x : Int}, reach g (u ++ v) a x ↔ ∃ y, reach g u a y ∧ reach g v y x
  | [], v, a, x => ⟨fun h => ⟨a, rfl, h⟩, fun ⟨y, h1, h2⟩ => by cases h1; exact h2⟩
  | l :: u, v, a, x => by
    simp only [List.cons_append, reach]
    constructor
    · rintro ⟨y, hy, h⟩
      obtain ⟨z, h1, h2⟩ := reach_app.1 h
      exact ⟨z, ⟨y, hy, h1⟩, h2⟩
    · rintro ⟨z, ⟨y, hy, h1⟩, h2⟩
      exact ⟨y, hy, reach_app.2 ⟨z, h1, h2⟩⟩
theorem pigeon (n : Nat) (f : Nat → Int) (h : ∀ i, i ≤ n → 0 ≤ f i ∧ f i < n) : ∃ i j, i < j ∧ j ≤ n ∧ f i = f j := by
  apply Classical.byContradiction
  intro hno
  have h1 : ((List.range (n + 1)).map fun i => (f i).toNat).Nodup := by
    unfold List.Nodup
    rw [List.pairwise_map]
    refine List.pairwise_lt_range.imp_of_mem fun {a b} ha hb hab he => hno ⟨a, b, hab, ?_, ?_⟩
    · have := List.mem_range.1 hb; omega
    · have h2 := h a (by have := List.mem_range.1 ha; omega)
      have h3 := h b (by have := List.mem_range.1 hb; omega)
      omega
  have h2 := nodup_lt n _ h1 fun x hx => by
    obtain ⟨i, hi, rfl⟩ := List.mem_map.1 hx
    have := h i (by have := List.mem_range.1 hi; omega)
    omega
  simp at h2
  omega
theorem IsAns.short {g : Gr} (hg : GrOk g) {w : List Int} (h : IsAns g (some w)) : w.length < g.N := by
  obtain ⟨h1, ⟨x, hx, hgx⟩, h3⟩ := h
  apply Classical.byContradiction
  intro hlen
  have hsp : ∀ k, ∃ y, reach g (w.take k) g.s0 y ∧ reach g (w.drop k) y x := fun k => reach_app.1 (by rw [List.take_append_drop]; exact hx)
  obtain ⟨f, hf⟩ := Classical.axiomOfChoice hsp
  obtain ⟨i, j, hij, hj, he⟩ := pigeon g.N f fun i _ => reach_in hg (fun l hl => h1 l (List.mem_of_mem_take hl)) hg.s0 (hf i).1
  refine h3 (w.take i ++ w.drop j) (fun l hl => ?_) ⟨x, reach_app.2 ⟨f i, (hf i).1, he ▸ (hf j).2⟩, hgx⟩ (.inl ?_)
  · rcases List.mem_append.1 hl with hl | hl
    · exact h1 l (List.mem_of_mem_take hl)
    · exact h1 l (List.mem_of_mem_drop hl)
  · simp; omega
theorem txt_on {al : Int} : ∀ {w : List Int}, (∀ l ∈ w, l ∈ letters al) → wordOn (lsB al) (txt w) := fun {w} h c hc => by
  obtain ⟨l, hl, rfl⟩ := List.mem_map.1 hc
  exact lsB_mem (h l hl)
theorem reach_gB {a b : Aut} (ha : autOk a = true) (hb : autOk b = true) {op : Bool → Bool → Bool} {s0 : Int} : ∀ {w : List Int} {i j x : Int}, (∀ l ∈ w, l ∈ letters a.al) → (0 ≤ i ∧ i < a.nx.length) → (0 ≤ j ∧ j < b.nx.length) →
    (reach (gPr a b s0 op) w (i * b.nx.length + j) x ↔ x = runA a i (txt w) * b.nx.length + runA b j (txt w))
  | [], i, j, x, _, _, _ => ⟨fun h => h.symm, fun h => h.symm⟩
  | l :: w, i, j, x, hw, hi, hj => by
    have hl := lettersTo_in (hw l (by simp))
    have h1 : (i * b.nx.length + j) / b.nx.length = i := by
      rw [Int.add_comm, Int.add_mul_ediv_right _ _ (by omega), Int.ediv_eq_zero_of_lt hj.1 hj.2, Int.zero_add]
    have h2 : (i * b.nx.length + j) % b.nx.length = j := by
      rw [Int.add_comm, Int.add_mul_emod_self_right, Int.emod_eq_of_lt hj.1 hj.2]
    have h3 := goA_in ha (q := i.toNat) (by omega) hl.1 (by omega)
    have h4 := goA_in hb (q := j.toNat) (by omega) hl.1 (by omega)
    have ih := reach_gB ha hb (op := op) (s0 := s0) (w := w) (x := x) (fun m hm => hw m (by simp [hm])) h3 h4
    have e : ∀ (c : Aut) (q : Int), runA c q (txt (l :: w)) = runA c (goA c q.toNat l) (txt w) := fun c q => by
      show runA c (goA c q.toNat (((lb l).toNat : Int) - 97)) (txt w) = _
      rw [lb_num hl.1 (by omega)]
    rw [e, e, ← ih]
    simp only [reach, gPr, h1, h2, List.mem_singleton, exists_eq_left]
theorem difD_some {a b : Aut} {w : List Int} (h : difD a b = some w) : validD a b = true ∧ wordOn (lsB a.al) (txt w) ∧ LA a (txt w) ≠ LA b (txt w) ∧ (txt w).length ≤ 144 := by
  unfold difD at h
  by_cases hv : validD a b = true
  · rw [if_pos hv] at h
    refine ⟨hv, ?_⟩
    unfold validD at hv
    simp only [Bool.and_eq_true, decide_eq_true_eq] at hv
    obtain ⟨⟨ha, hb⟩, hal⟩ := hv
    have han := autOk_head ha
    have hbn := autOk_head hb
    rw [← netD_ans (op := bne) ha hb (fun x y => by simp) (.inl rfl)] at h
    have hg := gPr_ok (op := bne) (s0 := 0) ha hb ⟨by omega, by rw [← Int.natCast_mul]; have := Nat.mul_pos (show 0 < a.nx.length by omega) (show 0 < b.nx.length by omega); omega⟩
    have hi := ansOf_is (gPr a b 0 bne)
    rw [h] at hi
    have hs := hi.short hg
    obtain ⟨h1, ⟨x, hx, hgx⟩, h3⟩ := hi
    have hon := txt_on (al := a.al) h1
    refine ⟨hon, fun he => ?_, ?_⟩
    · have h4 := (reach_gB ha hb (op := bne) (s0 := 0) (i := 0) (j := 0) (x := x) h1 ⟨by omega, by omega⟩ ⟨by omega, by omega⟩).1 (by simpa [gPr] using hx)
      have hra := runA_in ha (txt w) 0 hon (by omega)
      have hrb := runA_in hb (txt w) 0 (al := a.al) hon (by omega)
      have h5 : x / b.nx.length = runA a 0 (txt w) := by
        rw [h4, Int.add_comm, Int.add_mul_ediv_right _ _ (by omega), Int.ediv_eq_zero_of_lt hrb.1 hrb.2, Int.zero_add]
      have h6 : x % b.nx.length = runA b 0 (txt w) := by
        rw [h4, Int.add_comm, Int.add_mul_emod_self_right, Int.emod_eq_of_lt hrb.1 hrb.2]
      have h7 : (gPr a b 0 bne).goal x = (LA a (txt w) != LA b (txt w)) := by simp only [gPr, h5, h6, LA]
      rw [h7, he] at hgx
      simp at hgx
    · have h8 : a.nx.length * b.nx.length ≤ 12 * 12 := Nat.mul_le_mul (by omega) (by omega)
      have h9 : (gPr a b 0 bne).N = a.nx.length * b.nx.length := rfl
      have h10 : (txt w).length = w.length := by simp [txt]
      omega
  · rw [if_neg hv] at h; cases h
end Go.Am
/-
  Learning a known automaton, plainly: the tables, the last round.
-/
namespace Go.Am
open Go
set_option linter.unusedVariables false

/-- The word that refutes a table's automaton. -/
noncomputable def wrD (p : Aut) (t : Tab) : Option W := (difD (autM (LA p) p.al t) p).map txt
theorem wrD_ok (p : Aut) : Wr (LA p) (lsB p.al) (wrD p) := ⟨fun t w h hc => by
  unfold wrD at h
  obtain ⟨v, hv, rfl⟩ := Option.map_eq_some_iff.1 h
  obtain ⟨_, h1, h2, _⟩ := difD_some hv
  exact ⟨h1, fun he => h2 (by rw [LA_autM hc h1, he])⟩⟩
theorem wrD_short {p : Aut} {t : Tab} {w : W} (h : wrD p t = some w) : w.length ≤ 144 := by
  unfold wrD at h
  obtain ⟨v, hv, rfl⟩ := Option.map_eq_some_iff.1 h
  exact (difD_some hv).2.2.2
theorem tabOne_ok (L : W → Bool) (ls : List UInt8) : TOk L ls tabOne := by
  refine ⟨rfl, rfl, fun i w hi h0 => ?_, fun w hw => ?_, fun w hw => ?_, by simp [rowsM, tabOne], by simp [tabOne]⟩
  · have := (List.getElem?_eq_some_iff.1 hi).1
    simp [tabOne] at this; omega
  · simp [tabOne] at hw; subst hw; exact fun c hc => (by cases hc)
  · simp [tabOne] at hw; subst hw; exact fun c hc => (by cases hc)
/-- The first table. -/
noncomputable def tabZ (p : Aut) : Tab := (closeN (LA p) (lsB p.al) 13 tabOne).getD tabOne
theorem tabZ_ok {p : Aut} (hp : autOk p = true) : closeN (LA p) (lsB p.al) 13 tabOne = some (tabZ p) ∧ Closed (LA p) (lsB p.al) (tabZ p) ∧ (tabZ p).cols = [[]] := by
  have h1 := autOk_head hp
  obtain ⟨t', e1, e2, e3, e4, e5, _⟩ := closeN_ok (finA hp p.al) h1.2.2.1 13 tabOne (tabOne_ok _ _) (by simp [tabOne])
  have : tabZ p = t' := by unfold tabZ; rw [e1]; rfl
  rw [this]
  exact ⟨e1, e2.closed e3, e5⟩
noncomputable def tabK (p : Aut) (k : Nat) : Tab := tabAt (LA p) (lsB p.al) (wrD p) (tabZ p) k
theorem last_ex {p : Aut} (hp : autOk p = true) : ∃ k, k < 12 ∧ wrD p (tabK p k) = none ∧ ∀ j, j < k → wrD p (tabK p j) ≠ none :=
  last_round (finA hp p.al) (autOk_head hp).2.2.1 (wrD_ok p) (tabZ_ok hp).2.1 (by rw [(tabZ_ok hp).2.2]; rfl)
open Classical in
/-- The last round, counted from 0. -/
noncomputable def lastK (p : Aut) : Nat := if h : ∃ k, k < 12 ∧ wrD p (tabK p k) = none ∧ ∀ j, j < k → wrD p (tabK p j) ≠ none then Classical.choose h else 0
theorem lastK_ok {p : Aut} (hp : autOk p = true) : lastK p < 12 ∧ wrD p (tabK p (lastK p)) = none ∧ ∀ j, j < lastK p → wrD p (tabK p j) ≠ none := by
  have h := last_ex hp
  unfold lastK
  rw [dif_pos h]
  exact Classical.choose_spec h
theorem TOk.short {L : W → Bool} {ls : List UInt8} {t : Tab} (h : TOk L ls t) : ∀ (i : Nat) w, t.rows[i]? = some w → w.length ≤ i := by
  intro i
  induction i using Nat.strongRecOn with
  | _ i ih =>
    intro w hw
    rcases Nat.eq_zero_or_pos i with h0 | h0
    · subst h0
      rw [h.r0] at hw
      injection hw with hw
      subst hw; simp
    · obtain ⟨h1, j, hj, h2⟩ := h.pre i w hw h0
      have := ih j hj _ h2
      simp at this
      omega
/-- Columns that are not long. -/
def colsLe (n : Nat) (t : Tab) : Prop := ∀ c ∈ t.cols, c.length ≤ n
theorem tabK_ok {p : Aut} (hp : autOk p = true) : ∀ k, k ≤ lastK p → Closed (LA p) (lsB p.al) (tabK p k) ∧ k + 1 ≤ (tabK p k).rows.length ∧ (tabK p k).rows.length ≤ 12 ∧ (tabK p k).cols.length = k + 1 ∧ colsLe 144 (tabK p k)
  | 0, hk => by
    have h1 := tabZ_ok hp
    have h2 := h1.2.1.few (finA hp p.al)
    have h3 := autOk_head hp
    have h0 := (List.getElem?_eq_some_iff.1 h1.2.1.r0).1
    exact ⟨h1.2.1, h0, by show (tabZ p).rows.length ≤ 12; omega, by show (tabZ p).cols.length = 1; rw [h1.2.2]; rfl, fun c hc => by
      have hc : c ∈ (tabZ p).cols := hc
      rw [h1.2.2] at hc
      simp at hc; subst hc; simp⟩
  | k + 1, hk => by
    obtain ⟨h1, h2, h3, h4, h5⟩ := tabK_ok hp k (by omega)
    have h6 := (lastK_ok hp).2.2 k (by omega)
    have e : tabK p (k + 1) = match wrD p (tabK p k) with
      | none => tabK p k
      | some w => (nextT (LA p) (lsB p.al) (tabK p k) w).getD (tabK p k) := rfl
    cases hw : wrD p (tabK p k) with
    | none => exact absurd hw h6
    | some w =>
      obtain ⟨h7, h8⟩ := (wrD_ok p).on _ w hw h1
      have h10 := autOk_head hp
      obtain ⟨v, t', hN⟩ := Am.next_ok (finA hp p.al) h10.2.2.1 h1 h7 h8
      rw [hw] at e
      simp only [hN.next, Option.getD_some] at e
      rw [e]
      refine ⟨hN.ok, by have := hN.more; omega, by have := hN.ok.few (finA hp p.al); omega, by rw [hN.cols]; simp [h4], fun c hc => ?_⟩
      rw [hN.cols] at hc
      rcases List.mem_append.1 hc with hc | hc
      · exact h5 c hc
      · simp at hc
        subst hc
        have := wrD_short hw
        obtain ⟨q, _, hq⟩ := hN.suf
        rw [hq] at this
        simp at this; omega
/-- From one round to the next. -/
theorem tabK_step {p : Aut} (hp : autOk p = true) {k : Nat} (hk : k < lastK p) : ∃ w v, wrD p (tabK p k) = some w ∧ Next (LA p) (lsB p.al) (tabK p k) w v (tabK p (k + 1)) := by
  have h1 := (tabK_ok hp k (by omega)).1
  have h6 := (lastK_ok hp).2.2 k hk
  have e : tabK p (k + 1) = match wrD p (tabK p k) with
    | none => tabK p k
    | some w => (nextT (LA p) (lsB p.al) (tabK p k) w).getD (tabK p k) := rfl
  cases hw : wrD p (tabK p k) with
  | none => exact absurd hw h6
  | some w =>
    obtain ⟨h7, h8⟩ := (wrD_ok p).on _ w hw h1
    obtain ⟨v, t', hN⟩ := Am.next_ok (finA hp p.al) (autOk_head hp).2.2.1 h1 h7 h8
    rw [hw] at e
    simp only [hN.next, Option.getD_some] at e
    rw [e]
    exact ⟨w, v, rfl, hN⟩
end Go.Am
/-
  Loops whose head keeps most of what stands ahead of it.
-/
namespace Go.Am
open Go

def isFnD : Option TypeDesc → Bool
  | some (.func ..) => true
  | _ => false
class HasFn (P : Program) (t : TypeId) : Prop where
  out : isFnD (P.underlying t) = true
section
open Go.Proofs
instance : HasFn Tryz.prog 65 := ⟨by kernel_rfl⟩
end
theorem run_eqF {P : Program} {t : TypeId} (h : isFnD (P.underlying t) = true) (w : World) : (Op.equal t .nilFunc .nilFunc).run P w = .ok true w ∧ ∀ (g : Fn) (a b : Array Value), (Op.equal t (.func g a b) .nilFunc).run P w = .ok false w := by
  unfold isFnD at h
  split at h
  · rename_i he
    unfold Op.equal Op.maxDepth
    rw [show 10000 = 9999 + 1 from rfl, Op.equalIn]
    refine ⟨by simp [run_underlying he, go_sem], fun g a b => ?_⟩
    rw [Op.equalIn]
    simp [run_underlying he, go_sem]
  · cases h
section
variable {P : Program} {TB : List (Nat × Obj)} {Γ : Ctx} {d : Option Tmp} {ty : TypeId} {pos : String} {af : Array Edge} {g : Option (Nat × Bool)} {f : Env} {σ : Store} {nx : Nat}
theorem q_neNil {t yt : TypeId} {x y : Operand} [hp : HasFn P t] (hx : ev f x = some (.o (.d (.v .nilFunc)))) (hy : ev f y = some (.o (.d (.v .nilFunc)))) : QOp P TB Γ ⟨d, .binOp .neq t x y yt, ty, pos, af, g⟩ f σ nx (eB false) :=
  bin_run hx hy rfl fun w => by
    have h6 : binOp .neq t .nilFunc .nilFunc = (do pure (.bool (!(← Op.equal t .nilFunc .nilFunc)))) := rfl
    have h7 : eqGuard .neq t x y .nilFunc .nilFunc = pure () := rfl
    rw [h6, h7]
    simp [(run_eqF hp.out w).1, go_sem]
end
def keepE (L : List (Nat × E)) : List Nat → Option (List (Nat × E))
  | [] => some []
  | k :: r => match look L k, keepE L r with
    | some e, some l => some ((k, e) :: l)
    | _, _ => none
def keepS (σ : Store) : List Nat → Option Store
  | [] => some []
  | k :: r => match look σ k, keepS σ r with
    | some e, some l => some ((k, e) :: l)
    | _, _ => none
section
variable {P : Program} {TB : List (Nat × Obj)} {Γ : Ctx} {N : Nat}
/-- 'ks', 'is': the slots and the objects that the loop keeps; 'v', 's': those that change. -/
theorem AWp.loopV {c : Code} {Q : Exit → Env → Store → Nat → Prop} {L0 Lk : List (Nat × E)} {σ Sk : Store} {nx : Nat} {α : Type} (ks is : List Nat) (hk : keepE L0 ks = some Lk) (hi : keepS σ is = some Sk) (v : α → List (Nat × E)) (s : α → Store) (n : Nat) (μ : α → Nat)
    (x : α) (l0 : List Nat) (hl0 : (∀ i, i < Γ.V.nx → l0[i]? = some i) ∧ l0.Nodup ∧ l0.length = n) (h0 : EnvSub (nm l0 nx) (look L0) (v x ++ Lk) ∧ StoreSub (nm l0 nx) σ (s x ++ Sk))
    (round : ∀ x, AWp P TB Γ N c (thenQ (fun f σ nx => ∃ y, μ y < μ x ∧ ∃ l : List Nat, (∀ i, i < Γ.V.nx → l[i]? = some i) ∧ l.Nodup ∧ l.length = n ∧ EnvSub (nm l nx) f (v y ++ Lk) ∧ StoreSub (nm l nx) σ (s y ++ Sk)) Q) (look (v x ++ Lk)) (s x ++ Sk) n) :
    AWp P TB Γ N (.loop c) Q (look L0) σ nx := AWp.loopL (fun x => v x ++ Lk) (fun x => s x ++ Sk) n μ x l0 hl0 h0 round
/-- A plain function value, read as a function. -/
theorem q_asFn {d : Option Tmp} {op : Op} {ty : TypeId} {pos : String} {af : Array Edge} {g : Option (Nat × Bool)} {L : List (Nat × E)} {σ : Store} {nx : Nat} {e : E} {t : Tmp} {gg : FuncId} (hx : look L t = some (.o (.d (.v (.func (.func gg) #[] #[])))))
    (h : QOp P TB Γ ⟨d, op, ty, pos, af, g⟩ (look ((t, .o (.fn gg [])) :: L)) σ nx e) : QOp P TB Γ ⟨d, op, ty, pos, af, g⟩ (look L) σ nx e := by
  intro V a h1 h2 h3
  refine h V a ?_ h2 h3
  intro t' e' ht' he'
  rw [look_cons] at he'
  by_cases he : t = t'
  · subst he
    rw [if_pos rfl] at he'
    injection he' with he'
    subst he'
    have hv := CRel.val (h1 t _ ht' hx)
    show CRel V (.fn gg []) _
    rw [hv]
    exact .fn rfl (fun j c v hj => by simp at hj)
  · rw [if_neg he] at he'
    exact h1 t' e' ht' he'
theorem Spec.asFn {g f0 : FuncId} {σ : Store} {nx : Nat} {l m : List E} {post : E → Store → Nat → Prop} (h : Spec P TB g σ nx (l ++ .o (.d (.v (.func (.func f0) #[] #[]))) :: m) post) : Spec P TB g σ nx (l ++ .o (.fn f0 []) :: m) post :=
  ⟨h.1, fun V vs hg ha => h.2 V vs hg ⟨by simpa using ha.1, fun j e v hj hv => by
    by_cases hlt : j < l.length
    · exact ha.2 j e v (by rw [List.getElem?_append_left hlt] at hj ⊢; exact hj) hv
    · by_cases hj0 : j = l.length
      · subst hj0
        have h1 := ha.2 l.length (.o (.fn f0 [])) v (by simp) hv
        rw [List.getElem?_append_right (Nat.le_refl _)] at hj
        simp at hj
        subst hj
        obtain ⟨vs', rfl, h2⟩ := fn_val h1
        have h3 : vs' = #[] := Array.eq_empty_of_size_eq_zero (by simpa using h2.1)
        subst h3
        exact CRel.d (.v rfl)
      · refine ha.2 j e v ?_ hv
        rw [List.getElem?_append_right (by omega)] at hj ⊢
        obtain ⟨q, hq⟩ : ∃ q, j - l.length = q + 1 := ⟨j - l.length - 1, by omega⟩
        rw [hq] at hj ⊢
        simpa using hj⟩⟩
end
end Go.Am
/-
  At the end of a call: all that it made becomes data.
-/
namespace Go.Am
open Go
set_option linter.unusedVariables false

inductive FZ (σ : Store) : C → D → Prop
  | d {x : D} : FZ σ (.d x) x
  | fn {g : FuncId} : FZ σ (.fn g []) (.v (.func (.func g) #[] #[]))
  | arr {id k off len : Nat} {T : TypeId} {rows : List (List C)} {ds : List (List D)} {rs : Nat → List C} {cs : Nat → Nat → C} : look σ id = some (.cells T k rows) → off + len ≤ rows.length → ds.length = len →
      (∀ i r', ds[i]? = some r' → rows[off + i]? = some (rs i) ∧ (rs i).length = r'.length) → (∀ i j r' x, ds[i]? = some r' → r'[j]? = some x → (rs i)[j]? = some (cs i j)) →
      (∀ i j r' x, ds[i]? = some r' → r'[j]? = some x → FZ σ (cs i j) x) → FZ σ (.arr id k off len) (.l ds)
  | ptr {id k i j : Nat} {T : TypeId} {rows : List (List C)} {r : List C} {ds : List D} {cs : Nat → C} : look σ id = some (.cells T k rows) → rows[i]? = some r → (∀ q x, ds[q]? = some x → r[j + q]? = some (cs q)) → (∀ q x, ds[q]? = some x → FZ σ (cs q) x) → FZ σ (.ptr id k i j) (.p ds)
inductive FZL (σ : Store) : List C → List D → Prop
  | nil : FZL σ [] []
  | cons {c : C} {d : D} {cs : List C} {ds : List D} : FZ σ c d → FZL σ cs ds → FZL σ (c :: cs) (d :: ds)
theorem FZL.get {σ : Store} {cs : List C} {ds : List D} (h : FZL σ cs ds) : cs.length = ds.length ∧ ∀ (j : Nat) x, ds[j]? = some x → ∃ c, cs[j]? = some c ∧ FZ σ c x := by
  induction h with
  | nil => exact ⟨rfl, fun j x h => by simp at h⟩
  | @cons c d cs ds h1 _ ih =>
    refine ⟨by simp [ih.1], fun j x hj => ?_⟩
    cases j with
    | zero => simp at hj; subst hj; exact ⟨c, rfl, h1⟩
    | succ j => exact ih.2 j x (by simpa using hj)
theorem FZL.refl {σ : Store} : ∀ (ds : List D), FZL σ (ds.map .d) ds
  | [] => .nil
  | d :: ds => .cons .d (FZL.refl ds)
theorem FZ.rows {σ : Store} {id k len : Nat} {T : TypeId} {rows : List (List C)} {ds : List (List D)} (hl : look σ id = some (.cells T k rows)) (hn : ds.length = len) (hr : rows.length = len) (h : ∀ (i : Nat) (r' : List D), ds[i]? = some r' → ∃ r, rows[i]? = some r ∧ FZL σ r r') : FZ σ (.arr id k 0 len) (.l ds) := by
  refine .arr (rs := fun i => (rows[i]?).getD []) (cs := fun i j => (((rows[i]?).getD [])[j]?).getD (.d (.l []))) hl (by omega) hn (fun i r' hi => ?_) (fun i j r' x hi hj => ?_) (fun i j r' x hi hj => ?_)
  · obtain ⟨r, h1, h2⟩ := h i r' hi
    rw [Nat.zero_add, h1]
    exact ⟨rfl, h2.get.1⟩
  · obtain ⟨r, h1, h2⟩ := h i r' hi
    obtain ⟨c, h3, h4⟩ := h2.get.2 j x hj
    simp [h1, h3]
  · obtain ⟨r, h1, h2⟩ := h i r' hi
    obtain ⟨c, h3, h4⟩ := h2.get.2 j x hj
    simp [h1, h3, h4]
theorem FZ.full {σ : Store} {id k len : Nat} {T : TypeId} {rows : List (List C)} {ds : List (List D)} (hl : look σ id = some (.cells T k rows)) (hr : rows = ds.map (fun r => r.map .d)) (hn : rows.length = len) : FZ σ (.arr id k 0 len) (.l ds) := by
  refine .rows hl (by rw [← hn, hr]; simp) hn fun i r' hi => ⟨r'.map .d, ?_, FZL.refl _⟩
  rw [hr]; simp [hi]
theorem FZ.box {σ : Store} {id k : Nat} {T : TypeId} {r : List C} {ds : List D} (hl : look σ id = some (.cells T k [r])) (h : FZL σ r ds) : FZ σ (.ptr id k 0 0) (.p ds) := by
  refine .ptr (cs := fun q => (r[q]?).getD (.d (.l []))) hl rfl (fun q x hq => ?_) (fun q x hq => ?_)
  · obtain ⟨c, h3, h4⟩ := h.get.2 q x hq
    rw [Nat.zero_add, h3]; rfl
  · obtain ⟨c, h3, h4⟩ := h.get.2 q x hq
    simp [h3, h4]
inductive EZ (σ : Store) : E → E → Prop
  | keep {e : E} : e.pur = true → EZ σ e e
  | o {c : C} {d : D} : FZ σ c d → EZ σ (.o c) (.o (.d d))
  | a {cs : List C} {ds : List D} : FZL σ cs ds → EZ σ (.a cs) (.a (ds.map .d))
def EnvZ (σ : Store) (f : Env) : List (Nat × E) → Prop
  | [] => True
  | (t, e') :: L => (∃ e, f t = some e ∧ EZ σ e e') ∧ EnvZ σ f L
theorem EnvZ.get {σ : Store} {f : Env} : ∀ {L : List (Nat × E)}, EnvZ σ f L → ∀ t e', look L t = some e' → ∃ e, f t = some e ∧ EZ σ e e'
  | [], _, t, e, h => by cases h
  | (k, x) :: L, hs, t, e, h => by
    rw [look_cons] at h
    by_cases hk : k = t
    · rw [if_pos hk] at h; injection h with h; subst h; subst hk; exact hs.1
    · rw [if_neg hk] at h; exact EnvZ.get hs.2 t e h
def allV (V : View) (σ : Store) : View := { V with I := fun b => V.I b ∨ ∃ id o, look σ id = some o ∧ ¬ V.nl id ∧ V.ρ id = b }
theorem all_ext {V : View} {σ : Store} : Ext V (allV V σ) := ⟨fun _ h => .inl h, fun _ _ => rfl, Nat.le_refl _, fun _ _ => rfl, fun _ _ => rfl, fun _ _ => Iff.rfl, Nat.le_refl _⟩
section
variable {P : Program} {TB : List (Nat × Obj)} {Γ : Ctx} {N : Nat} {σ : Store}
theorem FZ.rel {V : View} (hi : Inv TB Γ V σ) {c : C} {d : D} (h : FZ σ c d) : ∀ {v : Value}, CRel V c v → DRel (allV V σ).I V.w d v := by
  induction h with
  | d => intro v hc; cases hc with | d h => exact h.ext (V := V) (V' := allV V σ) all_ext
  | fn =>
    intro v hc
    cases hc with
    | @fn f cap vs h1 _ =>
      have : vs = #[] := Array.eq_empty_of_size_eq_zero (by simpa using h1)
      subst this
      exact .v rfl
  | @arr id k off len T rows ds rs cs hl hle hn h1 h2 _ ih =>
    intro v hc
    cases hc with
    | nil h3 h4 =>
      have : ds = [] := List.length_eq_zero_iff.1 hn
      subst this
      exact .nil
    | arr h3 hnl h4 =>
      rcases hi.st.obj id _ hl with ⟨h5, _⟩ | ⟨_, cur, h5, h6, h7, h8, h9, h10⟩
      · exact absurd h5 hnl
      · have hcell : ∀ (i : Nat) (r : List D) (j : Nat) (x : D), ds[i]? = some r → r[j]? = some x → ∃ v, cur[(off + i) * k + j]? = some v ∧ DRel (allV V σ).I V.w x v := fun i r j x hi' hj => by
          obtain ⟨v, h11, h12⟩ := h10 (off + i) (rs i) j (cs i j) (h1 i r hi').1 (h2 i j r x hi' hj)
          exact ⟨v, h11, ih i j r x hi' hj h12⟩
        rw [← hn] at h4 ⊢
        refine .l (b := V.ρ id) (o := off * k) (k := k) (vs := fun i j => cur.getD ((off + i) * k + j) undef) (.inr ⟨id, _, hl, hnl, rfl⟩) (by omega) (by omega) (fun i r hi' => ?_) (fun i r j x hi' hj => ?_) (fun i r j x hi' hj => ?_)
        · have h13 := h1 i r hi'
          rw [← h13.2]
          exact h9 _ (List.mem_of_getElem? h13.1)
        · obtain ⟨v, h11, _⟩ := hcell i r j x hi' hj
          have e : off * k + i * k + j = (off + i) * k + j := by rw [Nat.add_mul]
          rw [e]
          simp [World.cell?, h5, h11]
        · obtain ⟨v, h11, h12⟩ := hcell i r j x hi' hj
          have : cur.getD ((off + i) * k + j) undef = v := by simp [h11]
          simp only [this]
          exact h12
  | @ptr id k i j T rows r ds cs hl hri h1 _ ih =>
    intro v hc
    cases hc with
    | ptr h3 hnl =>
      rcases hi.st.obj id _ hl with ⟨h5, _⟩ | ⟨_, cur, h5, h6, h7, h8, h9, h10⟩
      · exact absurd h5 hnl
      · have hcell : ∀ (q : Nat) (x : D), ds[q]? = some x → ∃ v, cur[i * k + j + q]? = some v ∧ DRel (allV V σ).I V.w x v := fun q x hq => by
          obtain ⟨v, h11, h12⟩ := h10 i r (j + q) (cs q) hri (h1 q x hq)
          exact ⟨v, by rw [Nat.add_assoc]; exact h11, ih q x hq h12⟩
        refine .p (b := V.ρ id) (o := i * k + j) (vs := fun q => cur.getD (i * k + j + q) undef) (.inr ⟨id, _, hl, hnl, rfl⟩) (fun q x hq => ?_) (fun q x hq => ?_)
        · obtain ⟨v, h11, _⟩ := hcell q x hq
          simp [World.cell?, h5, h11]
        · obtain ⟨v, h11, h12⟩ := hcell q x hq
          have : cur.getD (i * k + j + q) undef = v := by simp [h11]
          simp only [this]
          exact h12
theorem EZ.rel {V : View} (hi : Inv TB Γ V σ) {e e' : E} (h : EZ σ e e') {v : Value} (hv : ERel V e v) : ERel (allV V σ) e' v := by
  cases h with
  | keep => exact hv.ext all_ext
  | o h => exact CRel.d (V := allV V σ) (h.rel hi hv)
  | @a cs ds h =>
    obtain ⟨vs, rfl, h1, h2⟩ := hv
    refine ⟨vs, rfl, by rw [h1, h.get.1]; simp, fun j c v hj hv => ?_⟩
    simp only [List.getElem?_map, Option.map_eq_some_iff] at hj
    obtain ⟨x, hx, rfl⟩ := hj
    obtain ⟨c, h3, h4⟩ := h.get.2 j x hx
    exact CRel.d (V := allV V σ) (h4.rel hi (h2 j c v h3 hv))
theorem AWp.settle {c : Code} {Q : Exit → Env → Store → Nat → Prop} {f : Env} {nx : Nat} (L : List (Nat × E)) (hE : EnvZ σ f L) (h : AWp P TB Γ N c Q (look L) [] nx) : AWp P TB Γ N c Q f σ nx := by
  intro V a hr
  refine h (allV V σ) a ⟨fun t x hx => ?_, fun t x hx => ?_, hr.size, ?_, hr.nx, hr.defers⟩
  · obtain ⟨y, h1, h2⟩ := hE.get t x hx
    exact h2.rel hr.inv (hr.env t y h1)
  · obtain ⟨y, h1, _⟩ := hE.get t x hx
    exact hr.lt t y h1
  · have hi := hr.inv
    refine ⟨hi.os, hi.tape, hi.output, hi.old, ?_, ?_, hi.ext.trans all_ext, store_none, fun id o ho => (by cases ho), fun x hx => ⟨.inl (hi.tabs x hx).1, (hi.tabs x hx).2⟩⟩
    · rintro b (hb | ⟨id, o, hl, hn, rfl⟩)
      · exact hi.iLt b hb
      · exact (hi.st.obj id o hl).blt hn
    · rintro b (hb | ⟨id, o, hl, hn, rfl⟩)
      · exact hi.iNew b hb
      · exact .inr (hi.live id o hl hn)
theorem keepE_frz {ids : List Nat} {L0 : List (Nat × E)} : ∀ {ks : List Nat} {Lk : List (Nat × E)}, keepE L0 ks = some Lk → EnvFrz σ ids (look L0) Lk
  | [], Lk, h => by injection h with h; subst h; trivial
  | k :: ks, Lk, h => by
    unfold keepE at h
    split at h
    · rename_i e l h1 h2
      injection h with h
      subst h
      exact ⟨⟨e, h1, .keep⟩, keepE_frz h2⟩
    · cases h
theorem EnvFrz.app {ids : List Nat} {f : Env} : ∀ {L M : List (Nat × E)}, EnvFrz σ ids f L → EnvFrz σ ids f M → EnvFrz σ ids f (L ++ M)
  | [], _, _, h => h
  | _ :: _, _, h, h' => ⟨h.1, EnvFrz.app h.2 h'⟩
/-- The objects of the list become data; the slots of the second list stay as they are. -/
theorem AWp.freezeV {c : Code} {Q : Exit → Env → Store → Nat → Prop} {L0 Lk : List (Nat × E)} {nx : Nat} (ids ks : List Nat) (hk : keepE L0 ks = some Lk) (L : List (Nat × E)) (hE : EnvFrz σ ids (look L0) L) (h : AWp P TB Γ N c Q (look (L ++ Lk)) (killL ids σ) nx) : AWp P TB Γ N c Q (look L0) σ nx :=
  AWp.freeze ids (L ++ Lk) (hE.app (keepE_frz hk)) h
section
variable {d : Option Tmp} {ty : TypeId} {pos : String} {af : Array Edge} {g : Option (Nat × Bool)} {f : Env} {nx : Nat}
/-- 's[m:]', 's[:m]'. -/
theorem q_dropT {t : TypeId} {x lo : Operand} {s : List UInt8} {m : Int} {k : IntKind} [ht : HasStr P t] (hx : ev f x = some (eT s)) (hl : ev f lo = some (eI k m)) (h0 : 0 ≤ m) (h1 : m ≤ s.length) : QOp P TB Γ ⟨d, .slice t x (some lo) none none, ty, pos, af, g⟩ f σ nx (eT (s.drop m.toNat)) := by
  have h := q_partT (P := P) (TB := TB) (Γ := Γ) (d := d) (ty := ty) (pos := pos) (af := af) (g := g) (σ := σ) (nx := nx) (t := t) (x := x) (lo := some lo) (hi := none) (l := some (k, m)) (h := none) hx (by simp [bnd, hl]) rfl h0 h1 (Int.le_refl _)
  simpa [hiV, loV] using h
theorem q_takeT {t : TypeId} {x hi : Operand} {s : List UInt8} {m : Int} {k : IntKind} [ht : HasStr P t] (hx : ev f x = some (eT s)) (hl : ev f hi = some (eI k m)) (h0 : 0 ≤ m) (h1 : m ≤ s.length) : QOp P TB Γ ⟨d, .slice t x none (some hi) none, ty, pos, af, g⟩ f σ nx (eT (s.take m.toNat)) := by
  have h := q_partT (P := P) (TB := TB) (Γ := Γ) (d := d) (ty := ty) (pos := pos) (af := af) (g := g) (σ := σ) (nx := nx) (t := t) (x := x) (lo := none) (hi := some hi) (l := none) (h := some (k, m)) hx rfl (by simp [bnd, hl]) (Int.le_refl _) h0 h1
  simpa [hiV, loV] using h
theorem q_takeL {t e : TypeId} {b n : Nat} {x hi : Operand} {rows : List (List D)} {m : Int} {k : IntKind} [hsl : HasSl P t e n b] (hx : ev f x = some (.o (.d (.l rows)))) (hl : ev f hi = some (eI k m)) (hn : ∀ r ∈ rows, r.length = n) (h0 : 0 ≤ m) (h1 : m ≤ rows.length) : QOp P TB Γ ⟨d, .slice t x none (some hi) none, ty, pos, af, g⟩ f σ nx (.o (.d (.l (rows.take m.toNat)))) := by
  have h := q_partL (P := P) (TB := TB) (Γ := Γ) (d := d) (ty := ty) (pos := pos) (af := af) (g := g) (σ := σ) (nx := nx) (t := t) (x := x) (lo := none) (hi := some hi) (l := none) (h := some (k, m)) hx rfl (by simp [bnd, hl]) hn (Int.le_refl _) h0 h1
  simpa [hiV, loV] using h
end
end
end Go.Am
/-
  The first word that tells two automata apart, walked.
-/
namespace Go.Am
open Go Go.Proofs
attribute [local irreducible] QOp AOp Lex LexO AWp Spec
variable {TB : List (Nat × Obj)}

abbrev fnV (g : FuncId) : D := .v (.func (.func g) #[] #[])
theorem comparable2_ok (a b : Aut) : Pure Tryz.prog TB 56 [eAut a, eAut b] (eB (validD a b)) := by
  refine Spec.of Tryz.func56 rfl (by kernel_rfl) (Nat.le_of_ble_eq_true rfl) ?_; intro Γ hΓ
  (repeat' (first | (first | (refine popO rfl ?_; first | (refine gA rfl ?_; first | refine yLm rfl rfl ?_ | ((first | refine yQ (md := false) rfl ?_ ?_ | refine yL rfl rfl (by assumption) rfl rfl ?_ ?_ | refine yT rfl rfl (by assumption) rfl ?_ ?_); (first | exact True.intro | omega | (simp only [oZ] at *; omega))) | (refine yB rfl ?_; intro _ _hb) | refine yU (sl := true) rfl ?_ | refine yM rfl rfl (by assumption) rfl rfl rfl ?_ | refine yV rfl rfl rfl rfl (by assumption) rfl rfl rfl rfl ?_ | (refine yC rfl rfl rfl (implAutomatonValid_ok a) ?_; intro _ _hb) | (refine yC rfl rfl rfl (implAutomatonValid_ok b) ?_; intro _ _hb) ) | refine popN rfl ?_ | (refine yG rfl rfl ?_ ?_ <;> intro hb <;> subst hb)) | refine AWp.seq ?_ | refine reg (by kernel_rfl) ?_ | refine lexE ?_ | refine regD (flN []) mixed (by kernel_rfl) (by kernel_rfl) ?_) | (refine AWp.cond rfl (fun hb => ?_) (fun hb => ?_) <;> cases hb) | refine AWp.skip ?_ | refine AWp.exit ?_ | refine AWp.block ?_ | refine AWp.ret ⟨_, rfl, ?_⟩))
  all_goals (show E.o _ = E.o _; congr; unfold validD; grind)
theorem differ1_ok (x y : Bool) : Pure Tryz.prog TB 58 [eB x, eB y] (eB (bne x y)) := by
  refine Spec.of Tryz.func58 rfl (by kernel_rfl) (Nat.le_of_ble_eq_true rfl) ?_; intro Γ hΓ
  (repeat' (first | (first | (refine popO rfl ?_; first | (refine gA rfl ?_; first | refine yLm rfl rfl ?_ | ((first | refine yQ (md := false) rfl ?_ ?_ | refine yL rfl rfl (by assumption) rfl rfl ?_ ?_ | refine yT rfl rfl (by assumption) rfl ?_ ?_); (first | exact True.intro | omega | (simp only [oZ] at *; omega))) | (refine yB rfl ?_; intro _ _hb) | refine yU (sl := true) rfl ?_ | refine yM rfl rfl (by assumption) rfl rfl rfl ?_ | refine yV rfl rfl rfl rfl (by assumption) rfl rfl rfl rfl ?_ ) | refine popN rfl ?_ | (refine yG rfl rfl ?_ ?_ <;> intro hb <;> subst hb)) | refine AWp.seq ?_ | refine reg (by kernel_rfl) ?_ | refine lexE ?_ | refine regD (flN []) mixed (by kernel_rfl) (by kernel_rfl) ?_) | (refine AWp.cond rfl (fun hb => ?_) (fun hb => ?_) <;> cases hb) | refine AWp.skip ?_ | refine AWp.exit ?_ | refine AWp.block ?_ | refine AWp.ret ⟨_, rfl, ?_⟩))
  all_goals (show E.o _ = E.o _; congr; grind)
theorem both2_ok {a b : Aut} (ha : autOk a = true) (hb : autOk b = true) {f0 : FuncId} {op : Bool → Bool → Bool} {s0 : Int} (hop : ∀ x y, Pure Tryz.prog TB f0 [eB x, eB y] (eB (op x y))) (node : Int) (hn : 0 ≤ node ∧ node < (gPr a b s0 op).N) :
    Pure Tryz.prog TB 89 [eI .i64 node, .o (.ip [fnV f0]), .o (.ip (auRow a)), .o (.ip [iD b.nx.length]), .o (.ip (auRow b))] (eB ((gPr a b s0 op).goal node)) := by
  have hah := autOk_head ha
  have hbh := autOk_head hb
  have h1 := gPr_node (a := a) hb (x := node) hn
  have hN : node < 1048576 := by
    have h2 : a.nx.length * b.nx.length ≤ 12 * 12 := Nat.mul_le_mul (by omega) (by omega)
    have h3 : (gPr a b s0 op).N = a.nx.length * b.nx.length := rfl
    omega
  obtain ⟨x, hx⟩ := get_some (l := a.ac) (k := (node / b.nx.length).toNat) (by omega)
  obtain ⟨y, hy⟩ := get_some (l := b.ac) (k := (node % b.nx.length).toNat) (by omega)
  have hx' : (a.ac.map bRow)[(node / b.nx.length).toNat]? = some (bRow x) := by simp [hx]
  have hy' : (b.ac.map bRow)[(node % b.nx.length).toNat]? = some (bRow y) := by simp [hy]
  have hg : (gPr a b s0 op).goal node = op x y := by simp [gPr, List.getD, hx, hy]
  rw [hg]
  have hxy := hop x y
  refine Spec.of Tryz.func89 rfl (by kernel_rfl) (Nat.le_of_ble_eq_true rfl) ?_; intro Γ hΓ
  (repeat (first | (refine popO rfl ?_; first | (refine gA rfl ?_; first | refine yLm rfl rfl ?_ | ((first | refine yQ (md := false) rfl ?_ ?_ | refine yL rfl rfl (by assumption) rfl rfl ?_ ?_ | refine yT rfl rfl (by assumption) rfl ?_ ?_); (first | exact True.intro | omega | (simp only [oZ] at *; omega))) | (refine yB rfl ?_; intro _ _hb) | refine yU (sl := true) rfl ?_ | refine yM rfl rfl (by assumption) rfl rfl rfl ?_ | refine yV rfl rfl rfl rfl (by assumption) rfl rfl rfl rfl ?_ ) | refine popN rfl ?_ | (refine yG rfl rfl ?_ ?_ <;> intro hb <;> subst hb)) | refine AWp.seq ?_ | refine reg (by kernel_rfl) ?_ | refine lexE ?_))
  refine regD (flN []) mixed (by kernel_rfl) (by kernel_rfl) ?_
  (repeat (first | (refine popO rfl ?_; first | (refine gA rfl ?_; first | refine yLm rfl rfl ?_ | ((first | refine yQ (md := false) rfl ?_ ?_ | refine yL rfl rfl (by assumption) rfl rfl ?_ ?_ | refine yT rfl rfl (by assumption) rfl ?_ ?_); (first | exact True.intro | omega | (simp only [oZ] at *; omega))) | (refine yB rfl ?_; intro _ _hb) | refine yU (sl := true) rfl ?_ | refine yM rfl rfl (by assumption) rfl rfl rfl ?_ | refine yV rfl rfl rfl rfl (by assumption) rfl rfl rfl rfl ?_ | refine gS (fun _ _ => q_asFn (t := 7) rfl (q_call rfl rfl rfl hxy rfl)) ?_) | refine popN rfl ?_ | (refine yG rfl rfl ?_ ?_ <;> intro hb <;> subst hb)) | refine AWp.seq ?_ | refine reg (by kernel_rfl) ?_ | refine lexE ?_))
  refine AWp.ret ⟨_, rfl, rfl⟩
theorem both1_ok {a b : Aut} (ha : autOk a = true) (hb : autOk b = true) {op : Bool → Bool → Bool} {s0 : Int} : NextOk Tryz.prog TB 3 (gPr a b s0 op) 87 [.ip [.l (tblD a)], .ip [iD b.nx.length], .ip [.l (tblD b)]] := by
  intro node l outs hn hl hol
  have hl := lettersTo_in (show l ∈ lettersTo a.al 6 from hl)
  have hah := autOk_head ha
  have hbh := autOk_head hb
  have h1 := gPr_node (a := a) hb (x := node) hn
  have hN : node < 1048576 := by
    have h2 : a.nx.length * b.nx.length ≤ 12 * 12 := Nat.mul_le_mul (by omega) (by omega)
    have h3 : (gPr a b s0 op).N = a.nx.length * b.nx.length := rfl
    omega
  have hga := goA_in ha (q := (node / b.nx.length).toNat) (by omega) hl.1 (by omega)
  have hgb := goA_in hb (q := (node % b.nx.length).toNat) (by omega) hl.1 (by omega)
  have ta := tbl_get (a := a) (q := (node / b.nx.length).toNat) (by omega)
  have tb := tbl_get (a := b) (q := (node % b.nx.length).toNat) (by omega)
  have el : ((l.toNat : Nat) : Int) = l := by omega
  have ra := rowD_get (h := fun l => goA a (node / b.nx.length).toNat l) hl.1 (by omega)
  have rb := rowD_get (h := fun l => goA b (node % b.nx.length).toNat l) hl.1 (by omega)
  simp only [el] at ra rb
  have hm : 0 ≤ goA a (node / b.nx.length).toNat l * b.nx.length ∧ goA a (node / b.nx.length).toNat l * b.nx.length ≤ 144 := ⟨Int.mul_nonneg hga.1 (by omega), by
    have : goA a (node / b.nx.length).toNat l * b.nx.length ≤ 12 * 12 := Int.mul_le_mul (by omega) (by omega) (by omega) (by omega)
    omega⟩
  have hs : (gPr a b s0 op).succ node l = [goA a (node / b.nx.length).toNat l * b.nx.length + goA b (node % b.nx.length).toNat l] := rfl
  rw [hs]
  refine Spec.of Tryz.func87 rfl (by kernel_rfl) (Nat.le_of_ble_eq_true rfl) ?_; intro Γ hΓ
  (repeat (first | (refine popO rfl ?_; first | (refine gA rfl ?_; first | refine yLm rfl rfl ?_ | ((first | refine yQ (md := false) rfl ?_ ?_ | refine yL rfl rfl (by assumption) rfl rfl ?_ ?_ | refine yT rfl rfl (by assumption) rfl ?_ ?_); (first | exact True.intro | omega | (simp only [oZ] at *; omega))) | (refine yB rfl ?_; intro _ _hb) | refine yU (sl := true) rfl ?_ | refine yM rfl rfl (by assumption) rfl rfl rfl ?_ | refine yV rfl rfl rfl rfl (by assumption) rfl rfl rfl rfl ?_ ) | refine popN rfl ?_ | (refine yG rfl rfl ?_ ?_ <;> intro hb <;> subst hb)) | refine AWp.seq ?_ | refine reg (by kernel_rfl) ?_ | refine lexE ?_))
  refine regD (flN [21]) mixed (by kernel_rfl) (by kernel_rfl) ?_
  (repeat (first | (refine popO rfl ?_; first | (refine gA rfl ?_; first | refine yLm rfl rfl ?_ | ((first | refine yQ (md := false) rfl ?_ ?_ | refine yL rfl rfl (by assumption) rfl rfl ?_ ?_ | refine yT rfl rfl (by assumption) rfl ?_ ?_); (first | exact True.intro | omega | (simp only [oZ] at *; omega))) | (refine yB rfl ?_; intro _ _hb) | refine yU (sl := true) rfl ?_ | refine yM rfl rfl (by assumption) rfl rfl rfl ?_ | refine yV rfl rfl rfl rfl (by assumption) rfl rfl rfl rfl ?_ | refine gS (fun _ _ => q_loadIp0 rfl ra) ?_ | refine gS (fun _ _ => q_loadIp0 rfl rb) ?_) | refine popN rfl ?_ | (refine yG rfl rfl ?_ ?_ <;> intro hb <;> subst hb)) | refine AWp.seq ?_ | refine reg (by kernel_rfl) ?_ | refine lexE ?_))
  (refine popO rfl ?_; refine popW ?_ rfl (by rfl); refine n_append rfl rfl rfl (by first | (simp; done) | (simp; (first | omega | (simp only [oZ] at *; omega)))) rfl (by intro r hr; simp at hr; subst hr; rfl) (by rfl) (Nat.le_of_ble_eq_true rfl) (by simp; omega) ?_)
  (repeat (first | (refine popO rfl ?_; first | (refine gA rfl ?_; first | refine yLm rfl rfl ?_ | ((first | refine yQ (md := false) rfl ?_ ?_ | refine yL rfl rfl (by assumption) rfl rfl ?_ ?_ | refine yT rfl rfl (by assumption) rfl ?_ ?_); (first | exact True.intro | omega | (simp only [oZ] at *; omega))) | (refine yB rfl ?_; intro _ _hb) | refine yU (sl := true) rfl ?_ | refine yM rfl rfl (by assumption) rfl rfl rfl ?_ | refine yV rfl rfl rfl rfl (by assumption) rfl rfl rfl rfl ?_ ) | refine popN rfl ?_ | (refine yG rfl rfl ?_ ?_ <;> intro hb <;> subst hb)) | refine AWp.seq ?_ | refine reg (by kernel_rfl) ?_ | refine lexE ?_))
  refine AWp.ret ⟨_, rfl, by simp, rfl, by simp [kill]⟩
theorem firstOfBoth_ok {a b : Aut} (ha : autOk a = true) (hb : autOk b = true) {f0 : FuncId} {op : Bool → Bool → Bool} (hop : ∀ x y, Pure Tryz.prog TB f0 [eB x, eB y] (eB (op x y))) (i j : Int) (hi : 0 ≤ i ∧ i < a.nx.length) (hj : 0 ≤ j ∧ j < b.nx.length) :
    Pure Tryz.prog TB 57 [eAut a, eAut b, eI .i64 i, eI .i64 j, .o (.d (fnV f0))] (eAns (ansOf (gPr a b (i * b.nx.length + j) op))) := by
  have hah := autOk_head ha
  have hbh := autOk_head hb
  have hta := tableOf_ok (TB := TB) a ha
  have htb := tableOf_ok (TB := TB) b hb
  have hm : 0 ≤ i * (b.nx.length : Int) ∧ (i + 1) * (b.nx.length : Int) ≤ a.nx.length * b.nx.length := ⟨Int.mul_nonneg hi.1 (by omega), Int.mul_le_mul_of_nonneg_right (by omega) (by omega)⟩
  have hm1 : (i + 1) * (b.nx.length : Int) = i * b.nx.length + b.nx.length := by rw [Int.add_mul]; omega
  have hN : a.nx.length * b.nx.length ≤ 144 := Nat.mul_le_mul (show a.nx.length ≤ 12 by omega) (show b.nx.length ≤ 12 by omega)
  have hNi : ((a.nx.length : Int) * b.nx.length) ≤ 144 := by rw [← Int.natCast_mul]; omega
  have hs0 : 0 ≤ i * (b.nx.length : Int) + j ∧ i * (b.nx.length : Int) + j < a.nx.length * b.nx.length := by omega
  have hg := gPr_ok (op := op) (s0 := i * b.nx.length + j) ha hb hs0
  have hla : (tblD a).length = a.nx.length := by simp [tblD, rowsF]
  have hlb : (tblD b).length = b.nx.length := by simp [tblD, rowsF]
  have hfp : Pure Tryz.prog TB 88 [eI .i64 ((a.nx.length : Int) * b.nx.length), eInts [i * b.nx.length + j], eInts (letters a.al), .o (.fn 87 [.ip [.l (tblD a)], .ip [iD b.nx.length], .ip [.l (tblD b)]]), .o (.fn 89 [.ip [fnV f0], .ip (auRow a), .ip [iD b.nx.length], .ip (auRow b)])]
      (eAns (ansOf (gPr a b (i * b.nx.length + j) op))) := by
    rw [← Int.natCast_mul]
    exact firstPath_ok hg (show a.nx.length * b.nx.length ≤ 1048576 by omega) (fun x hx => by have := lettersTo_in hx; omega) (lettersTo_len _ 6) (fun node l hn hl => by
      have h1 : 1 ≤ a.nx.length * b.nx.length := Nat.mul_pos (show 0 < a.nx.length by omega) (show 0 < b.nx.length by omega)
      exact h1) (both1_ok ha hb) (fun n hn => both2_ok ha hb hop n hn) rfl (fun r => rfl) (fun r => rfl) (ansOf_is _)
  refine Spec.of Tryz.func57 rfl (by kernel_rfl) (Nat.le_of_ble_eq_true rfl) ?_; intro Γ hΓ
  (repeat (first | (refine popO rfl ?_; first | (refine gA rfl ?_; first | refine yLm rfl rfl ?_ | ((first | refine yQ (md := false) rfl ?_ ?_ | refine yL rfl rfl (by assumption) rfl rfl ?_ ?_ | refine yT rfl rfl (by assumption) rfl ?_ ?_); (first | exact True.intro | omega | (simp only [oZ] at *; omega))) | (refine yB rfl ?_; intro _ _hb) | refine yU (sl := true) rfl ?_ | refine yM rfl rfl (by assumption) rfl rfl rfl ?_ | refine yV rfl rfl rfl rfl (by assumption) rfl rfl rfl rfl ?_ ) | refine popN rfl ?_ | (refine yG rfl rfl ?_ ?_ <;> intro hb <;> subst hb)) | refine AWp.seq ?_ | refine reg (by kernel_rfl) ?_ | refine lexE ?_))
  refine R.regR [(0,2),(1,2),(2,2),(3,2),(4,3),(5,3),(6,5),(7,5)] mixed (by kernel_rfl) rfl (by kernel_rfl) ?_
  (repeat (first | (refine R.popO rfl ?_; first | (refine R.yQ (md := false) rfl rfl rfl ?_ ?_; (first | exact True.intro | omega | (simp only [oZ] at *; omega))) | (refine R.yB rfl rfl rfl ?_; intro _ _hb) | refine R.yS rfl rfl rfl ?_ | refine R.yP rfl rfl rfl rfl ?_ | refine R.yA rfl rfl rfl rfl ?_ | refine R.yW rfl rfl rfl ?_ | refine R.popS (fun _ _ _ => q_call rfl rfl rfl (hta) rfl) rfl rfl ?_ | refine R.popS (fun _ _ _ => q_call rfl rfl rfl (htb) rfl) rfl rfl ?_ | refine R.popN rfl rfl ?_ | (refine R.yG rfl rfl ?_ ?_ <;> intro hb <;> subst hb))))
  refine R.lexQ ?_
  refine AWp.seq ?_
  refine AWp.freezeV [0, 1] [2, 3, 5, 6, 9] rfl [(12, .o (.ip [.l (tblD a)])), (13, .o (.ip [.l (tblD b)]))] ⟨⟨_, rfl, .o (.ptr (by simp) rfl rfl rfl)⟩, ⟨_, rfl, .o (.ptr (by simp) rfl rfl rfl)⟩, trivial⟩ ?_; try dsimp only [List.cons_append, List.nil_append]
  refine reg (by kernel_rfl) ?_; (repeat (first | (refine popO rfl ?_; first | (refine gA rfl ?_; first | refine yLm rfl rfl ?_ | ((first | refine yQ (md := false) rfl ?_ ?_ | refine yL rfl rfl (by assumption) rfl rfl ?_ ?_ | refine yT rfl rfl (by assumption) rfl ?_ ?_); (first | exact True.intro | omega | (simp only [oZ] at *; omega))) | (refine yB rfl ?_; intro _ _hb) | refine yU (sl := true) rfl ?_ | refine yM rfl rfl (by assumption) rfl rfl rfl ?_ | refine yV rfl rfl rfl rfl (by assumption) rfl rfl rfl rfl ?_ ) | refine popN rfl ?_ | (refine yG rfl rfl ?_ ?_ <;> intro hb <;> subst hb)))); refine lexE ?_
  simp only [List.length_range]
  refine AWp.seq ?_
  refine AWp.freezeV [2] [2, 3, 5, 6, 9, 12, 13] rfl [(14, .o (.ip [iD b.nx.length]))] ⟨⟨_, rfl, .o (.ptr (by simp) rfl rfl rfl)⟩, trivial⟩ ?_; try dsimp only [List.cons_append, List.nil_append]
  (repeat (first | (refine popO rfl ?_; first | (refine gA rfl ?_; first | refine yLm rfl rfl ?_ | ((first | refine yQ (md := false) rfl ?_ ?_ | refine yL rfl rfl (by assumption) rfl rfl ?_ ?_ | refine yT rfl rfl (by assumption) rfl ?_ ?_); (first | exact True.intro | omega | (simp only [oZ] at *; omega))) | (refine yB rfl ?_; intro _ _hb) | refine yU (sl := true) rfl ?_ | refine yM rfl rfl (by assumption) rfl rfl rfl ?_ | refine yV rfl rfl rfl rfl (by assumption) rfl rfl rfl rfl ?_ ) | refine popN rfl ?_ | (refine yG rfl rfl ?_ ?_ <;> intro hb <;> subst hb)) | refine AWp.seq ?_ | refine reg (by kernel_rfl) ?_ | refine lexE ?_))
  refine regD (flN []) mixed (by kernel_rfl) (by kernel_rfl) ?_
  have hlo := lettersOf_ok (TB := TB) a.al
  (repeat (first | (refine popO rfl ?_; first | (refine gA rfl ?_; first | refine yLm rfl rfl ?_ | ((first | refine yQ (md := false) rfl ?_ ?_ | refine yL rfl rfl (by assumption) rfl rfl ?_ ?_ | refine yT rfl rfl (by assumption) rfl ?_ ?_); (first | exact True.intro | omega | (simp only [oZ] at *; omega))) | (refine yB rfl ?_; intro _ _hb) | refine yU (sl := true) rfl ?_ | refine yM rfl rfl (by assumption) rfl rfl rfl ?_ | refine yV rfl rfl rfl rfl (by assumption) rfl rfl rfl rfl ?_ ) | refine popN rfl ?_ | (refine yG rfl rfl ?_ ?_ <;> intro hb <;> subst hb)) | refine AWp.seq ?_ | refine reg (by kernel_rfl) ?_ | refine lexE ?_))
  simp only [List.length_range]
  (repeat (first | (refine popO rfl ?_; first | (refine gA rfl ?_; first | refine yLm rfl rfl ?_ | ((first | refine yQ (md := false) rfl ?_ ?_ | refine yL rfl rfl (by assumption) rfl rfl ?_ ?_ | refine yT rfl rfl (by assumption) rfl ?_ ?_); (first | exact True.intro | omega | (simp only [oZ] at *; omega))) | (refine yB rfl ?_; intro _ _hb) | refine yU (sl := true) rfl ?_ | refine yM rfl rfl (by assumption) rfl rfl rfl ?_ | refine yV rfl rfl rfl rfl (by assumption) rfl rfl rfl rfl ?_ | refine yP rfl rfl rfl (hlo) rfl ?_ | refine yP rfl rfl rfl (hfp) rfl ?_ ) | refine popN rfl ?_ | (refine yG rfl rfl ?_ ?_ <;> intro hb <;> subst hb)) | refine AWp.seq ?_ | refine reg (by kernel_rfl) ?_ | refine lexE ?_))
  refine AWp.ret ⟨_, rfl, rfl⟩
theorem implDifferOf_ok (a b : Aut) : Pure Tryz.prog TB 30 [eAut a, eAut b] (eAns (difD a b)) := by
  by_cases hv : validD a b = true
  · have hv2 := hv
    unfold validD at hv2
    simp only [Bool.and_eq_true, decide_eq_true_eq] at hv2
    obtain ⟨⟨ha, hb⟩, _⟩ := hv2
    have hah := autOk_head ha
    have hbh := autOk_head hb
    have hd : difD a b = ansOf (gPr a b 0 bne) := by unfold difD; rw [if_pos hv, netD_ans ha hb (fun x y => by simp) (.inl rfl)]
    have hf := firstOfBoth_ok (TB := TB) ha hb differ1_ok 0 0 ⟨by omega, by omega⟩ ⟨by omega, by omega⟩
    have hf2 : Pure Tryz.prog TB 57 [eAut a, eAut b, eI .i64 0, eI .i64 0, .o (.fn 58 [])] (eAns (ansOf (gPr a b 0 bne))) := by
      have := Spec.asFn (l := [eAut a, eAut b, eI .i64 0, eI .i64 0]) (m := []) hf
      rw [Int.zero_mul, Int.zero_add] at this
      exact this
    rw [hd]
    refine Spec.of Tryz.func30 rfl (by kernel_rfl) (Nat.le_of_ble_eq_true rfl) ?_; intro Γ hΓ
    (repeat' (first | (first | (refine popO rfl ?_; first | (refine gA rfl ?_; first | refine yLm rfl rfl ?_ | ((first | refine yQ (md := false) rfl ?_ ?_ | refine yL rfl rfl (by assumption) rfl rfl ?_ ?_ | refine yT rfl rfl (by assumption) rfl ?_ ?_); (first | exact True.intro | omega | (simp only [oZ] at *; omega))) | (refine yB rfl ?_; intro _ _hb) | refine yU (sl := true) rfl ?_ | refine yM rfl rfl (by assumption) rfl rfl rfl ?_ | refine yV rfl rfl rfl rfl (by assumption) rfl rfl rfl rfl ?_ | (refine yC rfl rfl rfl (comparable2_ok a b) ?_; intro _ _hb) | refine yP rfl rfl rfl (hf2) rfl ?_ ) | refine popN rfl ?_ | (refine yG rfl rfl ?_ ?_ <;> intro hb <;> subst hb)) | refine AWp.seq ?_ | refine reg (by kernel_rfl) ?_ | refine lexE ?_ | refine regD (flN []) mixed (by kernel_rfl) (by kernel_rfl) ?_) | (refine AWp.cond rfl (fun hb => ?_) (fun hb => ?_) <;> cases hb) | refine AWp.skip ?_ | refine AWp.exit ?_ | refine AWp.block ?_ | refine AWp.ret ⟨_, rfl, ?_⟩))
    all_goals first
      | rfl
      | (exfalso; grind; done)
  · have hd : difD a b = none := by unfold difD; rw [if_neg hv]
    rw [hd]
    refine Spec.of Tryz.func30 rfl (by kernel_rfl) (Nat.le_of_ble_eq_true rfl) ?_; intro Γ hΓ
    (repeat' (first | (first | (refine popO rfl ?_; first | (refine gA rfl ?_; first | refine yLm rfl rfl ?_ | ((first | refine yQ (md := false) rfl ?_ ?_ | refine yL rfl rfl (by assumption) rfl rfl ?_ ?_ | refine yT rfl rfl (by assumption) rfl ?_ ?_); (first | exact True.intro | omega | (simp only [oZ] at *; omega))) | (refine yB rfl ?_; intro _ _hb) | refine yU (sl := true) rfl ?_ | refine yM rfl rfl (by assumption) rfl rfl rfl ?_ | refine yV rfl rfl rfl rfl (by assumption) rfl rfl rfl rfl ?_ | (refine yC rfl rfl rfl (comparable2_ok a b) ?_; intro _ _hb) ) | refine popN rfl ?_ | (refine yG rfl rfl ?_ ?_ <;> intro hb <;> subst hb)) | refine AWp.seq ?_ | refine reg (by kernel_rfl) ?_ | refine lexE ?_ | refine regD (flN []) mixed (by kernel_rfl) (by kernel_rfl) ?_) | (refine AWp.cond rfl (fun hb => ?_) (fun hb => ?_) <;> cases hb) | refine AWp.skip ?_ | refine AWp.exit ?_ | refine AWp.block ?_ | refine AWp.ret ⟨_, rfl, ?_⟩))
    all_goals first
      | rfl
      | (exfalso; grind; done)
end Go.Am
/-
  A struct's literal with two slices of the call's own.
-/
namespace Go.Am
open Go
section
variable {P : Program} {TB : List (Nat × Obj)} {Γ : Ctx} {d : Option Tmp} {ty : TypeId} {pos : String} {af : Array Edge} {g : Option (Nat × Bool)} {f : Env} {σ : Store} {nx : Nat}
variable {K : E → Store → Nat → Prop}
/-- A struct's literal; of its zeros two, slices, are the call's own. -/
theorem n_buildN2 {t : TypeId} {z : List Value} {fl : List (Nat × Nat)} {parts : Array (Nat × Operand)} {es : List E} {qs : List (Nat × List C)} [hz : HasZe P t z] [hf : HasFl P t fl] (p k e q k' e' : Nat) (hp : z[p]? = some (.slice none 0 0)) (hp' : z[q]? = some (.slice none 0 0)) (hpq : p ≠ q) (hes : evs f (parts.toList.map (·.2)) = some es) (hq : offParts fl parts.toList es = some qs)
    (hok : z.all zOk = true) (hle : (qs.all fun x => Nat.ble (x.1 + x.2.length) z.length) = true) (hK : K (.a (fillC qs (((z.map zC).set p (.arr nx k 0 0)).set q (.arr (nx + 1) k' 0 0)))) ((nx + 1, .cells e' k' []) :: (nx, .cells e k []) :: σ) (nx + 2)) : AOp P TB Γ ⟨d, .build t parts, ty, pos, af, g⟩ f σ nx K :=
  n_of_run fun V ρ h1 h2 h3 => by
    subst h3
    obtain ⟨i, zv, hi, hzv, hzz⟩ := ze_inv hz.out
    obtain ⟨hi1, he1⟩ := h2.alloc (c := 0) (nl := True) (w := V.w) (ob := .cells e k []) rfl rfl rfl (Nat.le_refl _) (fun _ _ => rfl) (.inl ⟨by simp [newV], rfl⟩)
    obtain ⟨hi2, he2⟩ := hi1.alloc (c := 0) (nl := True) (w := V.w) (ob := .cells e' k' []) rfl rfl rfl (Nat.le_refl _) (fun _ _ => rfl) (.inl ⟨by simp [newV], rfl⟩)
    have he3 := he1.trans he2
    have hfo := offParts_fill (V := newV (newV V V.w.heap.size 0 True V.w) V.w.heap.size 0 True V.w) (ρ := ρ) parts.toList es qs (fun x hx e he => (h1.get (by simp only [Op.operands]; simpa using hx) he).ext he3) hes hq
    have hzr : LRel (newV (newV V V.w.heap.size 0 True V.w) V.w.heap.size 0 True V.w) (((z.map zC).set p (.arr V.nx k 0 0)).set q (.arr (V.nx + 1) k' 0 0)) zv.cells := by
      refine ⟨by rw [List.length_set, List.length_set, List.length_map, ← hzz]; simp, fun j c v hj hv => ?_⟩
      have hzj : z[j]? = some v := by rw [← hzz, Array.getElem?_toList]; exact hv
      by_cases hjq : q = j
      · subst hjq
        rw [hp'] at hzj
        injection hzj with hzj
        subst hzj
        rw [List.getElem?_set_self (by rw [List.length_set, List.length_map]; exact (List.getElem?_eq_some_iff.1 hp').1)] at hj
        injection hj with hj
        subst hj
        exact CRel.nil (by simp [newV]) (by simp [newV])
      · rw [List.getElem?_set_ne hjq] at hj
        by_cases hjp : p = j
        · subst hjp
          rw [hp] at hzj
          injection hzj with hzj
          subst hzj
          rw [List.getElem?_set_self (by rw [List.length_map]; exact (List.getElem?_eq_some_iff.1 hp).1)] at hj
          injection hj with hj
          subst hj
          exact CRel.nil (by simp [newV]; omega) (by simp [newV])
        · rw [List.getElem?_set_ne hjp, List.getElem?_map, hzj] at hj
          injection hj with hj
          subst hj
          exact zC_rel (List.all_eq_true.1 hok v (List.mem_of_getElem? hzj))
    obtain ⟨cells, h4, h5⟩ := fill_rel _ _ _ _ hfo hzr (fun x hx => by rw [List.length_set, List.length_set, List.length_map]; exact fillC_ok _ _ hle x hx)
    have hb := run_build (P := P) (ρ := ρ) (parts := parts) (V := V) hi hzv hf.out h4
    refine ⟨.agg cells, _, _, _, ?_, he3, hi2, (show ERel _ (.a _) _ from ⟨cells, rfl, h5⟩), hK⟩
    show ((do let v ← Instr.build t (parts.map fun (i, x) => (i, ρ x)); pure (Go.Next.value v) : Sem Go.Next)).run P V.w = _
    simp only [Sem.run_bind, hb, Result.andThen_ok]
    rfl
end
end Go.Am
/-
  The automaton of a closed table, walked.
-/
namespace Go.Am
open Go Go.Proofs
attribute [local irreducible] QOp AOp Lex LexO AWp Spec
variable {TB : List (Nat × Obj)}

theorem automaton_ok {c : C} {L : W → Bool} {ok : W → Prop} (hc : AskV Tryz.prog TB c L ok) (al : Int) (t : Tab) (hf : OkFits ok al) (ht : TBd al 20012 t) (ho : openW L (lsB al) t = none) :
    Pure Tryz.prog TB 29 [eOra al c, eTab t] (eAut (autM L al t)) := by
  have hr := ren_pur c hc.pur
  have hrl := ht.rl
  have hcl := ht.cl
  have hla : (letters al).length ≤ 6 := lettersTo_len al 6
  have hask := ht.ask hf (by omega)
  have hnl : (autM L al t).nx.length = t.rows.length := by simp [autM]
  have hal : (autM L al t).ac.length = t.rows.length := by simp [autM]
  refine SpecK.toSpec (SpecK.ofM 3 (Nat.le_refl _) Tryz.func29 rfl rfl (by kernel_rfl) (Nat.le_of_ble_eq_true rfl) ?_); intro Γ hΓ
  (repeat (first | (refine popO rfl ?_; first | (refine gA rfl ?_; first | refine yLm rfl rfl ?_ | ((first | refine yQ (md := true) rfl ?_ ?_ | refine yL rfl rfl (by assumption) rfl rfl ?_ ?_ | refine yT rfl rfl (by assumption) rfl ?_ ?_); (first | exact True.intro | omega | (simp only [oZ] at *; omega))) | (refine yB rfl ?_; intro _ _hb) | refine yU (sl := false) rfl ?_ | refine yM rfl rfl (by assumption) rfl rfl rfl ?_ | refine yV rfl rfl rfl rfl (by assumption) rfl rfl rfl rfl ?_ ) | refine popN rfl ?_ | (refine yG rfl rfl ?_ ?_ <;> intro hb <;> subst hb)) | refine AWp.seq ?_ | refine reg (by kernel_rfl) ?_ | refine lexE ?_ | refine regD (flN []) mixed (by kernel_rfl) (by kernel_rfl) ?_))
  (refine popO rfl ?_; refine popW ?_ rfl (by rfl); refine n_box rfl rfl ?_)
  (refine popO rfl ?_; refine popS (fun _ _ => q_boxI rfl rfl rfl) rfl ?_)
  (repeat (first | (refine popO rfl ?_; first | (refine gA rfl ?_; first | refine yLm rfl rfl ?_ | ((first | refine yQ (md := false) rfl ?_ ?_ | refine yL rfl rfl (by assumption) rfl rfl ?_ ?_ | refine yT rfl rfl (by assumption) rfl ?_ ?_); (first | exact True.intro | omega | (simp only [oZ] at *; omega))) | (refine yB rfl ?_; intro _ _hb) | refine yU (sl := true) rfl ?_ | refine yM rfl rfl (by assumption) rfl rfl rfl ?_ | refine yV rfl rfl rfl rfl (by assumption) rfl rfl rfl rfl ?_ ) | refine popN rfl ?_ | (refine yG rfl rfl ?_ ?_ <;> intro hb <;> subst hb)) | refine AWp.seq ?_ | refine reg (by kernel_rfl) ?_ | refine lexE ?_))
  (refine popO rfl ?_; refine popW ?_ rfl (by rfl); refine n_call [] rfl rfl (rowNumbers_ok hc al t hask.1) ⟨rfl, by simp, by simp⟩ (by simp [renEs, E.ren, C.renL, C.ren, hr, eC]) trivial ?_; rintro x0 σ1 nx1 ⟨rfl, rfl, rfl⟩ _)
  (repeat (first | (refine popO rfl ?_; first | (refine gA rfl ?_; first | refine yLm rfl rfl ?_ | ((first | refine yQ (md := false) rfl ?_ ?_ | refine yL rfl rfl (by assumption) rfl rfl ?_ ?_ | refine yT rfl rfl (by assumption) rfl ?_ ?_); (first | exact True.intro | omega | (simp only [oZ] at *; omega))) | (refine yB rfl ?_; intro _ _hb) | refine yU (sl := true) rfl ?_ | refine yM rfl rfl (by assumption) rfl rfl rfl ?_ | refine yV rfl rfl rfl rfl (by assumption) rfl rfl rfl rfl ?_ ) | refine popN rfl ?_ | (refine yG rfl rfl ?_ ?_ <;> intro hb <;> subst hb)) | refine AWp.seq ?_ | refine reg (by kernel_rfl) ?_ | refine lexE ?_))
  (refine popO rfl ?_; refine popW ?_ rfl (by rfl); refine n_buildN2 1 1 46 2 1 4 rfl rfl (by decide) rfl rfl (by rfl) (by rfl) ?_)
  (repeat (first | (refine popO rfl ?_; first | (refine gA rfl ?_; first | refine yLm rfl rfl ?_ | ((first | refine yQ (md := false) rfl ?_ ?_ | refine yL rfl rfl (by assumption) rfl rfl ?_ ?_ | refine yT rfl rfl (by assumption) rfl ?_ ?_); (first | exact True.intro | omega | (simp only [oZ] at *; omega))) | (refine yB rfl ?_; intro _ _hb) | refine yU (sl := true) rfl ?_ | refine yM rfl rfl (by assumption) rfl rfl rfl ?_ | refine yV rfl rfl rfl rfl (by assumption) rfl rfl rfl rfl ?_ ) | refine popN rfl ?_ | (refine yG rfl rfl ?_ ?_ <;> intro hb <;> subst hb)) | refine AWp.seq ?_ | refine reg (by kernel_rfl) ?_ | refine lexE ?_))
  refine AWp.block ?_
  refine AWp.loopL (α := {k : Nat // k ≤ t.rows.length}) (fun ⟨k, hkl⟩ => [(2, .o (.ptr 0 2 0 0)), (3, .o (.ip (taRow t))), (4, .o (.ptr 1 3 0 0)), (5, .o (.mp 2)), (6, .o (.ptr 3 3 0 0)), (19, .o (.d (tList t.rows))), (20, eI .i64 t.rows.length), (21, eI .i64 k)]) (fun ⟨k, hkl⟩ => [(0, .cells 68 2 [[.d (iD al), c]]), (1, .cells 28 3 [[.d (iD 0), .d (.l []), .d (.l [])]]), (2, .mp (mapT (numsTo L t t.rows.length))), (3, .cells 28 3 [[.d (iD al), .arr 4 1 0 k, .arr 5 1 0 k]]), (4, .cells 46 1 (((autM L al t).nx.take k).map fun r => [.d (iList r)])), (5, .cells 4 1 (((autM L al t).ac.take k).map fun b => [.d (bD b)]))]) 6 (fun ⟨k, hkl⟩ => t.rows.length - k) (⟨0, by omega⟩) [0, 1, 2, 5, 3, 4] (by first | (simp [hΓ]; done) | (rw [hΓ]; decide)) (by (repeat' (first | exact trivial | rfl | refine And.intro ?_ ?_)) <;> simp [EnvSub, StoreSub, look_cons, nm, E.ren, C.ren, C.renL, O.ren, killc, kill0, Function.comp_def, argsFrom, zC, hΓ, hr, eC, Store.ren, killL, nmo, fillC, spliceC]) ?_; rintro ⟨k, hkl⟩; try dsimp only
  (repeat (first | (refine popO rfl ?_; first | (refine gA rfl ?_; first | refine yLm rfl rfl ?_ | ((first | refine yQ (md := true) rfl ?_ ?_ | refine yL rfl rfl (by assumption) rfl rfl ?_ ?_ | refine yT rfl rfl (by assumption) rfl ?_ ?_); (first | exact True.intro | omega | (simp only [oZ] at *; omega))) | (refine yB rfl ?_; intro _ _hb) | refine yU (sl := false) rfl ?_ | refine yM rfl rfl (by assumption) rfl rfl rfl ?_ | refine yV rfl rfl rfl rfl (by assumption) rfl rfl rfl rfl ?_ ) | refine popN rfl ?_ | (refine yG rfl rfl ?_ ?_ <;> intro hb <;> subst hb)) | refine AWp.seq ?_ | refine reg (by kernel_rfl) ?_ | refine lexE ?_ | refine regD (flN []) mixed (by kernel_rfl) (by kernel_rfl) ?_))
  (refine AWp.cond rfl (fun hb => ?_) (fun hb => ?_) <;> cases hb)
  · have hlt : k < t.rows.length := by first | omega | (simp only [oZ] at *; omega)
    obtain ⟨r, hx⟩ := get_some (l := t.rows) (k := k) hlt
    have hx' := get_map (g := tRow) hx
    have hxm := List.mem_of_getElem? hx
    refine AWp.skip ?_
    refine AWp.seq (AWp.block ?_)
    (repeat (first | (refine popO rfl ?_; first | (refine gA rfl ?_; first | refine yLm rfl rfl ?_ | ((first | refine yQ (md := true) rfl ?_ ?_ | refine yL rfl rfl (by assumption) rfl rfl ?_ ?_ | refine yT rfl rfl (by assumption) rfl ?_ ?_); (first | exact True.intro | omega | (simp only [oZ] at *; omega))) | (refine yB rfl ?_; intro _ _hb) | refine yU (sl := false) rfl ?_ | refine yM rfl rfl (by assumption) rfl rfl rfl ?_ | refine yV rfl rfl rfl rfl (by assumption) rfl rfl rfl rfl ?_ ) | refine popN rfl ?_ | (refine yG rfl rfl ?_ ?_ <;> intro hb <;> subst hb)) | refine AWp.seq ?_ | refine reg (by kernel_rfl) ?_ | refine lexE ?_ | refine regD (flN []) mixed (by kernel_rfl) (by kernel_rfl) ?_))
    (refine popO rfl ?_; refine popW ?_ rfl (by rfl); refine n_nil 1 3 ?_)
    (repeat (first | (refine popO rfl ?_; first | (refine gA rfl ?_; first | refine yLm rfl rfl ?_ | ((first | refine yQ (md := true) rfl ?_ ?_ | refine yL rfl rfl (by assumption) rfl rfl ?_ ?_ | refine yT rfl rfl (by assumption) rfl ?_ ?_); (first | exact True.intro | omega | (simp only [oZ] at *; omega))) | (refine yB rfl ?_; intro _ _hb) | refine yU (sl := false) rfl ?_ | refine yM rfl rfl (by assumption) rfl rfl rfl ?_ | refine yV rfl rfl rfl rfl (by assumption) rfl rfl rfl rfl ?_ | refine yP rfl rfl rfl (lettersOf_ok al) rfl ?_ ) | refine popN rfl ?_ | (refine yG rfl rfl ?_ ?_ <;> intro hb <;> subst hb)) | refine AWp.seq ?_ | refine reg (by kernel_rfl) ?_ | refine lexE ?_ | refine regD (flN []) mixed (by kernel_rfl) (by kernel_rfl) ?_))
    refine AWp.block ?_
    refine AWp.loopL (α := {j : Nat // j ≤ (letters al).length}) (fun ⟨j, hjl⟩ => [(2, .o (.ptr 0 2 0 0)), (3, .o (.ip (taRow t))), (4, .o (.ptr 1 3 0 0)), (5, .o (.mp 2)), (6, .o (.ptr 3 3 0 0)), (19, .o (.d (tList t.rows))), (20, eI .i64 t.rows.length), (21, eI .i64 k), (8, eT r), (9, .o (.arr 6 1 0 j)), (27, eInts (letters al)), (28, eI .i64 (letters al).length), (29, eI .i64 j)]) (fun ⟨j, hjl⟩ => [(0, .cells 68 2 [[.d (iD al), c]]), (1, .cells 28 3 [[.d (iD 0), .d (.l []), .d (.l [])]]), (2, .mp (mapT (numsTo L t t.rows.length))), (3, .cells 28 3 [[.d (iD al), .arr 4 1 0 k, .arr 5 1 0 k]]), (4, .cells 46 1 (((autM L al t).nx.take k).map fun r => [.d (iList r)])), (5, .cells 4 1 (((autM L al t).ac.take k).map fun b => [.d (bD b)])), (6, .cells 3 1 (((letters al).take j).map fun l => [.d (iD ((idxM L t (r ++ [lb l]) : Nat) : Int))]))]) 7 (fun ⟨j, hjl⟩ => (letters al).length - j) (⟨0, by omega⟩) [0, 1, 2, 3, 4, 5, 6] (by first | (simp [hΓ]; done) | (rw [hΓ]; decide)) (by (repeat' (first | exact trivial | rfl | refine And.intro ?_ ?_)) <;> simp [EnvSub, StoreSub, look_cons, nm, E.ren, C.ren, C.renL, O.ren, killc, kill0, Function.comp_def, argsFrom, zC, hΓ, hr, eC, Store.ren, killL, nmo]) ?_; rintro ⟨j, hjl⟩; try dsimp only
    (repeat (first | (refine popO rfl ?_; first | (refine gA rfl ?_; first | refine yLm rfl rfl ?_ | ((first | refine yQ (md := true) rfl ?_ ?_ | refine yL rfl rfl (by assumption) rfl rfl ?_ ?_ | refine yT rfl rfl (by assumption) rfl ?_ ?_); (first | exact True.intro | omega | (simp only [oZ] at *; omega))) | (refine yB rfl ?_; intro _ _hb) | refine yU (sl := false) rfl ?_ | refine yM rfl rfl (by assumption) rfl rfl rfl ?_ | refine yV rfl rfl rfl rfl (by assumption) rfl rfl rfl rfl ?_ ) | refine popN rfl ?_ | (refine yG rfl rfl ?_ ?_ <;> intro hb <;> subst hb)) | refine AWp.seq ?_ | refine reg (by kernel_rfl) ?_ | refine lexE ?_ | refine regD (flN []) mixed (by kernel_rfl) (by kernel_rfl) ?_))
    (refine AWp.cond rfl (fun hb => ?_) (fun hb => ?_) <;> cases hb)
    · have hjlt : j < (letters al).length := by first | omega | (simp only [oZ] at *; omega)
      obtain ⟨l, hl⟩ := get_some (l := letters al) (k := j) hjlt
      have hl' := get_map (g := iRow) hl
      have hlm := List.mem_of_getElem? hl
      have hlb := lettersTo_in hlm
      have hrb := ht.onR r hxm
      have hm := marks_ok (TB := TB) hc al t (r ++ [lb l]) (by omega) (fun x hx => hask.2 r hxm _ (List.mem_map.2 ⟨l, hlm, rfl⟩) x hx) (fun y hy => by have := (ht.onC y hy).2; simp; omega)
      have hlk := look_idx ho hxm hlm
      refine AWp.skip ?_
      refine AWp.seq (AWp.block ?_)
      (repeat (first | (refine popO rfl ?_; first | (refine gA rfl ?_; first | refine yLm rfl rfl ?_ | ((first | refine yQ (md := false) rfl ?_ ?_ | refine yL rfl rfl (by assumption) rfl rfl ?_ ?_ | refine yT rfl rfl (by assumption) rfl ?_ ?_); (first | exact True.intro | omega | (simp only [oZ] at *; omega))) | (refine yB rfl ?_; intro _ _hb) | refine yU (sl := true) rfl ?_ | refine yM rfl rfl (by assumption) rfl rfl rfl ?_ | refine yV rfl rfl rfl rfl (by assumption) rfl rfl rfl rfl ?_ ) | refine popN rfl ?_ | (refine yG rfl rfl ?_ ?_ <;> intro hb <;> subst hb)) | refine AWp.seq ?_ | refine reg (by kernel_rfl) ?_ | refine lexE ?_))
      refine regD (flN [13]) mixed (by kernel_rfl) (by kernel_rfl) ?_
      (repeat (first | (refine popO rfl ?_; first | (refine gA rfl ?_; first | refine yLm rfl rfl ?_ | ((first | refine yQ (md := false) rfl ?_ ?_ | refine yL rfl rfl (by assumption) rfl rfl ?_ ?_ | refine yT rfl rfl (by assumption) rfl ?_ ?_); (first | exact True.intro | omega | (simp only [oZ] at *; omega))) | (refine yB rfl ?_; intro _ _hb) | refine yU (sl := true) rfl ?_ | refine yM rfl rfl (by assumption) rfl rfl rfl ?_ | refine yV rfl rfl rfl rfl (by assumption) rfl rfl rfl rfl ?_ | refine yP rfl rfl rfl (letterByte_ok l hlb.1 (by omega)) rfl ?_ | refine gS (fun _ _ => q_rune rfl (by omega) (by omega)) ?_) | refine popN rfl ?_ | (refine yG rfl rfl ?_ ?_ <;> intro hb <;> subst hb)) | refine AWp.seq ?_ | refine reg (by kernel_rfl) ?_ | refine lexE ?_))
      rw [lb_of hlb.1]
      (repeat (first | (refine popO rfl ?_; first | (refine gA rfl ?_; first | refine yLm rfl rfl ?_ | ((first | refine yQ (md := true) rfl ?_ ?_ | refine yL rfl rfl (by assumption) rfl rfl ?_ ?_ | refine yT rfl rfl (by assumption) rfl ?_ ?_); (first | exact True.intro | omega | (simp only [oZ] at *; omega))) | (refine yB rfl ?_; intro _ _hb) | refine yU (sl := false) rfl ?_ | refine yM rfl rfl (by assumption) rfl rfl rfl ?_ | refine yV rfl rfl rfl rfl (by assumption) rfl rfl rfl rfl ?_ | refine gS (fun _ _ => q_call rfl rfl (by simp [E.pur, C.purL, C.pur, hc.pur]) hm rfl) ?_ | refine gQ (q_look0 rfl rfl rfl) (by rfl) ?_) | refine popN rfl ?_ | (refine yG rfl rfl ?_ ?_ <;> intro hb <;> subst hb)) | refine AWp.seq ?_ | refine reg (by kernel_rfl) ?_ | refine lexE ?_ | refine regD (flN []) mixed (by kernel_rfl) (by kernel_rfl) ?_))
      (repeat (first | (refine popO rfl ?_; first | (refine gA rfl ?_; first | refine yLm rfl rfl ?_ | ((first | refine yQ (md := false) rfl ?_ ?_ | refine yL rfl rfl (by assumption) rfl rfl ?_ ?_ | refine yT rfl rfl (by assumption) rfl ?_ ?_); (first | exact True.intro | omega | (simp only [oZ] at *; omega))) | (refine yB rfl ?_; intro _ _hb) | refine yU (sl := true) rfl ?_ | refine yM rfl rfl (by assumption) rfl rfl rfl ?_ | refine yV rfl rfl rfl rfl (by assumption) rfl rfl rfl rfl ?_ ) | refine popN rfl ?_ | (refine yG rfl rfl ?_ ?_ <;> intro hb <;> subst hb)) | refine AWp.seq ?_ | refine reg (by kernel_rfl) ?_ | refine lexE ?_))
      (refine popO rfl ?_; refine popW ?_ rfl (by rfl); refine n_append rfl rfl rfl (by first | (simp; done) | (simp; (first | omega | (simp only [oZ] at *; omega)))) rfl (by intro r hr; simp at hr; subst hr; rfl) (by rfl) (Nat.le_of_ble_eq_true rfl) (by simp; omega) ?_)
      (repeat (first | (refine popO rfl ?_; first | (refine gA rfl ?_; first | refine yLm rfl rfl ?_ | ((first | refine yQ (md := false) rfl ?_ ?_ | refine yL rfl rfl (by assumption) rfl rfl ?_ ?_ | refine yT rfl rfl (by assumption) rfl ?_ ?_); (first | exact True.intro | omega | (simp only [oZ] at *; omega))) | (refine yB rfl ?_; intro _ _hb) | refine yU (sl := true) rfl ?_ | refine yM rfl rfl (by assumption) rfl rfl rfl ?_ | refine yV rfl rfl rfl rfl (by assumption) rfl rfl rfl rfl ?_ ) | refine popN rfl ?_ | (refine yG rfl rfl ?_ ?_ <;> intro hb <;> subst hb)) | refine AWp.seq ?_ | refine reg (by kernel_rfl) ?_ | refine lexE ?_))
      rw [hlk]
      refine ⟨⟨j + 1, by first | omega | (simp only [oZ] at *; omega)⟩, by dsimp only; (first | omega | (simp only [oZ] at *; omega)), [0, 1, 2, 3, 4, 5, 7], ?_⟩
      simp [EnvSub, StoreSub, look_cons, nm, E.ren, C.ren, C.renL, O.ren, killc, kill0, Function.comp_def, argsFrom, zC, hΓ, hr, List.take_add_one, hl]
    · obtain rfl : j = (letters al).length := by first | omega | (simp only [oZ] at *; omega)
      have hok := hf r (ht.onR r hxm).1 (by have := (ht.onR r hxm).2; omega)
      have hnx : (autM L al t).nx.take (k + 1) = (autM L al t).nx.take k ++ [(letters al).map fun l => ((idxM L t (r ++ [lb l]) : Nat) : Int)] := by
        rw [List.take_add_one]; simp [autM, hx]
      have hac : (autM L al t).ac.take (k + 1) = (autM L al t).ac.take k ++ [L r] := by
        rw [List.take_add_one]; simp [autM, hx]
      refine AWp.exit ?_
      rw [List.take_length]
      refine AWp.freezeV [6] [2, 3, 4, 5, 6, 8, 19, 20, 21] rfl [(9, eInts ((letters al).map fun l => ((idxM L t (r ++ [lb l]) : Nat) : Int)))] ⟨⟨_, rfl, .o (.full (by simp) rfl (by simp [Function.comp_def]) (by simp))⟩, trivial⟩ ?_; try dsimp only [List.cons_append, List.nil_append]
      (repeat (first | (refine popO rfl ?_; first | (refine gA rfl ?_; first | refine yLm rfl rfl ?_ | ((first | refine yQ (md := false) rfl ?_ ?_ | refine yL rfl rfl (by assumption) rfl rfl ?_ ?_ | refine yT rfl rfl (by assumption) rfl ?_ ?_); (first | exact True.intro | omega | (simp only [oZ] at *; omega))) | (refine yB rfl ?_; intro _ _hb) | refine yU (sl := true) rfl ?_ | refine yM rfl rfl (by assumption) rfl rfl rfl ?_ | refine yV rfl rfl rfl rfl (by assumption) rfl rfl rfl rfl ?_ ) | refine popN rfl ?_ | (refine yG rfl rfl ?_ ?_ <;> intro hb <;> subst hb)) | refine AWp.seq ?_ | refine reg (by kernel_rfl) ?_ | refine lexE ?_))
      (refine popO rfl ?_; refine popW ?_ rfl (by rfl); refine n_append rfl rfl rfl (by first | (simp; done) | (simp; (first | omega | (simp only [oZ] at *; omega)))) rfl (by intro r hr; simp at hr; subst hr; rfl) (by rfl) (Nat.le_of_ble_eq_true rfl) (by simp; omega) ?_)
      (repeat (first | (refine popO rfl ?_; first | (refine gA rfl ?_; first | refine yLm rfl rfl ?_ | ((first | refine yQ (md := false) rfl ?_ ?_ | refine yL rfl rfl (by assumption) rfl rfl ?_ ?_ | refine yT rfl rfl (by assumption) rfl ?_ ?_); (first | exact True.intro | omega | (simp only [oZ] at *; omega))) | (refine yB rfl ?_; intro _ _hb) | refine yU (sl := true) rfl ?_ | refine yM rfl rfl (by assumption) rfl rfl rfl ?_ | refine yV rfl rfl rfl rfl (by assumption) rfl rfl rfl rfl ?_ ) | refine popN rfl ?_ | (refine yG rfl rfl ?_ ?_ <;> intro hb <;> subst hb)) | refine AWp.seq ?_ | refine reg (by kernel_rfl) ?_ | refine lexE ?_))
      refine regD (flN [7, 9]) mixed (by kernel_rfl) (by kernel_rfl) ?_
      (repeat (first | (refine popO rfl ?_; first | (refine gA rfl ?_; first | refine yLm rfl rfl ?_ | ((first | refine yQ (md := false) rfl ?_ ?_ | refine yL rfl rfl (by assumption) rfl rfl ?_ ?_ | refine yT rfl rfl (by assumption) rfl ?_ ?_); (first | exact True.intro | omega | (simp only [oZ] at *; omega))) | (refine yB rfl ?_; intro _ _hb) | refine yU (sl := true) rfl ?_ | refine yM rfl rfl (by assumption) rfl rfl rfl ?_ | refine yV rfl rfl rfl rfl (by assumption) rfl rfl rfl rfl ?_ | refine gS (fun _ _ => hc.ask rfl rfl hok) ?_) | refine popN rfl ?_ | (refine yG rfl rfl ?_ ?_ <;> intro hb <;> subst hb)) | refine AWp.seq ?_ | refine reg (by kernel_rfl) ?_ | refine lexE ?_))
      (refine popO rfl ?_; refine popW ?_ rfl (by rfl); refine n_append rfl rfl rfl (by first | (simp; done) | (simp; (first | omega | (simp only [oZ] at *; omega)))) rfl (by intro r hr; simp at hr; subst hr; rfl) (by rfl) (Nat.le_of_ble_eq_true rfl) (by simp; omega) ?_)
      (repeat (first | (refine popO rfl ?_; first | (refine gA rfl ?_; first | refine yLm rfl rfl ?_ | ((first | refine yQ (md := false) rfl ?_ ?_ | refine yL rfl rfl (by assumption) rfl rfl ?_ ?_ | refine yT rfl rfl (by assumption) rfl ?_ ?_); (first | exact True.intro | omega | (simp only [oZ] at *; omega))) | (refine yB rfl ?_; intro _ _hb) | refine yU (sl := true) rfl ?_ | refine yM rfl rfl (by assumption) rfl rfl rfl ?_ | refine yV rfl rfl rfl rfl (by assumption) rfl rfl rfl rfl ?_ ) | refine popN rfl ?_ | (refine yG rfl rfl ?_ ?_ <;> intro hb <;> subst hb)) | refine AWp.seq ?_ | refine reg (by kernel_rfl) ?_ | refine lexE ?_))
      refine ⟨⟨k + 1, by first | omega | (simp only [oZ] at *; omega)⟩, by dsimp only; (first | omega | (simp only [oZ] at *; omega)), [0, 1, 2, 3, 7, 8], ?_⟩
      simp [EnvSub, StoreSub, look_cons, nm, E.ren, C.ren, C.renL, O.ren, killc, kill0, Function.comp_def, argsFrom, zC, hΓ, hr, eC, Store.ren, killL, nmo, fillC, spliceC, hnx, hac]
  · obtain rfl : k = t.rows.length := by first | omega | (simp only [oZ] at *; omega)
    have ht1 : (autM L al t).nx.take t.rows.length = (autM L al t).nx := List.take_of_length_le (by simp [autM])
    have ht2 : (autM L al t).ac.take t.rows.length = (autM L al t).ac := List.take_of_length_le (by simp [autM])
    rw [ht1, ht2]
    refine AWp.exit ?_
    (repeat (first | (refine popO rfl ?_; first | (refine gA rfl ?_; first | refine yLm rfl rfl ?_ | ((first | refine yQ (md := true) rfl ?_ ?_ | refine yL rfl rfl (by assumption) rfl rfl ?_ ?_ | refine yT rfl rfl (by assumption) rfl ?_ ?_); (first | exact True.intro | omega | (simp only [oZ] at *; omega))) | (refine yB rfl ?_; intro _ _hb) | refine yU (sl := false) rfl ?_ | refine yM rfl rfl (by assumption) rfl rfl rfl ?_ | refine yV rfl rfl rfl rfl (by assumption) rfl rfl rfl rfl ?_ ) | refine popN rfl ?_ | (refine yG rfl rfl ?_ ?_ <;> intro hb <;> subst hb)) | refine AWp.seq ?_ | refine reg (by kernel_rfl) ?_ | refine lexE ?_ | refine regD (flN []) mixed (by kernel_rfl) (by kernel_rfl) ?_))
    refine AWp.settle [(4, .o (.ip [iD al, iiList (autM L al t).nx, bList (autM L al t).ac]))] ⟨⟨_, rfl, .o (.box rfl (.cons .d (.cons (.full rfl (by simp [Function.comp_def]) (by simp [autM])) (.cons (.full rfl (by simp [Function.comp_def]) (by simp [autM])) .nil))))⟩, trivial⟩ ?_
    refine AWp.ret ⟨_, rfl, rfl⟩
end Go.Am
