/-
  The data: edges, systems, automata, as lists of integers; their reading.
-/
import Derived.Test.YtilhofhoebpcgaaDoorPart5
import Derived.Test.YtilhofhoebpcgaaDoorPart6
namespace Go.Am
open Go

/-- The bit n of an integer. -/
def bitB (s : Int) (n : Nat) : Bool := decide (iAnd .i64 (s.fdiv (2 ^ min n 64)) 1 = 1)
def hasB (s n : Int) : Bool := decide (0 ≤ n) && bitB s n.toNat
def alphB (n : Int) : Bool := decide (0 ≤ n ∧ n ≤ 63)

abbrev iD (n : Int) : D := .v (.int .i64 n)
abbrev bD (b : Bool) : D := .v (.bool b)
abbrev tD (s : List UInt8) : D := .v (.string ⟨s.toArray⟩)
abbrev iRow (n : Int) : List D := [iD n]
abbrev bRow (b : Bool) : List D := [bD b]
abbrev tRow (s : List UInt8) : List D := [tD s]
abbrev iList (l : List Int) : D := .l (l.map iRow)
abbrev bList (l : List Bool) : D := .l (l.map bRow)
abbrev tList (l : List (List UInt8)) : D := .l (l.map tRow)
abbrev iRowC (n : Int) : List C := [.d (iD n)]
abbrev bRowC (b : Bool) : List C := [.d (bD b)]
abbrev tRowC (s : List UInt8) : List C := [.d (tD s)]
abbrev iiRow (l : List Int) : List D := [iList l]
abbrev iiList (l : List (List Int)) : D := .l (l.map iiRow)
abbrev iiRowC (l : List Int) : List C := [.d (iList l)]
abbrev iiiRow (l : List (List Int)) : List D := [iiList l]
abbrev iiiList (l : List (List (List Int))) : D := .l (l.map iiiRow)

structure Edg where
  f : Int
  l : Int
  t : Int
  deriving DecidableEq
structure Sys where
  al : Int
  st : Int
  es : List Edg
structure Aut where
  al : Int
  nx : List (List Int)
  ac : List Bool

abbrev edRow (e : Edg) : List D := [iD e.f, iD e.l, iD e.t]
abbrev edRowC (e : Edg) : List C := [.d (iD e.f), .d (iD e.l), .d (iD e.t)]
abbrev eEdg (e : Edg) : E := .a [.d (iD e.f), .d (iD e.l), .d (iD e.t)]
abbrev edList (l : List Edg) : D := .l (l.map edRow)
abbrev syRow (s : Sys) : List D := [iD s.al, iD s.st, edList s.es]
abbrev eSys (s : Sys) : E := .a [.d (iD s.al), .d (iD s.st), .d (edList s.es)]
abbrev syList (l : List Sys) : D := .l (l.map syRow)
abbrev auRow (a : Aut) : List D := [iD a.al, iiList a.nx, bList a.ac]
abbrev eAut (a : Aut) : E := .a [.d (iD a.al), .d (iiList a.nx), .d (bList a.ac)]
abbrev auList (l : List Aut) : D := .l (l.map auRow)
abbrev eInts (l : List Int) : E := .o (.d (iList l))
abbrev eBools (l : List Bool) : E := .o (.d (bList l))
abbrev eIntss (l : List (List Int)) : E := .o (.d (iiList l))
abbrev eTexts (l : List (List UInt8)) : E := .o (.d (tList l))
abbrev eEdgs (l : List Edg) : E := .o (.d (edList l))
abbrev eSyss (l : List Sys) : E := .o (.d (syList l))
abbrev eAuts (l : List Aut) : E := .o (.d (auList l))

/-- The letters of an alphabet that are less than k. -/
def lettersTo (s : Int) (k : Nat) : List Int := ((List.range k).filter (bitB s)).map Int.ofNat
theorem lettersTo_len (s : Int) (k : Nat) : (lettersTo s k).length ≤ k := by
  unfold lettersTo; rw [List.length_map]; exact Nat.le_trans (List.length_filter_le _ _) (by simp)
theorem lettersTo_succ (s : Int) (k : Nat) : lettersTo s (k + 1) = lettersTo s k ++ if bitB s k then [(k : Int)] else [] := by
  unfold lettersTo
  rw [List.range_succ, List.filter_append, List.map_append]
  cases h : bitB s k <;> simp [h]
abbrev letters (s : Int) : List Int := lettersTo s 6

/-! Systems. -/
def edgeOk (al st : Int) (e : Edg) : Bool := decide (0 ≤ e.f ∧ e.f < st ∧ 0 ≤ e.t ∧ e.t < st ∧ 0 ≤ e.l ∧ e.l < 6) && bitB al e.l.toNat
def befB (e f : Edg) : Bool := if e.f ≠ f.f then decide (e.f < f.f) else if e.l ≠ f.l then decide (e.l < f.l) else decide (e.t < f.t)
def sysAt (s : Sys) (i : Nat) : Bool := match s.es[i]? with
  | none => true
  | some e => edgeOk s.al s.st e && match i with
    | 0 => true
    | j + 1 => match s.es[j]? with
      | none => true
      | some p => befB p e
def sysOk (s : Sys) : Bool := alphB s.al && decide (1 ≤ s.st ∧ s.st ≤ 16) && (List.range s.es.length).all (sysAt s)

/-! Lists, as loops meet them. -/
theorem all_step {α : Type} {l : List α} {f : α → Bool} {k : Nat} {x : α} (h : l[k]? = some x) (h1 : (l.take k).all f = true) (h2 : f x = true) : (l.take (k + 1)).all f = true := by
  rw [List.take_add_one, h]; simp [List.all_append, h1, h2]
theorem all_bad {α : Type} {l : List α} {f : α → Bool} {k : Nat} {x : α} (h : l[k]? = some x) (h2 : f x = false) : l.all f = false := by
  rw [List.all_eq_false]; exact ⟨x, List.mem_of_getElem? h, by simp [h2]⟩
theorem all_done {α : Type} {l : List α} {f : α → Bool} {k : Nat} (h : (l.take k).all f = true) (hk : l.length ≤ k) : l.all f = true := by
  rwa [List.take_of_length_le hk] at h
theorem get_map {α β : Type} {l : List α} {g : α → β} {k : Nat} {x : α} (h : l[k]? = some x) : (l.map g)[((k : Nat) : Int).toNat]? = some (g x) := by simp [h]
theorem get_some {α : Type} {l : List α} {k : Nat} (h : k < l.length) : ∃ x, l[k]? = some x := ⟨_, List.getElem?_eq_getElem h⟩

/-! Automata. -/
def stOk (n : Int) (q : Int) : Bool := decide (0 ≤ q ∧ q < n)
def rowOk (ls n : Int) (row : List Int) : Bool := decide ((row.length : Int) = ls) && row.all (stOk n)
def autOk (a : Aut) : Bool := alphB a.al && decide (1 ≤ a.nx.length ∧ a.nx.length ≤ 12) && decide (a.ac.length = a.nx.length) && a.nx.all (rowOk (letters a.al).length a.nx.length)
end Go.Am
/-
  Letters.
-/
namespace Go.Am
open Go Go.Proofs
set_option linter.unusedSimpArgs false
set_option linter.unusedVariables false
attribute [local irreducible] QOp AOp Lex LexO AWp Spec
variable {TB : List (Nat × Obj)}
theorem isAlphabet_ok (n : Int) : Pure Tryd.prog TB 40 [eI .i64 n] (eB (alphB n)) := by
  refine Spec.of Tryd.func40 rfl (by kernel_rfl) (Nat.le_of_ble_eq_true rfl) ?_; intro Γ hΓ
  (repeat' (first | (first | (refine popO rfl ?_; first | (refine gA rfl ?_; first | refine yLm rfl rfl ?_ | ((first | refine yQ (md := false) rfl ?_ ?_ | refine yL rfl rfl (by assumption) rfl rfl ?_ ?_ | refine yT rfl rfl (by assumption) rfl ?_ ?_); (first | exact True.intro | omega | (simp only [oA, oB, oC, oD, oE, oF, oG] at *; omega))) | (refine yB rfl ?_; intro _ _hb) | refine yS rfl rfl ?_ | refine yM rfl rfl (by assumption) rfl rfl rfl ?_ | refine yZ rfl rfl rfl rfl rfl rfl ?_ | refine yY rfl rfl rfl ?_ | refine yO rfl rfl rfl ?_ | refine yW rfl rfl ?_ | refine yV rfl rfl rfl rfl (by assumption) rfl rfl rfl rfl ?_ ) | refine popN rfl ?_ | (refine yG rfl rfl ?_ ?_ <;> intro hb <;> subst hb)) | refine AWp.seq ?_ | refine reg (by kernel_rfl) ?_ | refine lexE ?_ | refine regD (noisy []) mixed (by kernel_rfl) (by kernel_rfl) ?_) | (refine AWp.cond rfl (fun hb => ?_) (fun hb => ?_) <;> cases hb) | refine AWp.skip ?_ | refine AWp.exit ?_ | refine AWp.block ?_ | refine AWp.ret ⟨_, rfl, ?_⟩))
  all_goals (show E.o _ = E.o _; congr; unfold alphB; grind)
theorem l1Alphabet_ok (n : Int) : Pure Tryd.prog TB 31 [eI .i64 n] (eB (alphB n)) := by
  refine Spec.of Tryd.func31 rfl (by kernel_rfl) (Nat.le_of_ble_eq_true rfl) ?_; intro Γ hΓ
  (repeat' (first | (first | (refine popO rfl ?_; first | (refine gA rfl ?_; first | refine yLm rfl rfl ?_ | ((first | refine yQ (md := false) rfl ?_ ?_ | refine yL rfl rfl (by assumption) rfl rfl ?_ ?_ | refine yT rfl rfl (by assumption) rfl ?_ ?_); (first | exact True.intro | omega | (simp only [oA, oB, oC, oD, oE, oF, oG] at *; omega))) | (refine yB rfl ?_; intro _ _hb) | refine yS rfl rfl ?_ | refine yM rfl rfl (by assumption) rfl rfl rfl ?_ | refine yZ rfl rfl rfl rfl rfl rfl ?_ | refine yY rfl rfl rfl ?_ | refine yO rfl rfl rfl ?_ | refine yW rfl rfl ?_ | refine yV rfl rfl rfl rfl (by assumption) rfl rfl rfl rfl ?_ ) | refine popN rfl ?_ | (refine yG rfl rfl ?_ ?_ <;> intro hb <;> subst hb)) | refine AWp.seq ?_ | refine reg (by kernel_rfl) ?_ | refine lexE ?_ | refine regD (noisy []) mixed (by kernel_rfl) (by kernel_rfl) ?_) | (refine AWp.cond rfl (fun hb => ?_) (fun hb => ?_) <;> cases hb) | refine AWp.skip ?_ | refine AWp.exit ?_ | refine AWp.block ?_ | refine AWp.ret ⟨_, rfl, ?_⟩))
  all_goals (show E.o _ = E.o _; congr; unfold alphB; grind)
theorem l1Has_ok (s n : Int) (h0 : 0 ≤ n) (h1 : n < 64) : Pure Tryd.prog TB 48 [eI .i64 s, eI .i64 n] (eB (bitB s n.toNat)) := by
  refine Spec.of Tryd.func48 rfl (by kernel_rfl) (Nat.le_of_ble_eq_true rfl) ?_; intro Γ hΓ
  (repeat' (first | (first | (refine popO rfl ?_; first | (refine gA rfl ?_; first | refine yLm rfl rfl ?_ | ((first | refine yQ (md := false) rfl ?_ ?_ | refine yL rfl rfl (by assumption) rfl rfl ?_ ?_ | refine yT rfl rfl (by assumption) rfl ?_ ?_); (first | exact True.intro | omega | (simp only [oA, oB, oC, oD, oE, oF, oG] at *; omega))) | (refine yB rfl ?_; intro _ _hb) | refine yS rfl rfl ?_ | refine yM rfl rfl (by assumption) rfl rfl rfl ?_ | refine yZ rfl rfl rfl rfl rfl rfl ?_ | refine yY rfl rfl rfl ?_ | refine yO rfl rfl rfl ?_ | refine yW rfl rfl ?_ | refine yV rfl rfl rfl rfl (by assumption) rfl rfl rfl rfl ?_ ) | refine popN rfl ?_ | (refine yG rfl rfl ?_ ?_ <;> intro hb <;> subst hb)) | refine AWp.seq ?_ | refine reg (by kernel_rfl) ?_ | refine lexE ?_ | refine regD (noisy []) mixed (by kernel_rfl) (by kernel_rfl) ?_) | (refine AWp.cond rfl (fun hb => ?_) (fun hb => ?_) <;> cases hb) | refine AWp.skip ?_ | refine AWp.exit ?_ | refine AWp.block ?_ | refine AWp.ret ⟨_, rfl, ?_⟩))
  subst _hb; rfl
theorem has_ok (s n : Int) : Pure Tryd.prog TB 53 [eI .i64 s, eI .i64 n] (eB (hasB s n)) := by
  refine Spec.of Tryd.func53 rfl (by kernel_rfl) (Nat.le_of_ble_eq_true rfl) ?_; intro Γ hΓ
  (repeat' (first | (first | (refine popO rfl ?_; first | (refine gA rfl ?_; first | refine yLm rfl rfl ?_ | ((first | refine yQ (md := false) rfl ?_ ?_ | refine yL rfl rfl (by assumption) rfl rfl ?_ ?_ | refine yT rfl rfl (by assumption) rfl ?_ ?_); (first | exact True.intro | omega | (simp only [oA, oB, oC, oD, oE, oF, oG] at *; omega))) | (refine yB rfl ?_; intro _ _hb) | refine yS rfl rfl ?_ | refine yM rfl rfl (by assumption) rfl rfl rfl ?_ | refine yZ rfl rfl rfl rfl rfl rfl ?_ | refine yY rfl rfl rfl ?_ | refine yO rfl rfl rfl ?_ | refine yW rfl rfl ?_ | refine yV rfl rfl rfl rfl (by assumption) rfl rfl rfl rfl ?_ ) | refine popN rfl ?_ | (refine yG rfl rfl ?_ ?_ <;> intro hb <;> subst hb)) | refine AWp.seq ?_ | refine reg (by kernel_rfl) ?_ | refine lexE ?_ | refine regD (noisy []) mixed (by kernel_rfl) (by kernel_rfl) ?_) | (refine AWp.cond rfl (fun hb => ?_) (fun hb => ?_) <;> cases hb) | refine AWp.skip ?_ | refine AWp.exit ?_ | refine AWp.block ?_ | refine AWp.ret ⟨_, rfl, ?_⟩))
  all_goals (show E.o _ = E.o _; congr; unfold hasB bitB; have : IntKind.i64.bits = 64 := rfl; grind)
theorem l1Letters_ok (s : Int) : Pure Tryd.prog TB 33 [eI .i64 s] (eInts (letters s)) := by
  refine Spec.of Tryd.func33 rfl (by kernel_rfl) (Nat.le_of_ble_eq_true rfl) ?_; intro Γ hΓ
  (repeat (first | (refine popO rfl ?_; first | (refine gA rfl ?_; first | refine yLm rfl rfl ?_ | ((first | refine yQ (md := false) rfl ?_ ?_ | refine yL rfl rfl (by assumption) rfl rfl ?_ ?_ | refine yT rfl rfl (by assumption) rfl ?_ ?_); (first | exact True.intro | omega | (simp only [oA, oB, oC, oD, oE, oF, oG] at *; omega))) | (refine yB rfl ?_; intro _ _hb) | refine yS rfl rfl ?_ | refine yM rfl rfl (by assumption) rfl rfl rfl ?_ | refine yO rfl rfl rfl ?_ | refine yW rfl rfl ?_ | refine yV rfl rfl rfl rfl (by assumption) rfl rfl rfl rfl ?_ ) | refine popN rfl ?_ | (refine yG rfl rfl ?_ ?_ <;> intro hb <;> subst hb)) | refine AWp.seq ?_ | refine reg (by kernel_rfl) ?_ | refine lexE ?_ | refine regD (noisy []) mixed (by kernel_rfl) (by kernel_rfl) ?_))
  (refine popO rfl ?_; refine popW ?_ rfl (by rfl); refine n_sliceB rfl rfl rfl rfl (by simp) (by rfl) (by rfl) (by rfl) (by rfl) ?_)
  (repeat (first | (refine popO rfl ?_; first | (refine gA rfl ?_; first | refine yLm rfl rfl ?_ | ((first | refine yQ (md := false) rfl ?_ ?_ | refine yL rfl rfl (by assumption) rfl rfl ?_ ?_ | refine yT rfl rfl (by assumption) rfl ?_ ?_); (first | exact True.intro | omega | (simp only [oA, oB, oC, oD, oE, oF, oG] at *; omega))) | (refine yB rfl ?_; intro _ _hb) | refine yS rfl rfl ?_ | refine yM rfl rfl (by assumption) rfl rfl rfl ?_ | refine yO rfl rfl rfl ?_ | refine yW rfl rfl ?_ | refine yV rfl rfl rfl rfl (by assumption) rfl rfl rfl rfl ?_ ) | refine popN rfl ?_ | (refine yG rfl rfl ?_ ?_ <;> intro hb <;> subst hb)) | refine AWp.seq ?_ | refine reg (by kernel_rfl) ?_ | refine lexE ?_ | refine regD (noisy []) mixed (by kernel_rfl) (by kernel_rfl) ?_))
  refine AWp.block ?_
  refine AWp.loopL (α := {k : Nat // k ≤ 6}) (fun ⟨k, hk⟩ => [(0, eI .i64 s), (3, .o (.arr 0 1 0 (lettersTo s k).length)), (4, eI .i64 k)]) (fun ⟨k, hk⟩ => [(0, .cells 3 1 ((lettersTo s k).map iRowC))]) 1 (fun ⟨k, hk⟩ => 6 - k) (⟨0, by omega⟩) [0] (by first | (simp [hΓ]; done) | (rw [hΓ]; decide)) (by (repeat' (first | exact trivial | rfl | refine And.intro ?_ ?_)) <;> simp [EnvSub, StoreSub, look_cons, nm, E.ren, C.ren, C.renL, O.ren, killc, kill0, Function.comp_def, argsFrom, zC, hΓ]) ?_; rintro ⟨k, hk⟩; try dsimp only
  (repeat (first | (refine popO rfl ?_; first | (refine gA rfl ?_; first | refine yLm rfl rfl ?_ | ((first | refine yQ (md := false) rfl ?_ ?_ | refine yL rfl rfl (by assumption) rfl rfl ?_ ?_ | refine yT rfl rfl (by assumption) rfl ?_ ?_); (first | exact True.intro | omega | (simp only [oA, oB, oC, oD, oE, oF, oG] at *; omega))) | (refine yB rfl ?_; intro _ _hb) | refine yS rfl rfl ?_ | refine yM rfl rfl (by assumption) rfl rfl rfl ?_ | refine yO rfl rfl rfl ?_ | refine yW rfl rfl ?_ | refine yV rfl rfl rfl rfl (by assumption) rfl rfl rfl rfl ?_ ) | refine popN rfl ?_ | (refine yG rfl rfl ?_ ?_ <;> intro hb <;> subst hb)) | refine AWp.seq ?_ | refine reg (by kernel_rfl) ?_ | refine lexE ?_ | refine regD (noisy []) mixed (by kernel_rfl) (by kernel_rfl) ?_))
  (refine AWp.cond rfl (fun hb => ?_) (fun hb => ?_) <;> cases hb)
  · have hlt : k < 6 := by have := of_decide_eq_true _hb; omega
    refine AWp.skip ?_
    refine AWp.seq (AWp.block ?_)
    (repeat (first | (refine popO rfl ?_; first | (refine gA rfl ?_; first | refine yLm rfl rfl ?_ | ((first | refine yQ (md := false) rfl ?_ ?_ | refine yL rfl rfl (by assumption) rfl rfl ?_ ?_ | refine yT rfl rfl (by assumption) rfl ?_ ?_); (first | exact True.intro | omega | (simp only [oA, oB, oC, oD, oE, oF, oG] at *; omega))) | (refine yB rfl ?_; intro _ _hb) | refine yS rfl rfl ?_ | refine yM rfl rfl (by assumption) rfl rfl rfl ?_ | refine yO rfl rfl rfl ?_ | refine yW rfl rfl ?_ | refine yV rfl rfl rfl rfl (by assumption) rfl rfl rfl rfl ?_ ) | refine popN rfl ?_ | (refine yG rfl rfl ?_ ?_ <;> intro hb <;> subst hb)) | refine AWp.seq ?_ | refine reg (by kernel_rfl) ?_ | refine lexE ?_ | refine regD (noisy []) mixed (by kernel_rfl) (by kernel_rfl) ?_))
    (refine popO rfl ?_; refine popB (fun _ _ => q_call rfl rfl rfl (l1Has_ok _ _ (by omega) (by omega)) rfl) rfl ?_; intro _ _hb)
    (repeat (first | (refine popO rfl ?_; first | (refine gA rfl ?_; first | refine yLm rfl rfl ?_ | ((first | refine yQ (md := false) rfl ?_ ?_ | refine yL rfl rfl (by assumption) rfl rfl ?_ ?_ | refine yT rfl rfl (by assumption) rfl ?_ ?_); (first | exact True.intro | omega | (simp only [oA, oB, oC, oD, oE, oF, oG] at *; omega))) | (refine yB rfl ?_; intro _ _hb) | refine yS rfl rfl ?_ | refine yM rfl rfl (by assumption) rfl rfl rfl ?_ | refine yO rfl rfl rfl ?_ | refine yW rfl rfl ?_ | refine yV rfl rfl rfl rfl (by assumption) rfl rfl rfl rfl ?_ ) | refine popN rfl ?_ | (refine yG rfl rfl ?_ ?_ <;> intro hb <;> subst hb)) | refine AWp.seq ?_ | refine reg (by kernel_rfl) ?_ | refine lexE ?_ | refine regD (noisy []) mixed (by kernel_rfl) (by kernel_rfl) ?_))
    have hs := lettersTo_succ s k
    (refine AWp.cond rfl (fun hb => ?_) (fun hb => ?_) <;> cases hb)
    · (repeat (first | (refine popO rfl ?_; first | (refine gA rfl ?_; first | refine yLm rfl rfl ?_ | ((first | refine yQ (md := false) rfl ?_ ?_ | refine yL rfl rfl (by assumption) rfl rfl ?_ ?_ | refine yT rfl rfl (by assumption) rfl ?_ ?_); (first | exact True.intro | omega | (simp only [oA, oB, oC, oD, oE, oF, oG] at *; omega))) | (refine yB rfl ?_; intro _ _hb) | refine yS rfl rfl ?_ | refine yM rfl rfl (by assumption) rfl rfl rfl ?_ | refine yZ rfl rfl rfl rfl rfl rfl ?_ | refine yY rfl rfl rfl ?_ | refine yO rfl rfl rfl ?_ | refine yW rfl rfl ?_ | refine yV rfl rfl rfl rfl (by assumption) rfl rfl rfl rfl ?_ ) | refine popN rfl ?_ | (refine yG rfl rfl ?_ ?_ <;> intro hb <;> subst hb)) | refine AWp.seq ?_ | refine reg (by kernel_rfl) ?_ | refine lexE ?_ | refine regD (noisy []) mixed (by kernel_rfl) (by kernel_rfl) ?_))
      (refine popO rfl ?_; refine popW ?_ rfl (by rfl); refine n_append rfl rfl rfl (by first | (simp; done) | (simp; (first | omega | (simp only [oA, oB, oC, oD, oE, oF, oG] at *; omega)))) rfl (by intro r hr; simp at hr; subst hr; rfl) (by rfl) (Nat.le_of_ble_eq_true rfl) (by have := lettersTo_len s k; simp; omega) ?_)
      (repeat (first | (refine popO rfl ?_; first | (refine gA rfl ?_; first | refine yLm rfl rfl ?_ | ((first | refine yQ (md := false) rfl ?_ ?_ | refine yL rfl rfl (by assumption) rfl rfl ?_ ?_ | refine yT rfl rfl (by assumption) rfl ?_ ?_); (first | exact True.intro | omega | (simp only [oA, oB, oC, oD, oE, oF, oG] at *; omega))) | (refine yB rfl ?_; intro _ _hb) | refine yS rfl rfl ?_ | refine yM rfl rfl (by assumption) rfl rfl rfl ?_ | refine yO rfl rfl rfl ?_ | refine yW rfl rfl ?_ | refine yV rfl rfl rfl rfl (by assumption) rfl rfl rfl rfl ?_ ) | refine popN rfl ?_ | (refine yG rfl rfl ?_ ?_ <;> intro hb <;> subst hb)) | refine AWp.seq ?_ | refine reg (by kernel_rfl) ?_ | refine lexE ?_ | refine regD (noisy []) mixed (by kernel_rfl) (by kernel_rfl) ?_))
      refine ⟨⟨k + 1, by omega⟩, by dsimp only; (first | omega | (simp only [oA, oB, oC, oD, oE, oF, oG] at *; omega)), [1], ?_⟩
      rw [if_pos (by simpa using _hb)] at hs
      simp [EnvSub, StoreSub, look_cons, nm, E.ren, C.ren, C.renL, O.ren, killc, kill0, Function.comp_def, argsFrom, zC, hΓ, hs]
    · refine AWp.skip ?_
      (repeat (first | (refine popO rfl ?_; first | (refine gA rfl ?_; first | refine yLm rfl rfl ?_ | ((first | refine yQ (md := false) rfl ?_ ?_ | refine yL rfl rfl (by assumption) rfl rfl ?_ ?_ | refine yT rfl rfl (by assumption) rfl ?_ ?_); (first | exact True.intro | omega | (simp only [oA, oB, oC, oD, oE, oF, oG] at *; omega))) | (refine yB rfl ?_; intro _ _hb) | refine yS rfl rfl ?_ | refine yM rfl rfl (by assumption) rfl rfl rfl ?_ | refine yO rfl rfl rfl ?_ | refine yW rfl rfl ?_ | refine yV rfl rfl rfl rfl (by assumption) rfl rfl rfl rfl ?_ ) | refine popN rfl ?_ | (refine yG rfl rfl ?_ ?_ <;> intro hb <;> subst hb)) | refine AWp.seq ?_ | refine reg (by kernel_rfl) ?_ | refine lexE ?_ | refine regD (noisy []) mixed (by kernel_rfl) (by kernel_rfl) ?_))
      refine ⟨⟨k + 1, by omega⟩, by dsimp only; (first | omega | (simp only [oA, oB, oC, oD, oE, oF, oG] at *; omega)), [0], ?_⟩
      rw [if_neg (by simpa using _hb), List.append_nil] at hs
      simp [EnvSub, StoreSub, look_cons, nm, E.ren, C.ren, C.renL, O.ren, killc, kill0, Function.comp_def, argsFrom, zC, hΓ, hs]
  · have hk6 : k = 6 := by have := of_decide_eq_false _hb; omega
    subst hk6
    refine AWp.exit ?_
    (repeat (first | (refine popO rfl ?_; first | (refine gA rfl ?_; first | refine yLm rfl rfl ?_ | ((first | refine yQ (md := false) rfl ?_ ?_ | refine yL rfl rfl (by assumption) rfl rfl ?_ ?_ | refine yT rfl rfl (by assumption) rfl ?_ ?_); (first | exact True.intro | omega | (simp only [oA, oB, oC, oD, oE, oF, oG] at *; omega))) | (refine yB rfl ?_; intro _ _hb) | refine yS rfl rfl ?_ | refine yM rfl rfl (by assumption) rfl rfl rfl ?_ | refine yO rfl rfl rfl ?_ | refine yW rfl rfl ?_ | refine yV rfl rfl rfl rfl (by assumption) rfl rfl rfl rfl ?_ ) | refine popN rfl ?_ | (refine yG rfl rfl ?_ ?_ <;> intro hb <;> subst hb)) | refine AWp.seq ?_ | refine reg (by kernel_rfl) ?_ | refine lexE ?_ | refine regD (noisy []) mixed (by kernel_rfl) (by kernel_rfl) ?_))
    refine AWp.freeze [0] [(2, .o (.d (iList (lettersTo s 6))))] ⟨⟨_, rfl, .o (.full (by simp) rfl (by simp [Function.comp_def]) (by simp))⟩, trivial⟩ ?_
    refine AWp.ret ⟨_, rfl, rfl⟩
end Go.Am
/-
  Letters, more.
-/
namespace Go.Am
open Go Go.Proofs
set_option linter.unusedSimpArgs false
set_option linter.unusedVariables false
attribute [local irreducible] QOp AOp Lex LexO AWp Spec
variable {TB : List (Nat × Obj)}

theorem letterByte_ok (n : Int) (h0 : 0 ≤ n) (h1 : n < 128) : Pure Tryd.prog TB 90 [eI .i64 n] (eI .u8 (97 + n)) := by
  refine Spec.of Tryd.func90 rfl (by kernel_rfl) (Nat.le_of_ble_eq_true rfl) ?_; intro Γ hΓ
  (repeat' (first | (first | (refine popO rfl ?_; first | (refine gA rfl ?_; first | refine yLm rfl rfl ?_ | ((first | refine yQ (md := false) rfl ?_ ?_ | refine yL rfl rfl (by assumption) rfl rfl ?_ ?_ | refine yT rfl rfl (by assumption) rfl ?_ ?_); (first | exact True.intro | omega | (simp only [oA, oB, oC, oD, oE, oF, oG] at *; omega))) | (refine yB rfl ?_; intro _ _hb) | refine yS rfl rfl ?_ | refine yM rfl rfl (by assumption) rfl rfl rfl ?_ | refine yZ rfl rfl rfl rfl rfl rfl ?_ | refine yY rfl rfl rfl ?_ | refine yO rfl rfl rfl ?_ | refine yW rfl rfl ?_ | refine yV rfl rfl rfl rfl (by assumption) rfl rfl rfl rfl ?_ ) | refine popN rfl ?_ | (refine yG rfl rfl ?_ ?_ <;> intro hb <;> subst hb)) | refine AWp.seq ?_ | refine reg (by kernel_rfl) ?_ | refine lexE ?_ | refine regD (noisy []) mixed (by kernel_rfl) (by kernel_rfl) ?_) | (refine AWp.cond rfl (fun hb => ?_) (fun hb => ?_) <;> cases hb) | refine AWp.skip ?_ | refine AWp.exit ?_ | refine AWp.block ?_ | refine AWp.ret ⟨_, rfl, ?_⟩))
  rfl
theorem l1Text_ok (n : Int) (h0 : 0 ≤ n) (h1 : n < 128) : Pure Tryd.prog TB 65 [eI .i64 n] (eT [UInt8.ofNat (97 + n.toNat)]) := by
  refine Spec.of Tryd.func65 rfl (by kernel_rfl) (Nat.le_of_ble_eq_true rfl) ?_; intro Γ hΓ
  (repeat (first | (refine popO rfl ?_; first | (refine gA rfl ?_; first | refine yLm rfl rfl ?_ | ((first | refine yQ (md := false) rfl ?_ ?_ | refine yL rfl rfl (by assumption) rfl rfl ?_ ?_ | refine yT rfl rfl (by assumption) rfl ?_ ?_); (first | exact True.intro | omega | (simp only [oA, oB, oC, oD, oE, oF, oG] at *; omega))) | (refine yB rfl ?_; intro _ _hb) | refine yS rfl rfl ?_ | refine yM rfl rfl (by assumption) rfl rfl rfl ?_ | refine yZ rfl rfl rfl rfl rfl rfl ?_ | refine yY rfl rfl rfl ?_ | refine yO rfl rfl rfl ?_ | refine yW rfl rfl ?_ | refine yV rfl rfl rfl rfl (by assumption) rfl rfl rfl rfl ?_ ) | refine popN rfl ?_ | (refine yG rfl rfl ?_ ?_ <;> intro hb <;> subst hb)) | refine AWp.seq ?_ | refine reg (by kernel_rfl) ?_ | refine lexE ?_ | refine regD (noisy []) mixed (by kernel_rfl) (by kernel_rfl) ?_))
  (refine popO rfl ?_; refine popS (fun _ _ => q_textL [UInt8.ofNat (97 + n.toNat)] rfl (by
    have h2 : (97 + n.toNat) % 256 = 97 + n.toNat := Nat.mod_eq_of_lt (by omega)
    have h3 : (97 + n : Int) = ((97 + n.toNat : Nat) : Int) := by omega
    simp [byD, h2, h3])) rfl ?_)
  (repeat (first | (refine popO rfl ?_; first | (refine gA rfl ?_; first | refine yLm rfl rfl ?_ | ((first | refine yQ (md := false) rfl ?_ ?_ | refine yL rfl rfl (by assumption) rfl rfl ?_ ?_ | refine yT rfl rfl (by assumption) rfl ?_ ?_); (first | exact True.intro | omega | (simp only [oA, oB, oC, oD, oE, oF, oG] at *; omega))) | (refine yB rfl ?_; intro _ _hb) | refine yS rfl rfl ?_ | refine yM rfl rfl (by assumption) rfl rfl rfl ?_ | refine yZ rfl rfl rfl rfl rfl rfl ?_ | refine yY rfl rfl rfl ?_ | refine yO rfl rfl rfl ?_ | refine yW rfl rfl ?_ | refine yV rfl rfl rfl rfl (by assumption) rfl rfl rfl rfl ?_ ) | refine popN rfl ?_ | (refine yG rfl rfl ?_ ?_ <;> intro hb <;> subst hb)) | refine AWp.seq ?_ | refine reg (by kernel_rfl) ?_ | refine lexE ?_ | refine regD (noisy []) mixed (by kernel_rfl) (by kernel_rfl) ?_))
  refine AWp.ret ⟨_, rfl, ?_⟩
  rfl
theorem l1Place_ok (s n : Int) (h0 : 0 ≤ n) (h1 : n < 64) : Pure Tryd.prog TB 95 [eI .i64 s, eI .i64 n] (eI .i64 (lettersTo s n.toNat).length) := by
  refine Spec.of Tryd.func95 rfl (by kernel_rfl) (Nat.le_of_ble_eq_true rfl) ?_; intro Γ hΓ
  (repeat (first | (refine popO rfl ?_; first | (refine gA rfl ?_; first | refine yLm rfl rfl ?_ | ((first | refine yQ (md := true) rfl ?_ ?_ | refine yL rfl rfl (by assumption) rfl rfl ?_ ?_ | refine yT rfl rfl (by assumption) rfl ?_ ?_); (first | exact True.intro | omega | (simp only [oA, oB, oC, oD, oE, oF, oG] at *; omega))) | (refine yB rfl ?_; intro _ _hb) | refine yS rfl rfl ?_ | refine yM rfl rfl (by assumption) rfl rfl rfl ?_ | refine yO rfl rfl rfl ?_ | refine yW rfl rfl ?_ | refine yV rfl rfl rfl rfl (by assumption) rfl rfl rfl rfl ?_ ) | refine popN rfl ?_ | (refine yG rfl rfl ?_ ?_ <;> intro hb <;> subst hb)) | refine AWp.seq ?_ | refine reg (by kernel_rfl) ?_ | refine lexE ?_ | refine regD (noisy []) mixed (by kernel_rfl) (by kernel_rfl) ?_))
  refine AWp.block ?_
  refine AWp.loopL (α := {k : Nat // k ≤ n.toNat}) (fun ⟨k, hk⟩ => [(0, eI .i64 s), (1, eI .i64 n), (5, eI .i64 (lettersTo s k).length), (6, eI .i64 k)]) (fun ⟨k, hk⟩ => []) 0 (fun ⟨k, hk⟩ => n.toNat - k) (⟨0, by omega⟩) [] (by first | (simp [hΓ]; done) | (rw [hΓ]; decide)) (by (repeat' (first | exact trivial | rfl | refine And.intro ?_ ?_)) <;> simp [EnvSub, StoreSub, look_cons, nm, E.ren, C.ren, C.renL, O.ren, killc, kill0, Function.comp_def, argsFrom, zC, hΓ]) ?_; rintro ⟨k, hk⟩; try dsimp only
  (repeat (first | (refine popO rfl ?_; first | (refine gA rfl ?_; first | refine yLm rfl rfl ?_ | ((first | refine yQ (md := true) rfl ?_ ?_ | refine yL rfl rfl (by assumption) rfl rfl ?_ ?_ | refine yT rfl rfl (by assumption) rfl ?_ ?_); (first | exact True.intro | omega | (simp only [oA, oB, oC, oD, oE, oF, oG] at *; omega))) | (refine yB rfl ?_; intro _ _hb) | refine yS rfl rfl ?_ | refine yM rfl rfl (by assumption) rfl rfl rfl ?_ | refine yO rfl rfl rfl ?_ | refine yW rfl rfl ?_ | refine yV rfl rfl rfl rfl (by assumption) rfl rfl rfl rfl ?_ ) | refine popN rfl ?_ | (refine yG rfl rfl ?_ ?_ <;> intro hb <;> subst hb)) | refine AWp.seq ?_ | refine reg (by kernel_rfl) ?_ | refine lexE ?_ | refine regD (noisy []) mixed (by kernel_rfl) (by kernel_rfl) ?_))
  (refine AWp.cond rfl (fun hb => ?_) (fun hb => ?_) <;> cases hb)
  · have hlt : k < n.toNat := by have := of_decide_eq_true _hb; omega
    refine AWp.skip ?_
    refine AWp.seq (AWp.block ?_)
    (repeat (first | (refine popO rfl ?_; first | (refine gA rfl ?_; first | refine yLm rfl rfl ?_ | ((first | refine yQ (md := true) rfl ?_ ?_ | refine yL rfl rfl (by assumption) rfl rfl ?_ ?_ | refine yT rfl rfl (by assumption) rfl ?_ ?_); (first | exact True.intro | omega | (simp only [oA, oB, oC, oD, oE, oF, oG] at *; omega))) | (refine yB rfl ?_; intro _ _hb) | refine yS rfl rfl ?_ | refine yM rfl rfl (by assumption) rfl rfl rfl ?_ | refine yO rfl rfl rfl ?_ | refine yW rfl rfl ?_ | refine yV rfl rfl rfl rfl (by assumption) rfl rfl rfl rfl ?_ ) | refine popN rfl ?_ | (refine yG rfl rfl ?_ ?_ <;> intro hb <;> subst hb)) | refine AWp.seq ?_ | refine reg (by kernel_rfl) ?_ | refine lexE ?_ | refine regD (noisy []) mixed (by kernel_rfl) (by kernel_rfl) ?_))
    (refine popO rfl ?_; refine popB (fun _ _ => q_call rfl rfl rfl (l1Has_ok _ _ (by omega) (by omega)) rfl) rfl ?_; intro _ _hb)
    (repeat (first | (refine popO rfl ?_; first | (refine gA rfl ?_; first | refine yLm rfl rfl ?_ | ((first | refine yQ (md := true) rfl ?_ ?_ | refine yL rfl rfl (by assumption) rfl rfl ?_ ?_ | refine yT rfl rfl (by assumption) rfl ?_ ?_); (first | exact True.intro | omega | (simp only [oA, oB, oC, oD, oE, oF, oG] at *; omega))) | (refine yB rfl ?_; intro _ _hb) | refine yS rfl rfl ?_ | refine yM rfl rfl (by assumption) rfl rfl rfl ?_ | refine yO rfl rfl rfl ?_ | refine yW rfl rfl ?_ | refine yV rfl rfl rfl rfl (by assumption) rfl rfl rfl rfl ?_ ) | refine popN rfl ?_ | (refine yG rfl rfl ?_ ?_ <;> intro hb <;> subst hb)) | refine AWp.seq ?_ | refine reg (by kernel_rfl) ?_ | refine lexE ?_ | refine regD (noisy []) mixed (by kernel_rfl) (by kernel_rfl) ?_))
    have hs := lettersTo_succ s k
    have hl := lettersTo_len s k
    (refine AWp.cond rfl (fun hb => ?_) (fun hb => ?_) <;> cases hb)
    · (repeat (first | (refine popO rfl ?_; first | (refine gA rfl ?_; first | refine yLm rfl rfl ?_ | ((first | refine yQ (md := true) rfl ?_ ?_ | refine yL rfl rfl (by assumption) rfl rfl ?_ ?_ | refine yT rfl rfl (by assumption) rfl ?_ ?_); (first | exact True.intro | omega | (simp only [oA, oB, oC, oD, oE, oF, oG] at *; omega))) | (refine yB rfl ?_; intro _ _hb) | refine yS rfl rfl ?_ | refine yM rfl rfl (by assumption) rfl rfl rfl ?_ | refine yO rfl rfl rfl ?_ | refine yW rfl rfl ?_ | refine yV rfl rfl rfl rfl (by assumption) rfl rfl rfl rfl ?_ ) | refine popN rfl ?_ | (refine yG rfl rfl ?_ ?_ <;> intro hb <;> subst hb)) | refine AWp.seq ?_ | refine reg (by kernel_rfl) ?_ | refine lexE ?_ | refine regD (noisy []) mixed (by kernel_rfl) (by kernel_rfl) ?_))
      refine ⟨⟨k + 1, by omega⟩, by dsimp only; (first | omega | (simp only [oA, oB, oC, oD, oE, oF, oG] at *; omega)), [], ?_⟩
      rw [if_pos (by simpa using _hb)] at hs
      simp [EnvSub, StoreSub, look_cons, nm, E.ren, C.ren, C.renL, O.ren, killc, kill0, Function.comp_def, argsFrom, zC, hΓ, hs]
    · refine AWp.skip ?_
      (repeat (first | (refine popO rfl ?_; first | (refine gA rfl ?_; first | refine yLm rfl rfl ?_ | ((first | refine yQ (md := true) rfl ?_ ?_ | refine yL rfl rfl (by assumption) rfl rfl ?_ ?_ | refine yT rfl rfl (by assumption) rfl ?_ ?_); (first | exact True.intro | omega | (simp only [oA, oB, oC, oD, oE, oF, oG] at *; omega))) | (refine yB rfl ?_; intro _ _hb) | refine yS rfl rfl ?_ | refine yM rfl rfl (by assumption) rfl rfl rfl ?_ | refine yO rfl rfl rfl ?_ | refine yW rfl rfl ?_ | refine yV rfl rfl rfl rfl (by assumption) rfl rfl rfl rfl ?_ ) | refine popN rfl ?_ | (refine yG rfl rfl ?_ ?_ <;> intro hb <;> subst hb)) | refine AWp.seq ?_ | refine reg (by kernel_rfl) ?_ | refine lexE ?_ | refine regD (noisy []) mixed (by kernel_rfl) (by kernel_rfl) ?_))
      refine ⟨⟨k + 1, by omega⟩, by dsimp only; (first | omega | (simp only [oA, oB, oC, oD, oE, oF, oG] at *; omega)), [], ?_⟩
      rw [if_neg (by simpa using _hb), List.append_nil] at hs
      simp [EnvSub, StoreSub, look_cons, nm, E.ren, C.ren, C.renL, O.ren, killc, kill0, Function.comp_def, argsFrom, zC, hΓ, hs]
  · have hk6 : k = n.toNat := by have := of_decide_eq_false _hb; omega
    subst hk6
    refine AWp.exit ?_
    (repeat (first | (refine popO rfl ?_; first | (refine gA rfl ?_; first | refine yLm rfl rfl ?_ | ((first | refine yQ (md := true) rfl ?_ ?_ | refine yL rfl rfl (by assumption) rfl rfl ?_ ?_ | refine yT rfl rfl (by assumption) rfl ?_ ?_); (first | exact True.intro | omega | (simp only [oA, oB, oC, oD, oE, oF, oG] at *; omega))) | (refine yB rfl ?_; intro _ _hb) | refine yS rfl rfl ?_ | refine yM rfl rfl (by assumption) rfl rfl rfl ?_ | refine yO rfl rfl rfl ?_ | refine yW rfl rfl ?_ | refine yV rfl rfl rfl rfl (by assumption) rfl rfl rfl rfl ?_ ) | refine popN rfl ?_ | (refine yG rfl rfl ?_ ?_ <;> intro hb <;> subst hb)) | refine AWp.seq ?_ | refine reg (by kernel_rfl) ?_ | refine lexE ?_ | refine regD (noisy []) mixed (by kernel_rfl) (by kernel_rfl) ?_))
    refine AWp.ret ⟨_, rfl, rfl⟩
theorem lettersOf_ok (s : Int) : Pure Tryd.prog TB 41 [eI .i64 s] (eInts (letters s)) := by
  refine Spec.of Tryd.func41 rfl (by kernel_rfl) (Nat.le_of_ble_eq_true rfl) ?_; intro Γ hΓ
  (repeat (first | (refine popO rfl ?_; first | (refine gA rfl ?_; first | refine yLm rfl rfl ?_ | ((first | refine yQ (md := true) rfl ?_ ?_ | refine yL rfl rfl (by assumption) rfl rfl ?_ ?_ | refine yT rfl rfl (by assumption) rfl ?_ ?_); (first | exact True.intro | omega | (simp only [oA, oB, oC, oD, oE, oF, oG] at *; omega))) | (refine yB rfl ?_; intro _ _hb) | refine yS rfl rfl ?_ | refine yM rfl rfl (by assumption) rfl rfl rfl ?_ | refine yO rfl rfl rfl ?_ | refine yW rfl rfl ?_ | refine yV rfl rfl rfl rfl (by assumption) rfl rfl rfl rfl ?_ ) | refine popN rfl ?_ | (refine yG rfl rfl ?_ ?_ <;> intro hb <;> subst hb)) | refine AWp.seq ?_ | refine reg (by kernel_rfl) ?_ | refine lexE ?_ | refine regD (noisy []) mixed (by kernel_rfl) (by kernel_rfl) ?_))
  (refine popO rfl ?_; refine popS (fun _ _ => q_assign rfl) rfl ?_)
  (repeat (first | (refine popO rfl ?_; first | (refine gA rfl ?_; first | refine yLm rfl rfl ?_ | ((first | refine yQ (md := true) rfl ?_ ?_ | refine yL rfl rfl (by assumption) rfl rfl ?_ ?_ | refine yT rfl rfl (by assumption) rfl ?_ ?_); (first | exact True.intro | omega | (simp only [oA, oB, oC, oD, oE, oF, oG] at *; omega))) | (refine yB rfl ?_; intro _ _hb) | refine yS rfl rfl ?_ | refine yM rfl rfl (by assumption) rfl rfl rfl ?_ | refine yO rfl rfl rfl ?_ | refine yW rfl rfl ?_ | refine yV rfl rfl rfl rfl (by assumption) rfl rfl rfl rfl ?_ ) | refine popN rfl ?_ | (refine yG rfl rfl ?_ ?_ <;> intro hb <;> subst hb)) | refine AWp.seq ?_ | refine reg (by kernel_rfl) ?_ | refine lexE ?_ | refine regD (noisy []) mixed (by kernel_rfl) (by kernel_rfl) ?_))
  (refine popO rfl ?_; refine popW ?_ rfl (by rfl); refine n_nil 1 3 ?_)
  (repeat (first | (refine popO rfl ?_; first | (refine gA rfl ?_; first | refine yLm rfl rfl ?_ | ((first | refine yQ (md := true) rfl ?_ ?_ | refine yL rfl rfl (by assumption) rfl rfl ?_ ?_ | refine yT rfl rfl (by assumption) rfl ?_ ?_); (first | exact True.intro | omega | (simp only [oA, oB, oC, oD, oE, oF, oG] at *; omega))) | (refine yB rfl ?_; intro _ _hb) | refine yS rfl rfl ?_ | refine yM rfl rfl (by assumption) rfl rfl rfl ?_ | refine yO rfl rfl rfl ?_ | refine yW rfl rfl ?_ | refine yV rfl rfl rfl rfl (by assumption) rfl rfl rfl rfl ?_ ) | refine popN rfl ?_ | (refine yG rfl rfl ?_ ?_ <;> intro hb <;> subst hb)) | refine AWp.seq ?_ | refine reg (by kernel_rfl) ?_ | refine lexE ?_ | refine regD (noisy []) mixed (by kernel_rfl) (by kernel_rfl) ?_))
  refine AWp.block ?_
  refine AWp.loopL (α := {k : Nat // k ≤ 6}) (fun ⟨k, hk⟩ => [(0, eI .i64 s), (3, .o (.arr 0 1 0 (lettersTo s k).length)), (5, eI .i64 k)]) (fun ⟨k, hk⟩ => [(0, .cells 3 1 ((lettersTo s k).map iRowC))]) 1 (fun ⟨k, hk⟩ => 6 - k) (⟨0, by omega⟩) [0] (by first | (simp [hΓ]; done) | (rw [hΓ]; decide)) (by (repeat' (first | exact trivial | rfl | refine And.intro ?_ ?_)) <;> simp [EnvSub, StoreSub, look_cons, nm, E.ren, C.ren, C.renL, O.ren, killc, kill0, Function.comp_def, argsFrom, zC, hΓ]) ?_; rintro ⟨k, hk⟩; try dsimp only
  (repeat (first | (refine popO rfl ?_; first | (refine gA rfl ?_; first | refine yLm rfl rfl ?_ | ((first | refine yQ (md := true) rfl ?_ ?_ | refine yL rfl rfl (by assumption) rfl rfl ?_ ?_ | refine yT rfl rfl (by assumption) rfl ?_ ?_); (first | exact True.intro | omega | (simp only [oA, oB, oC, oD, oE, oF, oG] at *; omega))) | (refine yB rfl ?_; intro _ _hb) | refine yS rfl rfl ?_ | refine yM rfl rfl (by assumption) rfl rfl rfl ?_ | refine yO rfl rfl rfl ?_ | refine yW rfl rfl ?_ | refine yV rfl rfl rfl rfl (by assumption) rfl rfl rfl rfl ?_ ) | refine popN rfl ?_ | (refine yG rfl rfl ?_ ?_ <;> intro hb <;> subst hb)) | refine AWp.seq ?_ | refine reg (by kernel_rfl) ?_ | refine lexE ?_ | refine regD (noisy []) mixed (by kernel_rfl) (by kernel_rfl) ?_))
  (refine AWp.cond rfl (fun hb => ?_) (fun hb => ?_) <;> cases hb)
  · have hlt : k < 6 := by have := of_decide_eq_true _hb; omega
    refine AWp.skip ?_
    refine AWp.seq (AWp.block ?_)
    (repeat (first | (refine popO rfl ?_; first | (refine gA rfl ?_; first | refine yLm rfl rfl ?_ | ((first | refine yQ (md := true) rfl ?_ ?_ | refine yL rfl rfl (by assumption) rfl rfl ?_ ?_ | refine yT rfl rfl (by assumption) rfl ?_ ?_); (first | exact True.intro | omega | (simp only [oA, oB, oC, oD, oE, oF, oG] at *; omega))) | (refine yB rfl ?_; intro _ _hb) | refine yS rfl rfl ?_ | refine yM rfl rfl (by assumption) rfl rfl rfl ?_ | refine yO rfl rfl rfl ?_ | refine yW rfl rfl ?_ | refine yV rfl rfl rfl rfl (by assumption) rfl rfl rfl rfl ?_ ) | refine popN rfl ?_ | (refine yG rfl rfl ?_ ?_ <;> intro hb <;> subst hb)) | refine AWp.seq ?_ | refine reg (by kernel_rfl) ?_ | refine lexE ?_ | refine regD (noisy []) mixed (by kernel_rfl) (by kernel_rfl) ?_))
    (refine popO rfl ?_; refine popB (fun _ _ => q_call rfl rfl rfl (has_ok _ _) rfl) rfl ?_; intro _ _hb)
    (repeat (first | (refine popO rfl ?_; first | (refine gA rfl ?_; first | refine yLm rfl rfl ?_ | ((first | refine yQ (md := true) rfl ?_ ?_ | refine yL rfl rfl (by assumption) rfl rfl ?_ ?_ | refine yT rfl rfl (by assumption) rfl ?_ ?_); (first | exact True.intro | omega | (simp only [oA, oB, oC, oD, oE, oF, oG] at *; omega))) | (refine yB rfl ?_; intro _ _hb) | refine yS rfl rfl ?_ | refine yM rfl rfl (by assumption) rfl rfl rfl ?_ | refine yO rfl rfl rfl ?_ | refine yW rfl rfl ?_ | refine yV rfl rfl rfl rfl (by assumption) rfl rfl rfl rfl ?_ ) | refine popN rfl ?_ | (refine yG rfl rfl ?_ ?_ <;> intro hb <;> subst hb)) | refine AWp.seq ?_ | refine reg (by kernel_rfl) ?_ | refine lexE ?_ | refine regD (noisy []) mixed (by kernel_rfl) (by kernel_rfl) ?_))
    have hs := lettersTo_succ s k
    have hbb : hasB s k = bitB s k := by simp [hasB]
    rw [hbb] at _hb
    (refine AWp.cond rfl (fun hb => ?_) (fun hb => ?_) <;> cases hb)
    · (repeat (first | (refine popO rfl ?_; first | (refine gA rfl ?_; first | refine yLm rfl rfl ?_ | ((first | refine yQ (md := false) rfl ?_ ?_ | refine yL rfl rfl (by assumption) rfl rfl ?_ ?_ | refine yT rfl rfl (by assumption) rfl ?_ ?_); (first | exact True.intro | omega | (simp only [oA, oB, oC, oD, oE, oF, oG] at *; omega))) | (refine yB rfl ?_; intro _ _hb) | refine yS rfl rfl ?_ | refine yM rfl rfl (by assumption) rfl rfl rfl ?_ | refine yZ rfl rfl rfl rfl rfl rfl ?_ | refine yY rfl rfl rfl ?_ | refine yO rfl rfl rfl ?_ | refine yW rfl rfl ?_ | refine yV rfl rfl rfl rfl (by assumption) rfl rfl rfl rfl ?_ ) | refine popN rfl ?_ | (refine yG rfl rfl ?_ ?_ <;> intro hb <;> subst hb)) | refine AWp.seq ?_ | refine reg (by kernel_rfl) ?_ | refine lexE ?_ | refine regD (noisy []) mixed (by kernel_rfl) (by kernel_rfl) ?_))
      (refine popO rfl ?_; refine popW ?_ rfl (by rfl); refine n_append rfl rfl rfl (by first | (simp; done) | (simp; (first | omega | (simp only [oA, oB, oC, oD, oE, oF, oG] at *; omega)))) rfl (by intro r hr; simp at hr; subst hr; rfl) (by rfl) (Nat.le_of_ble_eq_true rfl) (by have := lettersTo_len s k; simp; omega) ?_)
      (repeat (first | (refine popO rfl ?_; first | (refine gA rfl ?_; first | refine yLm rfl rfl ?_ | ((first | refine yQ (md := false) rfl ?_ ?_ | refine yL rfl rfl (by assumption) rfl rfl ?_ ?_ | refine yT rfl rfl (by assumption) rfl ?_ ?_); (first | exact True.intro | omega | (simp only [oA, oB, oC, oD, oE, oF, oG] at *; omega))) | (refine yB rfl ?_; intro _ _hb) | refine yS rfl rfl ?_ | refine yM rfl rfl (by assumption) rfl rfl rfl ?_ | refine yO rfl rfl rfl ?_ | refine yW rfl rfl ?_ | refine yV rfl rfl rfl rfl (by assumption) rfl rfl rfl rfl ?_ ) | refine popN rfl ?_ | (refine yG rfl rfl ?_ ?_ <;> intro hb <;> subst hb)) | refine AWp.seq ?_ | refine reg (by kernel_rfl) ?_ | refine lexE ?_ | refine regD (noisy []) mixed (by kernel_rfl) (by kernel_rfl) ?_))
      refine ⟨⟨k + 1, by omega⟩, by dsimp only; (first | omega | (simp only [oA, oB, oC, oD, oE, oF, oG] at *; omega)), [1], ?_⟩
      rw [if_pos (by simpa using _hb)] at hs
      simp [EnvSub, StoreSub, look_cons, nm, E.ren, C.ren, C.renL, O.ren, killc, kill0, Function.comp_def, argsFrom, zC, hΓ, hs]
    · refine AWp.skip ?_
      (repeat (first | (refine popO rfl ?_; first | (refine gA rfl ?_; first | refine yLm rfl rfl ?_ | ((first | refine yQ (md := false) rfl ?_ ?_ | refine yL rfl rfl (by assumption) rfl rfl ?_ ?_ | refine yT rfl rfl (by assumption) rfl ?_ ?_); (first | exact True.intro | omega | (simp only [oA, oB, oC, oD, oE, oF, oG] at *; omega))) | (refine yB rfl ?_; intro _ _hb) | refine yS rfl rfl ?_ | refine yM rfl rfl (by assumption) rfl rfl rfl ?_ | refine yO rfl rfl rfl ?_ | refine yW rfl rfl ?_ | refine yV rfl rfl rfl rfl (by assumption) rfl rfl rfl rfl ?_ ) | refine popN rfl ?_ | (refine yG rfl rfl ?_ ?_ <;> intro hb <;> subst hb)) | refine AWp.seq ?_ | refine reg (by kernel_rfl) ?_ | refine lexE ?_ | refine regD (noisy []) mixed (by kernel_rfl) (by kernel_rfl) ?_))
      refine ⟨⟨k + 1, by omega⟩, by dsimp only; (first | omega | (simp only [oA, oB, oC, oD, oE, oF, oG] at *; omega)), [0], ?_⟩
      rw [if_neg (by simpa using _hb), List.append_nil] at hs
      simp [EnvSub, StoreSub, look_cons, nm, E.ren, C.ren, C.renL, O.ren, killc, kill0, Function.comp_def, argsFrom, zC, hΓ, hs]
  · have hk6 : k = 6 := by have := of_decide_eq_false _hb; omega
    subst hk6
    refine AWp.exit ?_
    (repeat (first | (refine popO rfl ?_; first | (refine gA rfl ?_; first | refine yLm rfl rfl ?_ | ((first | refine yQ (md := false) rfl ?_ ?_ | refine yL rfl rfl (by assumption) rfl rfl ?_ ?_ | refine yT rfl rfl (by assumption) rfl ?_ ?_); (first | exact True.intro | omega | (simp only [oA, oB, oC, oD, oE, oF, oG] at *; omega))) | (refine yB rfl ?_; intro _ _hb) | refine yS rfl rfl ?_ | refine yM rfl rfl (by assumption) rfl rfl rfl ?_ | refine yO rfl rfl rfl ?_ | refine yW rfl rfl ?_ | refine yV rfl rfl rfl rfl (by assumption) rfl rfl rfl rfl ?_ ) | refine popN rfl ?_ | (refine yG rfl rfl ?_ ?_ <;> intro hb <;> subst hb)) | refine AWp.seq ?_ | refine reg (by kernel_rfl) ?_ | refine lexE ?_ | refine regD (noisy []) mixed (by kernel_rfl) (by kernel_rfl) ?_))
    refine AWp.freeze [0] [(2, .o (.d (iList (lettersTo s 6))))] ⟨⟨_, rfl, .o (.full (by simp) rfl (by simp [Function.comp_def]) (by simp))⟩, trivial⟩ ?_
    refine AWp.ret ⟨_, rfl, rfl⟩
end Go.Am
/-
  Systems.
-/
namespace Go.Am
open Go Go.Proofs
set_option linter.unusedSimpArgs false
set_option linter.unusedVariables false
attribute [local irreducible] QOp AOp Lex LexO AWp Spec
variable {TB : List (Nat × Obj)}

theorem l2Edge_ok (al st : Int) (e : Edg) : Pure Tryd.prog TB 46 [eI .i64 al, eI .i64 st, eEdg e] (eB (edgeOk al st e)) := by
  refine Spec.of Tryd.func46 rfl (by kernel_rfl) (Nat.le_of_ble_eq_true rfl) ?_; intro Γ hΓ
  (repeat' (first | (first | (refine popO rfl ?_; first | (refine gA rfl ?_; first | refine yLm rfl rfl ?_ | ((first | refine yQ (md := false) rfl ?_ ?_ | refine yL rfl rfl (by assumption) rfl rfl ?_ ?_ | refine yT rfl rfl (by assumption) rfl ?_ ?_); (first | exact True.intro | omega | (simp only [oA, oB, oC, oD, oE, oF, oG] at *; omega))) | (refine yB rfl ?_; intro _ _hb) | refine yS rfl rfl ?_ | refine yM rfl rfl (by assumption) rfl rfl rfl ?_ | refine yZ rfl rfl rfl rfl rfl rfl ?_ | refine yY rfl rfl rfl ?_ | refine yO rfl rfl rfl ?_ | refine yW rfl rfl ?_ | refine yV rfl rfl rfl rfl (by assumption) rfl rfl rfl rfl ?_ | (refine yC rfl rfl rfl (l1Has_ok _ _ (by first | omega | (simp only [oA, oB, oC, oD, oE, oF, oG] at *; omega)) (by first | omega | (simp only [oA, oB, oC, oD, oE, oF, oG] at *; omega))) ?_; intro _ _hb) ) | refine popN rfl ?_ | (refine yG rfl rfl ?_ ?_ <;> intro hb <;> subst hb)) | refine AWp.seq ?_ | refine reg (by kernel_rfl) ?_ | refine lexE ?_ | refine regD (noisy []) mixed (by kernel_rfl) (by kernel_rfl) ?_) | (refine AWp.cond rfl (fun hb => ?_) (fun hb => ?_) <;> cases hb) | refine AWp.skip ?_ | refine AWp.exit ?_ | refine AWp.block ?_ | refine AWp.ret ⟨_, rfl, ?_⟩))
  all_goals (show E.o _ = E.o _; congr; unfold edgeOk; grind)
theorem l2Before_ok (e f : Edg) : Pure Tryd.prog TB 47 [eEdg e, eEdg f] (eB (befB e f)) := by
  refine Spec.of Tryd.func47 rfl (by kernel_rfl) (Nat.le_of_ble_eq_true rfl) ?_; intro Γ hΓ
  (repeat' (first | (first | (refine popO rfl ?_; first | (refine gA rfl ?_; first | refine yLm rfl rfl ?_ | ((first | refine yQ (md := false) rfl ?_ ?_ | refine yL rfl rfl (by assumption) rfl rfl ?_ ?_ | refine yT rfl rfl (by assumption) rfl ?_ ?_); (first | exact True.intro | omega | (simp only [oA, oB, oC, oD, oE, oF, oG] at *; omega))) | (refine yB rfl ?_; intro _ _hb) | refine yS rfl rfl ?_ | refine yM rfl rfl (by assumption) rfl rfl rfl ?_ | refine yZ rfl rfl rfl rfl rfl rfl ?_ | refine yY rfl rfl rfl ?_ | refine yO rfl rfl rfl ?_ | refine yW rfl rfl ?_ | refine yV rfl rfl rfl rfl (by assumption) rfl rfl rfl rfl ?_ ) | refine popN rfl ?_ | (refine yG rfl rfl ?_ ?_ <;> intro hb <;> subst hb)) | refine AWp.seq ?_ | refine reg (by kernel_rfl) ?_ | refine lexE ?_ | refine regD (noisy []) mixed (by kernel_rfl) (by kernel_rfl) ?_) | (refine AWp.cond rfl (fun hb => ?_) (fun hb => ?_) <;> cases hb) | refine AWp.skip ?_ | refine AWp.exit ?_ | refine AWp.block ?_ | refine AWp.ret ⟨_, rfl, ?_⟩))
  all_goals (show E.o _ = E.o _; congr; unfold befB; grind)
def cmpI (a b : Int) : Int := if a < b then -1 else if a > b then 1 else 0
theorem isNaN_ok (n : Int) : Pure Tryd.prog TB 82 [eI .i64 n] (eB false) := by
  refine Spec.of Tryd.func82 rfl (by kernel_rfl) (Nat.le_of_ble_eq_true rfl) ?_; intro Γ hΓ
  (repeat' (first | (first | (refine popO rfl ?_; first | (refine gA rfl ?_; first | refine yLm rfl rfl ?_ | ((first | refine yQ (md := false) rfl ?_ ?_ | refine yL rfl rfl (by assumption) rfl rfl ?_ ?_ | refine yT rfl rfl (by assumption) rfl ?_ ?_); (first | exact True.intro | omega | (simp only [oA, oB, oC, oD, oE, oF, oG] at *; omega))) | (refine yB rfl ?_; intro _ _hb) | refine yS rfl rfl ?_ | refine yM rfl rfl (by assumption) rfl rfl rfl ?_ | refine yZ rfl rfl rfl rfl rfl rfl ?_ | refine yY rfl rfl rfl ?_ | refine yO rfl rfl rfl ?_ | refine yW rfl rfl ?_ | refine yV rfl rfl rfl rfl (by assumption) rfl rfl rfl rfl ?_ ) | refine popN rfl ?_ | (refine yG rfl rfl ?_ ?_ <;> intro hb <;> subst hb)) | refine AWp.seq ?_ | refine reg (by kernel_rfl) ?_ | refine lexE ?_ | refine regD (noisy []) mixed (by kernel_rfl) (by kernel_rfl) ?_) | (refine AWp.cond rfl (fun hb => ?_) (fun hb => ?_) <;> cases hb) | refine AWp.skip ?_ | refine AWp.exit ?_ | refine AWp.block ?_ | refine AWp.ret ⟨_, rfl, ?_⟩))
  all_goals (show E.o _ = E.o _; congr; grind)
theorem cmpCompare_ok (a b : Int) : Pure Tryd.prog TB 67 [eI .i64 a, eI .i64 b] (eI .i64 (cmpI a b)) := by
  refine Spec.of Tryd.func67 rfl (by kernel_rfl) (Nat.le_of_ble_eq_true rfl) ?_; intro Γ hΓ
  (repeat' (first | (first | (refine popO rfl ?_; first | (refine gA rfl ?_; first | refine yLm rfl rfl ?_ | ((first | refine yQ (md := false) rfl ?_ ?_ | refine yL rfl rfl (by assumption) rfl rfl ?_ ?_ | refine yT rfl rfl (by assumption) rfl ?_ ?_); (first | exact True.intro | omega | (simp only [oA, oB, oC, oD, oE, oF, oG] at *; omega))) | (refine yB rfl ?_; intro _ _hb) | refine yS rfl rfl ?_ | refine yM rfl rfl (by assumption) rfl rfl rfl ?_ | refine yZ rfl rfl rfl rfl rfl rfl ?_ | refine yY rfl rfl rfl ?_ | refine yO rfl rfl rfl ?_ | refine yW rfl rfl ?_ | refine yV rfl rfl rfl rfl (by assumption) rfl rfl rfl rfl ?_ | refine yP rfl rfl rfl (isNaN_ok _) rfl ?_ ) | refine popN rfl ?_ | (refine yG rfl rfl ?_ ?_ <;> intro hb <;> subst hb)) | refine AWp.seq ?_ | refine reg (by kernel_rfl) ?_ | refine lexE ?_ | refine regD (noisy []) mixed (by kernel_rfl) (by kernel_rfl) ?_) | (refine AWp.cond rfl (fun hb => ?_) (fun hb => ?_) <;> cases hb) | refine AWp.skip ?_ | refine AWp.exit ?_ | refine AWp.block ?_ | refine AWp.ret ⟨_, rfl, ?_⟩))
  all_goals (show E.o _ = E.o _; congr; unfold cmpI; grind)
theorem isState_ok (s : Sys) (q : Int) : Pure Tryd.prog TB 52 [eSys s, eI .i64 q] (eB (decide (0 ≤ q ∧ q < s.st))) := by
  refine Spec.of Tryd.func52 rfl (by kernel_rfl) (Nat.le_of_ble_eq_true rfl) ?_; intro Γ hΓ
  (repeat' (first | (first | (refine popO rfl ?_; first | (refine gA rfl ?_; first | refine yLm rfl rfl ?_ | ((first | refine yQ (md := false) rfl ?_ ?_ | refine yL rfl rfl (by assumption) rfl rfl ?_ ?_ | refine yT rfl rfl (by assumption) rfl ?_ ?_); (first | exact True.intro | omega | (simp only [oA, oB, oC, oD, oE, oF, oG] at *; omega))) | (refine yB rfl ?_; intro _ _hb) | refine yS rfl rfl ?_ | refine yM rfl rfl (by assumption) rfl rfl rfl ?_ | refine yZ rfl rfl rfl rfl rfl rfl ?_ | refine yY rfl rfl rfl ?_ | refine yO rfl rfl rfl ?_ | refine yW rfl rfl ?_ | refine yV rfl rfl rfl rfl (by assumption) rfl rfl rfl rfl ?_ ) | refine popN rfl ?_ | (refine yG rfl rfl ?_ ?_ <;> intro hb <;> subst hb)) | refine AWp.seq ?_ | refine reg (by kernel_rfl) ?_ | refine lexE ?_ | refine regD (noisy []) mixed (by kernel_rfl) (by kernel_rfl) ?_) | (refine AWp.cond rfl (fun hb => ?_) (fun hb => ?_) <;> cases hb) | refine AWp.skip ?_ | refine AWp.exit ?_ | refine AWp.block ?_ | refine AWp.ret ⟨_, rfl, ?_⟩))
  all_goals (show E.o _ = E.o _; congr; grind)
end Go.Am
/-
  Rows and automata.
-/
namespace Go.Am
open Go Go.Proofs
set_option linter.unusedSimpArgs false
set_option linter.unusedVariables false
attribute [local irreducible] QOp AOp Lex LexO AWp Spec
variable {TB : List (Nat × Obj)}

theorem l3Row_ok (row : List Int) (ls n : Int) : Pure Tryd.prog TB 32 [eInts row, eI .i64 ls, eI .i64 n] (eB (rowOk ls n row)) := by
  refine Spec.of Tryd.func32 rfl (by kernel_rfl) (Nat.le_of_ble_eq_true rfl) ?_; intro Γ hΓ
  (repeat' (first | (first | (refine popO rfl ?_; first | (refine gA rfl ?_; first | refine yLm rfl rfl ?_ | ((first | refine yQ (md := false) rfl ?_ ?_ | refine yL rfl rfl (by assumption) rfl rfl ?_ ?_ | refine yT rfl rfl (by assumption) rfl ?_ ?_); (first | exact True.intro | omega | (simp only [oA, oB, oC, oD, oE, oF, oG] at *; omega))) | (refine yB rfl ?_; intro _ _hb) | refine yS rfl rfl ?_ | refine yM rfl rfl (by assumption) rfl rfl rfl ?_ | refine yZ rfl rfl rfl rfl rfl rfl ?_ | refine yY rfl rfl rfl ?_ | refine yO rfl rfl rfl ?_ | refine yW rfl rfl ?_ | refine yV rfl rfl rfl rfl (by assumption) rfl rfl rfl rfl ?_ ) | refine popN rfl ?_ | (refine yG rfl rfl ?_ ?_ <;> intro hb <;> subst hb)) | refine AWp.seq ?_ | refine reg (by kernel_rfl) ?_ | refine lexE ?_ | refine regD (noisy []) mixed (by kernel_rfl) (by kernel_rfl) ?_) | (refine AWp.cond rfl (fun hb => ?_) (fun hb => ?_) <;> cases hb) | refine AWp.skip ?_ | refine AWp.exit ?_ | refine AWp.block ?_ | refine AWp.ret ⟨_, rfl, ?_⟩))
  · show E.o _ = E.o _; congr; unfold rowOk; grind
  refine AWp.bound 0 rfl fun hB => ?_
  have hB := hB _ .refl
  rw [List.length_map] at hB
  refine AWp.loopL (α := {k : Nat // k ≤ row.length ∧ (row.take k).all (stOk n) = true}) (fun ⟨k, hk, ha⟩ => [(0, eInts row), (2, eI .i64 n), (7, eI .i64 k)]) (fun ⟨k, hk, ha⟩ => []) 0 (fun ⟨k, hk, ha⟩ => row.length - k) (⟨0, by omega, rfl⟩) [] (by first | (simp [hΓ]; done) | (rw [hΓ]; decide)) (by (repeat' (first | exact trivial | rfl | refine And.intro ?_ ?_)) <;> simp [EnvSub, StoreSub, look_cons, nm, E.ren, C.ren, C.renL, O.ren, killc, kill0, Function.comp_def, argsFrom, zC, hΓ]) ?_; rintro ⟨k, hk, ha⟩; try dsimp only
  (repeat (first | (refine popO rfl ?_; first | (refine gA rfl ?_; first | refine yLm rfl rfl ?_ | ((first | refine yQ (md := false) rfl ?_ ?_ | refine yL rfl rfl (by assumption) rfl rfl ?_ ?_ | refine yT rfl rfl (by assumption) rfl ?_ ?_); (first | exact True.intro | omega | (simp only [oA, oB, oC, oD, oE, oF, oG] at *; omega))) | (refine yB rfl ?_; intro _ _hb) | refine yS rfl rfl ?_ | refine yM rfl rfl (by assumption) rfl rfl rfl ?_ | refine yZ rfl rfl rfl rfl rfl rfl ?_ | refine yY rfl rfl rfl ?_ | refine yO rfl rfl rfl ?_ | refine yW rfl rfl ?_ | refine yV rfl rfl rfl rfl (by assumption) rfl rfl rfl rfl ?_ ) | refine popN rfl ?_ | (refine yG rfl rfl ?_ ?_ <;> intro hb <;> subst hb)) | refine AWp.seq ?_ | refine reg (by kernel_rfl) ?_ | refine lexE ?_ | refine regD (noisy []) mixed (by kernel_rfl) (by kernel_rfl) ?_))
  (refine AWp.cond rfl (fun hb => ?_) (fun hb => ?_) <;> cases hb)
  · obtain ⟨x, hx⟩ := get_some (l := row) (k := k) (by first | omega | (simp only [oA, oB, oC, oD, oE, oF, oG] at *; omega))
    have hx' := get_map (g := iRow) hx
    (repeat' (first | (first | (refine popO rfl ?_; first | (refine gA rfl ?_; first | refine yLm rfl rfl ?_ | ((first | refine yQ (md := false) rfl ?_ ?_ | refine yL rfl rfl (by assumption) rfl rfl ?_ ?_ | refine yT rfl rfl (by assumption) rfl ?_ ?_); (first | exact True.intro | omega | (simp only [oA, oB, oC, oD, oE, oF, oG] at *; omega))) | (refine yB rfl ?_; intro _ _hb) | refine yS rfl rfl ?_ | refine yM rfl rfl (by assumption) rfl rfl rfl ?_ | refine yZ rfl rfl rfl rfl rfl rfl ?_ | refine yY rfl rfl rfl ?_ | refine yO rfl rfl rfl ?_ | refine yW rfl rfl ?_ | refine yV rfl rfl rfl rfl (by assumption) rfl rfl rfl rfl ?_ ) | refine popN rfl ?_ | (refine yG rfl rfl ?_ ?_ <;> intro hb <;> subst hb)) | refine AWp.seq ?_ | refine reg (by kernel_rfl) ?_ | refine lexE ?_ | refine regD (noisy []) mixed (by kernel_rfl) (by kernel_rfl) ?_) | (refine AWp.cond rfl (fun hb => ?_) (fun hb => ?_) <;> cases hb) | refine AWp.skip ?_ | refine AWp.exit ?_ | refine AWp.block ?_ | refine AWp.ret ⟨_, rfl, ?_⟩))
    all_goals first
      | (show E.o _ = E.o _; congr; rw [rowOk, all_bad hx (by unfold stOk; grind)]; simp; done)
      | (refine ⟨⟨k + 1, by first | omega | (simp only [oA, oB, oC, oD, oE, oF, oG] at *; omega), all_step hx ha (by unfold stOk; grind)⟩, by dsimp only; (first | omega | (simp only [oA, oB, oC, oD, oE, oF, oG] at *; omega)), [], ?_⟩; simp [EnvSub, StoreSub, look_cons, nm, E.ren, C.ren, C.renL, O.ren, killc, kill0, Function.comp_def, argsFrom, zC, hΓ]; done)
  · (repeat' (first | (first | (refine popO rfl ?_; first | (refine gA rfl ?_; first | refine yLm rfl rfl ?_ | ((first | refine yQ (md := false) rfl ?_ ?_ | refine yL rfl rfl (by assumption) rfl rfl ?_ ?_ | refine yT rfl rfl (by assumption) rfl ?_ ?_); (first | exact True.intro | omega | (simp only [oA, oB, oC, oD, oE, oF, oG] at *; omega))) | (refine yB rfl ?_; intro _ _hb) | refine yS rfl rfl ?_ | refine yM rfl rfl (by assumption) rfl rfl rfl ?_ | refine yZ rfl rfl rfl rfl rfl rfl ?_ | refine yY rfl rfl rfl ?_ | refine yO rfl rfl rfl ?_ | refine yW rfl rfl ?_ | refine yV rfl rfl rfl rfl (by assumption) rfl rfl rfl rfl ?_ ) | refine popN rfl ?_ | (refine yG rfl rfl ?_ ?_ <;> intro hb <;> subst hb)) | refine AWp.seq ?_ | refine reg (by kernel_rfl) ?_ | refine lexE ?_ | refine regD (noisy []) mixed (by kernel_rfl) (by kernel_rfl) ?_) | (refine AWp.cond rfl (fun hb => ?_) (fun hb => ?_) <;> cases hb) | refine AWp.skip ?_ | refine AWp.exit ?_ | refine AWp.block ?_ | refine AWp.ret ⟨_, rfl, ?_⟩))
    show E.o _ = E.o _; congr; rw [rowOk, all_done ha (by first | omega | (simp only [oA, oB, oC, oD, oE, oF, oG] at *; omega))]; grind
end Go.Am
/-
  Automata and systems are valid.
-/
namespace Go.Am
open Go Go.Proofs
set_option linter.unusedSimpArgs false
set_option linter.unusedVariables false
attribute [local irreducible] QOp AOp Lex LexO AWp Spec
variable {TB : List (Nat × Obj)}

theorem autOk_head {a : Aut} (h : autOk a = true) : alphB a.al = true ∧ 1 ≤ a.nx.length ∧ a.nx.length ≤ 12 ∧ a.ac.length = a.nx.length := by
  unfold autOk at h; grind
theorem specAutomatonValid_ok (a : Aut) : Pure Tryd.prog TB 16 [eAut a] (eB (autOk a)) := by
  refine Spec.of Tryd.func16 rfl (by kernel_rfl) (Nat.le_of_ble_eq_true rfl) ?_; intro Γ hΓ
  (repeat' (first | (first | (refine popO rfl ?_; first | (refine gA rfl ?_; first | refine yLm rfl rfl ?_ | ((first | refine yQ (md := false) rfl ?_ ?_ | refine yL rfl rfl (by assumption) rfl rfl ?_ ?_ | refine yT rfl rfl (by assumption) rfl ?_ ?_); (first | exact True.intro | omega | (simp only [oA, oB, oC, oD, oE, oF, oG] at *; omega))) | (refine yB rfl ?_; intro _ _hb) | refine yS rfl rfl ?_ | refine yM rfl rfl (by assumption) rfl rfl rfl ?_ | refine yZ rfl rfl rfl rfl rfl rfl ?_ | refine yY rfl rfl rfl ?_ | refine yO rfl rfl rfl ?_ | refine yW rfl rfl ?_ | refine yV rfl rfl rfl rfl (by assumption) rfl rfl rfl rfl ?_ | (refine yC rfl rfl rfl (l1Alphabet_ok _) ?_; intro _ _hb) ) | refine popN rfl ?_ | (refine yG rfl rfl ?_ ?_ <;> intro hb <;> subst hb)) | refine AWp.seq ?_ | refine reg (by kernel_rfl) ?_ | refine lexE ?_ | refine regD (noisy []) mixed (by kernel_rfl) (by kernel_rfl) ?_) | (refine AWp.cond rfl (fun hb => ?_) (fun hb => ?_) <;> cases hb) | refine AWp.skip ?_ | refine AWp.exit ?_ | refine AWp.block ?_ | refine AWp.ret ⟨_, rfl, ?_⟩))
  all_goals try (show E.o _ = E.o _; congr; unfold autOk; (try simp only [List.length_map] at *); grind)
  refine AWp.bound 1 rfl fun hB => ?_
  have hB := hB (a.nx.map iiRow) (.p (j := 1) rfl .refl)
  refine AWp.loopL (α := {k : Nat // k ≤ a.nx.length ∧ (a.nx.take k).all (rowOk (letters a.al).length a.nx.length) = true}) (fun ⟨k, hk, ha⟩ => [(1, .o (.ip (auRow a))), (3, eI .i64 a.nx.length), (4, eI .i64 k)]) (fun ⟨k, hk, ha⟩ => []) 0 (fun ⟨k, hk, ha⟩ => a.nx.length - k) (⟨0, by omega, rfl⟩) [] (by first | (simp [hΓ]; done) | (rw [hΓ]; decide)) (by (repeat' (first | exact trivial | rfl | refine And.intro ?_ ?_)) <;> simp [EnvSub, StoreSub, look_cons, nm, E.ren, C.ren, C.renL, O.ren, killc, kill0, Function.comp_def, argsFrom, zC, hΓ]) ?_; rintro ⟨k, hk, ha⟩; try dsimp only
  (repeat (first | (refine popO rfl ?_; first | (refine gA rfl ?_; first | refine yLm rfl rfl ?_ | ((first | refine yQ (md := false) rfl ?_ ?_ | refine yL rfl rfl (by assumption) rfl rfl ?_ ?_ | refine yT rfl rfl (by assumption) rfl ?_ ?_); (first | exact True.intro | omega | (simp only [oA, oB, oC, oD, oE, oF, oG] at *; omega))) | (refine yB rfl ?_; intro _ _hb) | refine yS rfl rfl ?_ | refine yM rfl rfl (by assumption) rfl rfl rfl ?_ | refine yZ rfl rfl rfl rfl rfl rfl ?_ | refine yY rfl rfl rfl ?_ | refine yO rfl rfl rfl ?_ | refine yW rfl rfl ?_ | refine yV rfl rfl rfl rfl (by assumption) rfl rfl rfl rfl ?_ ) | refine popN rfl ?_ | (refine yG rfl rfl ?_ ?_ <;> intro hb <;> subst hb)) | refine AWp.seq ?_ | refine reg (by kernel_rfl) ?_ | refine lexE ?_ | refine regD (noisy []) mixed (by kernel_rfl) (by kernel_rfl) ?_))
  (refine AWp.cond rfl (fun hb => ?_) (fun hb => ?_) <;> cases hb)
  · obtain ⟨x, hx⟩ := get_some (l := a.nx) (k := k) (by first | omega | (simp only [oA, oB, oC, oD, oE, oF, oG] at *; omega))
    have hx' := get_map (g := iiRow) hx
    (repeat' (first | (first | (refine popO rfl ?_; first | (refine gA rfl ?_; first | refine yLm rfl rfl ?_ | ((first | refine yQ (md := false) rfl ?_ ?_ | refine yL rfl rfl (by assumption) rfl rfl ?_ ?_ | refine yT rfl rfl (by assumption) rfl ?_ ?_); (first | exact True.intro | omega | (simp only [oA, oB, oC, oD, oE, oF, oG] at *; omega))) | (refine yB rfl ?_; intro _ _hb) | refine yS rfl rfl ?_ | refine yM rfl rfl (by assumption) rfl rfl rfl ?_ | refine yZ rfl rfl rfl rfl rfl rfl ?_ | refine yY rfl rfl rfl ?_ | refine yO rfl rfl rfl ?_ | refine yW rfl rfl ?_ | refine yV rfl rfl rfl rfl (by assumption) rfl rfl rfl rfl ?_ | refine yP rfl rfl rfl (l1Letters_ok _) rfl ?_ | (refine yC rfl rfl rfl (l3Row_ok _ _ _) ?_; intro _ _hb) ) | refine popN rfl ?_ | (refine yG rfl rfl ?_ ?_ <;> intro hb <;> subst hb)) | refine AWp.seq ?_ | refine reg (by kernel_rfl) ?_ | refine lexE ?_ | refine regD (noisy []) mixed (by kernel_rfl) (by kernel_rfl) ?_) | (refine AWp.cond rfl (fun hb => ?_) (fun hb => ?_) <;> cases hb) | refine AWp.skip ?_ | refine AWp.exit ?_ | refine AWp.block ?_ | refine AWp.ret ⟨_, rfl, ?_⟩))
    all_goals first
      | (have h1 := all_bad (f := rowOk (letters a.al).length a.nx.length) hx (by grind); (show E.o _ = E.o _; congr; unfold autOk; (try simp only [List.length_map] at *); grind); done)
      | (refine ⟨⟨k + 1, by first | omega | (simp only [oA, oB, oC, oD, oE, oF, oG] at *; omega), all_step hx ha (by grind)⟩, by dsimp only; (first | omega | (simp only [oA, oB, oC, oD, oE, oF, oG] at *; omega)), [], ?_⟩; simp [EnvSub, StoreSub, look_cons, nm, E.ren, C.ren, C.renL, O.ren, killc, kill0, Function.comp_def, argsFrom, zC, hΓ]; done)
  · (repeat' (first | (first | (refine popO rfl ?_; first | (refine gA rfl ?_; first | refine yLm rfl rfl ?_ | ((first | refine yQ (md := false) rfl ?_ ?_ | refine yL rfl rfl (by assumption) rfl rfl ?_ ?_ | refine yT rfl rfl (by assumption) rfl ?_ ?_); (first | exact True.intro | omega | (simp only [oA, oB, oC, oD, oE, oF, oG] at *; omega))) | (refine yB rfl ?_; intro _ _hb) | refine yS rfl rfl ?_ | refine yM rfl rfl (by assumption) rfl rfl rfl ?_ | refine yZ rfl rfl rfl rfl rfl rfl ?_ | refine yY rfl rfl rfl ?_ | refine yO rfl rfl rfl ?_ | refine yW rfl rfl ?_ | refine yV rfl rfl rfl rfl (by assumption) rfl rfl rfl rfl ?_ ) | refine popN rfl ?_ | (refine yG rfl rfl ?_ ?_ <;> intro hb <;> subst hb)) | refine AWp.seq ?_ | refine reg (by kernel_rfl) ?_ | refine lexE ?_ | refine regD (noisy []) mixed (by kernel_rfl) (by kernel_rfl) ?_) | (refine AWp.cond rfl (fun hb => ?_) (fun hb => ?_) <;> cases hb) | refine AWp.skip ?_ | refine AWp.exit ?_ | refine AWp.block ?_ | refine AWp.ret ⟨_, rfl, ?_⟩))
    show E.o _ = E.o _; congr
    have h1 := all_done ha (by first | omega | (simp only [oA, oB, oC, oD, oE, oF, oG] at *; omega))
    unfold autOk; simp only [List.length_map] at *; grind
end Go.Am
