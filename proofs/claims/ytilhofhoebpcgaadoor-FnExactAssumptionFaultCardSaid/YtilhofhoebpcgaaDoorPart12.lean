/-
  A slice of zeros that nobody writes.
-/
import Derived.Test.YtilhofhoebpcgaaDoorPart11
import Derived.Lib.TrailingZeros
namespace Go.Am
open Go Go.Proofs
section
variable {P : Program} {TB : List (Nat × Obj)} {Γ : Ctx} {d : Option Tmp} {ty : TypeId} {pos : String} {af : Array Edge} {g : Option (Nat × Bool)} {f : Env} {σ : Store} {nx : Nat}
theorem run_makeSl {t e : TypeId} {k b : Nat} {z : List Value} {ik ik' : IntKind} {n c : Int} (hl : slF P t = some (e, k, b)) (hz : zeF P e = some z) (hzk : z.length = k) (hb0 : 0 < b) (h0 : 0 ≤ n) (hnc : n ≤ c) (hc : c * b ≤ 140737488355328) (w : World) :
    ∃ zv : Value, zv.cells.toList = z ∧ (Instr.makeSlice t (.int ik n) (.int ik' c)).run P w = .ok (.slice (some ⟨w.heap.size, 0, none⟩) n.toNat c.toNat) (w.alloc (.cells ((Array.range (c.toNat * z.length)).map (zv.cells[· % zv.cells.size]!)) e)) := by
  obtain ⟨i, hu, hi, hsz, hby⟩ := sl_inv hl
  obtain ⟨i', zv, hi', hzv, hzz⟩ := ze_inv hz
  rw [hi] at hi'; injection hi' with hi'; subst hi'
  refine ⟨zv, hzz, ?_⟩
  have hc0 : 0 ≤ c := by omega
  have hcb : c ≤ c * b := by
    have := Int.mul_le_mul_of_nonneg_left (show (1 : Int) ≤ (b : Int) by omega) hc0
    omega
  have wn : IntKind.i64.wrap n = n := IntWalk.i64_in n (by omega)
  have wc : IntKind.i64.wrap c = c := IntWalk.i64_in c (by omega)
  have hzs : zv.cells.size = k := by rw [← hzk, ← hzz]; simp
  have hcb2 : (b : Int) * c ≤ 140737488355328 := by rw [Int.mul_comm]; exact hc
  have ht : ¬ (281474976710656 : Int) < (b : Int) * c := by omega
  generalize hcur : (Array.range (c.toNat * z.length)).map (zv.cells[· % zv.cells.size]!) = cur
  have g1 : ¬ c < 0 := by omega
  have g2 : ¬ n < 0 := by omega
  have g3 : ¬ c < n := by omega
  simp only [Instr.makeSlice, Sem.run_bind, run_underlying hu, Result.andThen_ok, asInt, asIntOf, pure_bind, bind_pure_comp, map_pure, typeInfo, sizeOf, wn, wc]
  by_cases hcz : c.toNat * k = 0
  · have hce : cur = #[] := by
      have : cur.size = 0 := by rw [← hcur]; simp [hzk, hcz]
      exact Array.eq_empty_of_size_eq_zero this
    simp [go_sem, hi, hby, hsz, g1, g2, g3, ht, askRoom, hcz, newRow, newObj, hce]
    rfl
  · simp [go_sem, hi, hby, hsz, g1, g2, g3, ht, askRoom, hcz, newRow, newObj, zeroValue, typeInfo, hzv, ← hcur, hzk]
    rfl
/-- make([]T, n) that nobody writes. -/
theorem q_makeI {t e : TypeId} {k b : Nat} {z : List Value} {dz : List D} {x y : Operand} {ik ik' : IntKind} {n : Int} [hl : HasSl P t e k b] [hz : HasZe P e z] (hx : ev f x = some (eI ik n)) (hy : ev f y = some (eI ik' n)) (hzk : z.length = k) (hok : z.all zOk = true) (hzd : z.map zC = dz.map C.d) (hb0 : 0 < b)
    (h0 : 0 ≤ n) (hc : n * b ≤ 140737488355328) : QOp P TB Γ ⟨d, .makeSlice t x y, ty, pos, af, g⟩ f σ nx (.o (.d (.l (List.replicate n.toNat dz)))) :=
  q_of_runI fun V ρ h1 h2 => by
    have hxv : ρ x = .int ik n := CRel.val (h1.get (by simp [Op.operands]) hx)
    have hyv : ρ y = .int ik' n := CRel.val (h1.get (by simp [Op.operands]) hy)
    obtain ⟨zv, hzz, hrun⟩ := run_makeSl (ik := ik) (ik' := ik') hl.out hz.out hzk hb0 h0 (Int.le_refl n) hc V.w
    have hcb : n ≤ n * b := by
      have := Int.mul_le_mul_of_nonneg_left (show (1 : Int) ≤ (b : Int) by omega) h0
      omega
    have hzr := zeros_rel (V := V) (n := n.toNat) hzz hok
    generalize hcur : (Array.range (n.toNat * z.length)).map (zv.cells[· % zv.cells.size]!) = cur at hrun hzr
    obtain ⟨hi, he⟩ := h2.allocI (w := V.w.alloc (.cells cur e)) rfl rfl rfl (by simp) (fun b hb => heap_push_old _ _ _ hb)
    have hdl : dz.length = k := by have := congrArg List.length hzd; simp at this; omega
    have hcell : ∀ (i : Nat) (r : List D) (j : Nat) (x : D), (List.replicate n.toNat dz)[i]? = some r → r[j]? = some x → ∃ v, cur[i * k + j]? = some v ∧ DRel V.I V.w x v := fun i r j x hi hj => by
      have hr : r = dz := List.eq_of_mem_replicate (List.mem_of_getElem? hi)
      subst hr
      have hlt : i < n.toNat := by have := (List.getElem?_eq_some_iff.1 hi).1; simpa using this
      obtain ⟨v, h9, h10⟩ := flatten_get (k := k) hzr (fun r hr => by rw [List.eq_of_mem_replicate hr]; simp [hzk]) i (z.map zC) j (.d x) (by simp [hlt]) (by rw [hzd]; simp [hj])
      cases h10 with
      | d h10 => exact ⟨v, h9, h10⟩
    refine ⟨.slice (some ⟨V.w.heap.size, 0, none⟩) n.toNat n.toNat, newI V (V.w.alloc (.cells cur e)), ?_, he, hi, rfl, ?_⟩
    · show ((do let v ← Instr.makeSlice t (ρ x) (ρ y); pure (Next.value v) : Sem Next)).run P V.w = _
      rw [hxv, hyv]
      simp only [Sem.run_bind, hrun, Result.andThen_ok]
      rfl
    · have hb : (newI V (V.w.alloc (.cells cur e))).I V.w.heap.size := .inr rfl
      have hh : (newI V (V.w.alloc (.cells cur e))).w.heap[V.w.heap.size]? = some (.cells cur e) := heap_push_new _ _
      have := @DRel.l (newI V (V.w.alloc (.cells cur e))).I (newI V (V.w.alloc (.cells cur e))).w (List.replicate n.toNat dz) V.w.heap.size 0 k n.toNat (fun i j => cur.getD (i * k + j) undef) hb (by simp) (by unfold maxLen; omega)
        (fun i r hi => by rw [List.eq_of_mem_replicate (List.mem_of_getElem? hi)]; exact hdl)
        (fun i r j x hi hj => by
          obtain ⟨v, h6, _⟩ := hcell i r j x hi hj
          simp [World.cell?, hh, h6])
        (fun i r j x hi hj => by
          obtain ⟨v, h6, h7⟩ := hcell i r j x hi hj
          have : cur.getD (i * k + j) undef = v := by simp [h6]
          rw [this]; exact h7.ext he)
      rw [List.length_replicate] at this
      exact .d this
end
end Go.Am
/-
  The reference's checks.
-/
namespace Go.Am
open Go Go.Proofs
set_option linter.unusedSimpArgs false
set_option linter.unusedVariables false
attribute [local irreducible] QOp AOp Lex LexO AWp Spec
variable {TB : List (Nat × Obj)}

/-- An answer, as two values. -/
abbrev ansT (r : Option (List Int)) : List UInt8 := (r.map txt).getD []
abbrev eAns (r : Option (List Int)) : E := .t [(false, [.d (tD (ansT r))]), (false, [.d (bD r.isSome)])]
theorem ansE_eq (r : Option (List Int)) : ansE r = eAns r := by cases r <;> rfl
noncomputable def ansOf (g : Gr) : Option (List Int) := Classical.choose (exists_ans g)
theorem ansOf_is (g : Gr) : IsAns g (ansOf g) := Classical.choose_spec (exists_ans g)
theorem ansOf_eq {g : Gr} {r : Option (List Int)} (h : IsAns g r) : ansOf g = r := IsAns.unique (ansOf_is g) h

def netU (s : Sys) (a p : Aut) : Net := ⟨[s], [a, p], [0, 0, 0], iOr .i64 s.al a.al, 2, 0⟩
def validU (s : Sys) (a p : Aut) : Bool := sysOk s && autOk a && autOk p
noncomputable def violU (s : Sys) (a p : Aut) : Option (List Int) := if validU s a p then ansOf (gOf (netU s a p)) else none
noncomputable def keepsU (s : Sys) (a p : Aut) : Bool := validU s a p && !(violU s a p).isSome
def palphF (l : List Sys) (n : Int) : Int := l.foldl (fun n s => iOr .i64 n s.al) n
def partsOk (l : List Sys) : Bool := decide (1 ≤ l.length ∧ l.length ≤ 3) && l.all sysOk
def palph (l : List Sys) : Int := if partsOk l then palphF l 0 else -1
def netP (l : List Sys) (p : Aut) : Net := ⟨l, [p], List.replicate (l.length + 1) 0, palph l, 3, 0⟩
noncomputable def violP (l : List Sys) (p : Aut) : Option (List Int) := if partsOk l && autOk p then ansOf (gOf (netP l p)) else none
noncomputable def keepsP (l : List Sys) (p : Aut) : Bool := partsOk l && autOk p && !(violP l p).isSome
def ifaceI (s : Sys) (p : Aut) (t : Sys) : Int := if sysOk s && autOk p && sysOk t then iAnd .i64 (iOr .i64 s.al p.al) t.al else -1
noncomputable def faultA (s t : Sys) (p a : Aut) : Int :=
  if ifaceI s p t < 0 ∨ autOk a = false then 1 else if a.al ≠ ifaceI s p t then 2 else if keepsU s a p = false then 3 else if keepsP [t] a = false then 4 else 0

theorem iOr_nat {a b : Nat} (ha : a < 64) (hb : b < 64) : iOr .i64 a b = ((a ||| b : Nat) : Int) ∧ a ||| b < 64 := by
  have h0 : a ||| b < 64 := Nat.or_lt_two_pow (n := 6) ha hb
  refine ⟨?_, h0⟩
  unfold iOr
  have h1 : (BitVec.ofInt IntKind.i64.bits (a : Int) ||| BitVec.ofInt IntKind.i64.bits (b : Int)).toNat = a ||| b := by
    have e : IntKind.i64.bits = 64 := rfl
    rw [e]
    simp only [BitVec.toNat_or, BitVec.ofInt_natCast, BitVec.toNat_ofNat]
    rw [Nat.mod_eq_of_lt (by omega), Nat.mod_eq_of_lt (by omega)]
  rw [h1]
  exact IntWalk.i64_in _ (by omega)
theorem iOr_alph {a b : Int} (ha : alphB a = true) (hb : alphB b = true) : alphB (iOr .i64 a b) = true := by
  unfold alphB at *
  simp only [decide_eq_true_eq] at *
  have h1 := iOr_nat (a := a.toNat) (b := b.toNat) (by omega) (by omega)
  have e1 : ((a.toNat : Nat) : Int) = a := by omega
  have e2 : ((b.toNat : Nat) : Int) = b := by omega
  rw [e1, e2] at h1
  omega
theorem palphF_alph : ∀ {l : List Sys} {n : Int}, l.all sysOk = true → alphB n = true → alphB (palphF l n) = true
  | [], _, _, hn => hn
  | s :: l, n, h, hn => by
    simp only [List.all_cons, Bool.and_eq_true] at h
    exact palphF_alph (l := l) h.2 (iOr_alph hn (sysOk_head h.1).1)
theorem palph_nonneg {l : List Sys} : (0 ≤ palph l) = (partsOk l = true) := by
  unfold palph
  split
  · rename_i h
    have h2 : l.all sysOk = true := by unfold partsOk at h; rw [Bool.and_eq_true] at h; exact h.2
    have := palphF_alph (n := 0) h2 rfl
    unfold alphB at this
    simp only [decide_eq_true_eq] at this
    simp [h]; omega
  · rename_i h; simp [h]
theorem netU_ok {s : Sys} {a p : Aut} (h : validU s a p = true) : NetOk (netU s a p) ∧ KdOk (netU s a p) ∧ Fits (sizesN (netU s a p)) (netU s a p).st := by
  unfold validU at h
  simp only [Bool.and_eq_true] at h
  obtain ⟨⟨h1, h2⟩, h3⟩ := h
  have h4 := sysOk_head h1
  have h5 := autOk_head h2
  have h6 := autOk_head h3
  refine ⟨⟨fun x hx => by simp [netU] at hx; subst hx; exact h1, fun x hx => by simp [netU] at hx; rcases hx with rfl | rfl; exact h2; exact h3, by simp [netU], by simp [netU]⟩, ⟨fun _ => by simp [netU], fun _ => by simp [netU]⟩, ?_⟩
  show Fits [s.st, (a.nx.length : Int), (p.nx.length : Int)] [0, 0, 0]
  exact .cons (by omega) (by omega) (.cons (by omega) (by omega) (.cons (by omega) (by omega) .nil))
theorem fits_zero : ∀ {zs : List Int}, (∀ z ∈ zs, 0 < z) → Fits zs (List.replicate zs.length 0)
  | [], _ => .nil
  | z :: zs, h => by
    rw [List.length_cons, List.replicate_succ]
    exact .cons (by omega) (h z (by simp)) (fits_zero fun x hx => h x (by simp [hx]))
theorem netP_ok {l : List Sys} {p : Aut} (h : (partsOk l && autOk p) = true) : NetOk (netP l p) ∧ KdOk (netP l p) ∧ Fits (sizesN (netP l p)) (netP l p).st := by
  rw [Bool.and_eq_true] at h
  obtain ⟨h1, h2⟩ := h
  unfold partsOk at h1
  simp only [Bool.and_eq_true, decide_eq_true_eq, List.all_eq_true] at h1
  have hn : NetOk (netP l p) := ⟨h1.2, fun x hx => by simp [netP] at hx; subst hx; exact h2, h1.1.2, by simp [netP]⟩
  refine ⟨hn, ⟨fun _ => by simp [netP], fun h => by simp [netP] at h⟩, ?_⟩
  have h3 := fits_zero (zs := sizesN (netP l p)) fun z hz => by have := sizes_pos hn z hz; omega
  have h4 : (sizesN (netP l p)).length = l.length + 1 := by simp [sizesN, netP]
  rw [h4] at h3
  exact h3

theorem specPartsAlphabet_ok (l : List Sys) : Pure Tryd.prog TB 51 [eSyss l] (eI .i64 (palph l)) := by
  refine Spec.of Tryd.func51 rfl (by kernel_rfl) (Nat.le_of_ble_eq_true rfl) ?_; intro Γ hΓ
  refine AWp.bound 0 rfl fun hB0 => ?_
  have hB := hB0 (l.map syRow) .refl
  (repeat' (first | (first | (refine popO rfl ?_; first | (refine gA rfl ?_; first | refine yLm rfl rfl ?_ | ((first | refine yQ (md := false) rfl ?_ ?_ | refine yL rfl rfl (by assumption) rfl rfl ?_ ?_ | refine yT rfl rfl (by assumption) rfl ?_ ?_); (first | exact True.intro | omega | (simp only [oA, oB, oC, oD, oE, oF, oG] at *; omega))) | (refine yB rfl ?_; intro _ _hb) | refine yS rfl rfl ?_ | refine yM rfl rfl (by assumption) rfl rfl rfl ?_ | refine yZ rfl rfl rfl rfl rfl rfl ?_ | refine yY rfl rfl rfl ?_ | refine yO rfl rfl rfl ?_ | refine yW rfl rfl ?_ | refine yV rfl rfl rfl rfl (by assumption) rfl rfl rfl rfl ?_ ) | refine popN rfl ?_ | (refine yG rfl rfl ?_ ?_ <;> intro hb <;> subst hb)) | refine AWp.seq ?_ | refine reg (by kernel_rfl) ?_ | refine lexE ?_ | refine regD (noisy []) mixed (by kernel_rfl) (by kernel_rfl) ?_) | (refine AWp.cond rfl (fun hb => ?_) (fun hb => ?_) <;> cases hb) | refine AWp.skip ?_ | refine AWp.exit ?_ | refine AWp.block ?_ | refine AWp.ret ⟨_, rfl, ?_⟩))
  all_goals try (show E.o _ = E.o _; congr; unfold palph partsOk; rw [if_neg (by grind)])
  refine AWp.loopL (α := {k : Nat // k ≤ l.length ∧ (l.take k).all sysOk = true}) (fun ⟨k, hk, ha⟩ => [(0, eSyss l), (3, eI .i64 (palphF (l.take k) 0)), (4, eI .i64 k)]) (fun ⟨k, hk, ha⟩ => []) 0 (fun ⟨k, hk, ha⟩ => l.length - k) (⟨0, by omega, rfl⟩) [] (by first | (simp [hΓ]; done) | (rw [hΓ]; decide)) (by (repeat' (first | exact trivial | rfl | refine And.intro ?_ ?_)) <;> simp [EnvSub, StoreSub, look_cons, nm, E.ren, C.ren, C.renL, O.ren, killc, kill0, Function.comp_def, argsFrom, zC, hΓ]) ?_; rintro ⟨k, hk, ha⟩; try dsimp only
  (repeat (first | (refine popO rfl ?_; first | (refine gA rfl ?_; first | refine yLm rfl rfl ?_ | ((first | refine yQ (md := false) rfl ?_ ?_ | refine yL rfl rfl (by assumption) rfl rfl ?_ ?_ | refine yT rfl rfl (by assumption) rfl ?_ ?_); (first | exact True.intro | omega | (simp only [oA, oB, oC, oD, oE, oF, oG] at *; omega))) | (refine yB rfl ?_; intro _ _hb) | refine yS rfl rfl ?_ | refine yM rfl rfl (by assumption) rfl rfl rfl ?_ | refine yZ rfl rfl rfl rfl rfl rfl ?_ | refine yY rfl rfl rfl ?_ | refine yO rfl rfl rfl ?_ | refine yW rfl rfl ?_ | refine yV rfl rfl rfl rfl (by assumption) rfl rfl rfl rfl ?_ ) | refine popN rfl ?_ | (refine yG rfl rfl ?_ ?_ <;> intro hb <;> subst hb)) | refine AWp.seq ?_ | refine reg (by kernel_rfl) ?_ | refine lexE ?_ | refine regD (noisy []) mixed (by kernel_rfl) (by kernel_rfl) ?_))
  (refine AWp.cond rfl (fun hb => ?_) (fun hb => ?_) <;> cases hb)
  · obtain ⟨x, hx⟩ := get_some (l := l) (k := k) (by first | omega | (simp only [oA, oB, oC, oD, oE, oF, oG] at *; omega))
    have hx' := get_map (g := syRow) hx
    have hst : palphF (l.take (k + 1)) 0 = iOr .i64 (palphF (l.take k) 0) x.al := by unfold palphF; rw [foldl_step hx]
    (repeat' (first | (first | (refine popO rfl ?_; first | (refine gA rfl ?_; first | refine yLm rfl rfl ?_ | ((first | refine yQ (md := false) rfl ?_ ?_ | refine yL rfl rfl (by assumption) rfl rfl ?_ ?_ | refine yT rfl rfl (by assumption) rfl ?_ ?_); (first | exact True.intro | omega | (simp only [oA, oB, oC, oD, oE, oF, oG] at *; omega))) | (refine yB rfl ?_; intro _ _hb) | refine yS rfl rfl ?_ | refine yM rfl rfl (by assumption) rfl rfl rfl ?_ | refine yZ rfl rfl rfl rfl rfl rfl ?_ | refine yY rfl rfl rfl ?_ | refine yO rfl rfl rfl ?_ | refine yW rfl rfl ?_ | refine yV rfl rfl rfl rfl (by assumption) rfl rfl rfl rfl ?_ | (refine yC rfl rfl rfl (specSystemValid_ok x) ?_; intro _ _hb) ) | refine popN rfl ?_ | (refine yG rfl rfl ?_ ?_ <;> intro hb <;> subst hb)) | refine AWp.seq ?_ | refine reg (by kernel_rfl) ?_ | refine lexE ?_ | refine regD (noisy []) mixed (by kernel_rfl) (by kernel_rfl) ?_) | (refine AWp.cond rfl (fun hb => ?_) (fun hb => ?_) <;> cases hb) | refine AWp.skip ?_ | refine AWp.exit ?_ | refine AWp.block ?_ | refine AWp.ret ⟨_, rfl, ?_⟩))
    all_goals first
      | (have h3 := all_bad hx (f := sysOk) (by grind); show E.o _ = E.o _; congr; unfold palph partsOk; rw [h3]; simp; done)
      | (refine ⟨⟨k + 1, by first | omega | (simp only [oA, oB, oC, oD, oE, oF, oG] at *; omega), all_step hx ha (by grind)⟩, by dsimp only; (first | omega | (simp only [oA, oB, oC, oD, oE, oF, oG] at *; omega)), [], ?_⟩; simp [EnvSub, StoreSub, look_cons, nm, E.ren, C.ren, C.renL, O.ren, killc, kill0, Function.comp_def, argsFrom, zC, hΓ, hst]; done)
  · have h3 := all_done ha (by first | omega | (simp only [oA, oB, oC, oD, oE, oF, oG] at *; omega))
    (repeat' (first | (first | (refine popO rfl ?_; first | (refine gA rfl ?_; first | refine yLm rfl rfl ?_ | ((first | refine yQ (md := false) rfl ?_ ?_ | refine yL rfl rfl (by assumption) rfl rfl ?_ ?_ | refine yT rfl rfl (by assumption) rfl ?_ ?_); (first | exact True.intro | omega | (simp only [oA, oB, oC, oD, oE, oF, oG] at *; omega))) | (refine yB rfl ?_; intro _ _hb) | refine yS rfl rfl ?_ | refine yM rfl rfl (by assumption) rfl rfl rfl ?_ | refine yZ rfl rfl rfl rfl rfl rfl ?_ | refine yY rfl rfl rfl ?_ | refine yO rfl rfl rfl ?_ | refine yW rfl rfl ?_ | refine yV rfl rfl rfl rfl (by assumption) rfl rfl rfl rfl ?_ ) | refine popN rfl ?_ | (refine yG rfl rfl ?_ ?_ <;> intro hb <;> subst hb)) | refine AWp.seq ?_ | refine reg (by kernel_rfl) ?_ | refine lexE ?_ | refine regD (noisy []) mixed (by kernel_rfl) (by kernel_rfl) ?_) | (refine AWp.cond rfl (fun hb => ?_) (fun hb => ?_) <;> cases hb) | refine AWp.skip ?_ | refine AWp.exit ?_ | refine AWp.block ?_ | refine AWp.ret ⟨_, rfl, ?_⟩))
    rw [List.take_of_length_le (by first | omega | (simp only [oA, oB, oC, oD, oE, oF, oG] at *; omega))]
    show E.o _ = E.o _; congr; unfold palph partsOk; rw [if_pos (by grind)]
end Go.Am
/-
  The reference's checks, the walks.
-/
namespace Go.Am
open Go Go.Proofs
set_option linter.unusedSimpArgs false
set_option linter.unusedVariables false
attribute [local irreducible] QOp AOp Lex LexO AWp Spec
variable {TB : List (Nat × Obj)}

theorem specPartsViolation_ok (l : List Sys) (p : Aut) : Pure Tryd.prog TB 50 [eSyss l, eAut p] (eAns (violP l p)) := by
  have hpn := palph_nonneg (l := l)
  by_cases hv : (partsOk l && autOk p) = true
  · obtain ⟨hn, hk, hs⟩ := netP_ok hv
    have hf := l4First_ok (TB := TB) hn hk hs (ansOf_is _)
    rw [ansE_eq] at hf
    have hlen : 1 ≤ l.length ∧ l.length ≤ 3 := by unfold partsOk at hv; grind
    have hvp : violP l p = ansOf (gOf (netP l p)) := by unfold violP; rw [if_pos hv]
    rw [hvp]
    have e : (List.replicate (l.length + 1) 0).map iRow = List.replicate ((l.length : Int) + 1).toNat (iRow 0) := by
      rw [List.map_replicate]; congr
    have hf' : Pure Tryd.prog TB 49 [.a [.d (syList l), .d (auList [p]), .d (.l (List.replicate ((l.length : Int) + 1).toNat (iRow 0))), .d (iD (palph l)), .d (iD 3), .d (iD 0)]] (eAns (ansOf (gOf (netP l p)))) := by rw [← e]; exact hf
    refine Spec.of Tryd.func50 rfl (by kernel_rfl) (Nat.le_of_ble_eq_true rfl) ?_; intro Γ hΓ
    (repeat' (first | (first | (refine popO rfl ?_; first | (refine gA rfl ?_; first | refine yLm rfl rfl ?_ | ((first | refine yQ (md := false) rfl ?_ ?_ | refine yL rfl rfl (by assumption) rfl rfl ?_ ?_ | refine yT rfl rfl (by assumption) rfl ?_ ?_); (first | exact True.intro | omega | (simp only [oA, oB, oC, oD, oE, oF, oG] at *; omega))) | (refine yB rfl ?_; intro _ _hb) | refine yS rfl rfl ?_ | refine yM rfl rfl (by assumption) rfl rfl rfl ?_ | refine yZ rfl rfl rfl rfl rfl rfl ?_ | refine yY rfl rfl rfl ?_ | refine yO rfl rfl rfl ?_ | refine yW rfl rfl ?_ | refine yV rfl rfl rfl rfl (by assumption) rfl rfl rfl rfl ?_ | refine yP rfl rfl rfl (specPartsAlphabet_ok l) rfl ?_ | (refine yC rfl rfl rfl (specAutomatonValid_ok p) ?_; intro _ _hb) | refine yP rfl rfl rfl (hf') rfl ?_ | refine gS (fun _ _ => q_makeI (dz := iRow 0) rfl rfl (by rfl) (by rfl) (by rfl) (Nat.le_of_ble_eq_true rfl) (by first | omega | (simp only [oA, oB, oC, oD, oE, oF, oG] at *; omega)) (by first | omega | (simp only [oA, oB, oC, oD, oE, oF, oG] at *; omega))) ?_ | refine gS (fun _ _ => q_build rfl rfl (by rfl) (by rfl)) ?_) | refine popN rfl ?_ | (refine yG rfl rfl ?_ ?_ <;> intro hb <;> subst hb)) | refine AWp.seq ?_ | refine reg (by kernel_rfl) ?_ | refine lexE ?_ | refine regD (noisy []) mixed (by kernel_rfl) (by kernel_rfl) ?_) | (refine AWp.cond rfl (fun hb => ?_) (fun hb => ?_) <;> cases hb) | refine AWp.skip ?_ | refine AWp.exit ?_ | refine AWp.block ?_ | refine AWp.ret ⟨_, rfl, ?_⟩))
    all_goals first
      | rfl
      | (exfalso; grind; done)
  · have hvp : violP l p = none := by unfold violP; rw [if_neg hv]
    rw [hvp]
    refine Spec.of Tryd.func50 rfl (by kernel_rfl) (Nat.le_of_ble_eq_true rfl) ?_; intro Γ hΓ
    (repeat' (first | (first | (refine popO rfl ?_; first | (refine gA rfl ?_; first | refine yLm rfl rfl ?_ | ((first | refine yQ (md := false) rfl ?_ ?_ | refine yL rfl rfl (by assumption) rfl rfl ?_ ?_ | refine yT rfl rfl (by assumption) rfl ?_ ?_); (first | exact True.intro | omega | (simp only [oA, oB, oC, oD, oE, oF, oG] at *; omega))) | (refine yB rfl ?_; intro _ _hb) | refine yS rfl rfl ?_ | refine yM rfl rfl (by assumption) rfl rfl rfl ?_ | refine yZ rfl rfl rfl rfl rfl rfl ?_ | refine yY rfl rfl rfl ?_ | refine yO rfl rfl rfl ?_ | refine yW rfl rfl ?_ | refine yV rfl rfl rfl rfl (by assumption) rfl rfl rfl rfl ?_ | refine yP rfl rfl rfl (specPartsAlphabet_ok l) rfl ?_ | (refine yC rfl rfl rfl (specAutomatonValid_ok p) ?_; intro _ _hb) ) | refine popN rfl ?_ | (refine yG rfl rfl ?_ ?_ <;> intro hb <;> subst hb)) | refine AWp.seq ?_ | refine reg (by kernel_rfl) ?_ | refine lexE ?_ | refine regD (noisy []) mixed (by kernel_rfl) (by kernel_rfl) ?_) | (refine AWp.cond rfl (fun hb => ?_) (fun hb => ?_) <;> cases hb) | refine AWp.skip ?_ | refine AWp.exit ?_ | refine AWp.block ?_ | refine AWp.ret ⟨_, rfl, ?_⟩))
    all_goals first
      | rfl
      | (exfalso; grind; done)
theorem specViolationUnder_ok (s : Sys) (a p : Aut) : Pure Tryd.prog TB 34 [eSys s, eAut a, eAut p] (eAns (violU s a p)) := by
  by_cases hv : validU s a p = true
  · obtain ⟨hn, hk, hs⟩ := netU_ok hv
    have hf := l4First_ok (TB := TB) hn hk hs (ansOf_is _)
    rw [ansE_eq] at hf
    have hvp : violU s a p = ansOf (gOf (netU s a p)) := by unfold violU; rw [if_pos hv]
    rw [hvp]
    refine Spec.of Tryd.func34 rfl (by kernel_rfl) (Nat.le_of_ble_eq_true rfl) ?_; intro Γ hΓ
    (repeat' (first | (first | (refine popO rfl ?_; first | (refine gA rfl ?_; first | refine yLm rfl rfl ?_ | ((first | refine yQ (md := false) rfl ?_ ?_ | refine yL rfl rfl (by assumption) rfl rfl ?_ ?_ | refine yT rfl rfl (by assumption) rfl ?_ ?_); (first | exact True.intro | omega | (simp only [oA, oB, oC, oD, oE, oF, oG] at *; omega))) | (refine yB rfl ?_; intro _ _hb) | refine yS rfl rfl ?_ | refine yM rfl rfl (by assumption) rfl rfl rfl ?_ | refine yZ rfl rfl rfl rfl rfl rfl ?_ | refine yY rfl rfl rfl ?_ | refine yO rfl rfl rfl ?_ | refine yW rfl rfl ?_ | refine yV rfl rfl rfl rfl (by assumption) rfl rfl rfl rfl ?_ | (refine yC rfl rfl rfl (l8Three_ok s a p) ?_; intro _ _hb) | refine yP rfl rfl rfl (hf) rfl ?_ | refine gS (fun _ _ => q_makeI (dz := iRow 0) rfl rfl (by rfl) (by rfl) (by rfl) (Nat.le_of_ble_eq_true rfl) (by first | omega | (simp only [oA, oB, oC, oD, oE, oF, oG] at *; omega)) (by first | omega | (simp only [oA, oB, oC, oD, oE, oF, oG] at *; omega))) ?_ | refine gS (fun _ _ => q_build rfl rfl (by rfl) (by rfl)) ?_) | refine popN rfl ?_ | (refine yG rfl rfl ?_ ?_ <;> intro hb <;> subst hb)) | refine AWp.seq ?_ | refine reg (by kernel_rfl) ?_ | refine lexE ?_ | refine regD (noisy []) mixed (by kernel_rfl) (by kernel_rfl) ?_) | (refine AWp.cond rfl (fun hb => ?_) (fun hb => ?_) <;> cases hb) | refine AWp.skip ?_ | refine AWp.exit ?_ | refine AWp.block ?_ | refine AWp.ret ⟨_, rfl, ?_⟩))
    all_goals first
      | rfl
      | (exfalso; unfold validU at hv; grind; done)
  · have hvp : violU s a p = none := by unfold violU; rw [if_neg hv]
    rw [hvp]
    refine Spec.of Tryd.func34 rfl (by kernel_rfl) (Nat.le_of_ble_eq_true rfl) ?_; intro Γ hΓ
    (repeat' (first | (first | (refine popO rfl ?_; first | (refine gA rfl ?_; first | refine yLm rfl rfl ?_ | ((first | refine yQ (md := false) rfl ?_ ?_ | refine yL rfl rfl (by assumption) rfl rfl ?_ ?_ | refine yT rfl rfl (by assumption) rfl ?_ ?_); (first | exact True.intro | omega | (simp only [oA, oB, oC, oD, oE, oF, oG] at *; omega))) | (refine yB rfl ?_; intro _ _hb) | refine yS rfl rfl ?_ | refine yM rfl rfl (by assumption) rfl rfl rfl ?_ | refine yZ rfl rfl rfl rfl rfl rfl ?_ | refine yY rfl rfl rfl ?_ | refine yO rfl rfl rfl ?_ | refine yW rfl rfl ?_ | refine yV rfl rfl rfl rfl (by assumption) rfl rfl rfl rfl ?_ | (refine yC rfl rfl rfl (l8Three_ok s a p) ?_; intro _ _hb) ) | refine popN rfl ?_ | (refine yG rfl rfl ?_ ?_ <;> intro hb <;> subst hb)) | refine AWp.seq ?_ | refine reg (by kernel_rfl) ?_ | refine lexE ?_ | refine regD (noisy []) mixed (by kernel_rfl) (by kernel_rfl) ?_) | (refine AWp.cond rfl (fun hb => ?_) (fun hb => ?_) <;> cases hb) | refine AWp.skip ?_ | refine AWp.exit ?_ | refine AWp.block ?_ | refine AWp.ret ⟨_, rfl, ?_⟩))
    all_goals first
      | rfl
      | (exfalso; unfold validU at hv; grind; done)
theorem specPartsKeep_ok (l : List Sys) (p : Aut) : Pure Tryd.prog TB 36 [eSyss l, eAut p] (eB (keepsP l p)) := by
  have hpn := palph_nonneg (l := l)
  refine Spec.of Tryd.func36 rfl (by kernel_rfl) (Nat.le_of_ble_eq_true rfl) ?_; intro Γ hΓ
  (repeat' (first | (first | (refine popO rfl ?_; first | (refine gA rfl ?_; first | refine yLm rfl rfl ?_ | ((first | refine yQ (md := false) rfl ?_ ?_ | refine yL rfl rfl (by assumption) rfl rfl ?_ ?_ | refine yT rfl rfl (by assumption) rfl ?_ ?_); (first | exact True.intro | omega | (simp only [oA, oB, oC, oD, oE, oF, oG] at *; omega))) | (refine yB rfl ?_; intro _ _hb) | refine yS rfl rfl ?_ | refine yM rfl rfl (by assumption) rfl rfl rfl ?_ | refine yZ rfl rfl rfl rfl rfl rfl ?_ | refine yY rfl rfl rfl ?_ | refine yO rfl rfl rfl ?_ | refine yW rfl rfl ?_ | refine yV rfl rfl rfl rfl (by assumption) rfl rfl rfl rfl ?_ | refine yP rfl rfl rfl (specPartsViolation_ok l p) rfl ?_ | refine yP rfl rfl rfl (specPartsAlphabet_ok l) rfl ?_ | (refine yC rfl rfl rfl (specAutomatonValid_ok p) ?_; intro _ _hb) ) | refine popN rfl ?_ | (refine yG rfl rfl ?_ ?_ <;> intro hb <;> subst hb)) | refine AWp.seq ?_ | refine reg (by kernel_rfl) ?_ | refine lexE ?_ | refine regD (noisy []) mixed (by kernel_rfl) (by kernel_rfl) ?_) | (refine AWp.cond rfl (fun hb => ?_) (fun hb => ?_) <;> cases hb) | refine AWp.skip ?_ | refine AWp.exit ?_ | refine AWp.block ?_ | refine AWp.ret ⟨_, rfl, ?_⟩))
  all_goals (show E.o _ = E.o _; congr; unfold keepsP; grind)
theorem specKeepsUnder_ok (s : Sys) (a p : Aut) : Pure Tryd.prog TB 17 [eSys s, eAut a, eAut p] (eB (keepsU s a p)) := by
  refine Spec.of Tryd.func17 rfl (by kernel_rfl) (Nat.le_of_ble_eq_true rfl) ?_; intro Γ hΓ
  (repeat' (first | (first | (refine popO rfl ?_; first | (refine gA rfl ?_; first | refine yLm rfl rfl ?_ | ((first | refine yQ (md := false) rfl ?_ ?_ | refine yL rfl rfl (by assumption) rfl rfl ?_ ?_ | refine yT rfl rfl (by assumption) rfl ?_ ?_); (first | exact True.intro | omega | (simp only [oA, oB, oC, oD, oE, oF, oG] at *; omega))) | (refine yB rfl ?_; intro _ _hb) | refine yS rfl rfl ?_ | refine yM rfl rfl (by assumption) rfl rfl rfl ?_ | refine yZ rfl rfl rfl rfl rfl rfl ?_ | refine yY rfl rfl rfl ?_ | refine yO rfl rfl rfl ?_ | refine yW rfl rfl ?_ | refine yV rfl rfl rfl rfl (by assumption) rfl rfl rfl rfl ?_ | refine yP rfl rfl rfl (specViolationUnder_ok s a p) rfl ?_ | (refine yC rfl rfl rfl (l8Three_ok s a p) ?_; intro _ _hb) ) | refine popN rfl ?_ | (refine yG rfl rfl ?_ ?_ <;> intro hb <;> subst hb)) | refine AWp.seq ?_ | refine reg (by kernel_rfl) ?_ | refine lexE ?_ | refine regD (noisy []) mixed (by kernel_rfl) (by kernel_rfl) ?_) | (refine AWp.cond rfl (fun hb => ?_) (fun hb => ?_) <;> cases hb) | refine AWp.skip ?_ | refine AWp.exit ?_ | refine AWp.block ?_ | refine AWp.ret ⟨_, rfl, ?_⟩))
  all_goals (show E.o _ = E.o _; congr; unfold keepsU validU; grind)
theorem specKeepsProperty_ok (s : Sys) (p : Aut) : Pure Tryd.prog TB 18 [eSys s, eAut p] (eB (keepsP [s] p)) := by
  refine Spec.of Tryd.func18 rfl (by kernel_rfl) (Nat.le_of_ble_eq_true rfl) ?_; intro Γ hΓ
  (repeat' (first | (first | (refine popO rfl ?_; first | (refine gA rfl ?_; first | refine yLm rfl rfl ?_ | ((first | refine yQ (md := false) rfl ?_ ?_ | refine yL rfl rfl (by assumption) rfl rfl ?_ ?_ | refine yT rfl rfl (by assumption) rfl ?_ ?_); (first | exact True.intro | omega | (simp only [oA, oB, oC, oD, oE, oF, oG] at *; omega))) | (refine yB rfl ?_; intro _ _hb) | refine yS rfl rfl ?_ | refine yM rfl rfl (by assumption) rfl rfl rfl ?_ | refine yZ rfl rfl rfl rfl rfl rfl ?_ | refine yY rfl rfl rfl ?_ | refine yO rfl rfl rfl ?_ | refine yW rfl rfl ?_ | refine yV rfl rfl rfl rfl (by assumption) rfl rfl rfl rfl ?_ | refine yP rfl rfl rfl (specPartsKeep_ok [s] p) rfl ?_ ) | refine popN rfl ?_ | (refine yG rfl rfl ?_ ?_ <;> intro hb <;> subst hb)) | refine AWp.seq ?_ | refine reg (by kernel_rfl) ?_ | refine lexE ?_ | refine regD (noisy []) mixed (by kernel_rfl) (by kernel_rfl) ?_) | (refine AWp.cond rfl (fun hb => ?_) (fun hb => ?_) <;> cases hb) | refine AWp.skip ?_ | refine AWp.exit ?_ | refine AWp.block ?_ | refine AWp.ret ⟨_, rfl, ?_⟩))
  all_goals rfl
theorem specInterfaceOf_ok (s : Sys) (p : Aut) (t : Sys) : Pure Tryd.prog TB 15 [eSys s, eAut p, eSys t] (eI .i64 (ifaceI s p t)) := by
  refine Spec.of Tryd.func15 rfl (by kernel_rfl) (Nat.le_of_ble_eq_true rfl) ?_; intro Γ hΓ
  (repeat' (first | (first | (refine popO rfl ?_; first | (refine gA rfl ?_; first | refine yLm rfl rfl ?_ | ((first | refine yQ (md := false) rfl ?_ ?_ | refine yL rfl rfl (by assumption) rfl rfl ?_ ?_ | refine yT rfl rfl (by assumption) rfl ?_ ?_); (first | exact True.intro | omega | (simp only [oA, oB, oC, oD, oE, oF, oG] at *; omega))) | (refine yB rfl ?_; intro _ _hb) | refine yS rfl rfl ?_ | refine yM rfl rfl (by assumption) rfl rfl rfl ?_ | refine yZ rfl rfl rfl rfl rfl rfl ?_ | refine yY rfl rfl rfl ?_ | refine yO rfl rfl rfl ?_ | refine yW rfl rfl ?_ | refine yV rfl rfl rfl rfl (by assumption) rfl rfl rfl rfl ?_ | (refine yC rfl rfl rfl (specSystemValid_ok s) ?_; intro _ _hb) | (refine yC rfl rfl rfl (specAutomatonValid_ok p) ?_; intro _ _hb) | (refine yC rfl rfl rfl (specSystemValid_ok t) ?_; intro _ _hb) ) | refine popN rfl ?_ | (refine yG rfl rfl ?_ ?_ <;> intro hb <;> subst hb)) | refine AWp.seq ?_ | refine reg (by kernel_rfl) ?_ | refine lexE ?_ | refine regD (noisy []) mixed (by kernel_rfl) (by kernel_rfl) ?_) | (refine AWp.cond rfl (fun hb => ?_) (fun hb => ?_) <;> cases hb) | refine AWp.skip ?_ | refine AWp.exit ?_ | refine AWp.block ?_ | refine AWp.ret ⟨_, rfl, ?_⟩))
  all_goals (show E.o _ = E.o _; congr; unfold ifaceI; grind)
theorem specAssumptionFault_ok (s t : Sys) (p a : Aut) : Pure Tryd.prog TB 6 [eSys s, eSys t, eAut p, eAut a] (eI .i64 (faultA s t p a)) := by
  refine Spec.of Tryd.func6 rfl (by kernel_rfl) (Nat.le_of_ble_eq_true rfl) ?_; intro Γ hΓ
  (repeat' (first | (first | (refine popO rfl ?_; first | (refine gA rfl ?_; first | refine yLm rfl rfl ?_ | ((first | refine yQ (md := false) rfl ?_ ?_ | refine yL rfl rfl (by assumption) rfl rfl ?_ ?_ | refine yT rfl rfl (by assumption) rfl ?_ ?_); (first | exact True.intro | omega | (simp only [oA, oB, oC, oD, oE, oF, oG] at *; omega))) | (refine yB rfl ?_; intro _ _hb) | refine yS rfl rfl ?_ | refine yM rfl rfl (by assumption) rfl rfl rfl ?_ | refine yZ rfl rfl rfl rfl rfl rfl ?_ | refine yY rfl rfl rfl ?_ | refine yO rfl rfl rfl ?_ | refine yW rfl rfl ?_ | refine yV rfl rfl rfl rfl (by assumption) rfl rfl rfl rfl ?_ | refine yP rfl rfl rfl (specInterfaceOf_ok s p t) rfl ?_ | (refine yC rfl rfl rfl (specAutomatonValid_ok a) ?_; intro _ _hb) | (refine yC rfl rfl rfl (specKeepsUnder_ok s a p) ?_; intro _ _hb) | (refine yC rfl rfl rfl (specKeepsProperty_ok t a) ?_; intro _ _hb) ) | refine popN rfl ?_ | (refine yG rfl rfl ?_ ?_ <;> intro hb <;> subst hb)) | refine AWp.seq ?_ | refine reg (by kernel_rfl) ?_ | refine lexE ?_ | refine regD (noisy []) mixed (by kernel_rfl) (by kernel_rfl) ?_) | (refine AWp.cond rfl (fun hb => ?_) (fun hb => ?_) <;> cases hb) | refine AWp.skip ?_ | refine AWp.exit ?_ | refine AWp.block ?_ | refine AWp.ret ⟨_, rfl, ?_⟩))
  all_goals (show E.o _ = E.o _; congr; unfold faultA; grind)
end Go.Am
/-
  Small sets as integers.
-/
namespace Go.Am
open Go

def setN : List Int → Nat
  | [] => 0
  | x :: l => 2 ^ x.toNat + setN l
theorem setN_app : ∀ (l m : List Int), setN (l ++ m) = setN l + setN m
  | [], m => by simp [setN]
  | x :: l, m => by simp [setN, setN_app l m, Nat.add_assoc]
theorem setN_lt : ∀ {l : List Int} {t : Nat}, l.Pairwise (· < ·) → (∀ x ∈ l, 0 ≤ x ∧ x < t) → setN l < 2 ^ t
  | [], t, _, _ => Nat.two_pow_pos t
  | x :: l, t, hp, h => by
    -- the last one counts most
    have key : ∀ (l : List Int) (a t : Nat), (∀ x ∈ l, (a : Int) ≤ x ∧ x < t) → l.Pairwise (· < ·) → a ≤ t → 2 ^ a + setN l ≤ 2 ^ t := by
      intro l
      induction l with
      | nil => intro a t _ _ hat; simpa [setN] using Nat.pow_le_pow_right (by omega) hat
      | cons y l ih =>
        intro a t h hp hat
        have hy := h y (by simp)
        have hp2 := List.pairwise_cons.1 hp
        have h1 := ih (y.toNat + 1) t (fun x hx => by have := hp2.1 x hx; have := h x (by simp [hx]); omega) hp2.2 (by omega)
        have h2 : 2 ^ a ≤ 2 ^ y.toNat := Nat.pow_le_pow_right (by omega) (by omega)
        rw [Nat.pow_succ] at h1
        simp only [setN]; omega
    have hx := h x (by simp)
    have hp2 := List.pairwise_cons.1 hp
    have h1 := key l (x.toNat + 1) t (fun y hy => by have := hp2.1 y hy; have := h y (by simp [hy]); omega) hp2.2 (by omega)
    rw [Nat.pow_succ] at h1
    simp only [setN]
    have := Nat.two_pow_pos x.toNat
    omega
theorem setN_or {l : List Int} {t : Nat} (hp : l.Pairwise (· < ·)) (h : ∀ x ∈ l, 0 ≤ x ∧ x < t) : setN l ||| 2 ^ t = setN (l ++ [(t : Int)]) := by
  have h1 := setN_lt hp h
  rw [setN_app]
  have h2 := Nat.two_pow_add_eq_or_of_lt h1 1
  simp only [Nat.mul_one] at h2
  rw [Nat.or_comm, ← h2]
  simp [setN]; omega
theorem and_pred : ∀ (k m : Nat), (2 ^ k * (2 * m + 1)) &&& (2 ^ k * (2 * m + 1) - 1) = 2 ^ k * (2 * m)
  | 0, m => by
    apply Nat.eq_of_testBit_eq
    intro i
    cases i with
    | zero => simp
    | succ i =>
      simp only [Nat.pow_zero, Nat.one_mul, Nat.add_sub_cancel]
      have h1 : (2 * m + 1) / 2 = m := by omega
      have h2 : 2 * m / 2 = m := by omega
      rw [Nat.testBit_and, Nat.testBit_succ, Nat.testBit_succ, h1, h2]; simp
  | k + 1, m => by
    have ih := and_pred k m
    have hp : 0 < 2 ^ k * (2 * m + 1) := Nat.mul_pos (Nat.two_pow_pos k) (by omega)
    have e1 : 2 ^ (k + 1) * (2 * m + 1) = 2 * (2 ^ k * (2 * m + 1)) := by rw [Nat.pow_succ, Nat.mul_comm (2 ^ k) 2, Nat.mul_assoc]
    have e2 : 2 ^ (k + 1) * (2 * m) = 2 * (2 ^ k * (2 * m)) := by rw [Nat.pow_succ, Nat.mul_comm (2 ^ k) 2, Nat.mul_assoc]
    rw [e1, e2, ← ih]
    generalize 2 ^ k * (2 * m + 1) = a at hp
    apply Nat.eq_of_testBit_eq
    intro i
    cases i with
    | zero => simp
    | succ i =>
      have h1 : 2 * a / 2 = a := by omega
      have h2 : (2 * a - 1) / 2 = a - 1 := by omega
      have h3 : 2 * (a &&& (a - 1)) / 2 = a &&& (a - 1) := by omega
      rw [Nat.testBit_and, Nat.testBit_succ, Nat.testBit_succ, Nat.testBit_succ, h1, h2, h3, Nat.testBit_and]
/-- The least one, and the others. -/
theorem setN_split : ∀ {l : List Int} {k : Nat}, l.Pairwise (· < ·) → (∀ x ∈ l, (k : Int) < x) → ∃ m, setN l = 2 ^ k * (2 * m)
  | [], k, _, _ => ⟨0, by simp [setN]⟩
  | x :: l, k, hp, h => by
    have hp2 := List.pairwise_cons.1 hp
    have hx := h x (by simp)
    obtain ⟨m, hm⟩ := setN_split (l := l) (k := k) hp2.2 fun y hy => by have := hp2.1 y hy; omega
    refine ⟨2 ^ (x.toNat - k - 1) + m, ?_⟩
    have e : x.toNat = k + (1 + (x.toNat - k - 1)) := by omega
    have : 2 ^ x.toNat = 2 ^ k * (2 * 2 ^ (x.toNat - k - 1)) := by
      conv => lhs; rw [e, Nat.pow_add, Nat.pow_add]
    simp only [setN, hm, this, ← Nat.mul_add]
theorem setN_cons {x : Int} {l : List Int} (hp : (x :: l).Pairwise (· < ·)) (h0 : 0 ≤ x) : ∃ m, setN (x :: l) = 2 ^ x.toNat * (2 * m + 1) ∧ setN l = 2 ^ x.toNat * (2 * m) := by
  have hp2 := List.pairwise_cons.1 hp
  obtain ⟨m, hm⟩ := setN_split (l := l) (k := x.toNat) hp2.2 fun y hy => by have := hp2.1 y hy; omega
  exact ⟨m, by simp only [setN, hm]; rw [Nat.mul_add]; omega, hm⟩
theorem setN_pred {x : Int} {l : List Int} (hp : (x :: l).Pairwise (· < ·)) (h0 : 0 ≤ x) : setN (x :: l) &&& (setN (x :: l) - 1) = setN l := by
  obtain ⟨m, h1, h2⟩ := setN_cons hp h0
  rw [h1, h2, and_pred]
theorem setN_pos {x : Int} {l : List Int} : 0 < setN (x :: l) := by
  simp only [setN]; have := Nat.two_pow_pos x.toNat; omega
theorem setN_ctz {x : Int} {l : List Int} (hp : (x :: l).Pairwise (· < ·)) (h0 : 0 ≤ x) (hlt : setN (x :: l) < 2 ^ 64) : Lib.ctz 64 (setN (x :: l)) = x.toNat := by
  obtain ⟨m, h1, _⟩ := setN_cons hp h0
  have h2 := Lib.lowest_bit 64 _ (by have := setN_pos (x := x) (l := l); omega) hlt
  have h3 := Lib.and_neg 64 x.toNat m (by rw [← h1]; exact hlt)
  rw [← h1, h2.1] at h3
  exact (Nat.pow_right_inj (by omega)).1 h3
end Go.Am
/-
  Trailing zeros; the members of a set.
-/
namespace Go.Am
open Go Go.Proofs
set_option linter.unusedSimpArgs false
set_option linter.unusedVariables false
attribute [local irreducible] QOp AOp Lex LexO AWp Spec
variable {TB : List (Nat × Obj)}

theorem tab1_at (i : Nat) (h : i < 64) : tab1[i]? = some (.int .u8 (Lib.deBruijn64tab.getD i 0 : Nat)) := by
  have e : tab1 = Lib.deBruijn64tab.map fun n => Value.int .u8 (n : Nat) := rfl
  have hl : Lib.deBruijn64tab.length = 64 := rfl
  rw [e, List.getElem?_map, List.getElem?_eq_getElem (by omega)]
  simp [List.getD, hl, h]
theorem tz_key (x a : Nat) (hx : x < 18446744073709551616) (hx0 : x ≠ 0) (hlow : x &&& (18446744073709551616 - x) = a) :
    (IntKind.u64.wrap (iAnd .u64 (x : Int) (IntKind.u64.wrap (-(x : Int))) * 285870213051353865)).fdiv (2 ^ (min (58 : Int).toNat IntKind.u64.bits)) = ((a * 285870213051353865 % 18446744073709551616 / 288230376151711744 : Nat) : Int) := by
  have w64 : ∀ n : Int, IntKind.u64.wrap n = n % 18446744073709551616 := fun n => by simp [IntKind.wrap, IntKind.signed, IntKind.bits]
  have e1 : IntKind.u64.wrap (-(x : Int)) = ((18446744073709551616 - x : Nat) : Int) := by rw [w64]; omega
  have e2 : iAnd .u64 (x : Int) ((18446744073709551616 - x : Nat) : Int) = (a : Int) := by
    unfold iAnd
    have e : IntKind.u64.bits = 64 := rfl
    rw [e]
    have h1 : (BitVec.ofInt 64 (x : Int) &&& BitVec.ofInt 64 ((18446744073709551616 - x : Nat) : Int)).toNat = a := by
      simp only [BitVec.toNat_and, BitVec.ofInt_natCast, BitVec.toNat_ofNat]
      rw [Nat.mod_eq_of_lt (by omega), Nat.mod_eq_of_lt (by omega), hlow]
    rw [h1, w64]
    have h2 : a ≤ x := by rw [← hlow]; exact Nat.and_le_left
    omega
  rw [e1, e2, w64]
  have e3 : (2 : Int) ^ (min (58 : Int).toNat IntKind.u64.bits) = 288230376151711744 := rfl
  rw [e3, Int.fdiv_eq_ediv_of_nonneg _ (by omega)]
  omega
theorem tz64_ok [Tabs TB] (x : Nat) (hx0 : x ≠ 0) (hx : x < 18446744073709551616) : Pure Tryd.prog TB 94 [eI .u64 x] (eI .i64 (Lib.ctz 64 x)) := by
  obtain ⟨hlow, hk⟩ := Lib.lowest_bit 64 x hx0 hx
  obtain ⟨hi, htab⟩ := Lib.deBruijn64_at _ hk
  have hkey := tz_key x _ hx hx0 hlow
  have htv := tab1_at _ hi
  rw [htab] at htv
  generalize Lib.ctz 64 x = cz at *
  generalize 2 ^ cz * 285870213051353865 % 18446744073709551616 / 288230376151711744 = idx at *
  refine Spec.of Tryd.func94 rfl (by kernel_rfl) (Nat.le_of_ble_eq_true rfl) ?_; intro Γ hΓ
  (repeat' (first | (first | (refine popO rfl ?_; first | (refine gA rfl ?_; first | refine yLm rfl rfl ?_ | ((first | refine yQ (md := false) rfl ?_ ?_ | refine yL rfl rfl (by assumption) rfl rfl ?_ ?_ | refine yT rfl rfl (by assumption) rfl ?_ ?_); (first | exact True.intro | omega | (simp only [oA, oB, oC, oD, oE, oF, oG] at *; omega))) | (refine yB rfl ?_; intro _ _hb) | refine yS rfl rfl ?_ | refine yM rfl rfl (by assumption) rfl rfl rfl ?_ | refine yZ rfl rfl rfl rfl rfl rfl ?_ | refine yY rfl rfl rfl ?_ | refine yO rfl rfl rfl ?_ | refine yW rfl rfl ?_ | refine yV rfl rfl rfl rfl (by assumption) rfl rfl rfl rfl ?_ | refine gS (fun _ _ => q_neg rfl rfl) ?_ | refine gS (fun _ _ => q_mul rfl rfl rfl) ?_) | refine popN rfl ?_ | (refine yG rfl rfl ?_ ?_ <;> intro hb <;> subst hb)) | refine AWp.seq ?_ | refine reg (by kernel_rfl) ?_ | refine lexE ?_ | refine regD (noisy []) mixed (by kernel_rfl) (by kernel_rfl) ?_) | (refine AWp.cond rfl (fun hb => ?_) (fun hb => ?_) <;> cases hb) | refine AWp.skip ?_ | refine AWp.exit ?_ | refine AWp.block ?_ | refine AWp.ret ⟨_, rfl, ?_⟩))
  · exfalso; first | omega | (simp only [oA, oB, oC, oD, oE, oF, oG] at *; omega)
  rw [hkey]
  clear hkey hlow htab
  (repeat' (first | (first | (refine popO rfl ?_; first | (refine gA rfl ?_; first | refine yLm rfl rfl ?_ | ((first | refine yQ (md := false) rfl ?_ ?_ | refine yL rfl rfl (by assumption) rfl rfl ?_ ?_ | refine yT rfl rfl (by assumption) rfl ?_ ?_); (first | exact True.intro | omega | (simp only [oA, oB, oC, oD, oE, oF, oG] at *; omega))) | (refine yB rfl ?_; intro _ _hb) | refine yS rfl rfl ?_ | refine yM rfl rfl (by assumption) rfl rfl rfl ?_ | refine yZ rfl rfl rfl rfl rfl rfl ?_ | refine yY rfl rfl rfl ?_ | refine yO rfl rfl rfl ?_ | refine yW rfl rfl ?_ | refine yV rfl rfl rfl rfl (by assumption) rfl rfl rfl rfl ?_ | refine gS (fun _ _ => q_indexG (v := .int .u8 ((cz : Nat) : Int)) rfl (by omega) (by omega) (by rw [Int.toNat_natCast]; exact htv)) ?_) | refine popN rfl ?_ | (refine yG rfl rfl ?_ ?_ <;> intro hb <;> subst hb)) | refine AWp.seq ?_ | refine reg (by kernel_rfl) ?_ | refine lexE ?_ | refine regD (noisy []) mixed (by kernel_rfl) (by kernel_rfl) ?_) | (refine AWp.cond rfl (fun hb => ?_) (fun hb => ?_) <;> cases hb) | refine AWp.skip ?_ | refine AWp.exit ?_ | refine AWp.block ?_ | refine AWp.ret ⟨_, rfl, ?_⟩))
  rfl
theorem tz_ok [Tabs TB] (x : Nat) (hx0 : x ≠ 0) (hx : x < 18446744073709551616) : Pure Tryd.prog TB 89 [eI .u64 x] (eI .i64 (Lib.ctz 64 x)) := by
  refine Spec.of Tryd.func89 rfl (by kernel_rfl) (Nat.le_of_ble_eq_true rfl) ?_; intro Γ hΓ
  (repeat' (first | (first | (refine popO rfl ?_; first | (refine gA rfl ?_; first | refine yLm rfl rfl ?_ | ((first | refine yQ (md := false) rfl ?_ ?_ | refine yL rfl rfl (by assumption) rfl rfl ?_ ?_ | refine yT rfl rfl (by assumption) rfl ?_ ?_); (first | exact True.intro | omega | (simp only [oA, oB, oC, oD, oE, oF, oG] at *; omega))) | (refine yB rfl ?_; intro _ _hb) | refine yS rfl rfl ?_ | refine yM rfl rfl (by assumption) rfl rfl rfl ?_ | refine yZ rfl rfl rfl rfl rfl rfl ?_ | refine yY rfl rfl rfl ?_ | refine yO rfl rfl rfl ?_ | refine yW rfl rfl ?_ | refine yV rfl rfl rfl rfl (by assumption) rfl rfl rfl rfl ?_ | refine yP rfl rfl rfl (tz64_ok x hx0 hx) rfl ?_ ) | refine popN rfl ?_ | (refine yG rfl rfl ?_ ?_ <;> intro hb <;> subst hb)) | refine AWp.seq ?_ | refine reg (by kernel_rfl) ?_ | refine lexE ?_ | refine regD (noisy []) mixed (by kernel_rfl) (by kernel_rfl) ?_) | (refine AWp.cond rfl (fun hb => ?_) (fun hb => ?_) <;> cases hb) | refine AWp.skip ?_ | refine AWp.exit ?_ | refine AWp.block ?_ | refine AWp.ret ⟨_, rfl, ?_⟩))
  all_goals rfl
theorem iAnd_pred {x : Int} {l : List Int} (hp : (x :: l).Pairwise (· < ·)) (h0 : 0 ≤ x) (hlt : setN (x :: l) < 2 ^ 62) : iAnd .i64 (setN (x :: l) : Nat) ((setN (x :: l) : Nat) - 1) = (setN l : Nat) := by
  have h1 := setN_pred hp h0
  have h2 := setN_pos (x := x) (l := l)
  have h3 : setN l ≤ setN (x :: l) := Nat.le_add_left _ _
  generalize setN (x :: l) = a at *
  have e1 : ((a : Nat) : Int) - 1 = ((a - 1 : Nat) : Int) := by omega
  rw [e1]
  unfold iAnd
  have e : IntKind.i64.bits = 64 := rfl
  rw [e]
  have h4 : (BitVec.ofInt 64 (a : Int) &&& BitVec.ofInt 64 ((a - 1 : Nat) : Int)).toNat = setN l := by
    simp only [BitVec.toNat_and, BitVec.ofInt_natCast, BitVec.toNat_ofNat]
    rw [Nat.mod_eq_of_lt (by omega), Nat.mod_eq_of_lt (by omega), h1]
  rw [h4]
  exact IntWalk.i64_in _ (by omega)
theorem members_ok [Tabs TB] (l : List Int) (hp : l.Pairwise (· < ·)) (hb : ∀ x ∈ l, 0 ≤ x ∧ x < 60) : Pure Tryd.prog TB 84 [eI .i64 (setN l : Nat)] (eInts l) := by
  have hlen : l.length ≤ 60 := by
    cases l with
    | nil => simp
    | cons a m =>
      have h4 := incr_len m a 60 hp fun x hx => (hb x hx).2
      have h5 := hb a (by simp)
      simp; omega
  refine Spec.of Tryd.func84 rfl (by kernel_rfl) (Nat.le_of_ble_eq_true rfl) ?_; intro Γ hΓ
  (repeat (first | (refine popO rfl ?_; first | (refine gA rfl ?_; first | refine yLm rfl rfl ?_ | ((first | refine yQ (md := true) rfl ?_ ?_ | refine yL rfl rfl (by assumption) rfl rfl ?_ ?_ | refine yT rfl rfl (by assumption) rfl ?_ ?_); (first | exact True.intro | omega | (simp only [oA, oB, oC, oD, oE, oF, oG] at *; omega))) | (refine yB rfl ?_; intro _ _hb) | refine yS rfl rfl ?_ | refine yM rfl rfl (by assumption) rfl rfl rfl ?_ | refine yO rfl rfl rfl ?_ | refine yW rfl rfl ?_ | refine yV rfl rfl rfl rfl (by assumption) rfl rfl rfl rfl ?_ ) | refine popN rfl ?_ | (refine yG rfl rfl ?_ ?_ <;> intro hb <;> subst hb)) | refine AWp.seq ?_ | refine reg (by kernel_rfl) ?_ | refine lexE ?_ | refine regD (noisy []) mixed (by kernel_rfl) (by kernel_rfl) ?_))
  (refine popO rfl ?_; refine popS (fun _ _ => q_assign rfl) rfl ?_)
  (repeat (first | (refine popO rfl ?_; first | (refine gA rfl ?_; first | refine yLm rfl rfl ?_ | ((first | refine yQ (md := true) rfl ?_ ?_ | refine yL rfl rfl (by assumption) rfl rfl ?_ ?_ | refine yT rfl rfl (by assumption) rfl ?_ ?_); (first | exact True.intro | omega | (simp only [oA, oB, oC, oD, oE, oF, oG] at *; omega))) | (refine yB rfl ?_; intro _ _hb) | refine yS rfl rfl ?_ | refine yM rfl rfl (by assumption) rfl rfl rfl ?_ | refine yO rfl rfl rfl ?_ | refine yW rfl rfl ?_ | refine yV rfl rfl rfl rfl (by assumption) rfl rfl rfl rfl ?_ ) | refine popN rfl ?_ | (refine yG rfl rfl ?_ ?_ <;> intro hb <;> subst hb)) | refine AWp.seq ?_ | refine reg (by kernel_rfl) ?_ | refine lexE ?_ | refine regD (noisy []) mixed (by kernel_rfl) (by kernel_rfl) ?_))
  (refine popO rfl ?_; refine popW ?_ rfl (by rfl); refine n_nil 1 3 ?_)
  (repeat (first | (refine popO rfl ?_; first | (refine gA rfl ?_; first | refine yLm rfl rfl ?_ | ((first | refine yQ (md := true) rfl ?_ ?_ | refine yL rfl rfl (by assumption) rfl rfl ?_ ?_ | refine yT rfl rfl (by assumption) rfl ?_ ?_); (first | exact True.intro | omega | (simp only [oA, oB, oC, oD, oE, oF, oG] at *; omega))) | (refine yB rfl ?_; intro _ _hb) | refine yS rfl rfl ?_ | refine yM rfl rfl (by assumption) rfl rfl rfl ?_ | refine yO rfl rfl rfl ?_ | refine yW rfl rfl ?_ | refine yV rfl rfl rfl rfl (by assumption) rfl rfl rfl rfl ?_ ) | refine popN rfl ?_ | (refine yG rfl rfl ?_ ?_ <;> intro hb <;> subst hb)) | refine AWp.seq ?_ | refine reg (by kernel_rfl) ?_ | refine lexE ?_ | refine regD (noisy []) mixed (by kernel_rfl) (by kernel_rfl) ?_))
  refine AWp.block ?_
  refine AWp.loopL (α := {k : Nat // k ≤ l.length}) (fun ⟨k, hk⟩ => [(0, eI .i64 (setN (l.drop k) : Nat)), (3, .o (.arr 0 1 0 k))]) (fun ⟨k, hk⟩ => [(0, .cells 3 1 ((l.take k).map iRowC))]) 1 (fun ⟨k, hk⟩ => l.length - k) (⟨0, by omega⟩) [0] (by first | (simp [hΓ]; done) | (rw [hΓ]; decide)) (by (repeat' (first | exact trivial | rfl | refine And.intro ?_ ?_)) <;> simp [EnvSub, StoreSub, look_cons, nm, E.ren, C.ren, C.renL, O.ren, killc, kill0, Function.comp_def, argsFrom, zC, hΓ]) ?_; rintro ⟨k, hk⟩; try dsimp only
  (repeat (first | (refine popO rfl ?_; first | (refine gA rfl ?_; first | refine yLm rfl rfl ?_ | ((first | refine yQ (md := true) rfl ?_ ?_ | refine yL rfl rfl (by assumption) rfl rfl ?_ ?_ | refine yT rfl rfl (by assumption) rfl ?_ ?_); (first | exact True.intro | omega | (simp only [oA, oB, oC, oD, oE, oF, oG] at *; omega))) | (refine yB rfl ?_; intro _ _hb) | refine yS rfl rfl ?_ | refine yM rfl rfl (by assumption) rfl rfl rfl ?_ | refine yO rfl rfl rfl ?_ | refine yW rfl rfl ?_ | refine yV rfl rfl rfl rfl (by assumption) rfl rfl rfl rfl ?_ ) | refine popN rfl ?_ | (refine yG rfl rfl ?_ ?_ <;> intro hb <;> subst hb)) | refine AWp.seq ?_ | refine reg (by kernel_rfl) ?_ | refine lexE ?_ | refine regD (noisy []) mixed (by kernel_rfl) (by kernel_rfl) ?_))
  (refine AWp.cond rfl (fun hb => ?_) (fun hb => ?_) <;> cases hb)
  · have hkl : k < l.length := by
      rcases Nat.lt_or_ge k l.length with h | h
      · exact h
      · rw [List.drop_of_length_le h] at _hb; simp [setN] at _hb
    obtain ⟨x, hx⟩ := get_some hkl
    have hd := drop_some hx
    have hxb := hb x (List.mem_of_getElem? hx)
    have hpd : (x :: l.drop (k + 1)).Pairwise (· < ·) := by rw [← hd]; exact hp.sublist (List.drop_sublist _ _)
    have hlt : setN (x :: l.drop (k + 1)) < 2 ^ 60 := by
      refine setN_lt hpd fun y hy => ?_
      rw [← hd] at hy; exact hb y (List.mem_of_mem_drop hy)
    have hps := setN_pos (x := x) (l := l.drop (k + 1))
    have hct := setN_ctz hpd hxb.1 (by omega)
    have hia := iAnd_pred hpd hxb.1 (by omega)
    rw [← hd] at hlt hps hct hia
    have htz := tz_ok (TB := TB) (setN (l.drop k)) (by omega) (by omega)
    rw [hct] at htz
    have ex : ((x.toNat : Nat) : Int) = x := by omega
    rw [ex] at htz
    refine AWp.skip ?_
    refine AWp.seq (AWp.block ?_)
    (repeat (first | (refine popO rfl ?_; first | (refine gA rfl ?_; first | refine yLm rfl rfl ?_ | ((first | refine yQ (md := false) rfl ?_ ?_ | refine yL rfl rfl (by assumption) rfl rfl ?_ ?_ | refine yT rfl rfl (by assumption) rfl ?_ ?_); (first | exact True.intro | omega | (simp only [oA, oB, oC, oD, oE, oF, oG] at *; omega))) | (refine yB rfl ?_; intro _ _hb) | refine yS rfl rfl ?_ | refine yM rfl rfl (by assumption) rfl rfl rfl ?_ | refine yZ rfl rfl rfl rfl rfl rfl ?_ | refine yY rfl rfl rfl ?_ | refine yO rfl rfl rfl ?_ | refine yW rfl rfl ?_ | refine yV rfl rfl rfl rfl (by assumption) rfl rfl rfl rfl ?_ | refine yP rfl rfl rfl (htz) rfl ?_ ) | refine popN rfl ?_ | (refine yG rfl rfl ?_ ?_ <;> intro hb <;> subst hb)) | refine AWp.seq ?_ | refine reg (by kernel_rfl) ?_ | refine lexE ?_ | refine regD (noisy []) mixed (by kernel_rfl) (by kernel_rfl) ?_))
    (refine popO rfl ?_; refine popW ?_ rfl (by rfl); refine n_append rfl rfl rfl (by first | (simp; done) | (simp; (first | omega | (simp only [oA, oB, oC, oD, oE, oF, oG] at *; omega)))) rfl (by intro r hr; simp at hr; subst hr; rfl) (by rfl) (Nat.le_of_ble_eq_true rfl) (by simp; first | omega | (simp only [oA, oB, oC, oD, oE, oF, oG] at *; omega)) ?_)
    (repeat (first | (refine popO rfl ?_; first | (refine gA rfl ?_; first | refine yLm rfl rfl ?_ | ((first | refine yQ (md := false) rfl ?_ ?_ | refine yL rfl rfl (by assumption) rfl rfl ?_ ?_ | refine yT rfl rfl (by assumption) rfl ?_ ?_); (first | exact True.intro | omega | (simp only [oA, oB, oC, oD, oE, oF, oG] at *; omega))) | (refine yB rfl ?_; intro _ _hb) | refine yS rfl rfl ?_ | refine yM rfl rfl (by assumption) rfl rfl rfl ?_ | refine yO rfl rfl rfl ?_ | refine yW rfl rfl ?_ | refine yV rfl rfl rfl rfl (by assumption) rfl rfl rfl rfl ?_ | refine gS (fun _ _ => q_and rfl rfl hia) ?_) | refine popN rfl ?_ | (refine yG rfl rfl ?_ ?_ <;> intro hb <;> subst hb)) | refine AWp.seq ?_ | refine reg (by kernel_rfl) ?_ | refine lexE ?_ | refine regD (noisy []) mixed (by kernel_rfl) (by kernel_rfl) ?_))
    refine ⟨⟨k + 1, by first | omega | (simp only [oA, oB, oC, oD, oE, oF, oG] at *; omega)⟩, by dsimp only; (first | omega | (simp only [oA, oB, oC, oD, oE, oF, oG] at *; omega)), [1], ?_⟩
    simp [EnvSub, StoreSub, look_cons, nm, E.ren, C.ren, C.renL, O.ren, killc, kill0, Function.comp_def, argsFrom, zC, hΓ, hia, List.take_add_one, hx]
  · obtain rfl : k = l.length := by
      rcases Nat.lt_or_ge k l.length with h | h
      · exfalso
        obtain ⟨x, hx⟩ := get_some h
        have hd := drop_some hx
        have hps := setN_pos (x := x) (l := l.drop (k + 1))
        rw [← hd] at hps
        first | omega | (simp only [oA, oB, oC, oD, oE, oF, oG] at *; omega)
      · omega
    rw [List.take_length]
    refine AWp.exit ?_
    (repeat (first | (refine popO rfl ?_; first | (refine gA rfl ?_; first | refine yLm rfl rfl ?_ | ((first | refine yQ (md := false) rfl ?_ ?_ | refine yL rfl rfl (by assumption) rfl rfl ?_ ?_ | refine yT rfl rfl (by assumption) rfl ?_ ?_); (first | exact True.intro | omega | (simp only [oA, oB, oC, oD, oE, oF, oG] at *; omega))) | (refine yB rfl ?_; intro _ _hb) | refine yS rfl rfl ?_ | refine yM rfl rfl (by assumption) rfl rfl rfl ?_ | refine yO rfl rfl rfl ?_ | refine yW rfl rfl ?_ | refine yV rfl rfl rfl rfl (by assumption) rfl rfl rfl rfl ?_ ) | refine popN rfl ?_ | (refine yG rfl rfl ?_ ?_ <;> intro hb <;> subst hb)) | refine AWp.seq ?_ | refine reg (by kernel_rfl) ?_ | refine lexE ?_ | refine regD (noisy []) mixed (by kernel_rfl) (by kernel_rfl) ?_))
    refine AWp.freeze [0] [(2, eInts l)] ⟨⟨_, rfl, .o (.full (by simp) rfl (by simp [Function.comp_def]) (by simp))⟩, trivial⟩ ?_
    refine AWp.ret ⟨_, rfl, rfl⟩
end Go.Am
/-
  Moves of a system as sets.
-/
namespace Go.Am
open Go Go.Proofs
set_option linter.unusedSimpArgs false
set_option linter.unusedVariables false
attribute [local irreducible] QOp AOp Lex LexO AWp Spec
variable {TB : List (Nat × Obj)}

theorem renL_d (r : Nat → Nat) : ∀ ds : List D, C.renL r (ds.map .d) = ds.map .d
  | [] => rfl
  | d :: l => by simp [C.renL, C.ren, renL_d r l]
def toL (es : List Edg) (f l : Nat) : List Int := (es.filter fun e : Edg => decide (e.f = (f : Int)) && decide (e.l = (l : Int))).map (·.t)
def mvRow (es : List Edg) : List D := (List.range 96).map fun i => iD (setN (toL es (i / 6) (i % 6)) : Nat)
theorem mvRow_get {es : List Edg} {i : Nat} (h : i < 96) : (mvRow es)[i]? = some (iD (setN (toL es (i / 6) (i % 6)) : Nat)) := by simp [mvRow, h]
theorem toL_app (es : List Edg) (e : Edg) (f l : Nat) : toL (es ++ [e]) f l = toL es f l ++ if e.f = (f : Int) ∧ e.l = (l : Int) then [e.t] else [] := by
  simp only [toL, List.filter_append, List.map_append, List.filter_cons, List.filter_nil]
  grind
theorem splice_set {r : List C} {j : Nat} {c : C} (h : j < r.length) : spliceC r j [c] = r.set j c := by
  unfold spliceC
  rw [List.set_eq_take_append_cons_drop, if_pos h]
  simp
theorem mvRow_step {es : List Edg} {e : Edg} {v : Int} (h0 : 0 ≤ e.f ∧ e.f < 16) (h1 : 0 ≤ e.l ∧ e.l < 6) (hv : v = (setN (toL (es ++ [e]) e.f.toNat e.l.toNat) : Nat)) :
    spliceC ((mvRow es).map .d) (0 + e.f.toNat * 6 + e.l.toNat * 1) (eC (eI .i64 v)) = (mvRow (es ++ [e])).map .d := by
  have hj : 0 + e.f.toNat * 6 + e.l.toNat * 1 < 96 := by omega
  have : eC (eI .i64 v) = [C.d (iD v)] := rfl
  rw [this, splice_set (by simp [mvRow]; omega), ← List.map_set]
  congr 1
  apply List.ext_getElem?
  intro i
  by_cases hi : i < 96
  · rw [mvRow_get hi]
    by_cases hij : 0 + e.f.toNat * 6 + e.l.toNat * 1 = i
    · subst hij
      rw [List.getElem?_set_self (by simp [mvRow]; omega), hv]
      have e1 : (0 + e.f.toNat * 6 + e.l.toNat * 1) / 6 = e.f.toNat := by omega
      have e2 : (0 + e.f.toNat * 6 + e.l.toNat * 1) % 6 = e.l.toNat := by omega
      rw [e1, e2]
    · rw [List.getElem?_set_ne hij, mvRow_get hi, toL_app, if_neg (by omega), List.append_nil]
  · rw [List.getElem?_eq_none (by simp [mvRow]; omega), List.getElem?_eq_none (by simp [mvRow]; omega)]
theorem toL_sorted {s : Sys} (h : sysOk s = true) (k f l : Nat) : (toL (s.es.take k) f l).Pairwise (· < ·) := by
  unfold toL
  rw [List.pairwise_map]
  refine List.Pairwise.imp_of_mem (fun {a b} ha hb hab => ?_) (((sysOk_sorted h).sublist (List.take_sublist k s.es)).filter _)
  have h1 := (List.mem_filter.1 ha).2
  have h2 := (List.mem_filter.1 hb).2
  unfold befB at hab
  grind
theorem toL_in {s : Sys} (h : sysOk s = true) {k f l : Nat} {x : Int} (hx : x ∈ toL (s.es.take k) f l) : 0 ≤ x ∧ x < 16 := by
  unfold toL at hx
  obtain ⟨e, he, rfl⟩ := List.mem_map.1 hx
  have h2 := sysOk_edge h (List.mem_of_mem_take (List.mem_filter.1 he).1)
  have h3 := sysOk_head h
  unfold edgeOk at h2
  grind
theorem toL_sysTo {s : Sys} {f l : Nat} (hb : bitB s.al l = true) : toL s.es f l = sysTo s f l := by
  unfold toL sysTo
  rw [if_pos (by simpa using hb)]
theorem iOr_set {a t : Nat} (ha : a < 2 ^ 16) (ht : t < 16) : iOr .i64 (a : Nat) ((2 ^ t : Nat) : Int) = ((a ||| 2 ^ t : Nat) : Int) := by
  have h2 : 2 ^ t < 2 ^ 16 := Nat.pow_lt_pow_right (by omega) ht
  have h0 : a ||| 2 ^ t < 2 ^ 16 := Nat.or_lt_two_pow ha h2
  unfold iOr
  have h1 : (BitVec.ofInt IntKind.i64.bits (a : Int) ||| BitVec.ofInt IntKind.i64.bits ((2 ^ t : Nat) : Int)).toNat = a ||| 2 ^ t := by
    have e : IntKind.i64.bits = 64 := rfl
    rw [e]
    simp only [BitVec.toNat_or, BitVec.ofInt_natCast, BitVec.toNat_ofNat]
    rw [Nat.mod_eq_of_lt (by omega), Nat.mod_eq_of_lt (by omega)]
  rw [h1]
  exact IntWalk.i64_in _ (by omega)
theorem shl_one {t : Int} (h0 : 0 ≤ t) (h1 : t < 16) : IntKind.i64.wrap (1 * 2 ^ (min t.toNat IntKind.i64.bits)) = ((2 ^ t.toNat : Nat) : Int) := by
  have e : min t.toNat IntKind.i64.bits = t.toNat := by
    have : IntKind.i64.bits = 64 := rfl
    omega
  rw [e, Int.one_mul]
  have h2 : 2 ^ t.toNat < 2 ^ 16 := Nat.pow_lt_pow_right (by omega) (by omega)
  have h3 : (2 : Int) ^ t.toNat = ((2 ^ t.toNat : Nat) : Int) := by push_cast; rfl
  rw [h3]
  generalize 2 ^ t.toNat = p at *
  exact IntWalk.i64_in _ (by omega)
theorem movesOf_ok (s : Sys) (h : sysOk s = true) : Pure Tryd.prog TB 83 [eSys s] (.o (.ip (mvRow s.es))) := by
  refine Spec.of Tryd.func83 rfl (by kernel_rfl) (Nat.le_of_ble_eq_true rfl) ?_; intro Γ hΓ
  (repeat (first | (refine popO rfl ?_; first | (refine gA rfl ?_; first | refine yLm rfl rfl ?_ | ((first | refine yQ (md := false) rfl ?_ ?_ | refine yL rfl rfl (by assumption) rfl rfl ?_ ?_ | refine yT rfl rfl (by assumption) rfl ?_ ?_); (first | exact True.intro | omega | (simp only [oA, oB, oC, oD, oE, oF, oG] at *; omega))) | (refine yB rfl ?_; intro _ _hb) | refine yS rfl rfl ?_ | refine yM rfl rfl (by assumption) rfl rfl rfl ?_ | refine yZ rfl rfl rfl rfl rfl rfl ?_ | refine yY rfl rfl rfl ?_ | refine yO rfl rfl rfl ?_ | refine yW rfl rfl ?_ | refine yV rfl rfl rfl rfl (by assumption) rfl rfl rfl rfl ?_ ) | refine popN rfl ?_ | (refine yG rfl rfl ?_ ?_ <;> intro hb <;> subst hb)) | refine AWp.seq ?_ | refine reg (by kernel_rfl) ?_ | refine lexE ?_ | refine regD (noisy []) mixed (by kernel_rfl) (by kernel_rfl) ?_))
  refine AWp.bound 8 rfl fun hB0 => ?_
  have hB := hB0 (s.es.map edRow) .refl
  refine AWp.block ?_
  refine AWp.loopL (α := {k : Nat // k ≤ s.es.length}) (fun ⟨k, hk⟩ => [(3, .o (.ptr 0 96 0 0)), (8, eEdgs s.es), (9, eI .i64 s.es.length), (10, eI .i64 k)]) (fun ⟨k, hk⟩ => [(0, .cells 122 96 [(mvRow (s.es.take k)).map .d])]) 1 (fun ⟨k, hk⟩ => s.es.length - k) (⟨0, by omega⟩) [0] (by first | (simp [hΓ]; done) | (rw [hΓ]; decide)) (by (repeat' (first | exact trivial | rfl | refine And.intro ?_ ?_)) <;> simp [EnvSub, StoreSub, look_cons, nm, E.ren, C.ren, C.renL, O.ren, killc, kill0, Function.comp_def, argsFrom, zC, hΓ]) ?_; rintro ⟨k, hk⟩; try dsimp only
  (repeat (first | (refine popO rfl ?_; first | (refine gA rfl ?_; first | refine yLm rfl rfl ?_ | ((first | refine yQ (md := true) rfl ?_ ?_ | refine yL rfl rfl (by assumption) rfl rfl ?_ ?_ | refine yT rfl rfl (by assumption) rfl ?_ ?_); (first | exact True.intro | omega | (simp only [oA, oB, oC, oD, oE, oF, oG] at *; omega))) | (refine yB rfl ?_; intro _ _hb) | refine yS rfl rfl ?_ | refine yM rfl rfl (by assumption) rfl rfl rfl ?_ | refine yO rfl rfl rfl ?_ | refine yW rfl rfl ?_ | refine yV rfl rfl rfl rfl (by assumption) rfl rfl rfl rfl ?_ ) | refine popN rfl ?_ | (refine yG rfl rfl ?_ ?_ <;> intro hb <;> subst hb)) | refine AWp.seq ?_ | refine reg (by kernel_rfl) ?_ | refine lexE ?_ | refine regD (noisy []) mixed (by kernel_rfl) (by kernel_rfl) ?_))
  (refine AWp.cond rfl (fun hb => ?_) (fun hb => ?_) <;> cases hb)
  · obtain ⟨e, he⟩ := get_some (l := s.es) (k := k) (by first | omega | (simp only [oA, oB, oC, oD, oE, oF, oG] at *; omega))
    have he' := get_map (g := edRow) he
    have heo := sysOk_edge h (List.mem_of_getElem? he)
    have hh := sysOk_head h
    unfold edgeOk at heo
    simp only [Bool.and_eq_true, decide_eq_true_eq] at heo
    obtain ⟨⟨hf0, hf1, ht0, ht1, hl0, hl1⟩, hbit⟩ := heo
    have hj96 : 0 + e.f.toNat * 6 + e.l.toNat * 1 + 1 ≤ 96 := by omega
    have hshl := shl_one ht0 (by omega)
    have htk : s.es.take (k + 1) = s.es.take k ++ [e] := by rw [List.take_add_one, he]; rfl
    have hap : toL (s.es.take (k + 1)) e.f.toNat e.l.toNat = toL (s.es.take k) e.f.toNat e.l.toNat ++ [e.t] := by
      rw [htk, toL_app, if_pos (by omega)]
    have hbnd : ∀ x ∈ toL (s.es.take k) e.f.toNat e.l.toNat, 0 ≤ x ∧ x < e.t.toNat := by
      intro x hx
      have h1 := toL_sorted h (k + 1) e.f.toNat e.l.toNat
      rw [hap, List.pairwise_append] at h1
      have h2 := h1.2.2 x hx e.t (by simp)
      have h3 := toL_in h hx
      omega
    have hor1 := setN_or (toL_sorted h k e.f.toNat e.l.toNat) hbnd
    have hlt := setN_lt (t := 16) (toL_sorted h k e.f.toNat e.l.toNat) fun x hx => toL_in h hx
    have hor := iOr_set hlt (t := e.t.toNat) (by omega)
    have et : ((e.t.toNat : Nat) : Int) = e.t := by omega
    rw [hor1, et, ← hap, htk] at hor
    have hstep := mvRow_step (es := s.es.take k) (e := e) ⟨hf0, by omega⟩ ⟨hl0, hl1⟩ rfl
    rw [← hor] at hstep
    have hld : ((mvRow (s.es.take k)).map C.d)[0 + e.f.toNat * 6 + e.l.toNat * 1]? = some (.d (iD (setN (toL (s.es.take k) e.f.toNat e.l.toNat) : Nat))) := by
      have e1 : (0 + e.f.toNat * 6 + e.l.toNat * 1) / 6 = e.f.toNat := by omega
      have e2 : (0 + e.f.toNat * 6 + e.l.toNat * 1) % 6 = e.l.toNat := by omega
      rw [List.getElem?_map, mvRow_get (by omega), e1, e2]; rfl
    refine AWp.skip ?_
    refine AWp.seq (AWp.block ?_)
    (repeat (first | (refine popO rfl ?_; first | (refine gA rfl ?_; first | refine yLm rfl rfl ?_ | ((first | refine yQ (md := false) rfl ?_ ?_ | refine yL rfl rfl (by assumption) rfl rfl ?_ ?_ | refine yT rfl rfl (by assumption) rfl ?_ ?_); (first | exact True.intro | omega | (simp only [oA, oB, oC, oD, oE, oF, oG] at *; omega))) | (refine yB rfl ?_; intro _ _hb) | refine yS rfl rfl ?_ | refine yM rfl rfl (by assumption) rfl rfl rfl ?_ | refine yZ rfl rfl rfl rfl rfl rfl ?_ | refine yY rfl rfl rfl ?_ | refine yO rfl rfl rfl ?_ | refine yW rfl rfl ?_ | refine yV rfl rfl rfl rfl (by assumption) rfl rfl rfl rfl ?_ ) | refine popN rfl ?_ | (refine yG rfl rfl ?_ ?_ <;> intro hb <;> subst hb)) | refine AWp.seq ?_ | refine reg (by kernel_rfl) ?_ | refine lexE ?_))
    refine regD (noisy [16]) mixed (by kernel_rfl) (by kernel_rfl) ?_
    (repeat (first | (refine popO rfl ?_; first | (refine gA rfl ?_; first | refine yLm rfl rfl ?_ | ((first | refine yQ (md := false) rfl ?_ ?_ | refine yL rfl rfl (by assumption) rfl rfl ?_ ?_ | refine yT rfl rfl (by assumption) rfl ?_ ?_); (first | exact True.intro | omega | (simp only [oA, oB, oC, oD, oE, oF, oG] at *; omega))) | (refine yB rfl ?_; intro _ _hb) | refine yS rfl rfl ?_ | refine yM rfl rfl (by assumption) rfl rfl rfl ?_ | refine yZ rfl rfl rfl rfl rfl rfl ?_ | refine yY rfl rfl rfl ?_ | refine yO rfl rfl rfl ?_ | refine yW rfl rfl ?_ | refine yV rfl rfl rfl rfl (by assumption) rfl rfl rfl rfl ?_ | refine gS (fun _ _ => q_shl rfl rfl (by first | omega | (simp only [oA, oB, oC, oD, oE, oF, oG] at *; omega)) hshl) ?_ | refine gQ (q_loadP rfl rfl rfl hld) (by rfl) ?_) | refine popN rfl ?_ | (refine yG rfl rfl ?_ ?_ <;> intro hb <;> subst hb)) | refine AWp.seq ?_ | refine reg (by kernel_rfl) ?_ | refine lexE ?_ | refine regD (noisy []) mixed (by kernel_rfl) (by kernel_rfl) ?_))
    (refine popO rfl ?_; refine popW0 ?_ rfl (by rfl); refine n_store rfl rfl rfl rfl (rfl) rfl (hj96) ?_)
    (repeat (first | (refine popO rfl ?_; first | (refine gA rfl ?_; first | refine yLm rfl rfl ?_ | ((first | refine yQ (md := false) rfl ?_ ?_ | refine yL rfl rfl (by assumption) rfl rfl ?_ ?_ | refine yT rfl rfl (by assumption) rfl ?_ ?_); (first | exact True.intro | omega | (simp only [oA, oB, oC, oD, oE, oF, oG] at *; omega))) | (refine yB rfl ?_; intro _ _hb) | refine yS rfl rfl ?_ | refine yM rfl rfl (by assumption) rfl rfl rfl ?_ | refine yZ rfl rfl rfl rfl rfl rfl ?_ | refine yY rfl rfl rfl ?_ | refine yO rfl rfl rfl ?_ | refine yW rfl rfl ?_ | refine yV rfl rfl rfl rfl (by assumption) rfl rfl rfl rfl ?_ ) | refine popN rfl ?_ | (refine yG rfl rfl ?_ ?_ <;> intro hb <;> subst hb)) | refine AWp.seq ?_ | refine reg (by kernel_rfl) ?_ | refine lexE ?_))
    refine ⟨⟨k + 1, by first | omega | (simp only [oA, oB, oC, oD, oE, oF, oG] at *; omega)⟩, by dsimp only; (first | omega | (simp only [oA, oB, oC, oD, oE, oF, oG] at *; omega)), [0], ?_⟩
    rw [hstep, ← htk]
    simp [EnvSub, StoreSub, look_cons, nm, E.ren, C.ren, C.renL, O.ren, killc, kill0, Function.comp_def, argsFrom, zC, hΓ, List.set_cons_zero, renL_d]
  · obtain rfl : k = s.es.length := by first | omega | (simp only [oA, oB, oC, oD, oE, oF, oG] at *; omega)
    refine AWp.exit ?_
    rw [List.take_length]
    (repeat (first | (refine popO rfl ?_; first | (refine gA rfl ?_; first | refine yLm rfl rfl ?_ | ((first | refine yQ (md := true) rfl ?_ ?_ | refine yL rfl rfl (by assumption) rfl rfl ?_ ?_ | refine yT rfl rfl (by assumption) rfl ?_ ?_); (first | exact True.intro | omega | (simp only [oA, oB, oC, oD, oE, oF, oG] at *; omega))) | (refine yB rfl ?_; intro _ _hb) | refine yS rfl rfl ?_ | refine yM rfl rfl (by assumption) rfl rfl rfl ?_ | refine yO rfl rfl rfl ?_ | refine yW rfl rfl ?_ | refine yV rfl rfl rfl rfl (by assumption) rfl rfl rfl rfl ?_ ) | refine popN rfl ?_ | (refine yG rfl rfl ?_ ?_ <;> intro hb <;> subst hb)) | refine AWp.seq ?_ | refine reg (by kernel_rfl) ?_ | refine lexE ?_ | refine regD (noisy []) mixed (by kernel_rfl) (by kernel_rfl) ?_))
    refine AWp.freeze [0] [(2, .o (.ip (mvRow s.es)))] ⟨⟨_, rfl, .o (.ptr (by simp) rfl rfl rfl)⟩, trivial⟩ ?_
    refine AWp.ret ⟨_, rfl, rfl⟩
end Go.Am
