/-
  Regions that draw, with new variables in any order: the walk.
-/
import Derived.Test.YtilhofhoebpcgaaDoorPart16
namespace Go.Am.R
open Go
section
variable {P : Program} {TB : List (Nat × Obj)} {ops : Array Oper} {Γ : Ctx} {N : Nat}

def PostN (TB : List (Nat × Obj)) (Γ : Ctx) (N : Nat) (K : Sta → Prop) (Q : Exit → Act → World → Prop) : Prop := ∀ V S a, RelF TB Γ N V S a → K S → Q .normal a V.w

theorem step1 {i : Nat} {o : Oper} (ho : ops[i]? = some o) (hd : ∀ t, o.dst = some t → t < N) {K : Sta → Prop} {K' : Act → World → Prop} {Q : Exit → Act → World → Prop}
    (hK : ∀ V S a, RelF TB Γ N V S a → K S → K' a V.w) {V : View} {S : Sta} {a : Act} (hr : RelF TB Γ N V S a) (h : St1 P TB ops o K S) : wpOp P ops Q i K' a V.w := by
  have hlt : ∀ t e, S.f t = some e → t < a.tmps.size := fun t e he => by rw [hr.st.size]; exact hr.st.lt t e he
  have hgood : Good TB V S.σ S.nx := ⟨hr.st.inv.iLt, hr.st.inv.st, hr.st.inv.tabs, hr.st.nx⟩
  unfold wpOp
  simp only [ho]
  rcases h with ⟨hg, hk⟩ | ⟨hg, hk⟩
  · rw [wanted_of hr.st.env hlt hg]
    have h1 : RelF TB Γ N V (S.put o.dst (.t [])) (a.put o.dst undef) := hr.put (σ' := S.σ) hd (Ext.refl _) hgood.inv hr.st.nx (undef_rel V)
    simpa using hK _ _ _ h1 hk
  · rw [wanted_of hr.st.env hlt hg]
    simp only [if_true]
    refine .inl (upon_q P (Oper.wp_mono ?_ (hk ⟨V, Foot V S.σ⟩ V a (hr.st.env.op o) hgood.inv hr.st.nx)))
    rintro a' w' ⟨V', v, x, σ', rfl, rfl, e3, e4, e5, e6⟩
    exact hK V' _ _ (hr.put hd e3 e4 rfl e5) e6
theorem run_alloc {d : Option Tmp} {ty : TypeId} {pos : String} {af : Array Edge} {g : Option (Nat × Bool)} {ρ : Operand → Value} {T : TypeId} {z : List Value} (hz : zeF P T = some z) : ∃ zv : Value, zv.cells.toList = z ∧ ∀ w : World, (execOp ρ ⟨d, .alloc T, ty, pos, af, g⟩).run P w = .ok (.value (.pointer (some ⟨w.heap.size, 0, none⟩))) (w.alloc (.cells zv.cells T)) := by
  obtain ⟨i, zv, hi, hzv, hzz⟩ := ze_inv hz
  exact ⟨zv, hzz, fun w => by simp [execOp, Instr.alloc, zeroValue, typeInfo, hi, hzv, newVar, newRow, go_sem]⟩
theorem step_wp {i c : Nat} {o : Oper} (ho : ops[i]? = some o) (hd : ∀ t, o.dst = some t → t < N) {K : Sta → Prop} {K' : Act → World → Prop} {Q : Exit → Act → World → Prop}
    (hK : ∀ V S a, RelF TB Γ N V S a → K S → K' a V.w) {V : View} {S : Sta} {a : Act} (hr : RelF TB Γ N V S a) (h : St P TB ops c o K S) : wpOp P ops Q i K' a V.w := by
  unfold St at h
  by_cases c1 : c = 1
  · rw [if_pos c1] at h; exact step1 ho hd hK hr h
  · rw [if_neg c1] at h
    by_cases c5 : c = 5
    · rw [if_pos c5] at h
      obtain ⟨d, T, z, _, hpd, hst⟩ := h
      have hdN : d < N := by
        obtain ⟨_, b, hb, _⟩ := hr.pd d T z hpd
        have := (Array.getElem?_eq_some_iff.1 hb).1
        rw [hr.st.size] at this; exact this
      obtain ⟨V', e1, hr'⟩ := hr.adopt hdN hpd
      have := step1 (Q := Q) ho hd hK hr' hst
      rwa [e1] at this
    · rw [if_neg c5] at h
      obtain ⟨u, hm, hk⟩ := h
      rcases hm with ⟨h1, h2, rfl⟩ | ⟨h1, h2, x, h3, rfl⟩ | ⟨h1, h2, d, T, z, h3, h4, h5, h6, h7, rfl⟩
      · exact step1 ho hd hK hr (.inl ⟨h2, hk⟩)
      · refine step1 ho hd hK hr (.inr ⟨h2, fun Γ => QOp.aop P TB Γ ?_ hk⟩)
        by_cases e : c = 2
        · rw [if_pos e] at h3; exact h3 Γ S.σ S.nx
        · rw [if_neg e] at h3; exact h3 Γ
      · unfold wpOp
        simp only [ho]
        have hw : Region.wanted o (yielded ops a.tmps) = true := by unfold Region.wanted; rw [h2]
        rw [hw]
        simp only [if_true]
        refine .inl ?_
        obtain ⟨dst, op, ty, pos, af, g⟩ := o
        simp only at h3 h4
        subst h3 h4
        obtain ⟨zv, hzz, hrun⟩ := run_alloc (P := P) (d := some d) (ty := ty) (pos := pos) (af := af) (g := g) (ρ := a.eval) h5
        unfold Oper.wp
        rw [hrun]
        have hr' := hr.alloc (T := T) (zv := zv) (hd d rfl) h7 hzz h6
        exact hK _ _ _ hr' hk
theorem wpAny_of {ops : Array Oper} (hd : dstOk N ops = true) {K : Sta → Prop} {Q : Exit → Act → World → Prop} (hK : PostN TB Γ N K Q) : ∀ (n : Nat) (r : List (Nat × Nat)) (listed : Array Bool) (V : View) (S : Sta) (a : Act),
    r.length = n → closedL ops listed → ordReady ops r listed = true → okOrd ops r = true → RelF TB Γ N V S a → Lex P TB ops r K S → wpAny P .any ops Q n listed a V.w
  | 0, r, listed, V, S, a, hn, hc, ho, hk, hr, h => by
    have : r = [] := List.length_eq_zero_iff.1 hn
    subst this
    refine ⟨?_, hK V S a hr h⟩
    simpa [ordReady] using ho
  | n + 1, r, listed, V, S, a, hn, hc, ho, hk, hr, h => by
    refine ⟨fun hnil => ?_, fun j hj => ?_⟩
    · cases r with
      | nil => simp at hn
      | cons x r =>
        obtain ⟨i, c⟩ := x
        simp only [ordReady, Bool.and_eq_true] at ho
        have := ho.1
        rw [hnil] at this
        simp at this
    · obtain ⟨r1, c, r2, o, rfl, hoj, h1⟩ := lex_extract K r listed S hc ho hk h j hj
      refine step_wp hoj (fun t ht => dst_lt hd hoj ht) (fun V' S' a' hr' hk' => ?_) hr h1
      exact wpAny_of hd hK n (r1 ++ r2) _ V' S' a' (by simp at hn ⊢; omega) (closed_set hc hj) (ord_skip r1 r2 j c listed ho hj) (ok_skip r1 r2 _ hk) hr' hk'

variable {i c : Nat} {r : List (Nat × Nat)} {L : List (Nat × E)} {σ : Store} {nx : Nat} {pl : List (Nat × (TypeId × List Value))} {K : Sta → Prop} {Q : Exit → Env → Store → Nat → Prop}
/-- The walk's state, as lists. -/
def LexL (P : Program) (TB : List (Nat × Obj)) (ops : Array Oper) (r : List (Nat × Nat)) (K : Sta → Prop) (L : List (Nat × E)) (σ : Store) (nx : Nat) (pl : List (Nat × (TypeId × List Value))) : Prop := Lex P TB ops r K ⟨look L, σ, nx, look pl⟩
theorem regR {id : Nat} (r : List (Nat × Nat)) (hm : P.follows .mixedOrders = true) (hd : dstOk N ops = true) (hn : r.length = ops.size) (ho : (ordReady ops r (Array.replicate ops.size false) && okOrd ops r) = true)
    (h : LexL P TB ops r (fun S => Q .normal S.f S.σ S.nx) L σ nx []) : AWp P TB Γ N (.region id ops true) Q (look L) σ nx := by
  intro V a hs
  rw [Bool.and_eq_true] at ho
  refine wp_region_any hm ?_
  obtain ⟨h1, h2⟩ := hs.inv.drew
  have hs' : RelSt TB Γ N { V with w := { V.w with drawn := V.w.drawn + 1 } } (look L) σ V.nx a := ⟨hs.env.ext h2, hs.lt, hs.size, h1, rfl, hs.defers⟩
  have hnx := hs.nx
  subst hnx
  exact wpAny_of hd (fun V S a hs hk => ⟨V, S.f, S.σ, rfl, by rw [hs.st.nx]; exact hk, by rw [hs.st.nx]; exact hs.st⟩) ops.size r _ { V with w := { V.w with drawn := V.w.drawn + 1 } } _ a hn (closed_none ops) ho.1 ho.2 ⟨hs', fun d T z hq => (by cases hq), fun d d' q q' b b' hq => (by cases hq)⟩ h
theorem lexE {K : Sta → Prop} (h : K ⟨look L, σ, nx, look pl⟩) : LexL P TB ops [] K L σ nx pl := h
theorem lexQ (h : Q .normal (look L) σ nx) : LexL P TB ops [] (fun S => Q .normal S.f S.σ S.nx) L σ nx pl := h
def killP (d : Nat) : List (Nat × (TypeId × List Value)) → List (Nat × (TypeId × List Value))
  | [] => []
  | (k, x) :: r => bif Nat.beq k d then killP d r else (k, x) :: killP d r
theorem look_killP : ∀ (pl : List (Nat × (TypeId × List Value))) (d t : Nat), look (killP d pl) t = if t = d then none else look pl t
  | [], d, t => by simp [killP, look]
  | (k, x) :: r, d, t => by
    simp only [killP]
    by_cases h : k = d
    · subst h
      simp only [Nat.beq_refl, cond_true]
      rw [look_killP r k t, look_cons]
      by_cases h2 : t = k
      · simp [h2]
      · rw [if_neg h2, if_neg h2, if_neg (Ne.symm h2)]
    · have : Nat.beq k d = false := by
        cases hb : Nat.beq k d
        · rfl
        · exact absurd (Nat.eq_of_beq_eq_true hb) h
      rw [this, cond_false, look_cons, look_cons, look_killP r d t]
      by_cases h2 : t = d
      · subst h2; simp [h]
      · simp [h2]
theorem put_look {d : Tmp} {x : E} {σ' : Store} {nx' : Nat} : Sta.put ⟨look L, σ', nx', look pl⟩ (some d) x = ⟨look ((d, x) :: L), σ', nx', look (killP d pl)⟩ := by
  unfold Sta.put
  rw [fput_look]
  congr 1
  funext t
  rw [look_killP]
  by_cases h : t = d
  · subst h; simp
  · simp [h, Ne.symm h]
theorem put_none {x : E} {σ' : Store} {nx' : Nat} : Sta.put ⟨look L, σ', nx', look pl⟩ none x = ⟨look L, σ', nx', look pl⟩ := by
  unfold Sta.put; congr 1
/-- The next operation, laid open. -/
def LexO (P : Program) (TB : List (Nat × Obj)) (ops : Array Oper) (o : Oper) (i c : Nat) (r : List (Nat × Nat)) (K : Sta → Prop) (L : List (Nat × E)) (σ : Store) (nx : Nat) (pl : List (Nat × (TypeId × List Value))) : Prop :=
  ops[i]? = some o → LexL P TB ops ((i, c) :: r) K L σ nx pl
theorem popO {o : Oper} (ho : opAt ops.toList i = some o) (h : LexO P TB ops o i c r K L σ nx pl) : LexL P TB ops ((i, c) :: r) K L σ nx pl := h (by rw [opAt_get] at ho; simpa using ho)
variable {d : Tmp} {op : Op} {ty : TypeId} {pos : String} {af : Array Edge} {g : Option (Nat × Bool)}
theorem popS {x : E} (hq : ∀ Γ σ nx, QOp P TB Γ ⟨some d, op, ty, pos, af, g⟩ (look L) σ nx x) (hg : gval ops ⟨some d, op, ty, pos, af, g⟩ (look L) = some true) (hc : (Nat.beq c 0 || Nat.beq c 2) = true) (h : LexL P TB ops r K ((d, x) :: L) σ nx (killP d pl)) : LexO P TB ops ⟨some d, op, ty, pos, af, g⟩ i c r K L σ nx pl := by
  intro ho
  refine ⟨_, ho, ?_⟩
  unfold St
  have h2 : c = 0 ∨ c = 2 := by
    simp only [Bool.or_eq_true, Nat.beq_eq] at hc; exact hc
  rw [if_neg (by omega), if_neg (by omega)]
  refine ⟨fun S => S.put (some d) x, .inr (.inl ⟨by omega, hg, x, ?_, rfl⟩), ?_⟩
  · split
    · exact hq
    · exact fun Γ => hq Γ σ nx
  · simp only
    rw [put_look]; exact h
theorem popQ {x : E} (hq : ∀ Γ, QOp P TB Γ ⟨some d, op, ty, pos, af, g⟩ (look L) σ nx x) (hg : gval ops ⟨some d, op, ty, pos, af, g⟩ (look L) = some true) (hc : Nat.beq c 0 = true) (h : LexL P TB ops r K ((d, x) :: L) σ nx (killP d pl)) : LexO P TB ops ⟨some d, op, ty, pos, af, g⟩ i c r K L σ nx pl := by
  intro ho
  refine ⟨_, ho, ?_⟩
  unfold St
  have h2 : c = 0 := by simpa using hc
  rw [if_neg (by omega), if_neg (by omega)]
  refine ⟨fun S => S.put (some d) x, .inr (.inl ⟨by omega, hg, x, ?_, rfl⟩), ?_⟩
  · rw [if_neg (by omega)]; exact hq
  · simp only
    rw [put_look]; exact h
theorem popW (h : ∀ Γ, AOp P TB Γ ⟨some d, op, ty, pos, af, g⟩ (look L) σ nx (fun x σ' nx' => LexL P TB ops r K ((d, x) :: L) σ' nx' (killP d pl))) (hg : gval ops ⟨some d, op, ty, pos, af, g⟩ (look L) = some true) (hc : c = 1) : LexO P TB ops ⟨some d, op, ty, pos, af, g⟩ i c r K L σ nx pl := by
  intro ho
  refine ⟨_, ho, ?_⟩
  unfold St
  rw [if_pos hc]
  exact .inr ⟨hg, fun Γ => (h Γ).mono fun x σ' nx' hk => by
    have e : Sta.put ⟨(⟨look L, σ, nx, look pl⟩ : Sta).f, σ', nx', (⟨look L, σ, nx, look pl⟩ : Sta).pd⟩ (some d) x = _ := put_look
    rw [e]; exact hk⟩
theorem popW0 (h : ∀ Γ, AOp P TB Γ ⟨none, op, ty, pos, af, g⟩ (look L) σ nx (fun _ σ' nx' => LexL P TB ops r K L σ' nx' pl)) (hg : gval ops ⟨none, op, ty, pos, af, g⟩ (look L) = some true) (hc : c = 1) : LexO P TB ops ⟨none, op, ty, pos, af, g⟩ i c r K L σ nx pl := by
  intro ho
  refine ⟨_, ho, ?_⟩
  unfold St
  rw [if_pos hc]
  exact .inr ⟨hg, fun Γ => (h Γ).mono fun x σ' nx' hk => by
    have e : Sta.put ⟨(⟨look L, σ, nx, look pl⟩ : Sta).f, σ', nx', (⟨look L, σ, nx, look pl⟩ : Sta).pd⟩ none x = _ := put_none
    rw [e]; exact hk⟩
/-- A new variable, pending. -/
theorem popP {T : TypeId} {z : List Value} [hz : HasZe P T z] (hok : z.all zOk = true) (hf : look L d = none) (hc : c = 3) (h : LexL P TB ops r K L σ nx ((d, (T, z)) :: pl)) : LexO P TB ops ⟨some d, .alloc T, ty, pos, af, none⟩ i c r K L σ nx pl := by
  intro ho
  refine ⟨_, ho, ?_⟩
  unfold St
  rw [if_neg (by omega), if_neg (by omega)]
  refine ⟨fun S => S.pend d (T, z), .inr (.inr ⟨hc, rfl, d, T, z, rfl, rfl, hz.out, hok, hf, rfl⟩), ?_⟩
  have e : Sta.pend ⟨look L, σ, nx, look pl⟩ d (T, z) = ⟨look L, σ, nx, look ((d, (T, z)) :: pl)⟩ := by
    unfold Sta.pend
    congr 1
    funext t
    rw [look_cons]
    by_cases h : t = d
    · subst h; simp
    · simp [h, Ne.symm h]
  simp only
  rw [e]; exact h
/-- The write of a pending variable. -/
theorem popA {t : Tmp} {T : TypeId} {z : List Value} (hp : look pl t = some (T, z)) (ht : (op.operands.any fun x => match x with | .tmp t' => Nat.beq t' t | _ => false) = true) (hg : gval ops ⟨none, op, ty, pos, af, g⟩ (look ((t, .o (.ptr nx z.length 0 0)) :: L)) = some true) (hc : c = 5)
    (h : ∀ Γ, AOp P TB Γ ⟨none, op, ty, pos, af, g⟩ (look ((t, .o (.ptr nx z.length 0 0)) :: L)) ((nx, .cells T z.length [z.map zC]) :: σ) (nx + 1) (fun _ σ' nx' => LexL P TB ops r K ((t, .o (.ptr nx z.length 0 0)) :: L) σ' nx' (killP t pl))) : LexO P TB ops ⟨none, op, ty, pos, af, g⟩ i c r K L σ nx pl := by
  intro ho
  refine ⟨_, ho, ?_⟩
  unfold St
  rw [if_neg (by omega), if_pos hc]
  have e : Sta.ad ⟨look L, σ, nx, look pl⟩ t T z = ⟨look ((t, .o (.ptr nx z.length 0 0)) :: L), (nx, .cells T z.length [z.map zC]) :: σ, nx + 1, look (killP t pl)⟩ := by
    unfold Sta.ad
    rw [fput_look]
    congr 1
    funext t'
    rw [look_killP]
  have hm : .tmp t ∈ op.operands := by
    obtain ⟨i, hi, h1⟩ := Array.any_eq_true.1 ht
    have hx := Array.getElem_mem hi
    generalize op.operands[i] = x at *
    cases x with
    | tmp t' => have : t' = t := by simpa using h1
                rw [← this]; exact hx
    | _ => cases h1
  refine ⟨t, T, z, hm, hp, ?_⟩
  rw [e]
  exact .inr ⟨hg, fun Γ => (h Γ).mono fun x σ' nx' hk => by
    have e2 : Sta.put ⟨(⟨look ((t, .o (.ptr nx z.length 0 0)) :: L), (nx, .cells T z.length [z.map zC]) :: σ, nx + 1, look (killP t pl)⟩ : Sta).f, σ', nx', (⟨look ((t, .o (.ptr nx z.length 0 0)) :: L), (nx, .cells T z.length [z.map zC]) :: σ, nx + 1, look (killP t pl)⟩ : Sta).pd⟩ none x = _ := put_none
    rw [e2]; exact hk⟩
theorem popAS {t : Tmp} {ts : TypeId} {y : Operand} {T : TypeId} {z : List Value} (hp : look pl t = some (T, z)) (hg : gval ops ⟨none, .store ts (.tmp t) y, ty, pos, af, g⟩ (look ((t, .o (.ptr nx z.length 0 0)) :: L)) = some true) (hc : c = 5)
    (h : ∀ Γ, AOp P TB Γ ⟨none, .store ts (.tmp t) y, ty, pos, af, g⟩ (look ((t, .o (.ptr nx z.length 0 0)) :: L)) ((nx, .cells T z.length [z.map zC]) :: σ) (nx + 1) (fun _ σ' nx' => LexL P TB ops r K ((t, .o (.ptr nx z.length 0 0)) :: L) σ' nx' (killP t pl))) : LexO P TB ops ⟨none, .store ts (.tmp t) y, ty, pos, af, g⟩ i c r K L σ nx pl :=
  popA hp (by simp [Op.operands]) hg hc h
theorem popB {b0 : Bool} (hq : ∀ Γ σ nx, QOp P TB Γ ⟨some d, op, ty, pos, af, g⟩ (look L) σ nx (eB b0)) (hg : gval ops ⟨some d, op, ty, pos, af, g⟩ (look L) = some true) (hc : (Nat.beq c 0 || Nat.beq c 2) = true) (h : ∀ b, b0 = b → LexL P TB ops r K ((d, eB b) :: L) σ nx (killP d pl)) : LexO P TB ops ⟨some d, op, ty, pos, af, g⟩ i c r K L σ nx pl := popS hq hg hc (h b0 rfl)
theorem popN {j : Nat} {w : Bool} (hg : gval ops ⟨some d, op, ty, pos, af, some (j, w)⟩ (look L) = some false) (hc : (Nat.beq c 0 || Nat.beq c 2) = true) (h : LexL P TB ops r K ((d, .t []) :: L) σ nx (killP d pl)) : LexO P TB ops ⟨some d, op, ty, pos, af, some (j, w)⟩ i c r K L σ nx pl := by
  intro ho
  refine ⟨_, ho, ?_⟩
  unfold St
  have h2 : c = 0 ∨ c = 2 := by
    simp only [Bool.or_eq_true, Nat.beq_eq] at hc; exact hc
  rw [if_neg (by omega), if_neg (by omega)]
  refine ⟨fun S => S.put (some d) (.t []), .inl ⟨by omega, hg, rfl⟩, ?_⟩
  simp only
  rw [put_look]; exact h
theorem popG {dd : Option Tmp} {j t : Nat} {w b : Bool} (_hd : (ops[j]?).bind (·.dst) = some t) (_hv : look L t = some (eB b))
    (hT : b = true → LexO P TB ops ⟨dd, op, ty, pos, af, some (j, w)⟩ i c r K L σ nx pl) (hF : b = false → LexO P TB ops ⟨dd, op, ty, pos, af, some (j, w)⟩ i c r K L σ nx pl) : LexO P TB ops ⟨dd, op, ty, pos, af, some (j, w)⟩ i c r K L σ nx pl := by
  cases b
  · exact hF rfl
  · exact hT rfl
end
section
variable {P : Program} {TB : List (Nat × Obj)} {ops : Array Oper} {i c : Nat} {r : List (Nat × Nat)} {L : List (Nat × E)} {σ : Store} {nx : Nat} {pl : List (Nat × (TypeId × List Value))} {K : Sta → Prop} {d : Option Tmp} {ty : TypeId} {pos : String} {af : Array Edge} {g : Option (Nat × Bool)}
theorem isMove {x : Operand} (h : LexO P TB ops ⟨d, .move x, ty, pos, af, g⟩ i c r K L σ nx pl) : LexO P TB ops ⟨d, .move x, ty, pos, af, g⟩ i c r K L σ nx pl := h
theorem isAssign {x : Operand} (h : LexO P TB ops ⟨d, .assign x, ty, pos, af, g⟩ i c r K L σ nx pl) : LexO P TB ops ⟨d, .assign x, ty, pos, af, g⟩ i c r K L σ nx pl := h
theorem isPick {a x y : Operand} (h : LexO P TB ops ⟨d, .pick a x y, ty, pos, af, g⟩ i c r K L σ nx pl) : LexO P TB ops ⟨d, .pick a x y, ty, pos, af, g⟩ i c r K L σ nx pl := h
theorem isLoad {t : TypeId} {x : Operand} (h : LexO P TB ops ⟨d, .load t x, ty, pos, af, g⟩ i c r K L σ nx pl) : LexO P TB ops ⟨d, .load t x, ty, pos, af, g⟩ i c r K L σ nx pl := h
theorem isField {t : TypeId} {x : Operand} {k : Nat} (h : LexO P TB ops ⟨d, .fieldAddr t x k, ty, pos, af, g⟩ i c r K L σ nx pl) : LexO P TB ops ⟨d, .fieldAddr t x k, ty, pos, af, g⟩ i c r K L σ nx pl := h
theorem isFieldV {t : TypeId} {x : Operand} {k : Nat} (h : LexO P TB ops ⟨d, .field t x k, ty, pos, af, g⟩ i c r K L σ nx pl) : LexO P TB ops ⟨d, .field t x k, ty, pos, af, g⟩ i c r K L σ nx pl := h
theorem isIx {t : TypeId} {x y : Operand} (h : LexO P TB ops ⟨d, .indexAddr t x y, ty, pos, af, g⟩ i c r K L σ nx pl) : LexO P TB ops ⟨d, .indexAddr t x y, ty, pos, af, g⟩ i c r K L σ nx pl := h
theorem isIxV {t : TypeId} {x y : Operand} (h : LexO P TB ops ⟨d, .index t x y, ty, pos, af, g⟩ i c r K L σ nx pl) : LexO P TB ops ⟨d, .index t x y, ty, pos, af, g⟩ i c r K L σ nx pl := h
theorem isCmp {o : BinOp} {t u : TypeId} {x y : Operand} (h : LexO P TB ops ⟨d, .binOp o t x y u, ty, pos, af, g⟩ i c r K L σ nx pl) : LexO P TB ops ⟨d, .binOp o t x y u, ty, pos, af, g⟩ i c r K L σ nx pl := h
theorem isCall {a : Call} (h : LexO P TB ops ⟨d, .call a, ty, pos, af, g⟩ i c r K L σ nx pl) : LexO P TB ops ⟨d, .call a, ty, pos, af, g⟩ i c r K L σ nx pl := h
theorem isConv {t u : TypeId} {x : Operand} (h : LexO P TB ops ⟨d, .convert t u x, ty, pos, af, g⟩ i c r K L σ nx pl) : LexO P TB ops ⟨d, .convert t u x, ty, pos, af, g⟩ i c r K L σ nx pl := h
theorem isUn {o : UnOp} {t : TypeId} {x : Operand} (h : LexO P TB ops ⟨d, .unOp o t x, ty, pos, af, g⟩ i c r K L σ nx pl) : LexO P TB ops ⟨d, .unOp o t x, ty, pos, af, g⟩ i c r K L σ nx pl := h
theorem isNilc {x : Operand} (h : LexO P TB ops ⟨d, .nilCheck x, ty, pos, af, g⟩ i c r K L σ nx pl) : LexO P TB ops ⟨d, .nilCheck x, ty, pos, af, g⟩ i c r K L σ nx pl := h
theorem isStore {t : TypeId} {x y : Operand} (h : LexO P TB ops ⟨d, .store t x y, ty, pos, af, g⟩ i c r K L σ nx pl) : LexO P TB ops ⟨d, .store t x y, ty, pos, af, g⟩ i c r K L σ nx pl := h
theorem gNone {op : Op} (h : LexO P TB ops ⟨d, op, ty, pos, af, none⟩ i c r K L σ nx pl) : LexO P TB ops ⟨d, op, ty, pos, af, none⟩ i c r K L σ nx pl := h
theorem gTrue {op : Op} {w : Nat × Bool} (_ : gval ops ⟨d, op, ty, pos, af, some w⟩ (look L) = some true) (h : LexO P TB ops ⟨d, op, ty, pos, af, some w⟩ i c r K L σ nx pl) : LexO P TB ops ⟨d, op, ty, pos, af, some w⟩ i c r K L σ nx pl := h
end
end Go.Am.R
/-
  The search for broken properties.
-/
namespace Go.Am
open Go Go.Proofs
set_option linter.unusedSimpArgs false
set_option linter.unusedVariables false
attribute [local irreducible] QOp AOp Lex LexO AWp Spec
variable {TB : List (Nat × Obj)}

theorem tblD_len (a : Aut) : (tblD a).length = a.nx.length := by simp [tblD, rowsF]
def aut0 : Aut := ⟨0, [[]], [true]⟩
theorem aut0_ok : autOk aut0 = true := by decide
theorem gI_N {l : List Sys} {a p : Aut} {ls : List Int} (h : ∀ s ∈ l, sysOk s = true) (hl : l.length ≤ 3) (ha : autOk a = true) (hp : autOk p = true) : ((gI l a p ls).N : Int) = prodI (l.map (·.st)) * a.nx.length * p.nx.length ∧ 1 ≤ (gI l a p ls).N ∧ (gI l a p ls).N ≤ 1048576 := by
  have h1 := prodS_le h hl
  have h2 := auts_len ha
  have h3 := auts_len hp
  have h4 : (gI l a p ls).N = (prodI (l.map (·.st)) * a.nx.length * p.nx.length).toNat := rfl
  have h5 : prodI (l.map (·.st)) * a.nx.length ≤ 4096 * 12 := Int.mul_le_mul h1.2 (by omega) (by omega) (by omega)
  have h6 : 1 * 1 ≤ prodI (l.map (·.st)) * a.nx.length := Int.mul_le_mul h1.1 (by omega) (by omega) (by omega)
  have h7 : prodI (l.map (·.st)) * a.nx.length * p.nx.length ≤ 49152 * 12 := Int.mul_le_mul (by omega) (by omega) (by omega) (by omega)
  have h8 : 1 * 1 ≤ prodI (l.map (·.st)) * a.nx.length * p.nx.length := Int.mul_le_mul (by omega) (by omega) (by omega) (by omega)
  omega
theorem succI_in {l : List Sys} {a p : Aut} (h : ∀ s ∈ l, sysOk s = true) (hl : l.length ≤ 3) (ha : autOk a = true) (hp : autOk p = true) {node letter : Int} (hn : 0 ≤ node) (h0 : 0 ≤ letter) (h1 : letter < 6) : (∀ y ∈ succI l a p node letter, 0 ≤ y ∧ y < prodI (l.map (·.st)) * a.nx.length * p.nx.length) ∧ ((succI l a p node letter).length : Int) ≤ prodI (l.map (·.st)) := by
  have h2 := lowN_in (csP_ok h hl h0 h1 (node / p.nx.length / a.nx.length))
  have h3 := prodS_le h hl
  have h4 := auts_len ha
  have h5 := auts_len hp
  have h6 := restI_in ha hp hn h0 h1
  refine ⟨fun y hy => ?_, by unfold succI; simp; omega⟩
  obtain ⟨o, ho, rfl⟩ := List.mem_map.1 hy
  have h7 := h2.1 o ho
  have e : ∀ o : Int, o * a.nx.length * p.nx.length = o * (a.nx.length * p.nx.length) := fun o => Int.mul_assoc _ _ _
  rw [e, e]
  have h8 : 0 ≤ (a.nx.length : Int) * p.nx.length := Int.mul_nonneg (by omega) (by omega)
  generalize (a.nx.length : Int) * p.nx.length = q at *
  have h9 : 0 ≤ o * q := Int.mul_nonneg h7.1 h8
  have h10 : (o + 1) * q ≤ prodI (l.map (·.st)) * q := Int.mul_le_mul_of_nonneg_right (by omega) h8
  rw [Int.add_mul] at h10
  omega
theorem gI_ok {l : List Sys} {a p : Aut} {x : Int} (h : ∀ s ∈ l, sysOk s = true) (hl : l.length ≤ 3) (ha : autOk a = true) (hp : autOk p = true) : GrOk (gI l a p (letters x)) := by
  have hN := gI_N (ls := letters x) h hl ha hp
  refine ⟨?_, fun y hy m hm z hz => ?_, letters_sorted _ _⟩
  · show 0 ≤ (0 : Int) ∧ (0 : Int) < _
    omega
  · have h1 := lettersTo_in hm
    have h2 := (succI_in h hl ha hp hy.1 h1.1 (by omega)).1 z hz
    omega
theorem firstBroken_ok [Tabs TB] (l : List Sys) (a p : Aut) (h : partsOk l = true) (ha : autOk a = true) (hp : autOk p = true) :
    Pure Tryd.prog TB 55 [eSyss l, .o (.ip (auRow a)), eAut p] (eAns (ansOf (gI l a p (letters (iOr .i64 (palph l) a.al))))) := by
  have hpo := h
  unfold partsOk at hpo
  simp only [Bool.and_eq_true, decide_eq_true_eq, List.all_eq_true] at hpo
  obtain ⟨⟨hl1, hl⟩, hs⟩ := hpo
  have hN := gI_N (ls := letters (iOr .i64 (palph l) a.al)) hs hl ha hp
  have hg := gI_ok (x := iOr .i64 (palph l) a.al) hs hl ha hp
  have hps := prodS_le hs hl
  have han := auts_len ha
  have hpn := auts_len hp
  have hfp : Pure Tryd.prog TB 74 [eI .i64 (prodI (l.map (·.st)) * a.nx.length * p.nx.length), eInts [0], eInts (letters (iOr .i64 (palph l) a.al)), .o (.fn 71 [.ip [.l (tblD a)], .ip [iD p.nx.length], .ip [iD a.nx.length], .ip [.l (tblD p)], .ip (paRow l)]), .o (.fn 73 [.ip [.p (auRow a)], .ip [iD p.nx.length], .ip [iD a.nx.length], .ip (auRow p)])]
      (eAns (ansOf (gI l a p (letters (iOr .i64 (palph l) a.al))))) := by
    rw [← hN.1]
    refine firstPath_ok hg hN.2.2 (fun x hx => by have := lettersTo_in hx; omega) (lettersTo_len _ 6) (fun node x hn hx => ?_) (fun node x outs hn hx ho => ?_) (fun n hn => ?_) rfl (fun r => rfl) (fun r => rfl) (ansOf_is _)
    · have h1 := lettersTo_in hx
      have h2 := (succI_in hs hl ha hp hn.1 h1.1 (by omega)).2
      have h3 : prodI (l.map (·.st)) * 1 ≤ prodI (l.map (·.st)) * a.nx.length := Int.mul_le_mul_of_nonneg_left (by omega) (by omega)
      have h4 : prodI (l.map (·.st)) * a.nx.length * 1 ≤ prodI (l.map (·.st)) * a.nx.length * p.nx.length := Int.mul_le_mul_of_nonneg_left (by omega) (by omega)
      have h5 : (((gI l a p (letters (iOr .i64 (palph l) a.al))).succ node x).length : Int) ≤ prodI (l.map (·.st)) := h2
      omega
    · have h1 := lettersTo_in hx
      exact next1_ok hs hl ha hp node x hn.1 (by omega) h1.1 (by omega) outs ho
    · exact goal2_ok ha hp n hn.1 (by omega)
  have hm1 : 0 ≤ prodI (l.map (·.st)) * a.nx.length ∧ prodI (l.map (·.st)) * a.nx.length ≤ 49152 := ⟨Int.mul_nonneg (by omega) (by omega), by
    have : prodI (l.map (·.st)) * a.nx.length ≤ 4096 * 12 := Int.mul_le_mul hps.2 (by omega) (by omega) (by omega)
    omega⟩
  refine Spec.of Tryd.func55 rfl (by kernel_rfl) (Nat.le_of_ble_eq_true rfl) ?_; intro Γ hΓ
  (repeat (first | (refine popO rfl ?_; first | (refine gA rfl ?_; first | refine yLm rfl rfl ?_ | ((first | refine yQ (md := true) rfl ?_ ?_ | refine yL rfl rfl (by assumption) rfl rfl ?_ ?_ | refine yT rfl rfl (by assumption) rfl ?_ ?_); (first | exact True.intro | omega | (simp only [oA, oB, oC, oD, oE, oF, oG] at *; omega))) | (refine yB rfl ?_; intro _ _hb) | refine yS rfl rfl ?_ | refine yM rfl rfl (by assumption) rfl rfl rfl ?_ | refine yO rfl rfl rfl ?_ | refine yW rfl rfl ?_ | refine yV rfl rfl rfl rfl (by assumption) rfl rfl rfl rfl ?_ ) | refine popN rfl ?_ | (refine yG rfl rfl ?_ ?_ <;> intro hb <;> subst hb)) | refine AWp.seq ?_ | refine reg (by kernel_rfl) ?_ | refine lexE ?_))
  (refine popO rfl ?_; refine popS (fun _ _ => q_boxI rfl rfl rfl) rfl ?_)
  (refine popO rfl ?_; refine popS (fun _ _ => q_boxI rfl rfl rfl) rfl ?_)
  (repeat (first | (refine popO rfl ?_; first | (refine gA rfl ?_; first | refine yLm rfl rfl ?_ | ((first | refine yQ (md := true) rfl ?_ ?_ | refine yL rfl rfl (by assumption) rfl rfl ?_ ?_ | refine yT rfl rfl (by assumption) rfl ?_ ?_); (first | exact True.intro | omega | (simp only [oA, oB, oC, oD, oE, oF, oG] at *; omega))) | (refine yB rfl ?_; intro _ _hb) | refine yS rfl rfl ?_ | refine yM rfl rfl (by assumption) rfl rfl rfl ?_ | refine yO rfl rfl rfl ?_ | refine yW rfl rfl ?_ | refine yV rfl rfl rfl rfl (by assumption) rfl rfl rfl rfl ?_ | refine yP rfl rfl rfl (newParts_ok l hs hl) rfl ?_ | refine yP rfl rfl rfl (implPartsAlphabet_ok l) rfl ?_ ) | refine popN rfl ?_ | (refine yG rfl rfl ?_ ?_ <;> intro hb <;> subst hb)) | refine AWp.seq ?_ | refine reg (by kernel_rfl) ?_ | refine lexE ?_))
  (refine AWp.cond rfl (fun hb => ?_) (fun hb => ?_) <;> cases hb)
  refine AWp.skip ?_
  refine AWp.seq ?_
  refine R.regR [(0,2),(1,2),(2,2),(3,2),(4,2),(5,2),(6,3),(7,3),(8,5),(9,5)] mixed (by kernel_rfl) rfl (by kernel_rfl) ?_
  (repeat (first | (refine R.popO rfl ?_; first | (refine R.gNone ?_; (first | (refine R.isMove ?_; first | refine R.popS (fun _ _ _ => q_move rfl) rfl rfl ?_) | (refine R.isField ?_; first | refine R.popS (fun _ _ _ => q_fieldIp rfl) rfl rfl ?_ | refine R.popS (fun _ _ _ => q_fieldP rfl) rfl rfl ?_) | (refine R.isLoad ?_; first | refine R.popS (fun _ _ _ => q_loadIp rfl) rfl rfl ?_ | refine R.popS (fun _ _ _ => q_loadIpA rfl (Nat.le_of_ble_eq_true rfl)) rfl rfl ?_ | refine R.popQ (fun _ => q_loadP rfl rfl rfl rfl) rfl (by rfl) ?_ | refine R.popQ (fun _ => q_loadPA rfl rfl rfl (Nat.le_of_ble_eq_true rfl)) rfl (by rfl) ?_ | refine R.popQ (fun _ => q_loadP rfl rfl (by assumption) rfl) rfl (by rfl) ?_ | refine R.popQ (fun _ => q_loadPA rfl rfl (by assumption) (Nat.le_of_ble_eq_true rfl)) rfl (by rfl) ?_) | (refine R.isPick ?_; first | refine R.popS (fun _ _ _ => q_pickT rfl rfl) rfl rfl ?_ | refine R.popS (fun _ _ _ => q_pickF rfl rfl) rfl rfl ?_) | (refine R.isCmp ?_; first | (refine R.popB (fun _ _ _ => q_lss rfl rfl) rfl rfl ?_; intro _ _hb) | (refine R.popB (fun _ _ _ => q_leq rfl rfl) rfl rfl ?_; intro _ _hb) | (refine R.popB (fun _ _ _ => q_gtr rfl rfl) rfl rfl ?_; intro _ _hb) | (refine R.popB (fun _ _ _ => q_geq rfl rfl) rfl rfl ?_; intro _ _hb) | (refine R.popB (fun _ _ _ => q_eql rfl rfl) rfl rfl ?_; intro _ _hb) | (refine R.popB (fun _ _ _ => q_neq rfl rfl) rfl rfl ?_; intro _ _hb) | (refine R.popB (fun _ _ _ => q_eqT rfl rfl) rfl rfl ?_; intro _ _hb) | (refine R.popB (fun _ _ _ => q_neT rfl rfl) rfl rfl ?_; intro _ _hb) | (refine R.popB (fun _ _ _ => q_eqB rfl rfl) rfl rfl ?_; intro _ _hb) | (refine R.popB (fun _ _ _ => q_neB rfl rfl) rfl rfl ?_; intro _ _hb) | refine R.popS (fun _ _ _ => q_add rfl rfl (IntWalk.i64_in _ (by first | omega | (simp only [oA, oB, oC, oD, oE, oF, oG] at *; omega)))) rfl rfl ?_ | refine R.popS (fun _ _ _ => q_sub rfl rfl (IntWalk.i64_in _ (by first | omega | (simp only [oA, oB, oC, oD, oE, oF, oG] at *; omega)))) rfl rfl ?_ | refine R.popS (fun _ _ _ => q_mul rfl rfl (IntWalk.i64_in _ (by first | assumption | first | omega | (simp only [oA, oB, oC, oD, oE, oF, oG] at *; omega)))) rfl rfl ?_ | refine R.popS (fun _ _ _ => q_remP rfl rfl (by first | omega | (simp only [oA, oB, oC, oD, oE, oF, oG] at *; omega)) (by first | omega | (simp only [oA, oB, oC, oD, oE, oF, oG] at *; omega))) rfl rfl ?_ | refine R.popS (fun _ _ _ => q_quoP rfl rfl (by first | omega | (simp only [oA, oB, oC, oD, oE, oF, oG] at *; omega)) (by first | omega | (simp only [oA, oB, oC, oD, oE, oF, oG] at *; omega)) (by first | omega | (simp only [oA, oB, oC, oD, oE, oF, oG] at *; omega))) rfl rfl ?_ | refine R.popS (fun _ _ _ => q_shr rfl rfl (by first | omega | (simp only [oA, oB, oC, oD, oE, oF, oG] at *; omega)) rfl) rfl rfl ?_ | refine R.popS (fun _ _ _ => q_and rfl rfl rfl) rfl rfl ?_ | refine R.popS (fun _ _ _ => q_or rfl rfl rfl) rfl rfl ?_ | refine R.popS (fun _ _ _ => q_eqNilIp rfl rfl) rfl rfl ?_ | refine R.popS (fun _ _ _ => q_eqNilNil rfl rfl) rfl rfl ?_ | refine R.popS (fun _ _ _ => q_cat rfl rfl (by first | omega | (simp only [oA, oB, oC, oD, oE, oF, oG] at *; omega))) rfl rfl ?_) | (refine R.isAssign ?_; first | refine R.popS (fun _ _ _ => q_assign rfl) rfl rfl ?_) | (refine R.isCall ?_; first | refine R.popS (fun _ _ _ => q_lenM rfl) rfl rfl ?_ | refine R.popS (fun _ _ _ => q_lenL rfl) rfl rfl ?_ | refine R.popS (fun _ _ _ => q_lenA rfl) rfl rfl ?_ | refine R.popS (fun _ _ _ => q_lenT rfl) rfl rfl ?_ | refine R.popS (fun _ _ _ => q_call rfl rfl rfl (tableOf_ok a ha) rfl) rfl rfl ?_ | refine R.popS (fun _ _ _ => q_call rfl rfl rfl (tableOf_ok p hp) rfl) rfl rfl ?_) | (refine R.isIx ?_; first | refine R.popS (fun _ _ _ => q_indexL rfl rfl (by first | omega | (simp only [oA, oB, oC, oD, oE, oF, oG] at *; omega)) (by assumption) (by rfl)) rfl rfl ?_ | refine R.popS (fun _ _ _ => q_indexA rfl rfl (by first | omega | (simp only [oA, oB, oC, oD, oE, oF, oG] at *; omega)) (by first | omega | (simp only [oA, oB, oC, oD, oE, oF, oG] at *; omega))) rfl rfl ?_ | refine R.popS (fun _ _ _ => q_indexP rfl rfl (by first | omega | (simp only [oA, oB, oC, oD, oE, oF, oG] at *; omega)) (by first | omega | (simp only [oA, oB, oC, oD, oE, oF, oG] at *; omega))) rfl rfl ?_ | refine R.popS (fun _ _ _ => q_indexIp rfl rfl (by first | omega | (simp only [oA, oB, oC, oD, oE, oF, oG] at *; omega)) (by first | omega | (simp only [oA, oB, oC, oD, oE, oF, oG] at *; omega))) rfl rfl ?_) | (refine R.isUn ?_; first | (refine R.popB (fun _ _ _ => q_not rfl) rfl rfl ?_; intro _ _hb)) | (refine R.isIxV ?_; first | refine R.popS (fun _ _ _ => q_indexT rfl rfl (by first | omega | (simp only [oA, oB, oC, oD, oE, oF, oG] at *; omega)) (by assumption)) rfl rfl ?_) | refine R.popS (fun _ _ _ => q_extract rfl rfl) rfl rfl ?_ | (refine R.isFieldV ?_; first | refine R.popS (fun _ _ _ => q_field rfl rfl) rfl rfl ?_ | refine R.popS (fun _ _ _ => q_fieldA rfl (Nat.le_of_ble_eq_true rfl)) rfl rfl ?_) | (refine R.isConv ?_; first | refine R.popS (fun _ _ _ => q_conv rfl (IntWalk.i64_in _ (by first | omega | (simp only [oA, oB, oC, oD, oE, oF, oG] at *; omega)))) rfl rfl ?_ | refine R.popS (fun _ _ _ => q_conv rfl (IntWalk.u64_in _ (by first | omega | (simp only [oA, oB, oC, oD, oE, oF, oG] at *; omega)))) rfl rfl ?_ | refine R.popS (fun _ _ _ => q_conv rfl (IntWalk.u8_in _ (by first | omega | (simp only [oA, oB, oC, oD, oE, oF, oG] at *; omega)))) rfl rfl ?_ | refine R.popS (fun _ _ _ => q_conv rfl (IntWalk.i32_in _ (by first | omega | (simp only [oA, oB, oC, oD, oE, oF, oG] at *; omega)))) rfl rfl ?_) | refine R.popS (fun _ _ _ => q_fn rfl rfl) rfl rfl ?_ | (refine R.isNilc ?_; first | refine R.popS (fun _ _ _ => q_nilIp rfl) rfl rfl ?_ | refine R.popS (fun _ _ _ => q_nilP rfl) rfl rfl ?_ | refine R.popS (fun _ _ _ => q_nilFn rfl) rfl rfl ?_) | refine R.popS (fun _ _ _ => q_sliceI rfl rfl rfl rfl rfl (by rfl) (by rfl) (by rfl) (by rfl) (by rfl)) rfl rfl ?_ | refine R.popS (fun _ _ _ => q_boxI rfl rfl rfl) rfl rfl ?_ | refine R.popP (by rfl) rfl rfl ?_ | (refine R.isStore ?_; first | (refine R.popAS rfl rfl rfl (fun _ => ?_); refine n_store rfl rfl rfl rfl rfl rfl (Nat.le_of_ble_eq_true rfl) ?_) | (refine popW0 ?_ rfl (by rfl); refine n_store rfl rfl rfl rfl (by assumption) rfl (Nat.le_of_ble_eq_true rfl) ?_)))) | refine R.popN rfl rfl ?_ | (refine R.gTrue rfl ?_; (first | (refine R.isMove ?_; first | refine R.popS (fun _ _ _ => q_move rfl) rfl rfl ?_) | (refine R.isField ?_; first | refine R.popS (fun _ _ _ => q_fieldIp rfl) rfl rfl ?_ | refine R.popS (fun _ _ _ => q_fieldP rfl) rfl rfl ?_) | (refine R.isLoad ?_; first | refine R.popS (fun _ _ _ => q_loadIp rfl) rfl rfl ?_ | refine R.popS (fun _ _ _ => q_loadIpA rfl (Nat.le_of_ble_eq_true rfl)) rfl rfl ?_ | refine R.popQ (fun _ => q_loadP rfl rfl rfl rfl) rfl (by rfl) ?_ | refine R.popQ (fun _ => q_loadPA rfl rfl rfl (Nat.le_of_ble_eq_true rfl)) rfl (by rfl) ?_ | refine R.popQ (fun _ => q_loadP rfl rfl (by assumption) rfl) rfl (by rfl) ?_ | refine R.popQ (fun _ => q_loadPA rfl rfl (by assumption) (Nat.le_of_ble_eq_true rfl)) rfl (by rfl) ?_) | (refine R.isPick ?_; first | refine R.popS (fun _ _ _ => q_pickT rfl rfl) rfl rfl ?_ | refine R.popS (fun _ _ _ => q_pickF rfl rfl) rfl rfl ?_) | (refine R.isCmp ?_; first | (refine R.popB (fun _ _ _ => q_lss rfl rfl) rfl rfl ?_; intro _ _hb) | (refine R.popB (fun _ _ _ => q_leq rfl rfl) rfl rfl ?_; intro _ _hb) | (refine R.popB (fun _ _ _ => q_gtr rfl rfl) rfl rfl ?_; intro _ _hb) | (refine R.popB (fun _ _ _ => q_geq rfl rfl) rfl rfl ?_; intro _ _hb) | (refine R.popB (fun _ _ _ => q_eql rfl rfl) rfl rfl ?_; intro _ _hb) | (refine R.popB (fun _ _ _ => q_neq rfl rfl) rfl rfl ?_; intro _ _hb) | (refine R.popB (fun _ _ _ => q_eqT rfl rfl) rfl rfl ?_; intro _ _hb) | (refine R.popB (fun _ _ _ => q_neT rfl rfl) rfl rfl ?_; intro _ _hb) | (refine R.popB (fun _ _ _ => q_eqB rfl rfl) rfl rfl ?_; intro _ _hb) | (refine R.popB (fun _ _ _ => q_neB rfl rfl) rfl rfl ?_; intro _ _hb) | refine R.popS (fun _ _ _ => q_add rfl rfl (IntWalk.i64_in _ (by first | omega | (simp only [oA, oB, oC, oD, oE, oF, oG] at *; omega)))) rfl rfl ?_ | refine R.popS (fun _ _ _ => q_sub rfl rfl (IntWalk.i64_in _ (by first | omega | (simp only [oA, oB, oC, oD, oE, oF, oG] at *; omega)))) rfl rfl ?_ | refine R.popS (fun _ _ _ => q_mul rfl rfl (IntWalk.i64_in _ (by first | assumption | first | omega | (simp only [oA, oB, oC, oD, oE, oF, oG] at *; omega)))) rfl rfl ?_ | refine R.popS (fun _ _ _ => q_remP rfl rfl (by first | omega | (simp only [oA, oB, oC, oD, oE, oF, oG] at *; omega)) (by first | omega | (simp only [oA, oB, oC, oD, oE, oF, oG] at *; omega))) rfl rfl ?_ | refine R.popS (fun _ _ _ => q_quoP rfl rfl (by first | omega | (simp only [oA, oB, oC, oD, oE, oF, oG] at *; omega)) (by first | omega | (simp only [oA, oB, oC, oD, oE, oF, oG] at *; omega)) (by first | omega | (simp only [oA, oB, oC, oD, oE, oF, oG] at *; omega))) rfl rfl ?_ | refine R.popS (fun _ _ _ => q_shr rfl rfl (by first | omega | (simp only [oA, oB, oC, oD, oE, oF, oG] at *; omega)) rfl) rfl rfl ?_ | refine R.popS (fun _ _ _ => q_and rfl rfl rfl) rfl rfl ?_ | refine R.popS (fun _ _ _ => q_or rfl rfl rfl) rfl rfl ?_ | refine R.popS (fun _ _ _ => q_eqNilIp rfl rfl) rfl rfl ?_ | refine R.popS (fun _ _ _ => q_eqNilNil rfl rfl) rfl rfl ?_ | refine R.popS (fun _ _ _ => q_cat rfl rfl (by first | omega | (simp only [oA, oB, oC, oD, oE, oF, oG] at *; omega))) rfl rfl ?_) | (refine R.isAssign ?_; first | refine R.popS (fun _ _ _ => q_assign rfl) rfl rfl ?_) | (refine R.isCall ?_; first | refine R.popS (fun _ _ _ => q_lenM rfl) rfl rfl ?_ | refine R.popS (fun _ _ _ => q_lenL rfl) rfl rfl ?_ | refine R.popS (fun _ _ _ => q_lenA rfl) rfl rfl ?_ | refine R.popS (fun _ _ _ => q_lenT rfl) rfl rfl ?_ | refine R.popS (fun _ _ _ => q_call rfl rfl rfl (tableOf_ok a ha) rfl) rfl rfl ?_ | refine R.popS (fun _ _ _ => q_call rfl rfl rfl (tableOf_ok p hp) rfl) rfl rfl ?_) | (refine R.isIx ?_; first | refine R.popS (fun _ _ _ => q_indexL rfl rfl (by first | omega | (simp only [oA, oB, oC, oD, oE, oF, oG] at *; omega)) (by assumption) (by rfl)) rfl rfl ?_ | refine R.popS (fun _ _ _ => q_indexA rfl rfl (by first | omega | (simp only [oA, oB, oC, oD, oE, oF, oG] at *; omega)) (by first | omega | (simp only [oA, oB, oC, oD, oE, oF, oG] at *; omega))) rfl rfl ?_ | refine R.popS (fun _ _ _ => q_indexP rfl rfl (by first | omega | (simp only [oA, oB, oC, oD, oE, oF, oG] at *; omega)) (by first | omega | (simp only [oA, oB, oC, oD, oE, oF, oG] at *; omega))) rfl rfl ?_ | refine R.popS (fun _ _ _ => q_indexIp rfl rfl (by first | omega | (simp only [oA, oB, oC, oD, oE, oF, oG] at *; omega)) (by first | omega | (simp only [oA, oB, oC, oD, oE, oF, oG] at *; omega))) rfl rfl ?_) | (refine R.isUn ?_; first | (refine R.popB (fun _ _ _ => q_not rfl) rfl rfl ?_; intro _ _hb)) | (refine R.isIxV ?_; first | refine R.popS (fun _ _ _ => q_indexT rfl rfl (by first | omega | (simp only [oA, oB, oC, oD, oE, oF, oG] at *; omega)) (by assumption)) rfl rfl ?_) | refine R.popS (fun _ _ _ => q_extract rfl rfl) rfl rfl ?_ | (refine R.isFieldV ?_; first | refine R.popS (fun _ _ _ => q_field rfl rfl) rfl rfl ?_ | refine R.popS (fun _ _ _ => q_fieldA rfl (Nat.le_of_ble_eq_true rfl)) rfl rfl ?_) | (refine R.isConv ?_; first | refine R.popS (fun _ _ _ => q_conv rfl (IntWalk.i64_in _ (by first | omega | (simp only [oA, oB, oC, oD, oE, oF, oG] at *; omega)))) rfl rfl ?_ | refine R.popS (fun _ _ _ => q_conv rfl (IntWalk.u64_in _ (by first | omega | (simp only [oA, oB, oC, oD, oE, oF, oG] at *; omega)))) rfl rfl ?_ | refine R.popS (fun _ _ _ => q_conv rfl (IntWalk.u8_in _ (by first | omega | (simp only [oA, oB, oC, oD, oE, oF, oG] at *; omega)))) rfl rfl ?_ | refine R.popS (fun _ _ _ => q_conv rfl (IntWalk.i32_in _ (by first | omega | (simp only [oA, oB, oC, oD, oE, oF, oG] at *; omega)))) rfl rfl ?_) | refine R.popS (fun _ _ _ => q_fn rfl rfl) rfl rfl ?_ | (refine R.isNilc ?_; first | refine R.popS (fun _ _ _ => q_nilIp rfl) rfl rfl ?_ | refine R.popS (fun _ _ _ => q_nilP rfl) rfl rfl ?_ | refine R.popS (fun _ _ _ => q_nilFn rfl) rfl rfl ?_) | refine R.popS (fun _ _ _ => q_sliceI rfl rfl rfl rfl rfl (by rfl) (by rfl) (by rfl) (by rfl) (by rfl)) rfl rfl ?_ | refine R.popS (fun _ _ _ => q_boxI rfl rfl rfl) rfl rfl ?_ | refine R.popP (by rfl) rfl rfl ?_ | (refine R.isStore ?_; first | (refine R.popAS rfl rfl rfl (fun _ => ?_); refine n_store rfl rfl rfl rfl rfl rfl (Nat.le_of_ble_eq_true rfl) ?_) | (refine popW0 ?_ rfl (by rfl); refine n_store rfl rfl rfl rfl (by assumption) rfl (Nat.le_of_ble_eq_true rfl) ?_)))) | (refine R.popG rfl rfl ?_ ?_ <;> intro hb <;> cases hb <;> first | refine R.popN rfl rfl ?_ | (first | (refine R.isMove ?_; first | refine R.popS (fun _ _ _ => q_move rfl) rfl rfl ?_) | (refine R.isField ?_; first | refine R.popS (fun _ _ _ => q_fieldIp rfl) rfl rfl ?_ | refine R.popS (fun _ _ _ => q_fieldP rfl) rfl rfl ?_) | (refine R.isLoad ?_; first | refine R.popS (fun _ _ _ => q_loadIp rfl) rfl rfl ?_ | refine R.popS (fun _ _ _ => q_loadIpA rfl (Nat.le_of_ble_eq_true rfl)) rfl rfl ?_ | refine R.popQ (fun _ => q_loadP rfl rfl rfl rfl) rfl (by rfl) ?_ | refine R.popQ (fun _ => q_loadPA rfl rfl rfl (Nat.le_of_ble_eq_true rfl)) rfl (by rfl) ?_ | refine R.popQ (fun _ => q_loadP rfl rfl (by assumption) rfl) rfl (by rfl) ?_ | refine R.popQ (fun _ => q_loadPA rfl rfl (by assumption) (Nat.le_of_ble_eq_true rfl)) rfl (by rfl) ?_) | (refine R.isPick ?_; first | refine R.popS (fun _ _ _ => q_pickT rfl rfl) rfl rfl ?_ | refine R.popS (fun _ _ _ => q_pickF rfl rfl) rfl rfl ?_) | (refine R.isCmp ?_; first | (refine R.popB (fun _ _ _ => q_lss rfl rfl) rfl rfl ?_; intro _ _hb) | (refine R.popB (fun _ _ _ => q_leq rfl rfl) rfl rfl ?_; intro _ _hb) | (refine R.popB (fun _ _ _ => q_gtr rfl rfl) rfl rfl ?_; intro _ _hb) | (refine R.popB (fun _ _ _ => q_geq rfl rfl) rfl rfl ?_; intro _ _hb) | (refine R.popB (fun _ _ _ => q_eql rfl rfl) rfl rfl ?_; intro _ _hb) | (refine R.popB (fun _ _ _ => q_neq rfl rfl) rfl rfl ?_; intro _ _hb) | (refine R.popB (fun _ _ _ => q_eqT rfl rfl) rfl rfl ?_; intro _ _hb) | (refine R.popB (fun _ _ _ => q_neT rfl rfl) rfl rfl ?_; intro _ _hb) | (refine R.popB (fun _ _ _ => q_eqB rfl rfl) rfl rfl ?_; intro _ _hb) | (refine R.popB (fun _ _ _ => q_neB rfl rfl) rfl rfl ?_; intro _ _hb) | refine R.popS (fun _ _ _ => q_add rfl rfl (IntWalk.i64_in _ (by first | omega | (simp only [oA, oB, oC, oD, oE, oF, oG] at *; omega)))) rfl rfl ?_ | refine R.popS (fun _ _ _ => q_sub rfl rfl (IntWalk.i64_in _ (by first | omega | (simp only [oA, oB, oC, oD, oE, oF, oG] at *; omega)))) rfl rfl ?_ | refine R.popS (fun _ _ _ => q_mul rfl rfl (IntWalk.i64_in _ (by first | assumption | first | omega | (simp only [oA, oB, oC, oD, oE, oF, oG] at *; omega)))) rfl rfl ?_ | refine R.popS (fun _ _ _ => q_remP rfl rfl (by first | omega | (simp only [oA, oB, oC, oD, oE, oF, oG] at *; omega)) (by first | omega | (simp only [oA, oB, oC, oD, oE, oF, oG] at *; omega))) rfl rfl ?_ | refine R.popS (fun _ _ _ => q_quoP rfl rfl (by first | omega | (simp only [oA, oB, oC, oD, oE, oF, oG] at *; omega)) (by first | omega | (simp only [oA, oB, oC, oD, oE, oF, oG] at *; omega)) (by first | omega | (simp only [oA, oB, oC, oD, oE, oF, oG] at *; omega))) rfl rfl ?_ | refine R.popS (fun _ _ _ => q_shr rfl rfl (by first | omega | (simp only [oA, oB, oC, oD, oE, oF, oG] at *; omega)) rfl) rfl rfl ?_ | refine R.popS (fun _ _ _ => q_and rfl rfl rfl) rfl rfl ?_ | refine R.popS (fun _ _ _ => q_or rfl rfl rfl) rfl rfl ?_ | refine R.popS (fun _ _ _ => q_eqNilIp rfl rfl) rfl rfl ?_ | refine R.popS (fun _ _ _ => q_eqNilNil rfl rfl) rfl rfl ?_ | refine R.popS (fun _ _ _ => q_cat rfl rfl (by first | omega | (simp only [oA, oB, oC, oD, oE, oF, oG] at *; omega))) rfl rfl ?_) | (refine R.isAssign ?_; first | refine R.popS (fun _ _ _ => q_assign rfl) rfl rfl ?_) | (refine R.isCall ?_; first | refine R.popS (fun _ _ _ => q_lenM rfl) rfl rfl ?_ | refine R.popS (fun _ _ _ => q_lenL rfl) rfl rfl ?_ | refine R.popS (fun _ _ _ => q_lenA rfl) rfl rfl ?_ | refine R.popS (fun _ _ _ => q_lenT rfl) rfl rfl ?_ | refine R.popS (fun _ _ _ => q_call rfl rfl rfl (tableOf_ok a ha) rfl) rfl rfl ?_ | refine R.popS (fun _ _ _ => q_call rfl rfl rfl (tableOf_ok p hp) rfl) rfl rfl ?_) | (refine R.isIx ?_; first | refine R.popS (fun _ _ _ => q_indexL rfl rfl (by first | omega | (simp only [oA, oB, oC, oD, oE, oF, oG] at *; omega)) (by assumption) (by rfl)) rfl rfl ?_ | refine R.popS (fun _ _ _ => q_indexA rfl rfl (by first | omega | (simp only [oA, oB, oC, oD, oE, oF, oG] at *; omega)) (by first | omega | (simp only [oA, oB, oC, oD, oE, oF, oG] at *; omega))) rfl rfl ?_ | refine R.popS (fun _ _ _ => q_indexP rfl rfl (by first | omega | (simp only [oA, oB, oC, oD, oE, oF, oG] at *; omega)) (by first | omega | (simp only [oA, oB, oC, oD, oE, oF, oG] at *; omega))) rfl rfl ?_ | refine R.popS (fun _ _ _ => q_indexIp rfl rfl (by first | omega | (simp only [oA, oB, oC, oD, oE, oF, oG] at *; omega)) (by first | omega | (simp only [oA, oB, oC, oD, oE, oF, oG] at *; omega))) rfl rfl ?_) | (refine R.isUn ?_; first | (refine R.popB (fun _ _ _ => q_not rfl) rfl rfl ?_; intro _ _hb)) | (refine R.isIxV ?_; first | refine R.popS (fun _ _ _ => q_indexT rfl rfl (by first | omega | (simp only [oA, oB, oC, oD, oE, oF, oG] at *; omega)) (by assumption)) rfl rfl ?_) | refine R.popS (fun _ _ _ => q_extract rfl rfl) rfl rfl ?_ | (refine R.isFieldV ?_; first | refine R.popS (fun _ _ _ => q_field rfl rfl) rfl rfl ?_ | refine R.popS (fun _ _ _ => q_fieldA rfl (Nat.le_of_ble_eq_true rfl)) rfl rfl ?_) | (refine R.isConv ?_; first | refine R.popS (fun _ _ _ => q_conv rfl (IntWalk.i64_in _ (by first | omega | (simp only [oA, oB, oC, oD, oE, oF, oG] at *; omega)))) rfl rfl ?_ | refine R.popS (fun _ _ _ => q_conv rfl (IntWalk.u64_in _ (by first | omega | (simp only [oA, oB, oC, oD, oE, oF, oG] at *; omega)))) rfl rfl ?_ | refine R.popS (fun _ _ _ => q_conv rfl (IntWalk.u8_in _ (by first | omega | (simp only [oA, oB, oC, oD, oE, oF, oG] at *; omega)))) rfl rfl ?_ | refine R.popS (fun _ _ _ => q_conv rfl (IntWalk.i32_in _ (by first | omega | (simp only [oA, oB, oC, oD, oE, oF, oG] at *; omega)))) rfl rfl ?_) | refine R.popS (fun _ _ _ => q_fn rfl rfl) rfl rfl ?_ | (refine R.isNilc ?_; first | refine R.popS (fun _ _ _ => q_nilIp rfl) rfl rfl ?_ | refine R.popS (fun _ _ _ => q_nilP rfl) rfl rfl ?_ | refine R.popS (fun _ _ _ => q_nilFn rfl) rfl rfl ?_) | refine R.popS (fun _ _ _ => q_sliceI rfl rfl rfl rfl rfl (by rfl) (by rfl) (by rfl) (by rfl) (by rfl)) rfl rfl ?_ | refine R.popS (fun _ _ _ => q_boxI rfl rfl rfl) rfl rfl ?_ | refine R.popP (by rfl) rfl rfl ?_ | (refine R.isStore ?_; first | (refine R.popAS rfl rfl rfl (fun _ => ?_); refine n_store rfl rfl rfl rfl rfl rfl (Nat.le_of_ble_eq_true rfl) ?_) | (refine popW0 ?_ rfl (by rfl); refine n_store rfl rfl rfl rfl (by assumption) rfl (Nat.le_of_ble_eq_true rfl) ?_)))))))
  refine R.lexQ ?_
  refine AWp.seq ?_
  refine AWp.freeze [0, 1, 2] [(4, .o (.ip [.p (auRow a)])), (5, .o (.ip (auRow p))), (8, .o (.ip (paRow l))), (9, eI .i64 (palph l)), (10, .o (.ip [.l (tblD a)])), (11, .o (.ip [.l (tblD p)]))] ⟨⟨_, rfl, .keep⟩, ⟨_, rfl, .keep⟩, ⟨_, rfl, .o (.ptr (by simp) rfl rfl rfl)⟩, ⟨_, rfl, .keep⟩, ⟨_, rfl, .o (.ptr (by simp) rfl rfl rfl)⟩, ⟨_, rfl, .o (.ptr (by simp) rfl rfl rfl)⟩, trivial⟩ ?_
  refine R.regR [(0,2),(1,2),(2,2),(3,2),(4,3),(5,3),(6,5),(7,5)] mixed (by kernel_rfl) rfl (by kernel_rfl) ?_
  (repeat (first | (refine R.popO rfl ?_; first | (refine R.gNone ?_; (first | (refine R.isMove ?_; first | refine R.popS (fun _ _ _ => q_move rfl) rfl rfl ?_) | (refine R.isField ?_; first | refine R.popS (fun _ _ _ => q_fieldIp rfl) rfl rfl ?_ | refine R.popS (fun _ _ _ => q_fieldP rfl) rfl rfl ?_) | (refine R.isLoad ?_; first | refine R.popS (fun _ _ _ => q_loadIp rfl) rfl rfl ?_ | refine R.popS (fun _ _ _ => q_loadIpA rfl (Nat.le_of_ble_eq_true rfl)) rfl rfl ?_ | refine R.popQ (fun _ => q_loadP rfl rfl rfl rfl) rfl (by rfl) ?_ | refine R.popQ (fun _ => q_loadPA rfl rfl rfl (Nat.le_of_ble_eq_true rfl)) rfl (by rfl) ?_ | refine R.popQ (fun _ => q_loadP rfl rfl (by assumption) rfl) rfl (by rfl) ?_ | refine R.popQ (fun _ => q_loadPA rfl rfl (by assumption) (Nat.le_of_ble_eq_true rfl)) rfl (by rfl) ?_) | (refine R.isPick ?_; first | refine R.popS (fun _ _ _ => q_pickT rfl rfl) rfl rfl ?_ | refine R.popS (fun _ _ _ => q_pickF rfl rfl) rfl rfl ?_) | (refine R.isCmp ?_; first | (refine R.popB (fun _ _ _ => q_lss rfl rfl) rfl rfl ?_; intro _ _hb) | (refine R.popB (fun _ _ _ => q_leq rfl rfl) rfl rfl ?_; intro _ _hb) | (refine R.popB (fun _ _ _ => q_gtr rfl rfl) rfl rfl ?_; intro _ _hb) | (refine R.popB (fun _ _ _ => q_geq rfl rfl) rfl rfl ?_; intro _ _hb) | (refine R.popB (fun _ _ _ => q_eql rfl rfl) rfl rfl ?_; intro _ _hb) | (refine R.popB (fun _ _ _ => q_neq rfl rfl) rfl rfl ?_; intro _ _hb) | (refine R.popB (fun _ _ _ => q_eqT rfl rfl) rfl rfl ?_; intro _ _hb) | (refine R.popB (fun _ _ _ => q_neT rfl rfl) rfl rfl ?_; intro _ _hb) | (refine R.popB (fun _ _ _ => q_eqB rfl rfl) rfl rfl ?_; intro _ _hb) | (refine R.popB (fun _ _ _ => q_neB rfl rfl) rfl rfl ?_; intro _ _hb) | refine R.popS (fun _ _ _ => q_add rfl rfl (IntWalk.i64_in _ (by first | omega | (simp only [oA, oB, oC, oD, oE, oF, oG] at *; omega)))) rfl rfl ?_ | refine R.popS (fun _ _ _ => q_sub rfl rfl (IntWalk.i64_in _ (by first | omega | (simp only [oA, oB, oC, oD, oE, oF, oG] at *; omega)))) rfl rfl ?_ | refine R.popS (fun _ _ _ => q_mul rfl rfl (IntWalk.i64_in _ (by first | assumption | first | omega | (simp only [oA, oB, oC, oD, oE, oF, oG] at *; omega)))) rfl rfl ?_ | refine R.popS (fun _ _ _ => q_remP rfl rfl (by first | omega | (simp only [oA, oB, oC, oD, oE, oF, oG] at *; omega)) (by first | omega | (simp only [oA, oB, oC, oD, oE, oF, oG] at *; omega))) rfl rfl ?_ | refine R.popS (fun _ _ _ => q_quoP rfl rfl (by first | omega | (simp only [oA, oB, oC, oD, oE, oF, oG] at *; omega)) (by first | omega | (simp only [oA, oB, oC, oD, oE, oF, oG] at *; omega)) (by first | omega | (simp only [oA, oB, oC, oD, oE, oF, oG] at *; omega))) rfl rfl ?_ | refine R.popS (fun _ _ _ => q_shr rfl rfl (by first | omega | (simp only [oA, oB, oC, oD, oE, oF, oG] at *; omega)) rfl) rfl rfl ?_ | refine R.popS (fun _ _ _ => q_and rfl rfl rfl) rfl rfl ?_ | refine R.popS (fun _ _ _ => q_or rfl rfl rfl) rfl rfl ?_ | refine R.popS (fun _ _ _ => q_eqNilIp rfl rfl) rfl rfl ?_ | refine R.popS (fun _ _ _ => q_eqNilNil rfl rfl) rfl rfl ?_ | refine R.popS (fun _ _ _ => q_cat rfl rfl (by first | omega | (simp only [oA, oB, oC, oD, oE, oF, oG] at *; omega))) rfl rfl ?_) | (refine R.isAssign ?_; first | refine R.popS (fun _ _ _ => q_assign rfl) rfl rfl ?_) | (refine R.isCall ?_; first | refine R.popS (fun _ _ _ => q_lenM rfl) rfl rfl ?_ | refine R.popS (fun _ _ _ => q_lenL rfl) rfl rfl ?_ | refine R.popS (fun _ _ _ => q_lenA rfl) rfl rfl ?_ | refine R.popS (fun _ _ _ => q_lenT rfl) rfl rfl ?_ ) | (refine R.isIx ?_; first | refine R.popS (fun _ _ _ => q_indexL rfl rfl (by first | omega | (simp only [oA, oB, oC, oD, oE, oF, oG] at *; omega)) (by assumption) (by rfl)) rfl rfl ?_ | refine R.popS (fun _ _ _ => q_indexA rfl rfl (by first | omega | (simp only [oA, oB, oC, oD, oE, oF, oG] at *; omega)) (by first | omega | (simp only [oA, oB, oC, oD, oE, oF, oG] at *; omega))) rfl rfl ?_ | refine R.popS (fun _ _ _ => q_indexP rfl rfl (by first | omega | (simp only [oA, oB, oC, oD, oE, oF, oG] at *; omega)) (by first | omega | (simp only [oA, oB, oC, oD, oE, oF, oG] at *; omega))) rfl rfl ?_ | refine R.popS (fun _ _ _ => q_indexIp rfl rfl (by first | omega | (simp only [oA, oB, oC, oD, oE, oF, oG] at *; omega)) (by first | omega | (simp only [oA, oB, oC, oD, oE, oF, oG] at *; omega))) rfl rfl ?_) | (refine R.isUn ?_; first | (refine R.popB (fun _ _ _ => q_not rfl) rfl rfl ?_; intro _ _hb)) | (refine R.isIxV ?_; first | refine R.popS (fun _ _ _ => q_indexT rfl rfl (by first | omega | (simp only [oA, oB, oC, oD, oE, oF, oG] at *; omega)) (by assumption)) rfl rfl ?_) | refine R.popS (fun _ _ _ => q_extract rfl rfl) rfl rfl ?_ | (refine R.isFieldV ?_; first | refine R.popS (fun _ _ _ => q_field rfl rfl) rfl rfl ?_ | refine R.popS (fun _ _ _ => q_fieldA rfl (Nat.le_of_ble_eq_true rfl)) rfl rfl ?_) | (refine R.isConv ?_; first | refine R.popS (fun _ _ _ => q_conv rfl (IntWalk.i64_in _ (by first | omega | (simp only [oA, oB, oC, oD, oE, oF, oG] at *; omega)))) rfl rfl ?_ | refine R.popS (fun _ _ _ => q_conv rfl (IntWalk.u64_in _ (by first | omega | (simp only [oA, oB, oC, oD, oE, oF, oG] at *; omega)))) rfl rfl ?_ | refine R.popS (fun _ _ _ => q_conv rfl (IntWalk.u8_in _ (by first | omega | (simp only [oA, oB, oC, oD, oE, oF, oG] at *; omega)))) rfl rfl ?_ | refine R.popS (fun _ _ _ => q_conv rfl (IntWalk.i32_in _ (by first | omega | (simp only [oA, oB, oC, oD, oE, oF, oG] at *; omega)))) rfl rfl ?_) | refine R.popS (fun _ _ _ => q_fn rfl rfl) rfl rfl ?_ | (refine R.isNilc ?_; first | refine R.popS (fun _ _ _ => q_nilIp rfl) rfl rfl ?_ | refine R.popS (fun _ _ _ => q_nilP rfl) rfl rfl ?_ | refine R.popS (fun _ _ _ => q_nilFn rfl) rfl rfl ?_) | refine R.popS (fun _ _ _ => q_sliceI rfl rfl rfl rfl rfl (by rfl) (by rfl) (by rfl) (by rfl) (by rfl)) rfl rfl ?_ | refine R.popS (fun _ _ _ => q_boxI rfl rfl rfl) rfl rfl ?_ | refine R.popP (by rfl) rfl rfl ?_ | (refine R.isStore ?_; first | (refine R.popAS rfl rfl rfl (fun _ => ?_); refine n_store rfl rfl rfl rfl rfl rfl (Nat.le_of_ble_eq_true rfl) ?_) | (refine popW0 ?_ rfl (by rfl); refine n_store rfl rfl rfl rfl (by assumption) rfl (Nat.le_of_ble_eq_true rfl) ?_)))) | refine R.popN rfl rfl ?_ | (refine R.gTrue rfl ?_; (first | (refine R.isMove ?_; first | refine R.popS (fun _ _ _ => q_move rfl) rfl rfl ?_) | (refine R.isField ?_; first | refine R.popS (fun _ _ _ => q_fieldIp rfl) rfl rfl ?_ | refine R.popS (fun _ _ _ => q_fieldP rfl) rfl rfl ?_) | (refine R.isLoad ?_; first | refine R.popS (fun _ _ _ => q_loadIp rfl) rfl rfl ?_ | refine R.popS (fun _ _ _ => q_loadIpA rfl (Nat.le_of_ble_eq_true rfl)) rfl rfl ?_ | refine R.popQ (fun _ => q_loadP rfl rfl rfl rfl) rfl (by rfl) ?_ | refine R.popQ (fun _ => q_loadPA rfl rfl rfl (Nat.le_of_ble_eq_true rfl)) rfl (by rfl) ?_ | refine R.popQ (fun _ => q_loadP rfl rfl (by assumption) rfl) rfl (by rfl) ?_ | refine R.popQ (fun _ => q_loadPA rfl rfl (by assumption) (Nat.le_of_ble_eq_true rfl)) rfl (by rfl) ?_) | (refine R.isPick ?_; first | refine R.popS (fun _ _ _ => q_pickT rfl rfl) rfl rfl ?_ | refine R.popS (fun _ _ _ => q_pickF rfl rfl) rfl rfl ?_) | (refine R.isCmp ?_; first | (refine R.popB (fun _ _ _ => q_lss rfl rfl) rfl rfl ?_; intro _ _hb) | (refine R.popB (fun _ _ _ => q_leq rfl rfl) rfl rfl ?_; intro _ _hb) | (refine R.popB (fun _ _ _ => q_gtr rfl rfl) rfl rfl ?_; intro _ _hb) | (refine R.popB (fun _ _ _ => q_geq rfl rfl) rfl rfl ?_; intro _ _hb) | (refine R.popB (fun _ _ _ => q_eql rfl rfl) rfl rfl ?_; intro _ _hb) | (refine R.popB (fun _ _ _ => q_neq rfl rfl) rfl rfl ?_; intro _ _hb) | (refine R.popB (fun _ _ _ => q_eqT rfl rfl) rfl rfl ?_; intro _ _hb) | (refine R.popB (fun _ _ _ => q_neT rfl rfl) rfl rfl ?_; intro _ _hb) | (refine R.popB (fun _ _ _ => q_eqB rfl rfl) rfl rfl ?_; intro _ _hb) | (refine R.popB (fun _ _ _ => q_neB rfl rfl) rfl rfl ?_; intro _ _hb) | refine R.popS (fun _ _ _ => q_add rfl rfl (IntWalk.i64_in _ (by first | omega | (simp only [oA, oB, oC, oD, oE, oF, oG] at *; omega)))) rfl rfl ?_ | refine R.popS (fun _ _ _ => q_sub rfl rfl (IntWalk.i64_in _ (by first | omega | (simp only [oA, oB, oC, oD, oE, oF, oG] at *; omega)))) rfl rfl ?_ | refine R.popS (fun _ _ _ => q_mul rfl rfl (IntWalk.i64_in _ (by first | assumption | first | omega | (simp only [oA, oB, oC, oD, oE, oF, oG] at *; omega)))) rfl rfl ?_ | refine R.popS (fun _ _ _ => q_remP rfl rfl (by first | omega | (simp only [oA, oB, oC, oD, oE, oF, oG] at *; omega)) (by first | omega | (simp only [oA, oB, oC, oD, oE, oF, oG] at *; omega))) rfl rfl ?_ | refine R.popS (fun _ _ _ => q_quoP rfl rfl (by first | omega | (simp only [oA, oB, oC, oD, oE, oF, oG] at *; omega)) (by first | omega | (simp only [oA, oB, oC, oD, oE, oF, oG] at *; omega)) (by first | omega | (simp only [oA, oB, oC, oD, oE, oF, oG] at *; omega))) rfl rfl ?_ | refine R.popS (fun _ _ _ => q_shr rfl rfl (by first | omega | (simp only [oA, oB, oC, oD, oE, oF, oG] at *; omega)) rfl) rfl rfl ?_ | refine R.popS (fun _ _ _ => q_and rfl rfl rfl) rfl rfl ?_ | refine R.popS (fun _ _ _ => q_or rfl rfl rfl) rfl rfl ?_ | refine R.popS (fun _ _ _ => q_eqNilIp rfl rfl) rfl rfl ?_ | refine R.popS (fun _ _ _ => q_eqNilNil rfl rfl) rfl rfl ?_ | refine R.popS (fun _ _ _ => q_cat rfl rfl (by first | omega | (simp only [oA, oB, oC, oD, oE, oF, oG] at *; omega))) rfl rfl ?_) | (refine R.isAssign ?_; first | refine R.popS (fun _ _ _ => q_assign rfl) rfl rfl ?_) | (refine R.isCall ?_; first | refine R.popS (fun _ _ _ => q_lenM rfl) rfl rfl ?_ | refine R.popS (fun _ _ _ => q_lenL rfl) rfl rfl ?_ | refine R.popS (fun _ _ _ => q_lenA rfl) rfl rfl ?_ | refine R.popS (fun _ _ _ => q_lenT rfl) rfl rfl ?_ ) | (refine R.isIx ?_; first | refine R.popS (fun _ _ _ => q_indexL rfl rfl (by first | omega | (simp only [oA, oB, oC, oD, oE, oF, oG] at *; omega)) (by assumption) (by rfl)) rfl rfl ?_ | refine R.popS (fun _ _ _ => q_indexA rfl rfl (by first | omega | (simp only [oA, oB, oC, oD, oE, oF, oG] at *; omega)) (by first | omega | (simp only [oA, oB, oC, oD, oE, oF, oG] at *; omega))) rfl rfl ?_ | refine R.popS (fun _ _ _ => q_indexP rfl rfl (by first | omega | (simp only [oA, oB, oC, oD, oE, oF, oG] at *; omega)) (by first | omega | (simp only [oA, oB, oC, oD, oE, oF, oG] at *; omega))) rfl rfl ?_ | refine R.popS (fun _ _ _ => q_indexIp rfl rfl (by first | omega | (simp only [oA, oB, oC, oD, oE, oF, oG] at *; omega)) (by first | omega | (simp only [oA, oB, oC, oD, oE, oF, oG] at *; omega))) rfl rfl ?_) | (refine R.isUn ?_; first | (refine R.popB (fun _ _ _ => q_not rfl) rfl rfl ?_; intro _ _hb)) | (refine R.isIxV ?_; first | refine R.popS (fun _ _ _ => q_indexT rfl rfl (by first | omega | (simp only [oA, oB, oC, oD, oE, oF, oG] at *; omega)) (by assumption)) rfl rfl ?_) | refine R.popS (fun _ _ _ => q_extract rfl rfl) rfl rfl ?_ | (refine R.isFieldV ?_; first | refine R.popS (fun _ _ _ => q_field rfl rfl) rfl rfl ?_ | refine R.popS (fun _ _ _ => q_fieldA rfl (Nat.le_of_ble_eq_true rfl)) rfl rfl ?_) | (refine R.isConv ?_; first | refine R.popS (fun _ _ _ => q_conv rfl (IntWalk.i64_in _ (by first | omega | (simp only [oA, oB, oC, oD, oE, oF, oG] at *; omega)))) rfl rfl ?_ | refine R.popS (fun _ _ _ => q_conv rfl (IntWalk.u64_in _ (by first | omega | (simp only [oA, oB, oC, oD, oE, oF, oG] at *; omega)))) rfl rfl ?_ | refine R.popS (fun _ _ _ => q_conv rfl (IntWalk.u8_in _ (by first | omega | (simp only [oA, oB, oC, oD, oE, oF, oG] at *; omega)))) rfl rfl ?_ | refine R.popS (fun _ _ _ => q_conv rfl (IntWalk.i32_in _ (by first | omega | (simp only [oA, oB, oC, oD, oE, oF, oG] at *; omega)))) rfl rfl ?_) | refine R.popS (fun _ _ _ => q_fn rfl rfl) rfl rfl ?_ | (refine R.isNilc ?_; first | refine R.popS (fun _ _ _ => q_nilIp rfl) rfl rfl ?_ | refine R.popS (fun _ _ _ => q_nilP rfl) rfl rfl ?_ | refine R.popS (fun _ _ _ => q_nilFn rfl) rfl rfl ?_) | refine R.popS (fun _ _ _ => q_sliceI rfl rfl rfl rfl rfl (by rfl) (by rfl) (by rfl) (by rfl) (by rfl)) rfl rfl ?_ | refine R.popS (fun _ _ _ => q_boxI rfl rfl rfl) rfl rfl ?_ | refine R.popP (by rfl) rfl rfl ?_ | (refine R.isStore ?_; first | (refine R.popAS rfl rfl rfl (fun _ => ?_); refine n_store rfl rfl rfl rfl rfl rfl (Nat.le_of_ble_eq_true rfl) ?_) | (refine popW0 ?_ rfl (by rfl); refine n_store rfl rfl rfl rfl (by assumption) rfl (Nat.le_of_ble_eq_true rfl) ?_)))) | (refine R.popG rfl rfl ?_ ?_ <;> intro hb <;> cases hb <;> first | refine R.popN rfl rfl ?_ | (first | (refine R.isMove ?_; first | refine R.popS (fun _ _ _ => q_move rfl) rfl rfl ?_) | (refine R.isField ?_; first | refine R.popS (fun _ _ _ => q_fieldIp rfl) rfl rfl ?_ | refine R.popS (fun _ _ _ => q_fieldP rfl) rfl rfl ?_) | (refine R.isLoad ?_; first | refine R.popS (fun _ _ _ => q_loadIp rfl) rfl rfl ?_ | refine R.popS (fun _ _ _ => q_loadIpA rfl (Nat.le_of_ble_eq_true rfl)) rfl rfl ?_ | refine R.popQ (fun _ => q_loadP rfl rfl rfl rfl) rfl (by rfl) ?_ | refine R.popQ (fun _ => q_loadPA rfl rfl rfl (Nat.le_of_ble_eq_true rfl)) rfl (by rfl) ?_ | refine R.popQ (fun _ => q_loadP rfl rfl (by assumption) rfl) rfl (by rfl) ?_ | refine R.popQ (fun _ => q_loadPA rfl rfl (by assumption) (Nat.le_of_ble_eq_true rfl)) rfl (by rfl) ?_) | (refine R.isPick ?_; first | refine R.popS (fun _ _ _ => q_pickT rfl rfl) rfl rfl ?_ | refine R.popS (fun _ _ _ => q_pickF rfl rfl) rfl rfl ?_) | (refine R.isCmp ?_; first | (refine R.popB (fun _ _ _ => q_lss rfl rfl) rfl rfl ?_; intro _ _hb) | (refine R.popB (fun _ _ _ => q_leq rfl rfl) rfl rfl ?_; intro _ _hb) | (refine R.popB (fun _ _ _ => q_gtr rfl rfl) rfl rfl ?_; intro _ _hb) | (refine R.popB (fun _ _ _ => q_geq rfl rfl) rfl rfl ?_; intro _ _hb) | (refine R.popB (fun _ _ _ => q_eql rfl rfl) rfl rfl ?_; intro _ _hb) | (refine R.popB (fun _ _ _ => q_neq rfl rfl) rfl rfl ?_; intro _ _hb) | (refine R.popB (fun _ _ _ => q_eqT rfl rfl) rfl rfl ?_; intro _ _hb) | (refine R.popB (fun _ _ _ => q_neT rfl rfl) rfl rfl ?_; intro _ _hb) | (refine R.popB (fun _ _ _ => q_eqB rfl rfl) rfl rfl ?_; intro _ _hb) | (refine R.popB (fun _ _ _ => q_neB rfl rfl) rfl rfl ?_; intro _ _hb) | refine R.popS (fun _ _ _ => q_add rfl rfl (IntWalk.i64_in _ (by first | omega | (simp only [oA, oB, oC, oD, oE, oF, oG] at *; omega)))) rfl rfl ?_ | refine R.popS (fun _ _ _ => q_sub rfl rfl (IntWalk.i64_in _ (by first | omega | (simp only [oA, oB, oC, oD, oE, oF, oG] at *; omega)))) rfl rfl ?_ | refine R.popS (fun _ _ _ => q_mul rfl rfl (IntWalk.i64_in _ (by first | assumption | first | omega | (simp only [oA, oB, oC, oD, oE, oF, oG] at *; omega)))) rfl rfl ?_ | refine R.popS (fun _ _ _ => q_remP rfl rfl (by first | omega | (simp only [oA, oB, oC, oD, oE, oF, oG] at *; omega)) (by first | omega | (simp only [oA, oB, oC, oD, oE, oF, oG] at *; omega))) rfl rfl ?_ | refine R.popS (fun _ _ _ => q_quoP rfl rfl (by first | omega | (simp only [oA, oB, oC, oD, oE, oF, oG] at *; omega)) (by first | omega | (simp only [oA, oB, oC, oD, oE, oF, oG] at *; omega)) (by first | omega | (simp only [oA, oB, oC, oD, oE, oF, oG] at *; omega))) rfl rfl ?_ | refine R.popS (fun _ _ _ => q_shr rfl rfl (by first | omega | (simp only [oA, oB, oC, oD, oE, oF, oG] at *; omega)) rfl) rfl rfl ?_ | refine R.popS (fun _ _ _ => q_and rfl rfl rfl) rfl rfl ?_ | refine R.popS (fun _ _ _ => q_or rfl rfl rfl) rfl rfl ?_ | refine R.popS (fun _ _ _ => q_eqNilIp rfl rfl) rfl rfl ?_ | refine R.popS (fun _ _ _ => q_eqNilNil rfl rfl) rfl rfl ?_ | refine R.popS (fun _ _ _ => q_cat rfl rfl (by first | omega | (simp only [oA, oB, oC, oD, oE, oF, oG] at *; omega))) rfl rfl ?_) | (refine R.isAssign ?_; first | refine R.popS (fun _ _ _ => q_assign rfl) rfl rfl ?_) | (refine R.isCall ?_; first | refine R.popS (fun _ _ _ => q_lenM rfl) rfl rfl ?_ | refine R.popS (fun _ _ _ => q_lenL rfl) rfl rfl ?_ | refine R.popS (fun _ _ _ => q_lenA rfl) rfl rfl ?_ | refine R.popS (fun _ _ _ => q_lenT rfl) rfl rfl ?_ ) | (refine R.isIx ?_; first | refine R.popS (fun _ _ _ => q_indexL rfl rfl (by first | omega | (simp only [oA, oB, oC, oD, oE, oF, oG] at *; omega)) (by assumption) (by rfl)) rfl rfl ?_ | refine R.popS (fun _ _ _ => q_indexA rfl rfl (by first | omega | (simp only [oA, oB, oC, oD, oE, oF, oG] at *; omega)) (by first | omega | (simp only [oA, oB, oC, oD, oE, oF, oG] at *; omega))) rfl rfl ?_ | refine R.popS (fun _ _ _ => q_indexP rfl rfl (by first | omega | (simp only [oA, oB, oC, oD, oE, oF, oG] at *; omega)) (by first | omega | (simp only [oA, oB, oC, oD, oE, oF, oG] at *; omega))) rfl rfl ?_ | refine R.popS (fun _ _ _ => q_indexIp rfl rfl (by first | omega | (simp only [oA, oB, oC, oD, oE, oF, oG] at *; omega)) (by first | omega | (simp only [oA, oB, oC, oD, oE, oF, oG] at *; omega))) rfl rfl ?_) | (refine R.isUn ?_; first | (refine R.popB (fun _ _ _ => q_not rfl) rfl rfl ?_; intro _ _hb)) | (refine R.isIxV ?_; first | refine R.popS (fun _ _ _ => q_indexT rfl rfl (by first | omega | (simp only [oA, oB, oC, oD, oE, oF, oG] at *; omega)) (by assumption)) rfl rfl ?_) | refine R.popS (fun _ _ _ => q_extract rfl rfl) rfl rfl ?_ | (refine R.isFieldV ?_; first | refine R.popS (fun _ _ _ => q_field rfl rfl) rfl rfl ?_ | refine R.popS (fun _ _ _ => q_fieldA rfl (Nat.le_of_ble_eq_true rfl)) rfl rfl ?_) | (refine R.isConv ?_; first | refine R.popS (fun _ _ _ => q_conv rfl (IntWalk.i64_in _ (by first | omega | (simp only [oA, oB, oC, oD, oE, oF, oG] at *; omega)))) rfl rfl ?_ | refine R.popS (fun _ _ _ => q_conv rfl (IntWalk.u64_in _ (by first | omega | (simp only [oA, oB, oC, oD, oE, oF, oG] at *; omega)))) rfl rfl ?_ | refine R.popS (fun _ _ _ => q_conv rfl (IntWalk.u8_in _ (by first | omega | (simp only [oA, oB, oC, oD, oE, oF, oG] at *; omega)))) rfl rfl ?_ | refine R.popS (fun _ _ _ => q_conv rfl (IntWalk.i32_in _ (by first | omega | (simp only [oA, oB, oC, oD, oE, oF, oG] at *; omega)))) rfl rfl ?_) | refine R.popS (fun _ _ _ => q_fn rfl rfl) rfl rfl ?_ | (refine R.isNilc ?_; first | refine R.popS (fun _ _ _ => q_nilIp rfl) rfl rfl ?_ | refine R.popS (fun _ _ _ => q_nilP rfl) rfl rfl ?_ | refine R.popS (fun _ _ _ => q_nilFn rfl) rfl rfl ?_) | refine R.popS (fun _ _ _ => q_sliceI rfl rfl rfl rfl rfl (by rfl) (by rfl) (by rfl) (by rfl) (by rfl)) rfl rfl ?_ | refine R.popS (fun _ _ _ => q_boxI rfl rfl rfl) rfl rfl ?_ | refine R.popP (by rfl) rfl rfl ?_ | (refine R.isStore ?_; first | (refine R.popAS rfl rfl rfl (fun _ => ?_); refine n_store rfl rfl rfl rfl rfl rfl (Nat.le_of_ble_eq_true rfl) ?_) | (refine popW0 ?_ rfl (by rfl); refine n_store rfl rfl rfl rfl (by assumption) rfl (Nat.le_of_ble_eq_true rfl) ?_)))))))
  refine R.lexQ ?_
  refine AWp.seq ?_
  rw [List.length_range, List.length_range]
  refine AWp.freeze [3, 4] [(4, .o (.ip [.p (auRow a)])), (5, .o (.ip (auRow p))), (8, .o (.ip (paRow l))), (9, eI .i64 (palph l)), (10, .o (.ip [.l (tblD a)])), (11, .o (.ip [.l (tblD p)])), (12, .o (.ip [iD a.nx.length])), (13, .o (.ip [iD p.nx.length]))] ⟨⟨_, rfl, .keep⟩, ⟨_, rfl, .keep⟩, ⟨_, rfl, .keep⟩, ⟨_, rfl, .keep⟩, ⟨_, rfl, .keep⟩, ⟨_, rfl, .keep⟩, ⟨_, rfl, .o (.ptr (by simp) rfl rfl rfl)⟩, ⟨_, rfl, .o (.ptr (by simp) rfl rfl rfl)⟩, trivial⟩ ?_
  (repeat (first | (refine popO rfl ?_; first | (refine gA rfl ?_; first | refine yLm rfl rfl ?_ | ((first | refine yQ (md := false) rfl ?_ ?_ | refine yL rfl rfl (by assumption) rfl rfl ?_ ?_ | refine yT rfl rfl (by assumption) rfl ?_ ?_); (first | exact True.intro | omega | (simp only [oA, oB, oC, oD, oE, oF, oG] at *; omega))) | (refine yB rfl ?_; intro _ _hb) | refine yS rfl rfl ?_ | refine yM rfl rfl (by assumption) rfl rfl rfl ?_ | refine yZ rfl rfl rfl rfl rfl rfl ?_ | refine yY rfl rfl rfl ?_ | refine yO rfl rfl rfl ?_ | refine yW rfl rfl ?_ | refine yV rfl rfl rfl rfl (by assumption) rfl rfl rfl rfl ?_ ) | refine popN rfl ?_ | (refine yG rfl rfl ?_ ?_ <;> intro hb <;> subst hb)) | refine AWp.seq ?_ | refine reg (by kernel_rfl) ?_ | refine lexE ?_))
  refine regD (noisy []) mixed (by kernel_rfl) (by kernel_rfl) ?_
  (repeat (first | (refine popO rfl ?_; first | (refine gA rfl ?_; first | refine yLm rfl rfl ?_ | ((first | refine yQ (md := false) rfl ?_ ?_ | refine yL rfl rfl (by assumption) rfl rfl ?_ ?_ | refine yT rfl rfl (by assumption) rfl ?_ ?_); (first | exact True.intro | omega | (simp only [oA, oB, oC, oD, oE, oF, oG] at *; omega))) | (refine yB rfl ?_; intro _ _hb) | refine yS rfl rfl ?_ | refine yM rfl rfl (by assumption) rfl rfl rfl ?_ | refine yZ rfl rfl rfl rfl rfl rfl ?_ | refine yY rfl rfl rfl ?_ | refine yO rfl rfl rfl ?_ | refine yW rfl rfl ?_ | refine yV rfl rfl rfl rfl (by assumption) rfl rfl rfl rfl ?_ | refine yP rfl rfl rfl (size_ok l hs hl) rfl ?_ | refine yP rfl rfl rfl (lettersOf_ok _) rfl ?_ | refine yP rfl rfl rfl (hfp) rfl ?_ ) | refine popN rfl ?_ | (refine yG rfl rfl ?_ ?_ <;> intro hb <;> subst hb)) | refine AWp.seq ?_ | refine reg (by kernel_rfl) ?_ | refine lexE ?_))
  refine AWp.ret ⟨_, rfl, rfl⟩
end Go.Am
