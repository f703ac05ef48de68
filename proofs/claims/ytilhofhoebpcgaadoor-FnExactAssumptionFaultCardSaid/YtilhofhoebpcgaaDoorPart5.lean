/-
  More quiet operations: closures, checks for nil, tables, pieces of slices and strings, text out of bytes.
-/
import Derived.Test.YtilhofhoebpcgaaDoorPart4
import Derived.Laws.IdiomStrings
import Derived.Laws.BytesArg
namespace Go.Am
open Go

def toCs : List E → Option (List C)
  | [] => some []
  | .o c :: l => (toCs l).map (c :: ·)
  | _ => none
theorem toCs_get : ∀ {l : List E} {cs : List C}, toCs l = some cs → l = cs.map .o
  | [], cs, h => by injection h with h; subst h; rfl
  | e :: l, cs, h => by
    cases e <;> simp only [toCs] at h <;> try cases h
    simp only [Option.map_eq_some_iff] at h
    obtain ⟨ds', h', rfl⟩ := h
    simp [toCs_get h']

class HasPtr (P : Program) (t : TypeId) : Prop where
  out : ∃ e, P.underlying t = some (.pointer e)
class HasTab (TB : List (Nat × Obj)) (b : Nat) (vals : outParam (List Value)) : Prop where
  out : (∃ (cur : Array Value) (T : TypeId) (fr : _), (b, Obj.cells cur T fr) ∈ TB ∧ ∀ (i : Nat) v, vals[i]? = some v → cur[i]? = some v) ∧ vals.all scal = true

section
variable {P : Program} {TB : List (Nat × Obj)} {Γ : Ctx} {d : Option Tmp} {ty : TypeId} {pos : String} {af : Array Edge} {g : Option (Nat × Bool)} {f : Env} {σ : Store} {nx : Nat}
variable {K : E → Store → Nat → Prop}

theorem q_lenM {α : Type} {t e : TypeId} {x : Operand} {l : List α} {g1 : α → List D} {k b : Nat} [hl : HasSl P t e k b] (hx : ev f x = some (.o (.d (.l (l.map g1))))) : QOp P TB Γ ⟨d, .call ⟨.builtin .len, #[x], #[t]⟩, ty, pos, af, g⟩ f σ nx (eI .i64 l.length) := by
  have := q_lenL (t := t) (P := P) (TB := TB) (Γ := Γ) (d := d) (ty := ty) (pos := pos) (af := af) (g := g) (σ := σ) (nx := nx) hx
  rwa [List.length_map] at this
theorem q_remP {t yt : TypeId} {x y : Operand} {k : IntKind} {m n : Int} (hx : ev f x = some (eI k m)) (hy : ev f y = some (eI k n)) (h0 : 0 ≤ m) (hn : 0 < n) :
    QOp P TB Γ ⟨d, .binOp .rem t x y yt, ty, pos, af, g⟩ f σ nx (eI k (m % n)) := q_rem hx hy (by omega) (Int.tmod_eq_emod_of_nonneg h0)
theorem q_quoP {t yt : TypeId} {x y : Operand} {m n : Int} (hx : ev f x = some (eI .i64 m)) (hy : ev f y = some (eI .i64 n)) (h0 : 0 ≤ m) (hm : m ≤ 9223372036854775807) (hn : 0 < n) :
    QOp P TB Γ ⟨d, .binOp .quo t x y yt, ty, pos, af, g⟩ f σ nx (eI .i64 (m / n)) := q_quo hx hy (by omega) (by
      rw [Int.tdiv_eq_ediv_of_nonneg h0]
      have h1 : 0 ≤ m / n := Int.ediv_nonneg h0 (by omega)
      have h2 : m / n ≤ m := Int.ediv_le_self _ h0
      exact IntWalk.i64_in _ (by omega))
def notNil : Operand → Bool
  | .const (.slice none 0 0) => false
  | _ => true
theorem q_assignN {x : Operand} {e : E} (_ : notNil x = true) (hx : ev f x = some e) : QOp P TB Γ ⟨d, .assign x, ty, pos, af, g⟩ f σ nx e := q_assign hx

theorem q_fn {gg : FuncId} {caps : Array Operand} {es : List E} {cs : List C} (hes : evs f caps.toList = some es) (hc : toCs es = some cs) : QOp P TB Γ ⟨d, .makeFunc (.func gg) #[] caps, ty, pos, af, g⟩ f σ nx (.o (.fn gg cs)) :=
  q_of_run fun V ρ h1 _ => by
    refine ⟨.func (.func gg) #[] (caps.map ρ), by simp [execOp, Instr.makeFunc, go_sem], CRel.fn ?_ fun j c v hj hv => ?_⟩
    · have h2 := evs_length hes
      have h3 := congrArg List.length (toCs_get hc)
      simp at h2 h3 ⊢; omega
    · have h2 := args_rel (f := f) (V := V) (ρ := ρ) (fun y hy e he => h1.get (by simp [Op.operands]; simpa using hy) he) hes j (.o c) v (by rw [toCs_get hc]; simp [hj]) (by rw [← Array.toList_map]; simpa using hv)
      exact h2

theorem q_nilIp {x : Operand} {cs : List D} (hx : ev f x = some (.o (.ip cs))) : QOp P TB Γ ⟨d, .nilCheck x, ty, pos, af, g⟩ f σ nx (.o (.ip cs)) :=
  q_of_run fun V ρ h1 _ => by
    have h2 := h1.get (by simp [Op.operands]) hx
    generalize hv : ρ x = v at h2
    refine ⟨v, ?_, h2⟩
    obtain ⟨h2⟩ := h2
    cases h2
    simp [execOp, hv, go_sem]
theorem q_nilP {x : Operand} {id k i j : Nat} (hx : ev f x = some (.o (.ptr id k i j))) : QOp P TB Γ ⟨d, .nilCheck x, ty, pos, af, g⟩ f σ nx (.o (.ptr id k i j)) :=
  q_of_run fun V ρ h1 _ => by
    have h2 := h1.get (by simp [Op.operands]) hx
    generalize hv : ρ x = v at h2
    refine ⟨v, ?_, h2⟩
    cases h2
    simp [execOp, hv, go_sem]
theorem q_nilFn {x : Operand} {gg : FuncId} {cs : List C} (hx : ev f x = some (.o (.fn gg cs))) : QOp P TB Γ ⟨d, .nilCheck x, ty, pos, af, g⟩ f σ nx (.o (.fn gg cs)) :=
  q_of_run fun V ρ h1 _ => by
    have h2 := h1.get (by simp [Op.operands]) hx
    generalize hv : ρ x = v at h2
    refine ⟨v, ?_, h2⟩
    obtain ⟨vs, rfl, _⟩ := fn_val h2
    simp [execOp, hv, go_sem]

theorem run_eqPN {t e : TypeId} {a : Option Addr} (he : P.underlying t = some (.pointer e)) (w : World) : (Op.equal t (.pointer a) (.pointer none)).run P w = .ok a.isNone w := by
  unfold Op.equal Op.maxDepth
  rw [show 10000 = 9999 + 1 from rfl, Op.equalIn]
  cases a <;> simp [run_underlying he, go_sem]
theorem q_eqNilIp {t yt : TypeId} {x y : Operand} {cs : List D} [hp : HasPtr P t] (hx : ev f x = some (.o (.ip cs))) (hy : ev f y = some (.o (.d (.v (.pointer none))))) : QOp P TB Γ ⟨d, .binOp .eql t x y yt, ty, pos, af, g⟩ f σ nx (eB false) :=
  q_of_run fun V ρ h1 _ => by
    have h2 := h1.get (by simp [Op.operands]) hx
    have h3 : ρ y = .pointer none := CRel.val (h1.get (by simp [Op.operands]) hy)
    generalize hv : ρ x = v at h2
    obtain ⟨h2⟩ := h2
    obtain ⟨e, he⟩ := hp.out
    cases h2
    rename_i b o vs hb h4 h5
    refine ⟨.bool false, ?_, .d (.v rfl)⟩
    have h6 : binOp .eql t (.pointer (some ⟨b, o, none⟩)) (.pointer none) = (do pure (.bool (← Op.equal t (.pointer (some ⟨b, o, none⟩)) (.pointer none)))) := rfl
    have h7 : eqGuard .eql t x y (.pointer (some ⟨b, o, none⟩)) (.pointer none) = pure () := rfl
    have h8 := run_eqPN (a := some ⟨b, o, none⟩) he V.w
    have h9 : execOp ρ ⟨d, .binOp .eql t x y yt, ty, pos, af, g⟩ = (do let v ← (do eqGuard .eql t x y (ρ x) (ρ y); binOp .eql t (ρ x) (ρ y)); pure (.value v)) := rfl
    rw [h9, hv, h3, h6, h7]
    simp [h8, go_sem]
theorem q_eqNilNil {t yt : TypeId} {x y : Operand} [hp : HasPtr P t] (hx : ev f x = some (.o (.d (.v (.pointer none))))) (hy : ev f y = some (.o (.d (.v (.pointer none))))) : QOp P TB Γ ⟨d, .binOp .eql t x y yt, ty, pos, af, g⟩ f σ nx (eB true) :=
  bin_run hx hy rfl fun w => by
    obtain ⟨e, he⟩ := hp.out
    have h6 : binOp .eql t (.pointer none) (.pointer none) = (do pure (.bool (← Op.equal t (.pointer none) (.pointer none)))) := rfl
    have h7 : eqGuard .eql t x y (.pointer none) (.pointer none) = pure () := rfl
    have h8 := run_eqPN (a := none) he w
    rw [h6, h7]
    simp [h8, go_sem]

/-- An entry of a table of the program. -/
theorem q_indexG {t : TypeId} {b : Nat} {y : Operand} {vals : List Value} {v : Value} {n : Int} {len : Nat} {ik : IntKind} [hl : HasAr P t len 1] [ht : HasTab TB b vals] (hy : ev f y = some (eI ik n))
    (h0 : 0 ≤ n) (hn : n < len) (hv : vals[n.toNat]? = some v) : QOp P TB Γ ⟨d, .indexAddr t (.global b) y, ty, pos, af, g⟩ f σ nx (.o (.ip [.v v])) := by
  intro V a h1 h2 h3
  have h4 : a.eval y = .int ik n := CRel.val (h1.evRel.get (by simp [Op.operands]) hy)
  have h5 : a.eval (.global b) = .pointer (some ⟨b, 0, none⟩) := rfl
  obtain ⟨e, i, hu, hi, hs⟩ := ar_inv hl.out
  obtain ⟨⟨cur, T, fr, hm, hc⟩, hsc⟩ := ht.out
  obtain ⟨h6, h7⟩ := h2.tabs _ hm
  unfold Oper.wp
  generalize a.eval = ρ at h4 h5 ⊢
  have hr : (execOp ρ ⟨d, .indexAddr t (.global b) y, ty, pos, af, g⟩).run P V.w = .ok (.value (.pointer (some ⟨b, n.toNat, none⟩))) V.w := by
    simp [execOp, h4, h5, Instr.indexAt, asIntOf, run_underlying hu, Instr.sureAddr, h0, hn, sizeOf, typeInfo, hi, hs, addr_add, go_sem]
  rw [hr]
  refine ⟨V, _, rfl, rfl, Ext.refl V, h2, h3, CRel.ip (vs := fun _ => v) h6 (fun j x hj => ?_) (fun j x hj => ?_)⟩
  · match j with
    | 0 => simp only [World.cell?, h7]; simpa using hc _ _ hv
    | j + 1 => simp at hj
  · match j with
    | 0 => simp at hj; subst hj; exact .v (List.all_eq_true.1 hsc v (List.mem_of_getElem? hv))
    | j + 1 => simp at hj

/-! Text out of bytes. -/
def byD (c : UInt8) : List D := [.v (.int .u8 c.toNat)]
def byC (c : UInt8) : List C := [.d (.v (.int .u8 c.toNat))]
class HasBy (P : Program) (t : TypeId) : Prop where
  out : ∃ e, P.underlying t = some (.slice e) ∧ P.underlying e = some (.int .u8)
theorem convert_none {src dst : TypeId} (hs : HasBy P src) (hd : HasStr P dst) (w : World) : (convert src dst (.slice none 0 0)).run P w = .ok (.string ⟨#[]⟩) w := by
  obtain ⟨e, h1, h2⟩ := hs.out
  exact run_convert_bytes_nil w src e h1 h2 0 0 dst hd.out
theorem q_textL {src dst : TypeId} {x : Operand} {rows : List (List D)} (bs : List UInt8) [hs : HasBy P src] [hd : HasStr P dst] (hx : ev f x = some (.o (.d (.l rows)))) (hr : rows = bs.map byD) :
    QOp P TB Γ ⟨d, .convert src dst x, ty, pos, af, g⟩ f σ nx (.o (.d (.v (.string ⟨bs.toArray⟩)))) :=
  q_of_run fun V ρ h1 _ => by
    have h2 := h1.get (by simp [Op.operands]) hx
    generalize hv : ρ x = v at h2
    refine ⟨.string ⟨bs.toArray⟩, ?_, .d (.v rfl)⟩
    have h9 : execOp ρ ⟨d, .convert src dst x, ty, pos, af, g⟩ = (do let v ← convert src dst (ρ x); pure (.value v)) := rfl
    rw [h9, hv]
    obtain ⟨h2⟩ := h2
    cases h2 with
    | nil =>
      have : bs = [] := by simpa using hr.symm
      subst this
      simp [convert_none hs hd, go_sem]
    | @e a cap h3 =>
      have : bs = [] := by simpa using hr.symm
      subst this
      obtain ⟨e, h8, h10⟩ := hs.out
      have h11 := run_convert_bytes_back (P := P) V.w src dst e a cap [] h8 h10 hd.out fun j hj => by simp at hj
      have h11 : (convert src dst (.slice (some a) 0 cap)).run P V.w = _ := h11
      simp [h11, go_sem]
    | @l _ b o k cap vs hb h3 h4 h5 h6 h7 =>
      obtain ⟨e, h8, h10⟩ := hs.out
      have hl : rows.length = bs.length := by rw [hr]; simp
      have h11 := run_convert_bytes_back (P := P) V.w src dst e ⟨b, o, none⟩ cap bs h8 h10 hd.out fun j hj => by
        have hrow : rows[j]? = some (byD bs[j]) := by rw [hr]; simp [hj]
        have h12 := h6 j _ 0 _ hrow rfl
        have h13 := h7 j _ 0 _ hrow rfl
        have hk : k = 1 := (h5 j _ hrow).symm
        subst hk
        rw [addr_add]
        have h14 : vs j 0 = .int .u8 (bs[j].toNat : Int) := h13.val
        rw [h14] at h12
        simpa using h12
      rw [hl]
      simp [h11, go_sem]
theorem q_textA {src dst : TypeId} {x : Operand} {id off len : Nat} {T : TypeId} {rows : List (List C)} (bs : List UInt8) [hs : HasBy P src] [hd : HasStr P dst] (hx : ev f x = some (.o (.arr id 1 off len))) (ho : look σ id = some (.cells T 1 rows))
    (hle : off + len ≤ rows.length) (hr : (rows.drop off).take len = bs.map byC) : QOp P TB Γ ⟨d, .convert src dst x, ty, pos, af, g⟩ f σ nx (.o (.d (.v (.string ⟨bs.toArray⟩)))) :=
  q_of_run fun V ρ h1 hi => by
    have h2 := h1.get (by simp [Op.operands]) hx
    generalize hv : ρ x = v at h2
    refine ⟨.string ⟨bs.toArray⟩, ?_, .d (.v rfl)⟩
    have h9 : execOp ρ ⟨d, .convert src dst x, ty, pos, af, g⟩ = (do let v ← convert src dst (ρ x); pure (.value v)) := rfl
    rw [h9, hv]
    have hlen : bs.length = len := by
      have := congrArg List.length hr
      simp at this; omega
    have h2 : CRel V (.arr id 1 off len) v := h2
    cases h2 with
    | nil h3 h4 =>
      have : bs = [] := List.length_eq_zero_iff.1 hlen
      subst this
      simp [convert_none hs hd, go_sem]
    | arr h3 hnl h4 =>
      rcases hi.st.obj id _ ho with ⟨h5, _⟩ | ⟨_, cur, h5, h6, h7, h8, h10, h11⟩
      · exact absurd h5 hnl
      · obtain ⟨e, h12, h13⟩ := hs.out
        subst hlen
        have h14 := run_convert_bytes_back (P := P) V.w src dst e ⟨V.ρ id, off * 1, none⟩ (V.cap id - off) bs h12 h13 hd.out fun j hj => by
          have hrow : rows[off + j]? = some (byC bs[j]) := by
            have h15 : ((rows.drop off).take bs.length)[j]? = some (byC bs[j]) := by rw [hr]; simp [hj]
            rw [List.getElem?_take, if_pos hj, List.getElem?_drop] at h15
            exact h15
          obtain ⟨u, h15, h16⟩ := h11 _ _ 0 _ hrow rfl
          have h16 := h16.val
          subst h16
          rw [addr_add]
          simpa [World.cell?, h5] using h15
        rw [Sem.run_bind, h14]; rfl
end

/-! Lengths have a bound. -/
inductive DIn (e : D) : D → Prop
  | refl : DIn e e
  | l {rows : List (List D)} {i j : Nat} {r : List D} {x : D} : rows[i]? = some r → r[j]? = some x → DIn e x → DIn e (.l rows)
  | p {cs : List D} {j : Nat} {x : D} : cs[j]? = some x → DIn e x → DIn e (.p cs)
theorem DIn.len {I : Nat → Prop} {w : World} {rows : List (List D)} {d : D} (h : DIn (.l rows) d) : ∀ {v : Value}, DRel I w d v → rows.length ≤ maxLen := by
  induction h with
  | refl =>
    intro v h
    cases h with
    | nil => simp
    | e => simp
    | l _ h1 h2 => omega
  | l hr hx _ ih =>
    intro v h
    cases h with
    | nil => simp at hr
    | e => simp at hr
    | l _ _ _ _ _ h6 => exact ih (h6 _ _ _ _ hr hx)
  | p hx _ ih =>
    intro v h
    cases h with
    | p _ _ h2 => exact ih (h2 _ _ hx)
def EIn (d : D) : E → Prop
  | .o (.d x) => DIn d x
  | .a cs => ∃ (j : Nat) (x : D), cs[j]? = some (.d x) ∧ DIn d x
  | _ => False
theorem EIn.len {V : View} {rows : List (List D)} {e : E} {v : Value} (h : EIn (.l rows) e) (hr : ERel V e v) : rows.length ≤ maxLen := by
  cases e with
  | o c =>
    cases c with
    | d x => cases hr with | d hr => exact DIn.len h hr
    | _ => exact h.elim
  | a cs =>
    obtain ⟨j, x, hj, hx⟩ := h
    obtain ⟨vs, _, h1, h2⟩ := hr
    have hlt : j < vs.size := by rw [h1]; exact (List.getElem?_eq_some_iff.1 hj).1
    cases h2 j _ _ hj (Array.getElem?_eq_getElem hlt) with
    | d h3 => exact DIn.len hx h3
  | t => exact h.elim
theorem AWp.bound {P : Program} {TB : List (Nat × Obj)} {Γ : Ctx} {N : Nat} {c : Code} {Q : Exit → Env → Store → Nat → Prop} {f : Env} {σ : Store} {nx : Nat} (t : Nat) {e : E} (ht : f t = some e)
    (h : (∀ rows, EIn (.l rows) e → rows.length ≤ 9223372036854775807) → AWp P TB Γ N c Q f σ nx) : AWp P TB Γ N c Q f σ nx := by
  intro V a hr
  exact h (fun rows hi => hi.len (hr.env t e ht)) V a hr
section
variable {P : Program} {TB : List (Nat × Obj)} {Γ : Ctx} {ops : Array Oper} {fl : Nat → Nat} {i n : Nat} {L : List (Nat × E)} {σ : Store} {nx : Nat} {K : Env → Store → Nat → Prop} {d : Option Tmp} {ty : TypeId} {pos : String} {af : Array Edge} {g : Option (Nat × Bool)}
theorem killc (id k : Nat) (o : O) (r : Store) : kill id ((k, o) :: r) = if k = id then kill id r else (k, o) :: kill id r := by
  simp only [kill]
  by_cases h : k = id
  · subst h; simp
  · have : Nat.beq k id = false := by
      cases hb : Nat.beq k id
      · rfl
      · exact absurd (Nat.eq_of_beq_eq_true hb) h
    rw [this, cond_false, if_neg h]
theorem kill0 (id : Nat) : kill id [] = [] := rfl
/-! The form of the next operation. -/
theorem isMove {x : Operand} (h : LexO P TB Γ ops ⟨d, .move x, ty, pos, af, g⟩ fl i n K L σ nx) : LexO P TB Γ ops ⟨d, .move x, ty, pos, af, g⟩ fl i n K L σ nx := h
theorem isAssign {x : Operand} (h : LexO P TB Γ ops ⟨d, .assign x, ty, pos, af, g⟩ fl i n K L σ nx) : LexO P TB Γ ops ⟨d, .assign x, ty, pos, af, g⟩ fl i n K L σ nx := h
theorem isPick {c x y : Operand} (h : LexO P TB Γ ops ⟨d, .pick c x y, ty, pos, af, g⟩ fl i n K L σ nx) : LexO P TB Γ ops ⟨d, .pick c x y, ty, pos, af, g⟩ fl i n K L σ nx := h
theorem isLoad {t : TypeId} {x : Operand} (h : LexO P TB Γ ops ⟨d, .load t x, ty, pos, af, g⟩ fl i n K L σ nx) : LexO P TB Γ ops ⟨d, .load t x, ty, pos, af, g⟩ fl i n K L σ nx := h
theorem isField {t : TypeId} {x : Operand} {k : Nat} (h : LexO P TB Γ ops ⟨d, .fieldAddr t x k, ty, pos, af, g⟩ fl i n K L σ nx) : LexO P TB Γ ops ⟨d, .fieldAddr t x k, ty, pos, af, g⟩ fl i n K L σ nx := h
theorem isFieldV {t : TypeId} {x : Operand} {k : Nat} (h : LexO P TB Γ ops ⟨d, .field t x k, ty, pos, af, g⟩ fl i n K L σ nx) : LexO P TB Γ ops ⟨d, .field t x k, ty, pos, af, g⟩ fl i n K L σ nx := h
theorem isIx {t : TypeId} {x y : Operand} (h : LexO P TB Γ ops ⟨d, .indexAddr t x y, ty, pos, af, g⟩ fl i n K L σ nx) : LexO P TB Γ ops ⟨d, .indexAddr t x y, ty, pos, af, g⟩ fl i n K L σ nx := h
theorem isIxV {t : TypeId} {x y : Operand} (h : LexO P TB Γ ops ⟨d, .index t x y, ty, pos, af, g⟩ fl i n K L σ nx) : LexO P TB Γ ops ⟨d, .index t x y, ty, pos, af, g⟩ fl i n K L σ nx := h
theorem isCmp {o : BinOp} {t u : TypeId} {x y : Operand} (h : LexO P TB Γ ops ⟨d, .binOp o t x y u, ty, pos, af, g⟩ fl i n K L σ nx) : LexO P TB Γ ops ⟨d, .binOp o t x y u, ty, pos, af, g⟩ fl i n K L σ nx := h
theorem isCall {c : Call} (h : LexO P TB Γ ops ⟨d, .call c, ty, pos, af, g⟩ fl i n K L σ nx) : LexO P TB Γ ops ⟨d, .call c, ty, pos, af, g⟩ fl i n K L σ nx := h
theorem isConv {t u : TypeId} {x : Operand} (h : LexO P TB Γ ops ⟨d, .convert t u x, ty, pos, af, g⟩ fl i n K L σ nx) : LexO P TB Γ ops ⟨d, .convert t u x, ty, pos, af, g⟩ fl i n K L σ nx := h
theorem isUn {o : UnOp} {t : TypeId} {x : Operand} (h : LexO P TB Γ ops ⟨d, .unOp o t x, ty, pos, af, g⟩ fl i n K L σ nx) : LexO P TB Γ ops ⟨d, .unOp o t x, ty, pos, af, g⟩ fl i n K L σ nx := h
theorem isNilc {x : Operand} (h : LexO P TB Γ ops ⟨d, .nilCheck x, ty, pos, af, g⟩ fl i n K L σ nx) : LexO P TB Γ ops ⟨d, .nilCheck x, ty, pos, af, g⟩ fl i n K L σ nx := h
theorem isStore {t : TypeId} {x y : Operand} (h : LexO P TB Γ ops ⟨d, .store t x y, ty, pos, af, g⟩ fl i n K L σ nx) : LexO P TB Γ ops ⟨d, .store t x y, ty, pos, af, g⟩ fl i n K L σ nx := h
theorem gNone {op : Op} (h : LexO P TB Γ ops ⟨d, op, ty, pos, af, none⟩ fl i n K L σ nx) : LexO P TB Γ ops ⟨d, op, ty, pos, af, none⟩ fl i n K L σ nx := h
theorem gTrue {op : Op} {w : Nat × Bool} (_ : gval ops ⟨d, op, ty, pos, af, some w⟩ (look L) = some true) (h : LexO P TB Γ ops ⟨d, op, ty, pos, af, some w⟩ fl i n K L σ nx) : LexO P TB Γ ops ⟨d, op, ty, pos, af, some w⟩ fl i n K L σ nx := h
end
end Go.Am
/-
  The steps of a walk, few and short: what an operation gives is reckoned.
-/
namespace Go.Am
open Go

class HasBool (P : Program) (t : TypeId) : Prop where
  out : P.underlying t = some .bool

theorem oA {p : Prop} [Decidable p] : (decide p = true) = p := decide_eq_true_eq
theorem oB {p : Prop} [Decidable p] : decide p = false ↔ ¬ p := decide_eq_false_iff_not
theorem oC {α β : Type} {l : List α} {f : α → β} : (l.map f).length = l.length := List.length_map f
theorem oD {α : Type} {l m : List α} : (l ++ m).length = l.length + m.length := List.length_append
theorem oE {α : Type} {n : Nat} {x : α} : (List.replicate n x).length = n := List.length_replicate
theorem oF {α : Type} {x : α} {l : List α} : (x :: l).length = l.length + 1 := List.length_cons
theorem oG {α : Type} : ([] : List α).length = 0 := List.length_nil
/-- What the rules ask of a type. -/
structure TI where
  ld : Option (Bool × Nat) := none
  ik : Option IntKind := none
  st : Bool := false
  sl : Option (Nat × Nat × Nat) := none
  ar : Option (Nat × Nat) := none
  fl : List (Option (Nat × Bool × Nat)) := []
  pt : Bool := false
  bo : Bool := false
  ze : Option (List Value) := none
def FlOk (P : Program) (t : Nat) : Nat → List (Option (Nat × Bool × Nat)) → Prop
  | _, [] => True
  | k, none :: r => FlOk P t (k + 1) r
  | k, some x :: r => (fldF P t k = some x.1 ∧ fldT P t k = some x) ∧ FlOk P t (k + 1) r
structure TIok (P : Program) (t : Nat) (i : TI) : Prop where
  ld : i.ld = none ∨ ldF P t = i.ld
  ik : i.ik = none ∨ P.underlying t = i.ik.map .int
  st : i.st = false ∨ P.underlying t = some .string
  sl : i.sl = none ∨ slF P t = i.sl
  ar : i.ar = none ∨ arF P t = i.ar
  fl : FlOk P t 0 i.fl
  pt : i.pt = false ∨ ∃ e, P.underlying t = some (.pointer e)
  bo : i.bo = false ∨ P.underlying t = some .bool
  ze : i.ze = none ∨ zeF P t = i.ze
def AllOk (P : Program) : List (Nat × TI) → Prop
  | [] => True
  | (t, i) :: r => TIok P t i ∧ AllOk P r
class HasT (P : Program) where
  T : List (Nat × TI)
  ok : AllOk P T
def tyi : List (Nat × TI) → Nat → TI
  | [], _ => {}
  | (k, x) :: r, t => bif Nat.beq k t then x else tyi r t
def nth {α : Type} : List α → Nat → Option α
  | [], _ => none
  | x :: _, 0 => some x
  | _ :: r, n + 1 => nth r n
theorem nth_get {α : Type} : ∀ (l : List α) (i : Nat), nth l i = l[i]?
  | [], _ => by simp [nth]
  | o :: _, 0 => by simp [nth]
  | _ :: r, n + 1 => by simp [nth, nth_get r n]
theorem tyi_ok {P : Program} (t : Nat) : ∀ {T : List (Nat × TI)}, AllOk P T → TIok P t (tyi T t)
  | [], _ => ⟨.inl rfl, .inl rfl, .inl rfl, .inl rfl, .inl rfl, trivial, .inl rfl, .inl rfl, .inl rfl⟩
  | (k, x) :: r, h => by
    unfold tyi
    cases hb : Nat.beq k t
    · exact tyi_ok t h.2
    · have := Nat.eq_of_beq_eq_true hb
      subst this
      exact h.1
section
variable {P : Program} {t : Nat} {i : TI}
theorem TIok.hasLd (h : TIok P t i) {ag : Bool} {n : Nat} (e : i.ld = some (ag, n)) : HasLd P t ag n := ⟨by rcases h.ld with h | h <;> simp_all⟩
theorem TIok.hasInt (h : TIok P t i) {k : IntKind} (e : i.ik = some k) : HasInt P t k := ⟨by rcases h.ik with h | h <;> simp_all⟩
theorem TIok.hasStr (h : TIok P t i) (e : i.st = true) : HasStr P t := ⟨by rcases h.st with h | h <;> simp_all⟩
theorem TIok.hasSl (h : TIok P t i) {e k b : Nat} (he : i.sl = some (e, k, b)) : HasSl P t e k b := ⟨by rcases h.sl with h | h <;> simp_all⟩
theorem TIok.hasAr (h : TIok P t i) {n k : Nat} (he : i.ar = some (n, k)) : HasAr P t n k := ⟨by rcases h.ar with h | h <;> simp_all⟩
theorem TIok.hasPtr (h : TIok P t i) (e : i.pt = true) : HasPtr P t := ⟨h.pt.resolve_left (by simp [e])⟩
theorem TIok.hasBool (h : TIok P t i) (e : i.bo = true) : HasBool P t := ⟨by rcases h.bo with h | h <;> simp_all⟩
theorem TIok.hasZe (h : TIok P t i) {z : List Value} (e : i.ze = some z) : HasZe P t z := ⟨by rcases h.ze with h | h <;> simp_all⟩
theorem FlOk.get : ∀ {l : List (Option (Nat × Bool × Nat))} {k j : Nat} {x : Nat × Bool × Nat}, FlOk P t k l → nth l j = some (some x) → fldF P t (k + j) = some x.1 ∧ fldT P t (k + j) = some x
  | [], _, _, _, _, h => by simp [nth] at h
  | none :: r, k, 0, x, _, h => by simp [nth] at h
  | some y :: r, k, 0, x, hf, h => by simp [nth] at h; subst h; exact hf.1
  | none :: r, k, j + 1, x, hf, h => by
    have := FlOk.get (l := r) (k := k + 1) (j := j) (x := x) hf h
    rwa [show k + (j + 1) = k + 1 + j by omega]
  | some y :: r, k, j + 1, x, hf, h => by
    have := FlOk.get (l := r) (k := k + 1) (j := j) (x := x) hf.2 h
    rwa [show k + (j + 1) = k + 1 + j by omega]
theorem TIok.hasFld (h : TIok P t i) {j off n : Nat} {ag : Bool} (e : nth i.fl j = some (some (off, ag, n))) : HasFld P t j off := ⟨by have := (h.fl.get e).1; rwa [Nat.zero_add] at this⟩
theorem TIok.hasFldT (h : TIok P t i) {j off n : Nat} {ag : Bool} (e : nth i.fl j = some (some (off, ag, n))) : HasFldT P t j off ag n := ⟨by have := (h.fl.get e).2; rwa [Nat.zero_add] at this⟩
end

/-- The next operation, whose guard says yes. -/
def LexG (P : Program) (TB : List (Nat × Obj)) (Γ : Ctx) (ops : Array Oper) (o : Oper) (fl : Nat → Nat) (i n : Nat) (K : Env → Store → Nat → Prop) (L : List (Nat × E)) (σ : Store) (nx : Nat) : Prop :=
  gval ops o (look L) = some true → LexO P TB Γ ops o fl i n K L σ nx
def xE : Bool × List C → Option E
  | (false, [c]) => some (.o c)
  | (true, cs) => some (.a cs)
  | _ => none
def ev1 (f : Env) : Op → Option E
  | .move x => ev f x
  | .pick c x y => match ev f c with
    | some (.o (.d (.v (.bool true)))) => ev f x
    | some (.o (.d (.v (.bool false)))) => ev f y
    | _ => none
  | .extract x k => match ev f x with
    | some (.t xs) => (xs[k]?).bind xE
    | _ => none
  | .nilCheck x => match ev f x with
    | some (.o (.d (.p cs))) => some (.o (.ip cs))
    | some (.o (.ptr id k i j)) => some (.o (.ptr id k i j))
    | some (.o (.fn gg cs)) => some (.o (.fn gg cs))
    | _ => none
  | _ => none
def kEq : IntKind → IntKind → Bool
  | .i64, .i64 | .u8, .u8 | .u64, .u64 | .i32, .i32 | .u16, .u16 | .u32, .u32 => true
  | _, _ => false
theorem kEq_ok {a b : IntKind} (h : kEq a b = true) : a = b := by cases a <;> cases b <;> first | rfl | cases h
def cmpZ (o : BinOp) (m n : Int) : Option Bool := match o with
  | .lss => some (decide (m < n))
  | .leq => some (decide (m ≤ n))
  | .gtr => some (decide (m > n))
  | .geq => some (decide (m ≥ n))
  | .eql => some (decide (m = n))
  | .neq => some (decide (m ≠ n))
  | _ => none
def cmpT (o : BinOp) (a b : List UInt8) : Option Bool := match o with
  | .eql => some (decide (a = b))
  | .neq => some (decide (a ≠ b))
  | _ => none
def cmpV (o : BinOp) : E → E → Option Bool
  | .o (.d (.v (.int k m))), .o (.d (.v (.int k' n))) => match kEq k k' with
    | true => cmpZ o m n
    | false => none
  | .o (.d (.v (.string ⟨⟨a⟩⟩))), .o (.d (.v (.string ⟨⟨b⟩⟩))) => cmpT o a b
  | _, _ => none
def rngV : IntKind → Int → Option Prop
  | .i64, m => some (-9223372036854775808 ≤ m ∧ m ≤ 9223372036854775807)
  | .u64, m => some (0 ≤ m ∧ m ≤ 18446744073709551615)
  | .u8, m => some (0 ≤ m ∧ m ≤ 255)
  | .i32, m => some (-2147483648 ≤ m ∧ m ≤ 2147483647)
  | _, _ => none
def arI (o : BinOp) (k : IntKind) (m n : Int) : Option (Prop × E) := match o with
  | .add => (rngV k (m + n)).map fun q => (q, eI k (m + n))
  | .sub => (rngV k (m - n)).map fun q => (q, eI k (m - n))
  | .mul => (rngV k (m * n)).map fun q => (q, eI k (m * n))
  | .rem => some (0 ≤ m ∧ 0 < n, eI k (m % n))
  | .and => some (True, eI k (iAnd k m n))
  | .or => some (True, eI k (iOr k m n))
  | _ => none
def arV (o : BinOp) : E → E → Option (Prop × E)
  | .o (.d (.v (.int k m))), .o (.d (.v (.int k' n))) => match o with
    | .shr => some (0 ≤ n, eI k (m.fdiv (2 ^ (min n.toNat k.bits))))
    | .quo => match kEq k .i64, kEq k' .i64 with
      | true, true => some ((0 ≤ m ∧ m ≤ 9223372036854775807) ∧ 0 < n, eI .i64 (m / n))
      | _, _ => none
    | o => match kEq k k' with
      | true => arI o k m n
      | false => none
  | .o (.d (.v (.string ⟨⟨a⟩⟩))), .o (.d (.v (.string ⟨⟨b⟩⟩))) => match o with
    | .add => some (a.length + b.length ≤ 9223372036854775807, eT (a ++ b))
    | _ => none
  | _, _ => none
def fldV (off : Nat) : E → Option E
  | .o (.d (.p cs)) => some (.o (.ip (cs.drop off)))
  | .o (.ptr id k i j) => some (.o (.ptr id k i (j + off)))
  | _ => none
def ldV (ag : Bool) (n : Nat) : E → Option E
  | .o (.d (.p cs)) => match ag, cs with
    | false, c :: _ => some (.o (.d c))
    | true, cs => match Nat.ble n cs.length with
      | true => some (.a ((cs.take n).map .d))
      | false => none
    | _, _ => none
  | _ => none
def ldR (ag : Bool) (n j : Nat) (r : List C) : Option E := match ag with
  | false => (r[j]?).map .o
  | true => match Nat.ble (j + n) r.length with
    | true => some (.a ((r.drop j).take n))
    | false => none
def fvV (ag : Bool) (off n : Nat) (cs : List C) : Option E := match ag with
  | false => (cs[off]?).map .o
  | true => match Nat.ble (off + n) cs.length with
    | true => some (.a ((cs.drop off).take n))
    | false => none
def ixV (k : Nat) (n : Int) : E → Option E
  | .o (.d (.p cs)) => some (.o (.ip (cs.drop (n.toNat * k))))
  | .o (.ptr id k' i j) => some (.o (.ptr id k' i (j + n.toNat * k)))
  | _ => none
def lnV (k : Nat) : E → Option E
  | .o (.d (.l rows)) => some (eI .i64 rows.length)
  | .o (.arr _ k' _ len) => match Nat.beq k' k with
    | true => some (eI .i64 len)
    | false => none
  | _ => none


def tr : Option E → Option (Prop × E)
  | some e => some (True, e)
  | none => none
def nilV : Bool → E → E → Option (Prop × E)
  | true, .o (.d (.p _)), .o (.d (.v (.pointer none))) => some (True, eB false)
  | true, .o (.d (.v (.pointer none))), .o (.d (.v (.pointer none))) => some (True, eB true)
  | _, _, _ => none
def binV (pt : Bool) (o : BinOp) (a b : E) : Option (Prop × E) := match o with
  | .eql => nilV pt a b
  | o => arV o a b
def idxV (i : TI) : E → E → Option (Prop × E)
  | .o (.arr id k off len), .o (.d (.v (.int _ m))) => match i.sl with
    | some (_, k', _) => match Nat.beq k k' with
      | true => some (0 ≤ m ∧ m < len, .o (.ptr id k (off + m.toNat) 0))
      | false => none
    | none => none
  | a, .o (.d (.v (.int _ m))) => match i.ar with
    | some (len, k) => match ixV k m a with
      | some e => some (0 ≤ m ∧ m < len, e)
      | none => none
    | none => none
  | _, _ => none
def lenV (i : TI) : E → Option E
  | .o (.d (.v (.string ⟨⟨s⟩⟩))) => match i.st with
    | true => some (eI .i64 s.length)
    | false => none
  | e => match i.sl with
    | some (_, k, _) => lnV k e
    | none => none
def conV (k k' : IntKind) : E → Option (Prop × E)
  | .o (.d (.v (.int k2 m))) => match kEq k2 k, rngV k' m with
    | true, some q => some (q, eI k' m)
    | _, _ => none
  | _ => none
/-- What an operation gives, if what stands first holds. -/
def reck (T : List (Nat × TI)) (md : Bool) (f : Env) : Op → Option (Prop × E)
  | .assign x => match md, notNil x with
    | true, false => none
    | _, _ => tr (ev f x)
  | .binOp o t x y _ => match ev f x, ev f y with
    | some a, some b => binV (tyi T t).pt o a b
    | _, _ => none
  | .fieldAddr s x k => match nth (tyi T s).fl k, ev f x with
    | some (some (off, _, _)), some a => tr (fldV off a)
    | _, _ => none
  | .field t x k => match nth (tyi T t).fl k, ev f x with
    | some (some (off, ag, n)), some (.a cs) => tr (fvV ag off n cs)
    | _, _ => none
  | .load t x => match (tyi T t).ld, ev f x with
    | some (ag, n), some a => tr (ldV ag n a)
    | _, _ => none
  | .indexAddr t x y => match ev f x, ev f y with
    | some a, some b => idxV (tyi T t) a b
    | _, _ => none
  | .call ⟨.builtin .len, ⟨[x]⟩, ⟨[t]⟩⟩ => match ev f x with
    | some a => tr (lenV (tyi T t) a)
    | none => none
  | .convert s t x => match (tyi T s).ik, (tyi T t).ik, ev f x with
    | some k, some k', some a => conV k k' a
    | _, _, _ => none
  | .makeFunc (.func gg) ⟨[]⟩ caps => match evs f caps.toList with
    | some es => match toCs es with
      | some cs => some (True, .o (.fn gg cs))
      | none => none
    | none => none
  | op => tr (ev1 f op)
def boV : BinOp → E → E → Option Bool
  | .eql, .o (.d (.v (.bool a))), .o (.d (.v (.bool b))) => some (a == b)
  | .neq, .o (.d (.v (.bool a))), .o (.d (.v (.bool b))) => some (a != b)
  | _, _, _ => none
/-- What a test gives. -/
def reckB (T : List (Nat × TI)) (f : Env) : Op → Option Bool
  | .binOp o t x y _ => match ev f x, ev f y with
    | some a, some b => match (tyi T t).bo with
      | true => boV o a b
      | false => cmpV o a b
    | _, _ => none
  | .unOp .not _ x => match ev f x with
    | some (.o (.d (.v (.bool b)))) => some (!b)
    | _ => none
  | _ => none
/-- What a load gives off the store. -/
def reckS (T : List (Nat × TI)) (σ : Store) (f : Env) : Op → Option E
  | .load t x => match (tyi T t).ld, ev f x with
    | some (ag, n), some (.o (.ptr id k i j)) => match look σ id with
      | some (.cells _ k' rows) => match Nat.beq k k', nth rows i with
        | true, some r => ldR ag n j r
        | _, _ => none
      | _ => none
    | _, _ => none
  | _ => none
/-- The store behind a store. -/
def reckW (T : List (Nat × TI)) (σ : Store) (f : Env) (t : Nat) (x y : Operand) : Option Store :=
  match (tyi T t).ld, ev f x, ev f y with
  | some (_, n), some (.o (.ptr id k i j)), some e => match look σ id with
    | some (.cells ct k' rows) => match Nat.beq k k', nth rows i with
      | true, some r => match eOk e, Nat.beq (eC e).length n, Nat.ble (j + n) k with
        | true, true, true => some ((id, .cells ct k (rows.set i (spliceC r j (eC e)))) :: σ)
        | _, _, _ => none
      | _, _ => none
    | _ => none
  | _, _, _ => none

section
variable {P : Program} {TB : List (Nat × Obj)} {Γ : Ctx} {d : Option Tmp} {ty : TypeId} {pos : String} {af : Array Edge} {g : Option (Nat × Bool)} {f : Env} {σ : Store} {nx : Nat}
theorem run_eqB {t : TypeId} {a b : Bool} (he : P.underlying t = some .bool) (w : World) : (Op.equal t (.bool a) (.bool b)).run P w = .ok (a == b) w := by
  unfold Op.equal Op.maxDepth
  rw [show 10000 = 9999 + 1 from rfl, Op.equalIn]
  simp [run_underlying he, go_sem]
theorem q_eqB {t yt : TypeId} {x y : Operand} {a b : Bool} [hp : HasBool P t] (hx : ev f x = some (eB a)) (hy : ev f y = some (eB b)) : QOp P TB Γ ⟨d, .binOp .eql t x y yt, ty, pos, af, g⟩ f σ nx (eB (a == b)) :=
  bin_run hx hy rfl fun w => by
    have h6 : binOp .eql t (.bool a) (.bool b) = (do pure (.bool (← Op.equal t (.bool a) (.bool b)))) := rfl
    have h7 : eqGuard .eql t x y (.bool a) (.bool b) = pure () := rfl
    rw [h6, h7]
    simp [run_eqB hp.out w, go_sem]
theorem q_neB {t yt : TypeId} {x y : Operand} {a b : Bool} [hp : HasBool P t] (hx : ev f x = some (eB a)) (hy : ev f y = some (eB b)) : QOp P TB Γ ⟨d, .binOp .neq t x y yt, ty, pos, af, g⟩ f σ nx (eB (a != b)) :=
  bin_run hx hy rfl fun w => by
    have h6 : binOp .neq t (.bool a) (.bool b) = (do pure (.bool (!(← Op.equal t (.bool a) (.bool b))))) := rfl
    have h7 : eqGuard .neq t x y (.bool a) (.bool b) = pure () := rfl
    rw [h6, h7]
    simp [run_eqB hp.out w, go_sem, bne]
theorem q_1 {op : Op} {e : E} (h : ev1 f op = some e) : QOp P TB Γ ⟨d, op, ty, pos, af, g⟩ f σ nx e := by
  unfold ev1 at h
  split at h
  · exact q_move h
  · split at h
    · rename_i h1; exact q_pickT h1 h
    · rename_i h1; exact q_pickF h1 h
    · cases h
  · split at h
    · rename_i h1
      refine q_extract h1 ?_
      rw [← h]
      congr 1
    · cases h
  · split at h
    · rename_i h1; injection h with h; subst h; exact q_nilIp h1
    · rename_i h1; injection h with h; subst h; exact q_nilP h1
    · rename_i h1; injection h with h; subst h; exact q_nilFn h1
    · cases h
  · cases h
theorem q_cmp {o : BinOp} {t yt : TypeId} {x y : Operand} {ex ey : E} {c : Bool} (hx : ev f x = some ex) (hy : ev f y = some ey) (hc : cmpV o ex ey = some c) :
    QOp P TB Γ ⟨d, .binOp o t x y yt, ty, pos, af, g⟩ f σ nx (eB c) := by
  unfold cmpV at hc
  split at hc
  · split at hc
    · rename_i hk
      have hk := kEq_ok hk
      subst hk
      unfold cmpZ at hc
      split at hc <;> first | (injection hc with hc; subst hc) | cases hc
      · exact q_lss hx hy
      · exact q_leq hx hy
      · exact q_gtr hx hy
      · exact q_geq hx hy
      · exact q_eql hx hy
      · exact q_neq hx hy
    · cases hc
  · unfold cmpT at hc
    split at hc <;> first | (injection hc with hc; subst hc) | cases hc
    · exact q_eqT hx hy
    · exact q_neT hx hy
  · cases hc
theorem rng_in {k : IntKind} {m : Int} {q : Prop} (h : rngV k m = some q) (hq : q) : k.wrap m = m := by
  unfold rngV at h
  split at h <;> first | (injection h with h; subst h) | cases h
  · exact IntWalk.i64_in _ hq
  · exact IntWalk.u64_in _ hq
  · exact IntWalk.u8_in _ hq
  · exact IntWalk.i32_in _ hq
theorem q_ar {o : BinOp} {t yt : TypeId} {x y : Operand} {ex ey e : E} {q : Prop} (hx : ev f x = some ex) (hy : ev f y = some ey) (hc : arV o ex ey = some (q, e)) (hq : q) :
    QOp P TB Γ ⟨d, .binOp o t x y yt, ty, pos, af, g⟩ f σ nx e := by
  unfold arV at hc
  split at hc
  · split at hc
    · injection hc with hc; injection hc with h1 h2; subst h1; subst h2; exact q_shr hx hy hq rfl
    · split at hc
      · rename_i hk hk'
        have hk := kEq_ok hk
        have hk' := kEq_ok hk'
        subst hk; subst hk'
        injection hc with hc; injection hc with h1 h2; subst h1; subst h2; exact q_quoP hx hy hq.1.1 hq.1.2 hq.2
      · cases hc
    · split at hc
      · rename_i hk
        have hk := kEq_ok hk
        subst hk
        unfold arI at hc
        split at hc
        · obtain ⟨q', hr, he⟩ := Option.map_eq_some_iff.1 hc
          injection he with h1 h2; subst h1; subst h2; exact q_add hx hy (rng_in hr hq)
        · obtain ⟨q', hr, he⟩ := Option.map_eq_some_iff.1 hc
          injection he with h1 h2; subst h1; subst h2; exact q_sub hx hy (rng_in hr hq)
        · obtain ⟨q', hr, he⟩ := Option.map_eq_some_iff.1 hc
          injection he with h1 h2; subst h1; subst h2; exact q_mul hx hy (rng_in hr hq)
        · injection hc with hc; injection hc with h1 h2; subst h1; subst h2; exact q_remP hx hy hq.1 hq.2
        · injection hc with hc; injection hc with h1 h2; subst h2; exact q_and hx hy rfl
        · injection hc with hc; injection hc with h1 h2; subst h2; exact q_or hx hy rfl
        · cases hc
      · cases hc
  · split at hc
    · injection hc with hc; injection hc with h1 h2; subst h1; subst h2; exact q_cat hx hy hq
    · cases hc
  · cases hc
theorem q_fld {s k off : Nat} {x : Operand} {ex e : E} [hf : HasFld P s k off] (hx : ev f x = some ex) (h : fldV off ex = some e) : QOp P TB Γ ⟨d, .fieldAddr s x k, ty, pos, af, g⟩ f σ nx e := by
  unfold fldV at h
  split at h <;> first | (injection h with h; subst h) | cases h
  · exact q_fieldIp hx
  · exact q_fieldP hx
theorem q_ld {t : TypeId} {x : Operand} {ex e : E} {ag : Bool} {n : Nat} [hl : HasLd P t ag n] (hx : ev f x = some ex) (h : ldV ag n ex = some e) : QOp P TB Γ ⟨d, .load t x, ty, pos, af, g⟩ f σ nx e := by
  unfold ldV at h
  split at h
  · split at h
    · injection h with h; subst h; exact q_loadIp hx
    · split at h
      · rename_i hb; injection h with h; subst h; exact q_loadIpA hx (Nat.le_of_ble_eq_true hb)
      · cases h
    · cases h
  · cases h
theorem q_ldS {t : TypeId} {x : Operand} {id k i j : Nat} {T : TypeId} {rows : List (List C)} {r : List C} {e : E} {ag : Bool} {n : Nat} [hl : HasLd P t ag n] (hx : ev f x = some (.o (.ptr id k i j))) (ho : look σ id = some (.cells T k rows)) (hr : rows[i]? = some r)
    (h : ldR ag n j r = some e) : QOp P TB Γ ⟨d, .load t x, ty, pos, af, g⟩ f σ nx e := by
  unfold ldR at h
  split at h
  · obtain ⟨c, hc, he⟩ := Option.map_eq_some_iff.1 h
    subst he
    exact q_loadP hx ho hr hc
  · split at h
    · rename_i hb; injection h with h; subst h; exact q_loadPA hx ho hr (Nat.le_of_ble_eq_true hb)
    · cases h
theorem q_fv {t : TypeId} {x : Operand} {k off n : Nat} {ag : Bool} {cs : List C} {e : E} [hf : HasFldT P t k off ag n] (hx : ev f x = some (.a cs)) (h : fvV ag off n cs = some e) : QOp P TB Γ ⟨d, .field t x k, ty, pos, af, g⟩ f σ nx e := by
  unfold fvV at h
  split at h
  · obtain ⟨c, hc, he⟩ := Option.map_eq_some_iff.1 h
    subst he
    exact q_field hx hc
  · split at h
    · rename_i hb; injection h with h; subst h; exact q_fieldA hx (Nat.le_of_ble_eq_true hb)
    · cases h
theorem q_ix {t : TypeId} {x y : Operand} {ex e : E} {n : Int} {len k : Nat} {ik : IntKind} [hl : HasAr P t len k] (hx : ev f x = some ex) (hy : ev f y = some (eI ik n)) (h : ixV k n ex = some e) (hn : 0 ≤ n ∧ n < len) :
    QOp P TB Γ ⟨d, .indexAddr t x y, ty, pos, af, g⟩ f σ nx e := by
  unfold ixV at h
  split at h <;> first | (injection h with h; subst h) | cases h
  · exact q_indexIp hx hy hn.1 hn.2
  · exact q_indexP hx hy hn.1 hn.2
theorem q_len {t e : TypeId} {x : Operand} {ex r : E} {k b : Nat} [hl : HasSl P t e k b] (hx : ev f x = some ex) (h : lnV k ex = some r) : QOp P TB Γ ⟨d, .call ⟨.builtin .len, #[x], #[t]⟩, ty, pos, af, g⟩ f σ nx r := by
  unfold lnV at h
  split at h
  · injection h with h; subst h; exact q_lenL hx
  · split at h
    · injection h with h; subst h; exact q_lenA hx
    · cases h
  · cases h

theorem tr_inv {x : Option E} {q : Prop} {e : E} (h : tr x = some (q, e)) : x = some e := by
  cases x with
  | none => cases h
  | some y => injection h with h; injection h with _ h; rw [h]
theorem len_ok {i : TI} {t : TypeId} {x : Operand} {a e : E} (hi : TIok P t i) (hx : ev f x = some a) (h : lenV i a = some e) : QOp P TB Γ ⟨d, .call ⟨.builtin .len, #[x], #[t]⟩, ty, pos, af, g⟩ f σ nx e := by
  unfold lenV at h
  split at h
  · split at h
    · rename_i hs
      injection h with h; subst h
      haveI := hi.hasStr hs
      exact q_lenT hx
    · cases h
  · split at h
    · rename_i hs
      haveI := hi.hasSl hs
      exact q_len hx h
    · cases h
theorem idx_ok {i : TI} {t : TypeId} {x y : Operand} {a b e : E} {q : Prop} (hi : TIok P t i) (hx : ev f x = some a) (hy : ev f y = some b) (h : idxV i a b = some (q, e)) (hq : q) : QOp P TB Γ ⟨d, .indexAddr t x y, ty, pos, af, g⟩ f σ nx e := by
  unfold idxV at h
  split at h
  · split at h
    · rename_i hs
      split at h
      · rename_i hk
        injection h with h; injection h with h1 h2; subst h1; subst h2
        have := Nat.eq_of_beq_eq_true hk
        subst this
        haveI := hi.hasSl hs
        exact q_indexA hx hy hq.1 hq.2
      · cases h
    · cases h
  · split at h
    · rename_i hs
      split at h
      · rename_i hv
        injection h with h; injection h with h1 h2; subst h1; subst h2
        haveI := hi.hasAr hs
        exact q_ix hx hy hv hq
      · cases h
    · cases h
  · cases h
theorem nil_ok {i : TI} {t yt : TypeId} {x y : Operand} {a b e : E} {q : Prop} (hi : TIok P t i) (hx : ev f x = some a) (hy : ev f y = some b) (h : nilV i.pt a b = some (q, e)) : QOp P TB Γ ⟨d, .binOp .eql t x y yt, ty, pos, af, g⟩ f σ nx e := by
  unfold nilV at h
  split at h
  · rename_i hp
    injection h with h; injection h with h1 h2; subst h2
    haveI := hi.hasPtr hp
    exact q_eqNilIp hx hy
  · rename_i hp
    injection h with h; injection h with h1 h2; subst h2
    haveI := hi.hasPtr hp
    exact q_eqNilNil hx hy
  · cases h
theorem con_ok {i i' : TI} {s t : TypeId} {k k' : IntKind} {x : Operand} {a e : E} {q : Prop} (hi : TIok P s i) (hi' : TIok P t i') (hk : i.ik = some k) (hk' : i'.ik = some k') (hx : ev f x = some a) (h : conV k k' a = some (q, e)) (hq : q) : QOp P TB Γ ⟨d, .convert s t x, ty, pos, af, g⟩ f σ nx e := by
  unfold conV at h
  split at h
  · split at h
    · rename_i h1 hr
      injection h with h; injection h with h2 h3; subst h2; subst h3
      have h1 := kEq_ok h1
      subst h1
      haveI := hi.hasInt hk
      haveI := hi'.hasInt hk'
      exact q_conv hx (rng_in hr hq)
    · cases h
  · cases h
theorem reck_ok [hT : HasT P] {md : Bool} {op : Op} {q : Prop} {e : E} (h : reck hT.T md f op = some (q, e)) (hq : q) : QOp P TB Γ ⟨d, op, ty, pos, af, g⟩ f σ nx e := by
  have hty := fun t => tyi_ok (P := P) t hT.ok
  unfold reck at h
  split at h
  · split at h
    · cases h
    · exact q_assign (tr_inv h)
  · rename_i o t x y yt
    split at h
    · rename_i hx hy
      unfold binV at h
      split at h
      · exact nil_ok (hty t) hx hy h
      · exact q_ar hx hy h hq
    · cases h
  · rename_i s x k
    split at h
    · rename_i hf hx
      haveI := (hty s).hasFld hf
      exact q_fld hx (tr_inv h)
    · cases h
  · rename_i t x k
    split at h
    · rename_i hf hx
      haveI := (hty t).hasFldT hf
      exact q_fv hx (tr_inv h)
    · cases h
  · rename_i t x
    split at h
    · rename_i hl hx
      haveI := (hty t).hasLd hl
      exact q_ld hx (tr_inv h)
    · cases h
  · rename_i t x y
    split at h
    · rename_i hx hy
      exact idx_ok (hty t) hx hy h hq
    · cases h
  · rename_i x t
    split at h
    · rename_i hx
      exact len_ok (hty t) hx (tr_inv h)
    · cases h
  · rename_i s t x
    split at h
    · rename_i h1 h2 hx
      exact con_ok (hty s) (hty t) h1 h2 hx h hq
    · cases h
  · split at h
    · rename_i h1
      split at h
      · rename_i h2
        injection h with h; injection h with _ h; subst h
        exact q_fn h1 h2
      · cases h
    · cases h
  · exact q_1 (tr_inv h)
theorem reckB_ok [hT : HasT P] {op : Op} {c : Bool} (h : reckB hT.T f op = some c) : QOp P TB Γ ⟨d, op, ty, pos, af, g⟩ f σ nx (eB c) := by
  have hty := fun t => tyi_ok (P := P) t hT.ok
  unfold reckB at h
  split at h
  · rename_i o t x y yt
    split at h
    · rename_i hx hy
      split at h
      · rename_i hb
        haveI := (hty t).hasBool hb
        unfold boV at h
        split at h
        · injection h with h; subst h; exact q_eqB hx hy
        · injection h with h; subst h; exact q_neB hx hy
        · cases h
      · exact q_cmp hx hy h
    · cases h
  · split at h
    · rename_i hx
      injection h with h; subst h
      exact q_not hx
    · cases h
  · cases h
theorem reckS_ok [hT : HasT P] {op : Op} {e : E} (h : reckS hT.T σ f op = some e) : QOp P TB Γ ⟨d, op, ty, pos, af, g⟩ f σ nx e := by
  have hty := fun t => tyi_ok (P := P) t hT.ok
  unfold reckS at h
  split at h
  · rename_i t x
    split at h
    · rename_i hl hx
      split at h
      · rename_i ho
        split at h
        · rename_i hk hr
          have hk := Nat.eq_of_beq_eq_true hk
          subst hk
          haveI := (hty t).hasLd hl
          rw [nth_get] at hr
          exact q_ldS hx ho hr h
        · cases h
      · cases h
    · cases h
  · cases h
theorem reckW_ok [hT : HasT P] {t : TypeId} {x y : Operand} {σ' : Store} {K : E → Store → Nat → Prop} (h : reckW hT.T σ f t x y = some σ') (hK : K (.t []) σ' nx) : AOp P TB Γ ⟨d, .store t x y, ty, pos, af, g⟩ f σ nx K := by
  have hty := fun t => tyi_ok (P := P) t hT.ok
  unfold reckW at h
  split at h
  · rename_i hl hx hy
    split at h
    · rename_i ho
      split at h
      · rename_i hk hr
        split at h
        · rename_i h1 h2 h3
          have hk := Nat.eq_of_beq_eq_true hk
          subst hk
          haveI := (hty t).hasLd hl
          rw [nth_get] at hr
          injection h with h
          subst h
          exact n_store hx hy h1 ho hr (Nat.eq_of_beq_eq_true h2) (Nat.le_of_ble_eq_true h3) hK
        · cases h
      · cases h
    · cases h
  · cases h
end
section
variable {P : Program} {TB : List (Nat × Obj)} {Γ : Ctx} {ops : Array Oper} {fl : Nat → Nat} {i n : Nat} {L : List (Nat × E)} {σ : Store} {nx : Nat} {K : Env → Store → Nat → Prop} {d : Tmp} {ty : TypeId} {pos : String} {af : Array Edge} {g : Option (Nat × Bool)} {op : Op}
/-- The guard says yes. -/
theorem gA {d : Option Tmp} (hg : gval ops ⟨d, op, ty, pos, af, g⟩ (look L) = some true) (h : LexG P TB Γ ops ⟨d, op, ty, pos, af, g⟩ fl i n K L σ nx) : LexO P TB Γ ops ⟨d, op, ty, pos, af, g⟩ fl i n K L σ nx := h hg
theorem gS {x : E} (hq : ∀ σ nx, QOp P TB Γ ⟨some d, op, ty, pos, af, g⟩ (look L) σ nx x) (h : Lex P TB Γ ops (ordFrom fl (i + 1) n) K (look ((d, x) :: L)) σ nx) : LexG P TB Γ ops ⟨some d, op, ty, pos, af, g⟩ fl i n K L σ nx := fun hg => popS hq hg h
theorem gQ {x : E} (hq : QOp P TB Γ ⟨some d, op, ty, pos, af, g⟩ (look L) σ nx x) (hf : Nat.beq (fl i) 2 = false) (h : Lex P TB Γ ops (ordFrom fl (i + 1) n) K (look ((d, x) :: L)) σ nx) : LexG P TB Γ ops ⟨some d, op, ty, pos, af, g⟩ fl i n K L σ nx := fun hg => popQ hq hg hf h
theorem gB {c : Bool} (hq : ∀ σ nx, QOp P TB Γ ⟨some d, op, ty, pos, af, g⟩ (look L) σ nx (eB c)) (h : ∀ b, c = b → Lex P TB Γ ops (ordFrom fl (i + 1) n) K (look ((d, eB b) :: L)) σ nx) : LexG P TB Γ ops ⟨some d, op, ty, pos, af, g⟩ fl i n K L σ nx := fun hg => popB hq hg h
theorem gQB {c : Bool} (hq : QOp P TB Γ ⟨some d, op, ty, pos, af, g⟩ (look L) σ nx (eB c)) (hf : Nat.beq (fl i) 2 = false) (h : ∀ b, c = b → Lex P TB Γ ops (ordFrom fl (i + 1) n) K (look ((d, eB b) :: L)) σ nx) : LexG P TB Γ ops ⟨some d, op, ty, pos, af, g⟩ fl i n K L σ nx := fun hg => popQ hq hg hf (h c rfl)
theorem gW (h : AOp P TB Γ ⟨some d, op, ty, pos, af, g⟩ (look L) σ nx (fun x σ' nx' => Lex P TB Γ ops (ordFrom fl (i + 1) n) K (look ((d, x) :: L)) σ' nx')) (hf : fl i = 1) : LexG P TB Γ ops ⟨some d, op, ty, pos, af, g⟩ fl i n K L σ nx := fun hg => popW h hg hf
theorem gW0 (h : AOp P TB Γ ⟨none, op, ty, pos, af, g⟩ (look L) σ nx (fun _ σ' nx' => Lex P TB Γ ops (ordFrom fl (i + 1) n) K (look L) σ' nx')) (hf : fl i = 1) : LexG P TB Γ ops ⟨none, op, ty, pos, af, g⟩ fl i n K L σ nx := fun hg => popW0 h hg hf

/-- What is reckoned. -/
theorem yQ {md : Bool} [hT : HasT P] {q : Prop} {x : E} (h : reck hT.T md (look L) op = some (q, x)) (hq : q) (hk : Lex P TB Γ ops (ordFrom fl (i + 1) n) K (look ((d, x) :: L)) σ nx) : LexG P TB Γ ops ⟨some d, op, ty, pos, af, g⟩ fl i n K L σ nx := gS (fun _ _ => reck_ok h hq) hk
theorem yB [hT : HasT P] {c : Bool} (h : reckB hT.T (look L) op = some c) (hk : ∀ b, c = b → Lex P TB Γ ops (ordFrom fl (i + 1) n) K (look ((d, eB b) :: L)) σ nx) : LexG P TB Γ ops ⟨some d, op, ty, pos, af, g⟩ fl i n K L σ nx := gB (fun _ _ => reckB_ok h) hk
theorem yS [hT : HasT P] {x : E} (h : reckS hT.T σ (look L) op = some x) (hf : Nat.beq (fl i) 2 = false) (hk : Lex P TB Γ ops (ordFrom fl (i + 1) n) K (look ((d, x) :: L)) σ nx) : LexG P TB Γ ops ⟨some d, op, ty, pos, af, g⟩ fl i n K L σ nx := gQ (reckS_ok h) hf hk
theorem yW [hT : HasT P] {t : TypeId} {x y : Operand} {σ' : Store} (h : reckW hT.T σ (look L) t x y = some σ') (hf : fl i = 1) (hk : Lex P TB Γ ops (ordFrom fl (i + 1) n) K (look L) σ' nx) : LexG P TB Γ ops ⟨none, .store t x y, ty, pos, af, g⟩ fl i n K L σ nx := gW0 (reckW_ok h hk) hf
theorem yO [hT : HasT P] {T : TypeId} {z : List Value} (h : (tyi hT.T T).ze = some z) (hok : z.all zOk = true) (hf : fl i = 1) (hK : Lex P TB Γ ops (ordFrom fl (i + 1) n) K (look ((d, .o (.ptr nx z.length 0 0)) :: L)) ((nx, .cells T z.length [z.map zC]) :: σ) (nx + 1)) : LexG P TB Γ ops ⟨some d, .alloc T, ty, pos, af, g⟩ fl i n K L σ nx :=
  haveI := (tyi_ok (P := P) T hT.ok).hasZe h
  gW (n_alloc hok hK) hf
/-- Off the store, a row that is known by name. -/
theorem yM [hT : HasT P] {t : TypeId} {x : Operand} {id k i' j : Nat} {T : TypeId} {rows : List (List C)} {r : List C} {e : E} {ag : Bool} {m : Nat} (hx : ev (look L) x = some (.o (.ptr id k i' j))) (ho : look σ id = some (.cells T k rows)) (hr : rows[i']? = some r) (hl : (tyi hT.T t).ld = some (ag, m))
    (h : ldR ag m j r = some e) (hf : Nat.beq (fl i) 2 = false) (hk : Lex P TB Γ ops (ordFrom fl (i + 1) n) K (look ((d, e) :: L)) σ nx) : LexG P TB Γ ops ⟨some d, .load t x, ty, pos, af, g⟩ fl i n K L σ nx :=
  haveI := (tyi_ok (P := P) t hT.ok).hasLd hl
  gQ (q_ldS hx ho hr h) hf hk
theorem yV [hT : HasT P] {t : TypeId} {x y : Operand} {id k i' j m : Nat} {T : TypeId} {rows : List (List C)} {r : List C} {e : E} {ag : Bool} (hx : ev (look L) x = some (.o (.ptr id k i' j))) (hy : ev (look L) y = some e) (ho : eOk e = true) (hlk : look σ id = some (.cells T k rows)) (hr : rows[i']? = some r)
    (hl : (tyi hT.T t).ld = some (ag, m)) (hn : (eC e).length = m) (hj : Nat.ble (j + m) k = true) (hf : fl i = 1) (hk : Lex P TB Γ ops (ordFrom fl (i + 1) n) K (look L) ((id, .cells T k (rows.set i' (spliceC r j (eC e)))) :: σ) nx) : LexG P TB Γ ops ⟨none, .store t x y, ty, pos, af, g⟩ fl i n K L σ nx :=
  haveI := (tyi_ok (P := P) t hT.ok).hasLd hl
  gW0 (n_store hx hy ho hlk hr hn (Nat.le_of_ble_eq_true hj) hk) hf
/-- Lists: a length, an element, a byte. -/
theorem yLm [hT : HasT P] {α : Type} {t e : TypeId} {x : Operand} {l : List α} {g1 : α → List D} {k b : Nat} (hx : ev (look L) x = some (.o (.d (.l (l.map g1))))) (hl : (tyi hT.T t).sl = some (e, k, b)) (hk : Lex P TB Γ ops (ordFrom fl (i + 1) n) K (look ((d, eI .i64 l.length) :: L)) σ nx) : LexG P TB Γ ops ⟨some d, .call ⟨.builtin .len, #[x], #[t]⟩, ty, pos, af, g⟩ fl i n K L σ nx :=
  haveI := (tyi_ok (P := P) t hT.ok).hasSl hl
  gS (fun _ _ => q_lenM hx) hk
theorem yL [hT : HasT P] {t e : TypeId} {x y : Operand} {rows : List (List D)} {row : List D} {m : Int} {k b : Nat} {ik : IntKind} (hx : ev (look L) x = some (.o (.d (.l rows)))) (hy : ev (look L) y = some (eI ik m)) (hr : rows[m.toNat]? = some row) (hl : (tyi hT.T t).sl = some (e, k, b)) (hn : row.length = k) (h0 : 0 ≤ m)
    (hk : Lex P TB Γ ops (ordFrom fl (i + 1) n) K (look ((d, .o (.ip row)) :: L)) σ nx) : LexG P TB Γ ops ⟨some d, .indexAddr t x y, ty, pos, af, g⟩ fl i n K L σ nx :=
  haveI := (tyi_ok (P := P) t hT.ok).hasSl hl
  gS (fun _ _ => q_indexL hx hy h0 hr hn) hk
theorem yT [hT : HasT P] {t : TypeId} {x y : Operand} {s : List UInt8} {m : Int} {c : UInt8} {ik : IntKind} (hx : ev (look L) x = some (eT s)) (hy : ev (look L) y = some (eI ik m)) (hc : s[m.toNat]? = some c) (hl : (tyi hT.T t).st = true) (h0 : 0 ≤ m)
    (hk : Lex P TB Γ ops (ordFrom fl (i + 1) n) K (look ((d, eI .u8 (c.toNat : Int)) :: L)) σ nx) : LexG P TB Γ ops ⟨some d, .index t x y, ty, pos, af, g⟩ fl i n K L σ nx :=
  haveI := (tyi_ok (P := P) t hT.ok).hasStr hl
  gS (fun _ _ => q_indexT hx hy h0 hc) hk
def slV (k m : Nat) (z : List Value) (es : List E) : Option (List (List D)) := match es.all eOk, toRows es with
  | true, some rows => match rows.all fun r => Nat.beq r.length k, Nat.beq z.length k, z.all zOk, Nat.ble 1 k, Nat.ble (m * k) 16777216 with
    | true, true, true, true, true => some rows
    | _, _, _, _, _ => none
  | _, _ => none
theorem yZ [hT : HasT P] {t e : TypeId} {k b m : Nat} {z : List Value} {parts : Array (Nat × Operand)} {es : List E} {rows : List (List D)} (hl : (tyi hT.T t).sl = some (e, k, b)) (hz : (tyi hT.T e).ze = some z) (hp : numFrom 0 (parts.toList.map (·.2)) = parts.toList) (hn : parts.toList.length = m)
    (hes : evs (look L) (parts.toList.map (·.2)) = some es) (hv : slV k m z es = some rows)
    (h : Lex P TB Γ ops (ordFrom fl (i + 1) n) K (look ((d, .o (.d (.l rows))) :: L)) σ nx) : LexG P TB Γ ops ⟨some d, .buildSlice t m parts, ty, pos, af, g⟩ fl i n K L σ nx := by
  haveI := (tyi_ok (P := P) t hT.ok).hasSl hl
  haveI := (tyi_ok (P := P) e hT.ok).hasZe hz
  unfold slV at hv
  split at hv
  · rename_i h1 h2
    split at hv
    · rename_i h3 h4 h5 h6 h7
      injection hv with hv
      subst hv
      exact gS (fun _ _ => q_sliceI hp hn hes h1 h2 h3 (Nat.eq_of_beq_eq_true h4) h5 h6 h7) h
    · cases hv
  · cases hv
theorem yY {T : TypeId} {x : Operand} {e : E} {ds : List D} (hx : ev (look L) x = some e) (ho : eOk e = true) (hd : toDs (eC e) = some ds) (h : Lex P TB Γ ops (ordFrom fl (i + 1) n) K (look ((d, .o (.ip ds)) :: L)) σ nx) : LexG P TB Γ ops ⟨some d, .box T x, ty, pos, af, g⟩ fl i n K L σ nx := gS (fun _ _ => q_boxI hx ho hd) h
/-- A call of a function that computes. -/
theorem yP {x : Operand} {args : Array Operand} {tys : Array TypeId} {gg : FuncId} {cap : List C} {es : List E} {r : E} (hx : ev (look L) x = some (.o (.fn gg cap))) (hes : evs (look L) args.toList = some es) (hp : (es.all E.pur && C.purL cap) = true)
    (hs : Pure P TB gg (es ++ cap.map .o) r) (hr : r.pur = true) (h : Lex P TB Γ ops (ordFrom fl (i + 1) n) K (look ((d, r) :: L)) σ nx) : LexG P TB Γ ops ⟨some d, .call ⟨.value x, args, tys⟩, ty, pos, af, g⟩ fl i n K L σ nx := gS (fun _ _ => q_call hx hes hp hs hr) h
theorem yC {x : Operand} {args : Array Operand} {tys : Array TypeId} {gg : FuncId} {cap : List C} {es : List E} {c : Bool} (hx : ev (look L) x = some (.o (.fn gg cap))) (hes : evs (look L) args.toList = some es) (hp : (es.all E.pur && C.purL cap) = true)
    (hs : Pure P TB gg (es ++ cap.map .o) (eB c)) (h : ∀ b, c = b → Lex P TB Γ ops (ordFrom fl (i + 1) n) K (look ((d, eB b) :: L)) σ nx) : LexG P TB Γ ops ⟨some d, .call ⟨.value x, args, tys⟩, ty, pos, af, g⟩ fl i n K L σ nx := gB (fun _ _ => q_call hx hes hp hs rfl) h
/-- The guard is a name: both ways. -/
theorem yG {d : Option Tmp} {j t : Nat} {w b : Bool} (_hd : (ops[j]?).bind (·.dst) = some t) (_hv : look L t = some (eB b))
    (hT : b = true → Lex P TB Γ ops (ordFrom fl i (n + 1)) K (look L) σ nx) (hF : b = false → Lex P TB Γ ops (ordFrom fl i (n + 1)) K (look L) σ nx) : LexO P TB Γ ops ⟨d, op, ty, pos, af, some (j, w)⟩ fl i n K L σ nx := by
  intro _
  cases b
  · exact hF rfl
  · exact hT rfl
end
end Go.Am
