/-
  Where letters lead systems that run together.
-/
import Derived.Test.YtilhofhoebpcgaaDoorPart13
namespace Go.Am
open Go Go.Proofs
set_option linter.unusedSimpArgs false
set_option linter.unusedVariables false
attribute [local irreducible] QOp AOp Lex LexO AWp Spec
variable {TB : List (Nat × Obj)}

theorem q_loadIp0 {P : Program} {Γ : Ctx} {d : Option Tmp} {ty : TypeId} {pos : String} {af : Array Edge} {g : Option (Nat × Bool)} {f : Env} {σ : Store} {nx : Nat} {t : TypeId} {x : Operand} {c : D} {cs : List D} {n : Nat} [hl : HasLd P t false n] (hx : ev f x = some (.o (.ip cs))) (hc : cs[0]? = some c) : QOp P TB Γ ⟨d, .load t x, ty, pos, af, g⟩ f σ nx (.o (.d c)) := by
  cases cs with
  | nil => cases hc
  | cons a l => injection hc with hc; subst hc; exact q_loadIp hx
theorem mv_get {es : List Edg} {q l : Int} (h0 : 0 ≤ q ∧ q < 16) (h1 : 0 ≤ l ∧ l < 6) : (((mvRow es).drop (q.toNat * 6)).drop (l.toNat * 1))[0]? = some (iD (setN (toL es q.toNat l.toNat) : Nat)) := by
  rw [List.getElem?_drop, List.getElem?_drop, mvRow_get (by omega)]
  have e1 : (q.toNat * 6 + (l.toNat * 1 + 0)) / 6 = q.toNat := by omega
  have e2 : (q.toNat * 6 + (l.toNat * 1 + 0)) % 6 = l.toNat := by omega
  rw [e1, e2]
theorem next_ok [Tabs TB] (l : List Sys) (h : ∀ s ∈ l, sysOk s = true) (hl : l.length ≤ 3) (node letter : Int) (hn0 : 0 ≤ node) (hn1 : node ≤ 1048576) (h0 : 0 ≤ letter) (h1 : letter < 6) (outs : List Int) (hol : outs.length ≤ 1099511627776) :
    Spec Tryd.prog TB 72 [(0, .cells 3 1 (outs.map iRowC))] 1 [eParts l, eI .i64 node, eI .i64 letter, .o (.arr 0 1 0 outs.length)]
      (fun x σ nx => x = .o (.arr 1 1 0 (outs ++ lowN (l.map (·.st)) (csP l node letter)).length) ∧ nx = 2 ∧ σ = [(1, .cells 3 1 ((outs ++ lowN (l.map (·.st)) (csP l node letter)).map iRowC))]) := by
  have hch := csP_ok h hl h0 h1 node
  have hpos : ∀ z ∈ l.map (·.st), 1 ≤ z ∧ z ≤ 16 := by
    intro z hz
    obtain ⟨s, hs, rfl⟩ := List.mem_map.1 hz
    have := sysOk_head (h s hs)
    omega
  have hprod : ∀ k, 1 ≤ prodI ((l.map (·.st)).drop k) ∧ prodI ((l.map (·.st)).drop k) ≤ 4096 := by
    intro k
    have h2 := prodI_le ((l.map (·.st)).drop k) fun z hz => hpos z (List.mem_of_mem_drop hz)
    have h3 : (16 : Int) ^ ((l.map (·.st)).drop k).length ≤ 4096 := by
      have : ((l.map (·.st)).drop k).length ≤ 3 := by simp; omega
      generalize ((l.map (·.st)).drop k).length = n at this
      have : n = 0 ∨ n = 1 ∨ n = 2 ∨ n = 3 := by omega
      rcases this with rfl | rfl | rfl | rfl <;> decide
    omega
  have hlow := fun k => lowN_in (hch.drop k)
  have hget := fun (k : Nat) (s : Sys) (hs : l[k]? = some s) => csP_get hs node letter
  generalize csP l node letter = cs at *
  have hzs : ∀ (k : Nat) (s : Sys), l[k]? = some s → (l.map (·.st))[k]? = some s.st := fun k s hs => by simp [hs]
  have hzlen : (l.map (·.st)).length = l.length := by simp
  generalize l.map (·.st) = zs at *
  have hcl := hch.len
  refine Spec.of Tryd.func72 rfl (by kernel_rfl) (Nat.le_of_ble_eq_true rfl) ?_; intro Γ hΓ
  (repeat (first | (refine popO rfl ?_; first | (refine gA rfl ?_; first | refine yLm rfl rfl ?_ | ((first | refine yQ (md := true) rfl ?_ ?_ | refine yL rfl rfl (by assumption) rfl rfl ?_ ?_ | refine yT rfl rfl (by assumption) rfl ?_ ?_); (first | exact True.intro | omega | (simp only [oA, oB, oC, oD, oE, oF, oG] at *; omega))) | (refine yB rfl ?_; intro _ _hb) | refine yS rfl rfl ?_ | refine yM rfl rfl (by assumption) rfl rfl rfl ?_ | refine yO rfl rfl rfl ?_ | refine yW rfl rfl ?_ | refine yV rfl rfl rfl rfl (by assumption) rfl rfl rfl rfl ?_ ) | refine popN rfl ?_ | (refine yG rfl rfl ?_ ?_ <;> intro hb <;> subst hb)) | refine AWp.seq ?_ | refine reg (by kernel_rfl) ?_ | refine lexE ?_ | refine regD (noisy []) mixed (by kernel_rfl) (by kernel_rfl) ?_))
  (refine popO rfl ?_; refine popS (fun _ _ => q_boxI rfl rfl rfl) rfl ?_)
  (refine popO rfl ?_; refine popS (fun _ _ => q_assign rfl) rfl ?_)
  (repeat (first | (refine popO rfl ?_; first | (refine gA rfl ?_; first | refine yLm rfl rfl ?_ | ((first | refine yQ (md := false) rfl ?_ ?_ | refine yL rfl rfl (by assumption) rfl rfl ?_ ?_ | refine yT rfl rfl (by assumption) rfl ?_ ?_); (first | exact True.intro | omega | (simp only [oA, oB, oC, oD, oE, oF, oG] at *; omega))) | (refine yB rfl ?_; intro _ _hb) | refine yS rfl rfl ?_ | refine yM rfl rfl (by assumption) rfl rfl rfl ?_ | refine yZ rfl rfl rfl rfl rfl rfl ?_ | refine yY rfl rfl rfl ?_ | refine yO rfl rfl rfl ?_ | refine yW rfl rfl ?_ | refine yV rfl rfl rfl rfl (by assumption) rfl rfl rfl rfl ?_ ) | refine popN rfl ?_ | (refine yG rfl rfl ?_ ?_ <;> intro hb <;> subst hb)) | refine AWp.seq ?_ | refine reg (by kernel_rfl) ?_ | refine lexE ?_ | refine regD (noisy []) mixed (by kernel_rfl) (by kernel_rfl) ?_))
  refine AWp.block ?_
  refine AWp.loopL (α := {k : Nat // k ≤ l.length}) (fun ⟨k, hk⟩ => [(1, eI .i64 (node / prodI (zs.drop k))), (2, eI .i64 letter), (3, .o (.arr 0 1 0 outs.length)), (4, .o (.ip (paRow l))), (9, eInts (lowN (zs.drop k) (cs.drop k))), (10, eI .i64 (prodI (zs.drop k))), (11, eI .i64 ((k : Int) - 1))]) (fun ⟨k, hk⟩ => [(0, .cells 3 1 (outs.map iRowC))]) 1 (fun ⟨k, hk⟩ => k) (⟨l.length, by omega⟩) [0] (by first | (simp [hΓ]; done) | (rw [hΓ]; decide)) (by (repeat' (first | exact trivial | rfl | refine And.intro ?_ ?_)) <;> simp [EnvSub, StoreSub, look_cons, nm, E.ren, C.ren, C.renL, O.ren, killc, kill0, Function.comp_def, argsFrom, zC, hΓ, List.drop_of_length_le, hzlen, hcl.symm, prodI, lowN]) ?_; rintro ⟨k, hk⟩; try dsimp only
  (repeat (first | (refine popO rfl ?_; first | (refine gA rfl ?_; first | refine yLm rfl rfl ?_ | ((first | refine yQ (md := true) rfl ?_ ?_ | refine yL rfl rfl (by assumption) rfl rfl ?_ ?_ | refine yT rfl rfl (by assumption) rfl ?_ ?_); (first | exact True.intro | omega | (simp only [oA, oB, oC, oD, oE, oF, oG] at *; omega))) | (refine yB rfl ?_; intro _ _hb) | refine yS rfl rfl ?_ | refine yM rfl rfl (by assumption) rfl rfl rfl ?_ | refine yO rfl rfl rfl ?_ | refine yW rfl rfl ?_ | refine yV rfl rfl rfl rfl (by assumption) rfl rfl rfl rfl ?_ ) | refine popN rfl ?_ | (refine yG rfl rfl ?_ ?_ <;> intro hb <;> subst hb)) | refine AWp.seq ?_ | refine reg (by kernel_rfl) ?_ | refine lexE ?_ | refine regD (noisy []) mixed (by kernel_rfl) (by kernel_rfl) ?_))
  (refine AWp.cond rfl (fun hb => ?_) (fun hb => ?_) <;> cases hb)
  · obtain ⟨k, rfl⟩ : ∃ k', k = k' + 1 := ⟨k - 1, by first | omega | (simp only [oA, oB, oC, oD, oE, oF, oG] at *; omega)⟩
    obtain ⟨s, hs⟩ := get_some (l := l) (k := k) (by first | omega | (simp only [oA, oB, oC, oD, oE, oF, oG] at *; omega))
    have hs' : (l.map syRow)[(((k + 1 : Nat) : Int) - 1).toNat]? = some (syRow s) := by simp [hs]
    have hm' : (l.map mvpRow)[(((k + 1 : Nat) : Int) - 1).toNat]? = some (mvpRow s) := by simp [hs]
    have hso := h s (List.mem_of_getElem? hs)
    have hsh := sysOk_head hso
    have hz := hzs k s hs
    have hck := hget k s hs
    have hstep := lowN_step hz hck
    have hpd := prodI_drop hz
    have hpr1 := hprod (k + 1)
    have hpr0 := hprod k
    have hlk := hlow (k + 1)
    have hlk0 := (hlow k).2
    rw [hstep] at hlk0
    have hnd : node / prodI (zs.drop k) = node / prodI (zs.drop (k + 1)) / s.st := by
      rw [hpd, Int.mul_comm, Int.ediv_ediv_of_nonneg (by omega)]
    have hn2 : 0 ≤ node / prodI (zs.drop (k + 1)) := Int.ediv_nonneg hn0 (by omega)
    have hn3 : node / prodI (zs.drop (k + 1)) ≤ node := Int.ediv_le_self _ hn0
    rw [hpd] at hpr0
    generalize prodI (zs.drop (k + 1)) = W at *
    generalize lowN (zs.drop (k + 1)) (cs.drop (k + 1)) = low at *
    generalize node / W = nd at *
    have hdg : 0 ≤ nd % s.st ∧ nd % s.st < s.st := ⟨Int.emod_nonneg _ (by omega), Int.emod_lt_of_pos _ (by omega)⟩
    refine AWp.skip ?_
    refine AWp.seq (AWp.block ?_)
    (repeat (first | (refine popO rfl ?_; first | (refine gA rfl ?_; first | refine yLm rfl rfl ?_ | ((first | refine yQ (md := false) rfl ?_ ?_ | refine yL rfl rfl (by assumption) rfl rfl ?_ ?_ | refine yT rfl rfl (by assumption) rfl ?_ ?_); (first | exact True.intro | omega | (simp only [oA, oB, oC, oD, oE, oF, oG] at *; omega))) | (refine yB rfl ?_; intro _ _hb) | refine yS rfl rfl ?_ | refine yM rfl rfl (by assumption) rfl rfl rfl ?_ | refine yZ rfl rfl rfl rfl rfl rfl ?_ | refine yY rfl rfl rfl ?_ | refine yO rfl rfl rfl ?_ | refine yW rfl rfl ?_ | refine yV rfl rfl rfl rfl (by assumption) rfl rfl rfl rfl ?_ ) | refine popN rfl ?_ | (refine yG rfl rfl ?_ ?_ <;> intro hb <;> subst hb)) | refine AWp.seq ?_ | refine reg (by kernel_rfl) ?_ | refine lexE ?_))
    have hto : ∃ to, to = sysTo s (nd % s.st) letter ∧ (bitB s.al letter.toNat = false → to = [nd % s.st]) ∧ (bitB s.al letter.toNat = true → to = toL s.es (nd % s.st).toNat letter.toNat) := by
      refine ⟨_, rfl, fun hb => ?_, fun hb => ?_⟩
      · unfold sysTo; rw [if_neg (by simp [hb])]
      · rw [toL_sysTo hb]; congr 1 <;> omega
    have htoin : ∀ x ∈ sysTo s (nd % s.st) letter, 0 ≤ x ∧ x < s.st := fun x hx => sysTo_in hso hdg.1 hdg.2 hx
    have htolen := sysTo_len hso (l := letter) hdg.1 hdg.2
    obtain ⟨to, hto, hto0, hto1⟩ := hto
    rw [← hto] at htoin htolen hstep hlk0
    have hmem : bitB s.al letter.toNat = true → Pure Tryd.prog TB 84 [eI .i64 (setN (toL s.es (nd % s.st).toNat letter.toNat) : Nat)] (eInts (toL s.es (nd % s.st).toNat letter.toNat)) := fun hb => by
      have h2 := toL_sorted hso s.es.length (nd % s.st).toNat letter.toNat
      have h3 := fun x hx => toL_in hso (k := s.es.length) (f := (nd % s.st).toNat) (l := letter.toNat) (x := x) hx
      rw [List.take_length] at h2 h3
      exact members_ok _ h2 fun x hx => by have := h3 x hx; omega
    have hld := mv_get (es := s.es) (q := nd % s.st) (l := letter) ⟨hdg.1, by omega⟩ ⟨h0, h1⟩
    have hhas : hasB s.al letter = bitB s.al letter.toNat := by simp [hasB, h0]
    (repeat (first | (refine popO rfl ?_; first | (refine gA rfl ?_; first | refine yLm rfl rfl ?_ | ((first | refine yQ (md := true) rfl ?_ ?_ | refine yL rfl rfl (by assumption) rfl rfl ?_ ?_ | refine yT rfl rfl (by assumption) rfl ?_ ?_); (first | exact True.intro | omega | (simp only [oA, oB, oC, oD, oE, oF, oG] at *; omega))) | (refine yB rfl ?_; intro _ _hb) | refine yS rfl rfl ?_ | refine yM rfl rfl (by assumption) rfl rfl rfl ?_ | refine yO rfl rfl rfl ?_ | refine yW rfl rfl ?_ | refine yV rfl rfl rfl rfl (by assumption) rfl rfl rfl rfl ?_ ) | refine popN rfl ?_ | (refine yG rfl rfl ?_ ?_ <;> intro hb <;> subst hb)) | refine AWp.seq ?_ | refine reg (by kernel_rfl) ?_ | refine lexE ?_))
    (repeat (first | (refine popO rfl ?_; first | (refine gA rfl ?_; first | refine yLm rfl rfl ?_ | ((first | refine yQ (md := false) rfl ?_ ?_ | refine yL rfl rfl (by assumption) rfl rfl ?_ ?_ | refine yT rfl rfl (by assumption) rfl ?_ ?_); (first | exact True.intro | omega | (simp only [oA, oB, oC, oD, oE, oF, oG] at *; omega))) | (refine yB rfl ?_; intro _ _hb) | refine yS rfl rfl ?_ | refine yM rfl rfl (by assumption) rfl rfl rfl ?_ | refine yZ rfl rfl rfl rfl rfl rfl ?_ | refine yY rfl rfl rfl ?_ | refine yO rfl rfl rfl ?_ | refine yW rfl rfl ?_ | refine yV rfl rfl rfl rfl (by assumption) rfl rfl rfl rfl ?_ | (refine yC rfl rfl rfl (has_ok _ _) ?_; intro _ _hb) ) | refine popN rfl ?_ | (refine yG rfl rfl ?_ ?_ <;> intro hb <;> subst hb)) | refine AWp.seq ?_ | refine reg (by kernel_rfl) ?_ | refine lexE ?_ | refine regD (noisy []) mixed (by kernel_rfl) (by kernel_rfl) ?_))
    have hnd' : node / (s.st * W) = nd / s.st := by rw [← hpd]; exact hnd
    have hWst : W * s.st = s.st * W := Int.mul_comm _ _
    have hlen : ∀ m, (((to.take m).flatMap fun q => low.map fun r => q * W + r).length : Int) ≤ 1048576 := by
      intro m
      have h2 := flat_len (to.take m) (fun q => low.map fun r => q * W + r) 4096 (fun x _ => by simp; omega)
      have h3 : (to.take m).length ≤ to.length := by simp; omega
      omega
    (refine AWp.cond rfl (fun hb => ?_) (fun hb => ?_) <;> cases hb)
    · have hb : bitB s.al letter.toNat = true := by rw [← hhas]; exact _hb
      have hm := hmem hb
      have hto' := hto1 hb
      (repeat (first | (refine popO rfl ?_; first | (refine gA rfl ?_; first | refine yLm rfl rfl ?_ | ((first | refine yQ (md := true) rfl ?_ ?_ | refine yL rfl rfl (by assumption) rfl rfl ?_ ?_ | refine yT rfl rfl (by assumption) rfl ?_ ?_); (first | exact True.intro | omega | (simp only [oA, oB, oC, oD, oE, oF, oG] at *; omega))) | (refine yB rfl ?_; intro _ _hb) | refine yS rfl rfl ?_ | refine yM rfl rfl (by assumption) rfl rfl rfl ?_ | refine yO rfl rfl rfl ?_ | refine yW rfl rfl ?_ | refine yV rfl rfl rfl rfl (by assumption) rfl rfl rfl rfl ?_ | refine yP rfl rfl rfl (hm) rfl ?_ | refine gS (fun _ _ => q_loadIp0 rfl hld) ?_) | refine popN rfl ?_ | (refine yG rfl rfl ?_ ?_ <;> intro hb <;> subst hb)) | refine AWp.seq ?_ | refine reg (by kernel_rfl) ?_ | refine lexE ?_ | refine regD (noisy []) mixed (by kernel_rfl) (by kernel_rfl) ?_))
      (refine popO rfl ?_; refine popW ?_ rfl (by rfl); refine n_nil 1 3 ?_)
      (repeat (first | (refine popO rfl ?_; first | (refine gA rfl ?_; first | refine yLm rfl rfl ?_ | ((first | refine yQ (md := true) rfl ?_ ?_ | refine yL rfl rfl (by assumption) rfl rfl ?_ ?_ | refine yT rfl rfl (by assumption) rfl ?_ ?_); (first | exact True.intro | omega | (simp only [oA, oB, oC, oD, oE, oF, oG] at *; omega))) | (refine yB rfl ?_; intro _ _hb) | refine yS rfl rfl ?_ | refine yM rfl rfl (by assumption) rfl rfl rfl ?_ | refine yO rfl rfl rfl ?_ | refine yW rfl rfl ?_ | refine yV rfl rfl rfl rfl (by assumption) rfl rfl rfl rfl ?_ ) | refine popN rfl ?_ | (refine yG rfl rfl ?_ ?_ <;> intro hb <;> subst hb)) | refine AWp.seq ?_ | refine reg (by kernel_rfl) ?_ | refine lexE ?_ | refine regD (noisy []) mixed (by kernel_rfl) (by kernel_rfl) ?_))
      refine AWp.block ?_
      refine AWp.loopL (α := {m : Nat // m ≤ to.length}) (fun ⟨m, hm⟩ => [(1, eI .i64 nd), (2, eI .i64 letter), (3, .o (.arr 0 1 0 outs.length)), (4, .o (.ip (paRow l))), (9, eInts low), (10, eI .i64 W), (11, eI .i64 (((k + 1 : Nat) : Int) - 1)), (12, .o (.ptr 1 3 0 0)), (14, .o (.arr 2 1 0 ((to.take m).flatMap fun q => low.map fun r => q * W + r).length)), (57, eInts to), (58, eI .i64 to.length), (59, eI .i64 m)]) (fun ⟨m, hm⟩ => [(0, .cells 3 1 (outs.map iRowC)), (1, .cells 34 3 [[.d (iD s.al), .d (iD s.st), .d (edList s.es)]]), (2, .cells 3 1 (((to.take m).flatMap fun q => low.map fun r => q * W + r).map iRowC))]) 3 (fun ⟨m, hm⟩ => to.length - m) (⟨0, by omega⟩) [0, 1, 2] (by first | (simp [hΓ]; done) | (rw [hΓ]; decide)) (by (repeat' (first | exact trivial | rfl | refine And.intro ?_ ?_)) <;> simp [EnvSub, StoreSub, look_cons, nm, E.ren, C.ren, C.renL, O.ren, killc, kill0, Function.comp_def, argsFrom, zC, hΓ, spliceC, eC, hto']) ?_; rintro ⟨m, hm⟩; try dsimp only
      clear hto'
      have hfm : ∀ x, to[m]? = some x → (to.take (m + 1)).flatMap (fun q => low.map fun r => q * W + r) = (to.take m).flatMap (fun q => low.map fun r => q * W + r) ++ low.map fun r => x * W + r := fun x hx => by
        rw [List.take_add_one, hx]; simp
      have hlm := hlen m
      generalize hpre : (to.take m).flatMap (fun q => low.map fun r => q * W + r) = pre at *
      (repeat (first | (refine popO rfl ?_; first | (refine gA rfl ?_; first | refine yLm rfl rfl ?_ | ((first | refine yQ (md := true) rfl ?_ ?_ | refine yL rfl rfl (by assumption) rfl rfl ?_ ?_ | refine yT rfl rfl (by assumption) rfl ?_ ?_); (first | exact True.intro | omega | (simp only [oA, oB, oC, oD, oE, oF, oG] at *; omega))) | (refine yB rfl ?_; intro _ _hb) | refine yS rfl rfl ?_ | refine yM rfl rfl (by assumption) rfl rfl rfl ?_ | refine yO rfl rfl rfl ?_ | refine yW rfl rfl ?_ | refine yV rfl rfl rfl rfl (by assumption) rfl rfl rfl rfl ?_ ) | refine popN rfl ?_ | (refine yG rfl rfl ?_ ?_ <;> intro hb <;> subst hb)) | refine AWp.seq ?_ | refine reg (by kernel_rfl) ?_ | refine lexE ?_ | refine regD (noisy []) mixed (by kernel_rfl) (by kernel_rfl) ?_))
      (refine AWp.cond rfl (fun hb => ?_) (fun hb => ?_) <;> cases hb)
      · obtain ⟨x, hx⟩ := get_some (l := to) (k := m) (by first | omega | (simp only [oA, oB, oC, oD, oE, oF, oG] at *; omega))
        have hx' := get_map (g := iRow) hx
        have hxb := htoin x (List.mem_of_getElem? hx)
        have hfm := hfm x hx
        refine AWp.skip ?_
        refine AWp.seq (AWp.block ?_)
        (repeat (first | (refine popO rfl ?_; first | (refine gA rfl ?_; first | refine yLm rfl rfl ?_ | ((first | refine yQ (md := true) rfl ?_ ?_ | refine yL rfl rfl (by assumption) rfl rfl ?_ ?_ | refine yT rfl rfl (by assumption) rfl ?_ ?_); (first | exact True.intro | omega | (simp only [oA, oB, oC, oD, oE, oF, oG] at *; omega))) | (refine yB rfl ?_; intro _ _hb) | refine yS rfl rfl ?_ | refine yM rfl rfl (by assumption) rfl rfl rfl ?_ | refine yO rfl rfl rfl ?_ | refine yW rfl rfl ?_ | refine yV rfl rfl rfl rfl (by assumption) rfl rfl rfl rfl ?_ ) | refine popN rfl ?_ | (refine yG rfl rfl ?_ ?_ <;> intro hb <;> subst hb)) | refine AWp.seq ?_ | refine reg (by kernel_rfl) ?_ | refine lexE ?_ | refine regD (noisy []) mixed (by kernel_rfl) (by kernel_rfl) ?_))
        refine AWp.block ?_
        refine AWp.loopL (α := {j : Nat // j ≤ low.length}) (fun ⟨j, hj⟩ => [(1, eI .i64 nd), (2, eI .i64 letter), (3, .o (.arr 0 1 0 outs.length)), (4, .o (.ip (paRow l))), (9, eInts low), (10, eI .i64 W), (11, eI .i64 (((k + 1 : Nat) : Int) - 1)), (12, .o (.ptr 1 3 0 0)), (14, .o (.arr 2 1 0 (pre.length + j))), (57, eInts to), (58, eI .i64 to.length), (59, eI .i64 m), (16, eI .i64 x), (63, eInts low), (64, eI .i64 low.length), (65, eI .i64 j)]) (fun ⟨j, hj⟩ => [(0, .cells 3 1 (outs.map iRowC)), (1, .cells 34 3 [[.d (iD s.al), .d (iD s.st), .d (edList s.es)]]), (2, .cells 3 1 ((pre ++ (low.take j).map fun r => x * W + r).map iRowC))]) 3 (fun ⟨j, hj⟩ => low.length - j) (⟨0, by omega⟩) [0, 1, 2] (by first | (simp [hΓ]; done) | (rw [hΓ]; decide)) (by (repeat' (first | exact trivial | rfl | refine And.intro ?_ ?_)) <;> simp [EnvSub, StoreSub, look_cons, nm, E.ren, C.ren, C.renL, O.ren, killc, kill0, Function.comp_def, argsFrom, zC, hΓ]) ?_; rintro ⟨j, hj⟩; try dsimp only
        (repeat (first | (refine popO rfl ?_; first | (refine gA rfl ?_; first | refine yLm rfl rfl ?_ | ((first | refine yQ (md := true) rfl ?_ ?_ | refine yL rfl rfl (by assumption) rfl rfl ?_ ?_ | refine yT rfl rfl (by assumption) rfl ?_ ?_); (first | exact True.intro | omega | (simp only [oA, oB, oC, oD, oE, oF, oG] at *; omega))) | (refine yB rfl ?_; intro _ _hb) | refine yS rfl rfl ?_ | refine yM rfl rfl (by assumption) rfl rfl rfl ?_ | refine yO rfl rfl rfl ?_ | refine yW rfl rfl ?_ | refine yV rfl rfl rfl rfl (by assumption) rfl rfl rfl rfl ?_ ) | refine popN rfl ?_ | (refine yG rfl rfl ?_ ?_ <;> intro hb <;> subst hb)) | refine AWp.seq ?_ | refine reg (by kernel_rfl) ?_ | refine lexE ?_ | refine regD (noisy []) mixed (by kernel_rfl) (by kernel_rfl) ?_))
        (refine AWp.cond rfl (fun hb => ?_) (fun hb => ?_) <;> cases hb)
        · obtain ⟨y, hy⟩ := get_some (l := low) (k := j) (by first | omega | (simp only [oA, oB, oC, oD, oE, oF, oG] at *; omega))
          have hy' := get_map (g := iRow) hy
          have hyb := hlk.1 y (List.mem_of_getElem? hy)
          have h16 : 0 ≤ x * W ∧ x * W ≤ 65536 := ⟨Int.mul_nonneg hxb.1 (by omega), by
            have h5 : x * W ≤ 16 * 4096 := Int.mul_le_mul (by omega) hpr1.2 (by omega) (by omega)
            omega⟩
          refine AWp.skip ?_
          refine AWp.seq (AWp.block ?_)
          (repeat (first | (refine popO rfl ?_; first | (refine gA rfl ?_; first | refine yLm rfl rfl ?_ | ((first | refine yQ (md := false) rfl ?_ ?_ | refine yL rfl rfl (by assumption) rfl rfl ?_ ?_ | refine yT rfl rfl (by assumption) rfl ?_ ?_); (first | exact True.intro | omega | (simp only [oA, oB, oC, oD, oE, oF, oG] at *; omega))) | (refine yB rfl ?_; intro _ _hb) | refine yS rfl rfl ?_ | refine yM rfl rfl (by assumption) rfl rfl rfl ?_ | refine yZ rfl rfl rfl rfl rfl rfl ?_ | refine yY rfl rfl rfl ?_ | refine yO rfl rfl rfl ?_ | refine yW rfl rfl ?_ | refine yV rfl rfl rfl rfl (by assumption) rfl rfl rfl rfl ?_ ) | refine popN rfl ?_ | (refine yG rfl rfl ?_ ?_ <;> intro hb <;> subst hb)) | refine AWp.seq ?_ | refine reg (by kernel_rfl) ?_ | refine lexE ?_ | refine regD (noisy []) mixed (by kernel_rfl) (by kernel_rfl) ?_))
          (refine popO rfl ?_; refine popW ?_ rfl (by rfl); refine n_append rfl rfl rfl (by first | (simp; done) | (simp; (first | omega | (simp only [oA, oB, oC, oD, oE, oF, oG] at *; omega)))) rfl (by intro r hr; simp at hr; subst hr; rfl) (by rfl) (Nat.le_of_ble_eq_true rfl) (by simp; first | omega | (simp only [oA, oB, oC, oD, oE, oF, oG] at *; omega)) ?_)
          (repeat (first | (refine popO rfl ?_; first | (refine gA rfl ?_; first | refine yLm rfl rfl ?_ | ((first | refine yQ (md := false) rfl ?_ ?_ | refine yL rfl rfl (by assumption) rfl rfl ?_ ?_ | refine yT rfl rfl (by assumption) rfl ?_ ?_); (first | exact True.intro | omega | (simp only [oA, oB, oC, oD, oE, oF, oG] at *; omega))) | (refine yB rfl ?_; intro _ _hb) | refine yS rfl rfl ?_ | refine yM rfl rfl (by assumption) rfl rfl rfl ?_ | refine yO rfl rfl rfl ?_ | refine yW rfl rfl ?_ | refine yV rfl rfl rfl rfl (by assumption) rfl rfl rfl rfl ?_ ) | refine popN rfl ?_ | (refine yG rfl rfl ?_ ?_ <;> intro hb <;> subst hb)) | refine AWp.seq ?_ | refine reg (by kernel_rfl) ?_ | refine lexE ?_ | refine regD (noisy []) mixed (by kernel_rfl) (by kernel_rfl) ?_))
          refine ⟨⟨j + 1, by first | omega | (simp only [oA, oB, oC, oD, oE, oF, oG] at *; omega)⟩, by dsimp only; (first | omega | (simp only [oA, oB, oC, oD, oE, oF, oG] at *; omega)), [0, 1, 3], ?_⟩
          simp [EnvSub, StoreSub, look_cons, nm, E.ren, C.ren, C.renL, O.ren, killc, kill0, Function.comp_def, argsFrom, zC, hΓ, List.take_add_one, hy, Nat.add_assoc]
        · obtain rfl : j = low.length := by first | omega | (simp only [oA, oB, oC, oD, oE, oF, oG] at *; omega)
          rw [List.take_length]
          refine AWp.exit ?_
          (repeat (first | (refine popO rfl ?_; first | (refine gA rfl ?_; first | refine yLm rfl rfl ?_ | ((first | refine yQ (md := true) rfl ?_ ?_ | refine yL rfl rfl (by assumption) rfl rfl ?_ ?_ | refine yT rfl rfl (by assumption) rfl ?_ ?_); (first | exact True.intro | omega | (simp only [oA, oB, oC, oD, oE, oF, oG] at *; omega))) | (refine yB rfl ?_; intro _ _hb) | refine yS rfl rfl ?_ | refine yM rfl rfl (by assumption) rfl rfl rfl ?_ | refine yO rfl rfl rfl ?_ | refine yW rfl rfl ?_ | refine yV rfl rfl rfl rfl (by assumption) rfl rfl rfl rfl ?_ ) | refine popN rfl ?_ | (refine yG rfl rfl ?_ ?_ <;> intro hb <;> subst hb)) | refine AWp.seq ?_ | refine reg (by kernel_rfl) ?_ | refine lexE ?_ | refine regD (noisy []) mixed (by kernel_rfl) (by kernel_rfl) ?_))
          refine ⟨⟨m + 1, by first | omega | (simp only [oA, oB, oC, oD, oE, oF, oG] at *; omega)⟩, by dsimp only; (first | omega | (simp only [oA, oB, oC, oD, oE, oF, oG] at *; omega)), [0, 1, 2], ?_⟩
          simp [EnvSub, StoreSub, look_cons, nm, E.ren, C.ren, C.renL, O.ren, killc, kill0, Function.comp_def, argsFrom, zC, hΓ, hfm]
      · obtain rfl : m = to.length := by first | omega | (simp only [oA, oB, oC, oD, oE, oF, oG] at *; omega)
        rw [List.take_length] at hpre
        rw [hpre] at hstep
        subst hstep
        refine AWp.exit ?_
        refine AWp.freeze [2] [(1, eI .i64 nd), (2, eI .i64 letter), (3, .o (.arr 0 1 0 outs.length)), (4, .o (.ip (paRow l))), (10, eI .i64 W), (11, eI .i64 (((k + 1 : Nat) : Int) - 1)), (12, .o (.ptr 1 3 0 0)), (14, eInts (lowN (zs.drop k) (cs.drop k)))] ⟨⟨_, rfl, .keep⟩, ⟨_, rfl, .keep⟩, ⟨_, rfl, .keep⟩, ⟨_, rfl, .keep⟩, ⟨_, rfl, .keep⟩, ⟨_, rfl, .keep⟩, ⟨_, rfl, .keep⟩, ⟨_, rfl, .o (.full (by simp) rfl (by simp [Function.comp_def]) (by simp))⟩, trivial⟩ ?_
        (repeat (first | (refine popO rfl ?_; first | (refine gA rfl ?_; first | refine yLm rfl rfl ?_ | ((first | refine yQ (md := true) rfl ?_ ?_ | refine yL rfl rfl (by assumption) rfl rfl ?_ ?_ | refine yT rfl rfl (by assumption) rfl ?_ ?_); (first | exact True.intro | omega | (simp only [oA, oB, oC, oD, oE, oF, oG] at *; omega))) | (refine yB rfl ?_; intro _ _hb) | refine yS rfl rfl ?_ | refine yM rfl rfl (by assumption) rfl rfl rfl ?_ | refine yO rfl rfl rfl ?_ | refine yW rfl rfl ?_ | refine yV rfl rfl rfl rfl (by assumption) rfl rfl rfl rfl ?_ ) | refine popN rfl ?_ | (refine yG rfl rfl ?_ ?_ <;> intro hb <;> subst hb)) | refine AWp.seq ?_ | refine reg (by kernel_rfl) ?_ | refine lexE ?_ | refine regD (noisy []) mixed (by kernel_rfl) (by kernel_rfl) ?_))
        refine ⟨⟨k, by first | omega | (simp only [oA, oB, oC, oD, oE, oF, oG] at *; omega)⟩, by dsimp only; (first | omega | (simp only [oA, oB, oC, oD, oE, oF, oG] at *; omega)), [0], ?_⟩
        simp [EnvSub, StoreSub, look_cons, nm, E.ren, C.ren, C.renL, O.ren, killc, kill0, Function.comp_def, argsFrom, zC, hΓ, hnd', hpd, hWst, killL]
    · have hb : bitB s.al letter.toNat = false := by rw [← hhas]; exact _hb
      have hto' := hto0 hb
      refine AWp.skip ?_
      (repeat (first | (refine popO rfl ?_; first | (refine gA rfl ?_; first | refine yLm rfl rfl ?_ | ((first | refine yQ (md := true) rfl ?_ ?_ | refine yL rfl rfl (by assumption) rfl rfl ?_ ?_ | refine yT rfl rfl (by assumption) rfl ?_ ?_); (first | exact True.intro | omega | (simp only [oA, oB, oC, oD, oE, oF, oG] at *; omega))) | (refine yB rfl ?_; intro _ _hb) | refine yS rfl rfl ?_ | refine yM rfl rfl (by assumption) rfl rfl rfl ?_ | refine yO rfl rfl rfl ?_ | refine yW rfl rfl ?_ | refine yV rfl rfl rfl rfl (by assumption) rfl rfl rfl rfl ?_ ) | refine popN rfl ?_ | (refine yG rfl rfl ?_ ?_ <;> intro hb <;> subst hb)) | refine AWp.seq ?_ | refine reg (by kernel_rfl) ?_ | refine lexE ?_ | refine regD (noisy []) mixed (by kernel_rfl) (by kernel_rfl) ?_))
      (refine popO rfl ?_; refine popW ?_ rfl (by rfl); refine n_nil 1 3 ?_)
      (repeat (first | (refine popO rfl ?_; first | (refine gA rfl ?_; first | refine yLm rfl rfl ?_ | ((first | refine yQ (md := true) rfl ?_ ?_ | refine yL rfl rfl (by assumption) rfl rfl ?_ ?_ | refine yT rfl rfl (by assumption) rfl ?_ ?_); (first | exact True.intro | omega | (simp only [oA, oB, oC, oD, oE, oF, oG] at *; omega))) | (refine yB rfl ?_; intro _ _hb) | refine yS rfl rfl ?_ | refine yM rfl rfl (by assumption) rfl rfl rfl ?_ | refine yO rfl rfl rfl ?_ | refine yW rfl rfl ?_ | refine yV rfl rfl rfl rfl (by assumption) rfl rfl rfl rfl ?_ ) | refine popN rfl ?_ | (refine yG rfl rfl ?_ ?_ <;> intro hb <;> subst hb)) | refine AWp.seq ?_ | refine reg (by kernel_rfl) ?_ | refine lexE ?_ | refine regD (noisy []) mixed (by kernel_rfl) (by kernel_rfl) ?_))
      refine AWp.block ?_
      refine AWp.loopL (α := {m : Nat // m ≤ to.length}) (fun ⟨m, hm⟩ => [(1, eI .i64 nd), (2, eI .i64 letter), (3, .o (.arr 0 1 0 outs.length)), (4, .o (.ip (paRow l))), (9, eInts low), (10, eI .i64 W), (11, eI .i64 (((k + 1 : Nat) : Int) - 1)), (12, .o (.ptr 1 3 0 0)), (14, .o (.arr 2 1 0 ((to.take m).flatMap fun q => low.map fun r => q * W + r).length)), (57, eInts to), (58, eI .i64 to.length), (59, eI .i64 m)]) (fun ⟨m, hm⟩ => [(0, .cells 3 1 (outs.map iRowC)), (1, .cells 34 3 [[.d (iD s.al), .d (iD s.st), .d (edList s.es)]]), (2, .cells 3 1 (((to.take m).flatMap fun q => low.map fun r => q * W + r).map iRowC))]) 3 (fun ⟨m, hm⟩ => to.length - m) (⟨0, by omega⟩) [0, 1, 2] (by first | (simp [hΓ]; done) | (rw [hΓ]; decide)) (by (repeat' (first | exact trivial | rfl | refine And.intro ?_ ?_)) <;> simp [EnvSub, StoreSub, look_cons, nm, E.ren, C.ren, C.renL, O.ren, killc, kill0, Function.comp_def, argsFrom, zC, hΓ, spliceC, eC, hto']) ?_; rintro ⟨m, hm⟩; try dsimp only
      clear hto'
      have hfm : ∀ x, to[m]? = some x → (to.take (m + 1)).flatMap (fun q => low.map fun r => q * W + r) = (to.take m).flatMap (fun q => low.map fun r => q * W + r) ++ low.map fun r => x * W + r := fun x hx => by
        rw [List.take_add_one, hx]; simp
      have hlm := hlen m
      generalize hpre : (to.take m).flatMap (fun q => low.map fun r => q * W + r) = pre at *
      (repeat (first | (refine popO rfl ?_; first | (refine gA rfl ?_; first | refine yLm rfl rfl ?_ | ((first | refine yQ (md := true) rfl ?_ ?_ | refine yL rfl rfl (by assumption) rfl rfl ?_ ?_ | refine yT rfl rfl (by assumption) rfl ?_ ?_); (first | exact True.intro | omega | (simp only [oA, oB, oC, oD, oE, oF, oG] at *; omega))) | (refine yB rfl ?_; intro _ _hb) | refine yS rfl rfl ?_ | refine yM rfl rfl (by assumption) rfl rfl rfl ?_ | refine yO rfl rfl rfl ?_ | refine yW rfl rfl ?_ | refine yV rfl rfl rfl rfl (by assumption) rfl rfl rfl rfl ?_ ) | refine popN rfl ?_ | (refine yG rfl rfl ?_ ?_ <;> intro hb <;> subst hb)) | refine AWp.seq ?_ | refine reg (by kernel_rfl) ?_ | refine lexE ?_ | refine regD (noisy []) mixed (by kernel_rfl) (by kernel_rfl) ?_))
      (refine AWp.cond rfl (fun hb => ?_) (fun hb => ?_) <;> cases hb)
      · obtain ⟨x, hx⟩ := get_some (l := to) (k := m) (by first | omega | (simp only [oA, oB, oC, oD, oE, oF, oG] at *; omega))
        have hx' := get_map (g := iRow) hx
        have hxb := htoin x (List.mem_of_getElem? hx)
        have hfm := hfm x hx
        refine AWp.skip ?_
        refine AWp.seq (AWp.block ?_)
        (repeat (first | (refine popO rfl ?_; first | (refine gA rfl ?_; first | refine yLm rfl rfl ?_ | ((first | refine yQ (md := true) rfl ?_ ?_ | refine yL rfl rfl (by assumption) rfl rfl ?_ ?_ | refine yT rfl rfl (by assumption) rfl ?_ ?_); (first | exact True.intro | omega | (simp only [oA, oB, oC, oD, oE, oF, oG] at *; omega))) | (refine yB rfl ?_; intro _ _hb) | refine yS rfl rfl ?_ | refine yM rfl rfl (by assumption) rfl rfl rfl ?_ | refine yO rfl rfl rfl ?_ | refine yW rfl rfl ?_ | refine yV rfl rfl rfl rfl (by assumption) rfl rfl rfl rfl ?_ ) | refine popN rfl ?_ | (refine yG rfl rfl ?_ ?_ <;> intro hb <;> subst hb)) | refine AWp.seq ?_ | refine reg (by kernel_rfl) ?_ | refine lexE ?_ | refine regD (noisy []) mixed (by kernel_rfl) (by kernel_rfl) ?_))
        refine AWp.block ?_
        refine AWp.loopL (α := {j : Nat // j ≤ low.length}) (fun ⟨j, hj⟩ => [(1, eI .i64 nd), (2, eI .i64 letter), (3, .o (.arr 0 1 0 outs.length)), (4, .o (.ip (paRow l))), (9, eInts low), (10, eI .i64 W), (11, eI .i64 (((k + 1 : Nat) : Int) - 1)), (12, .o (.ptr 1 3 0 0)), (14, .o (.arr 2 1 0 (pre.length + j))), (57, eInts to), (58, eI .i64 to.length), (59, eI .i64 m), (16, eI .i64 x), (63, eInts low), (64, eI .i64 low.length), (65, eI .i64 j)]) (fun ⟨j, hj⟩ => [(0, .cells 3 1 (outs.map iRowC)), (1, .cells 34 3 [[.d (iD s.al), .d (iD s.st), .d (edList s.es)]]), (2, .cells 3 1 ((pre ++ (low.take j).map fun r => x * W + r).map iRowC))]) 3 (fun ⟨j, hj⟩ => low.length - j) (⟨0, by omega⟩) [0, 1, 2] (by first | (simp [hΓ]; done) | (rw [hΓ]; decide)) (by (repeat' (first | exact trivial | rfl | refine And.intro ?_ ?_)) <;> simp [EnvSub, StoreSub, look_cons, nm, E.ren, C.ren, C.renL, O.ren, killc, kill0, Function.comp_def, argsFrom, zC, hΓ]) ?_; rintro ⟨j, hj⟩; try dsimp only
        (repeat (first | (refine popO rfl ?_; first | (refine gA rfl ?_; first | refine yLm rfl rfl ?_ | ((first | refine yQ (md := true) rfl ?_ ?_ | refine yL rfl rfl (by assumption) rfl rfl ?_ ?_ | refine yT rfl rfl (by assumption) rfl ?_ ?_); (first | exact True.intro | omega | (simp only [oA, oB, oC, oD, oE, oF, oG] at *; omega))) | (refine yB rfl ?_; intro _ _hb) | refine yS rfl rfl ?_ | refine yM rfl rfl (by assumption) rfl rfl rfl ?_ | refine yO rfl rfl rfl ?_ | refine yW rfl rfl ?_ | refine yV rfl rfl rfl rfl (by assumption) rfl rfl rfl rfl ?_ ) | refine popN rfl ?_ | (refine yG rfl rfl ?_ ?_ <;> intro hb <;> subst hb)) | refine AWp.seq ?_ | refine reg (by kernel_rfl) ?_ | refine lexE ?_ | refine regD (noisy []) mixed (by kernel_rfl) (by kernel_rfl) ?_))
        (refine AWp.cond rfl (fun hb => ?_) (fun hb => ?_) <;> cases hb)
        · obtain ⟨y, hy⟩ := get_some (l := low) (k := j) (by first | omega | (simp only [oA, oB, oC, oD, oE, oF, oG] at *; omega))
          have hy' := get_map (g := iRow) hy
          have hyb := hlk.1 y (List.mem_of_getElem? hy)
          have h16 : 0 ≤ x * W ∧ x * W ≤ 65536 := ⟨Int.mul_nonneg hxb.1 (by omega), by
            have h5 : x * W ≤ 16 * 4096 := Int.mul_le_mul (by omega) hpr1.2 (by omega) (by omega)
            omega⟩
          refine AWp.skip ?_
          refine AWp.seq (AWp.block ?_)
          (repeat (first | (refine popO rfl ?_; first | (refine gA rfl ?_; first | refine yLm rfl rfl ?_ | ((first | refine yQ (md := false) rfl ?_ ?_ | refine yL rfl rfl (by assumption) rfl rfl ?_ ?_ | refine yT rfl rfl (by assumption) rfl ?_ ?_); (first | exact True.intro | omega | (simp only [oA, oB, oC, oD, oE, oF, oG] at *; omega))) | (refine yB rfl ?_; intro _ _hb) | refine yS rfl rfl ?_ | refine yM rfl rfl (by assumption) rfl rfl rfl ?_ | refine yZ rfl rfl rfl rfl rfl rfl ?_ | refine yY rfl rfl rfl ?_ | refine yO rfl rfl rfl ?_ | refine yW rfl rfl ?_ | refine yV rfl rfl rfl rfl (by assumption) rfl rfl rfl rfl ?_ ) | refine popN rfl ?_ | (refine yG rfl rfl ?_ ?_ <;> intro hb <;> subst hb)) | refine AWp.seq ?_ | refine reg (by kernel_rfl) ?_ | refine lexE ?_ | refine regD (noisy []) mixed (by kernel_rfl) (by kernel_rfl) ?_))
          (refine popO rfl ?_; refine popW ?_ rfl (by rfl); refine n_append rfl rfl rfl (by first | (simp; done) | (simp; (first | omega | (simp only [oA, oB, oC, oD, oE, oF, oG] at *; omega)))) rfl (by intro r hr; simp at hr; subst hr; rfl) (by rfl) (Nat.le_of_ble_eq_true rfl) (by simp; first | omega | (simp only [oA, oB, oC, oD, oE, oF, oG] at *; omega)) ?_)
          (repeat (first | (refine popO rfl ?_; first | (refine gA rfl ?_; first | refine yLm rfl rfl ?_ | ((first | refine yQ (md := false) rfl ?_ ?_ | refine yL rfl rfl (by assumption) rfl rfl ?_ ?_ | refine yT rfl rfl (by assumption) rfl ?_ ?_); (first | exact True.intro | omega | (simp only [oA, oB, oC, oD, oE, oF, oG] at *; omega))) | (refine yB rfl ?_; intro _ _hb) | refine yS rfl rfl ?_ | refine yM rfl rfl (by assumption) rfl rfl rfl ?_ | refine yO rfl rfl rfl ?_ | refine yW rfl rfl ?_ | refine yV rfl rfl rfl rfl (by assumption) rfl rfl rfl rfl ?_ ) | refine popN rfl ?_ | (refine yG rfl rfl ?_ ?_ <;> intro hb <;> subst hb)) | refine AWp.seq ?_ | refine reg (by kernel_rfl) ?_ | refine lexE ?_ | refine regD (noisy []) mixed (by kernel_rfl) (by kernel_rfl) ?_))
          refine ⟨⟨j + 1, by first | omega | (simp only [oA, oB, oC, oD, oE, oF, oG] at *; omega)⟩, by dsimp only; (first | omega | (simp only [oA, oB, oC, oD, oE, oF, oG] at *; omega)), [0, 1, 3], ?_⟩
          simp [EnvSub, StoreSub, look_cons, nm, E.ren, C.ren, C.renL, O.ren, killc, kill0, Function.comp_def, argsFrom, zC, hΓ, List.take_add_one, hy, Nat.add_assoc]
        · obtain rfl : j = low.length := by first | omega | (simp only [oA, oB, oC, oD, oE, oF, oG] at *; omega)
          rw [List.take_length]
          refine AWp.exit ?_
          (repeat (first | (refine popO rfl ?_; first | (refine gA rfl ?_; first | refine yLm rfl rfl ?_ | ((first | refine yQ (md := true) rfl ?_ ?_ | refine yL rfl rfl (by assumption) rfl rfl ?_ ?_ | refine yT rfl rfl (by assumption) rfl ?_ ?_); (first | exact True.intro | omega | (simp only [oA, oB, oC, oD, oE, oF, oG] at *; omega))) | (refine yB rfl ?_; intro _ _hb) | refine yS rfl rfl ?_ | refine yM rfl rfl (by assumption) rfl rfl rfl ?_ | refine yO rfl rfl rfl ?_ | refine yW rfl rfl ?_ | refine yV rfl rfl rfl rfl (by assumption) rfl rfl rfl rfl ?_ ) | refine popN rfl ?_ | (refine yG rfl rfl ?_ ?_ <;> intro hb <;> subst hb)) | refine AWp.seq ?_ | refine reg (by kernel_rfl) ?_ | refine lexE ?_ | refine regD (noisy []) mixed (by kernel_rfl) (by kernel_rfl) ?_))
          refine ⟨⟨m + 1, by first | omega | (simp only [oA, oB, oC, oD, oE, oF, oG] at *; omega)⟩, by dsimp only; (first | omega | (simp only [oA, oB, oC, oD, oE, oF, oG] at *; omega)), [0, 1, 2], ?_⟩
          simp [EnvSub, StoreSub, look_cons, nm, E.ren, C.ren, C.renL, O.ren, killc, kill0, Function.comp_def, argsFrom, zC, hΓ, hfm]
      · obtain rfl : m = to.length := by first | omega | (simp only [oA, oB, oC, oD, oE, oF, oG] at *; omega)
        rw [List.take_length] at hpre
        rw [hpre] at hstep
        subst hstep
        refine AWp.exit ?_
        refine AWp.freeze [2] [(1, eI .i64 nd), (2, eI .i64 letter), (3, .o (.arr 0 1 0 outs.length)), (4, .o (.ip (paRow l))), (10, eI .i64 W), (11, eI .i64 (((k + 1 : Nat) : Int) - 1)), (12, .o (.ptr 1 3 0 0)), (14, eInts (lowN (zs.drop k) (cs.drop k)))] ⟨⟨_, rfl, .keep⟩, ⟨_, rfl, .keep⟩, ⟨_, rfl, .keep⟩, ⟨_, rfl, .keep⟩, ⟨_, rfl, .keep⟩, ⟨_, rfl, .keep⟩, ⟨_, rfl, .keep⟩, ⟨_, rfl, .o (.full (by simp) rfl (by simp [Function.comp_def]) (by simp))⟩, trivial⟩ ?_
        (repeat (first | (refine popO rfl ?_; first | (refine gA rfl ?_; first | refine yLm rfl rfl ?_ | ((first | refine yQ (md := true) rfl ?_ ?_ | refine yL rfl rfl (by assumption) rfl rfl ?_ ?_ | refine yT rfl rfl (by assumption) rfl ?_ ?_); (first | exact True.intro | omega | (simp only [oA, oB, oC, oD, oE, oF, oG] at *; omega))) | (refine yB rfl ?_; intro _ _hb) | refine yS rfl rfl ?_ | refine yM rfl rfl (by assumption) rfl rfl rfl ?_ | refine yO rfl rfl rfl ?_ | refine yW rfl rfl ?_ | refine yV rfl rfl rfl rfl (by assumption) rfl rfl rfl rfl ?_ ) | refine popN rfl ?_ | (refine yG rfl rfl ?_ ?_ <;> intro hb <;> subst hb)) | refine AWp.seq ?_ | refine reg (by kernel_rfl) ?_ | refine lexE ?_ | refine regD (noisy []) mixed (by kernel_rfl) (by kernel_rfl) ?_))
        refine ⟨⟨k, by first | omega | (simp only [oA, oB, oC, oD, oE, oF, oG] at *; omega)⟩, by dsimp only; (first | omega | (simp only [oA, oB, oC, oD, oE, oF, oG] at *; omega)), [0], ?_⟩
        simp [EnvSub, StoreSub, look_cons, nm, E.ren, C.ren, C.renL, O.ren, killc, kill0, Function.comp_def, argsFrom, zC, hΓ, hnd', hpd, hWst, killL]
  · obtain rfl : k = 0 := by first | omega | (simp only [oA, oB, oC, oD, oE, oF, oG] at *; omega)
    rw [List.drop_zero, List.drop_zero]
    have hl0 := (hlow 0).2
    have hp0 := hprod 0
    rw [List.drop_zero, List.drop_zero] at hl0
    rw [List.drop_zero] at hp0
    refine AWp.exit ?_
    (repeat (first | (refine popO rfl ?_; first | (refine gA rfl ?_; first | refine yLm rfl rfl ?_ | ((first | refine yQ (md := true) rfl ?_ ?_ | refine yL rfl rfl (by assumption) rfl rfl ?_ ?_ | refine yT rfl rfl (by assumption) rfl ?_ ?_); (first | exact True.intro | omega | (simp only [oA, oB, oC, oD, oE, oF, oG] at *; omega))) | (refine yB rfl ?_; intro _ _hb) | refine yS rfl rfl ?_ | refine yM rfl rfl (by assumption) rfl rfl rfl ?_ | refine yO rfl rfl rfl ?_ | refine yW rfl rfl ?_ | refine yV rfl rfl rfl rfl (by assumption) rfl rfl rfl rfl ?_ ) | refine popN rfl ?_ | (refine yG rfl rfl ?_ ?_ <;> intro hb <;> subst hb)) | refine AWp.seq ?_ | refine reg (by kernel_rfl) ?_ | refine lexE ?_ | refine regD (noisy []) mixed (by kernel_rfl) (by kernel_rfl) ?_))
    (refine popO rfl ?_; refine popW ?_ rfl (by rfl); refine n_append rfl rfl rfl (by first | (simp; done) | (simp; (first | omega | (simp only [oA, oB, oC, oD, oE, oF, oG] at *; omega)))) rfl (by intro r hr; simp at hr; obtain ⟨a, _, rfl⟩ := hr; rfl) (by rfl) (Nat.le_of_ble_eq_true rfl) (by simp; first | omega | (simp only [oA, oB, oC, oD, oE, oF, oG] at *; omega)) ?_)
    (repeat (first | (refine popO rfl ?_; first | (refine gA rfl ?_; first | refine yLm rfl rfl ?_ | ((first | refine yQ (md := false) rfl ?_ ?_ | refine yL rfl rfl (by assumption) rfl rfl ?_ ?_ | refine yT rfl rfl (by assumption) rfl ?_ ?_); (first | exact True.intro | omega | (simp only [oA, oB, oC, oD, oE, oF, oG] at *; omega))) | (refine yB rfl ?_; intro _ _hb) | refine yS rfl rfl ?_ | refine yM rfl rfl (by assumption) rfl rfl rfl ?_ | refine yO rfl rfl rfl ?_ | refine yW rfl rfl ?_ | refine yV rfl rfl rfl rfl (by assumption) rfl rfl rfl rfl ?_ ) | refine popN rfl ?_ | (refine yG rfl rfl ?_ ?_ <;> intro hb <;> subst hb)) | refine AWp.seq ?_ | refine reg (by kernel_rfl) ?_ | refine lexE ?_ | refine regD (noisy []) mixed (by kernel_rfl) (by kernel_rfl) ?_))
    refine AWp.names [0, 1] [(8, .o (.arr 1 1 0 (outs ++ lowN zs cs).length))] [(1, .cells 3 1 ((outs ++ lowN zs cs).map iRowC))] (by intro i hi; rw [hΓ] at hi; obtain rfl : i = 0 := (by omega); rfl) (by simp) (by simp [EnvSub, StoreSub, look_cons, nm, E.ren, C.ren, C.renL, O.ren, killc, kill0, Function.comp_def, argsFrom, zC, hΓ]) (by simp [EnvSub, StoreSub, look_cons, nm, E.ren, C.ren, C.renL, O.ren, killc, kill0, Function.comp_def, argsFrom, zC, hΓ]) ?_
    refine AWp.ret ⟨_, rfl, rfl, rfl, rfl⟩
end Go.Am
/-
  The program's search, as plain data.
-/
namespace Go.Am
open Go

structure Stp where
  p : Int
  l : Int
  ns : List Int
structure VSt where
  seen : List Bool
  fresh : List Int
  found : Bool
def sn (seen : List Bool) (n : Int) : Bool := seen.getD n.toNat false
def vstep (goal : Int → Bool) (st : VSt) (n : Int) : VSt := if sn st.seen n then st else ⟨st.seen.set n.toNat true, st.fresh ++ [n], st.found || goal n⟩
def vis (goal : Int → Bool) (seen : List Bool) (nodes : List Int) : VSt := nodes.foldl (vstep goal) ⟨seen, [], false⟩

theorem sn_set {seen : List Bool} {n m : Int} (hn : 0 ≤ n ∧ n.toNat < seen.length) (hm : 0 ≤ m) : sn (seen.set n.toNat true) m = (sn seen m || decide (m = n)) := by
  unfold sn
  by_cases h : m = n
  · subst h; simp [List.getD, hn.2]
  · have : n.toNat ≠ m.toNat := by omega
    simp [List.getD, List.getElem?_set_ne this, h]
theorem count_set {seen : List Bool} {k : Nat} (h : seen[k]? = some false) : (seen.set k true).count true = seen.count true + 1 := by
  induction seen generalizing k with
  | nil => simp at h
  | cons a l ih =>
    cases k with
    | zero => simp at h; subst h; simp
    | succ k =>
      have := ih (k := k) (by simpa using h)
      simp only [List.set_cons_succ, List.count_cons, this]; omega
/-- What a visit does. -/
structure VOk (goal : Int → Bool) (N : Nat) (seen : List Bool) (nodes : List Int) (st : VSt) : Prop where
  len : st.seen.length = N
  snI : ∀ n : Int, 0 ≤ n → (sn st.seen n = true ↔ sn seen n = true ∨ n ∈ nodes)
  fr : ∀ n : Int, n ∈ st.fresh ↔ n ∈ nodes ∧ sn seen n = false
  nd : st.fresh.Nodup
  fd : st.found = st.fresh.any goal
  cnt : st.seen.count true = seen.count true + st.fresh.length
theorem vis_ok {goal : Int → Bool} {N : Nat} {seen : List Bool} {nodes : List Int} (hs : seen.length = N) (hn : ∀ n ∈ nodes, 0 ≤ n ∧ n < N) : VOk goal N seen nodes (vis goal seen nodes) := by
  have key : ∀ (l done : List Int) (st : VSt), (∀ n ∈ l, 0 ≤ n ∧ n < N) → (∀ n ∈ done, 0 ≤ n) → VOk goal N seen done st → VOk goal N seen (done ++ l) (l.foldl (vstep goal) st) := by
    intro l
    induction l with
    | nil => intro done st _ _ h; simpa using h
    | cons a l ih =>
      intro done st hl hd h
      have ha := hl a (by simp)
      rw [List.foldl_cons, show done ++ a :: l = (done ++ [a]) ++ l by simp]
      refine ih (done ++ [a]) _ (fun n hn => hl n (by simp [hn])) (fun n hn => by rcases List.mem_append.1 hn with h1 | h1; exact hd n h1; simp at h1; omega) ?_
      have hlen := h.len
      have hmem : ∀ n : Int, n ∈ done ++ [a] ↔ n ∈ done ∨ n = a := fun n => by simp
      unfold vstep
      by_cases hsa : sn st.seen a = true
      · rw [if_pos hsa]
        have h1 := (h.snI a ha.1).1 hsa
        refine ⟨h.len, fun n hn0 => ?_, fun n => ?_, h.nd, h.fd, h.cnt⟩
        · rw [h.snI n hn0, hmem]
          constructor
          · rintro (h2 | h2); exact .inl h2; exact .inr (.inl h2)
          · rintro (h2 | h2 | rfl); exact .inl h2; exact .inr h2; exact h1
        · rw [h.fr n, hmem]
          constructor
          · rintro ⟨h2, h3⟩; exact ⟨.inl h2, h3⟩
          · rintro ⟨h2 | rfl, h3⟩
            · exact ⟨h2, h3⟩
            · rcases h1 with h1 | h1
              · rw [h1] at h3; cases h3
              · exact ⟨h1, h3⟩
      · rw [if_neg hsa]
        have h1 : sn seen a = false ∧ a ∉ done := by
          have h2 : ¬ (sn seen a = true ∨ a ∈ done) := fun h3 => hsa ((h.snI a ha.1).2 h3)
          exact ⟨by simpa using fun h3 => h2 (.inl h3), fun h3 => h2 (.inr h3)⟩
        have hk : st.seen[a.toNat]? = some false := by
          unfold sn at hsa
          have : a.toNat < st.seen.length := by omega
          simp [List.getD, this] at hsa
          rw [List.getElem?_eq_getElem this, hsa]
        refine ⟨by simpa using h.len, fun n hn0 => ?_, fun n => ?_, ?_, ?_, ?_⟩
        · rw [sn_set ⟨ha.1, by omega⟩ hn0, hmem, Bool.or_eq_true, h.snI n hn0]; simp; grind
        · simp only [List.mem_append, List.mem_singleton, h.fr n]
          grind
        · refine List.nodup_append.2 ⟨h.nd, by simp, fun x hx y hy => ?_⟩
          simp at hy; subst hy
          intro e; subst e
          exact h1.2 ((h.fr x).1 hx).1
        · simp [List.any_append, h.fd]
        · rw [count_set hk, h.cnt]; simp; omega
  have := key nodes [] ⟨seen, [], false⟩ hn (by simp) ⟨hs, fun n _ => by simp, fun n => by simp, .nil, rfl, by simp⟩
  simpa [vis] using this

/-! Orders. -/
theorem llt_trans : ∀ {a b c : List Int}, llt a b → llt b c → llt a c
  | [], _, _, h, _ => h.elim
  | _ :: _, [], _, h, _ => h.elim
  | _ :: _, _ :: _, [], _, h => h.elim
  | x :: a, y :: b, z :: c, h, k => by
    simp only [llt] at *
    rcases h with h | ⟨h, h'⟩ <;> rcases k with k | ⟨k, k'⟩
    · exact .inl (by omega)
    · exact .inl (by omega)
    · exact .inl (by omega)
    · exact .inr ⟨by omega, llt_trans h' k'⟩
theorem llt_irr : ∀ {a : List Int}, ¬ llt a a
  | [], h => h
  | x :: a, h => by rcases h with h | ⟨_, h⟩; omega; exact llt_irr h
theorem llt_len : ∀ {a b : List Int}, llt a b → a ≠ []
  | [], _, h, _ => h.elim
theorem slt_trans {a b c : List Int} (h : slt a b) (k : slt b c) : slt a c := by
  unfold slt at *
  rcases h with h | ⟨h, h'⟩ <;> rcases k with k | ⟨k, k'⟩
  · exact .inl (by omega)
  · exact .inl (by omega)
  · exact .inl (by omega)
  · exact .inr ⟨by omega, llt_trans h' k'⟩
theorem slt_irr {a : List Int} : ¬ slt a a := by
  rintro (h | ⟨_, h⟩); omega; exact llt_irr h
theorem slt_tri' (a b : List Int) : slt a b ∨ a = b ∨ slt b a := by
  rcases Nat.lt_trichotomy a.length b.length with h | h | h
  · exact .inl (.inl h)
  · rcases llt_tri h with h1 | h1 | h1
    · exact .inl (.inr ⟨h, h1⟩)
    · exact .inr (.inl h1)
    · exact .inr (.inr (.inr ⟨h.symm, h1⟩))
  · exact .inr (.inr (.inl h))
theorem slt_app {a b : List Int} {l m : Int} (h : slt a b) : slt (a ++ [l]) (b ++ [m]) := by
  rcases h with h | ⟨h, h'⟩
  · exact .inl (by simp; omega)
  · exact .inr ⟨by simp; omega, (llt_snoc h).2 (.inl h')⟩
theorem slt_last {a : List Int} {l m : Int} (h : l < m) : slt (a ++ [l]) (a ++ [m]) := .inr ⟨by simp, (llt_snoc rfl).2 (.inr ⟨rfl, h⟩)⟩
theorem slt_snoc {a b : List Int} {l m : Int} : slt (a ++ [l]) (b ++ [m]) → slt a b ∨ a = b ∧ l < m := by
  intro h
  rcases slt_tri' a b with h1 | h1 | h1
  · exact .inl h1
  · subst h1
    rcases h with h | ⟨h, h'⟩
    · simp at h
    · rcases (llt_snoc rfl).1 h' with h2 | h2
      · exact absurd h2 llt_irr
      · exact .inr h2
  · exact absurd (slt_trans h (slt_app h1)) slt_irr
theorem slt_self {a : List Int} {l : Int} : slt a (a ++ [l]) := .inl (by simp)

structure FI (g : Gr) (seen : List Bool) (steps : List Stp) (ws : List (List Int)) (i j : Nat) : Prop where
  slen : seen.length = g.N
  wlen : ws.length = steps.length
  chain : ∀ (t : Nat) s, steps[t]? = some s → (s.p = -1 ∧ ws[t]? = some []) ∨ ∃ (q : Nat) (w : List Int), s.p = (q : Int) ∧ q < t ∧ ws[q]? = some w ∧ ws[t]? = some (w ++ [s.l]) ∧ s.l ∈ g.ls
  rch : ∀ (t : Nat) s w, steps[t]? = some s → ws[t]? = some w → ∀ n ∈ s.ns, reach g w g.s0 n
  ov : ∀ w ∈ ws, over g w
  min : ∀ (t : Nat) s w, steps[t]? = some s → ws[t]? = some w → ∀ n ∈ s.ns, ∀ u, over g u → slt u w → ¬ reach g u g.s0 n
  ord : ws.Pairwise slt
  par : ∀ w ∈ ws, w = [] ∨ ∃ (p : Nat) (v : List Int) (l : Int), ws[p]? = some v ∧ w = v ++ [l] ∧ l ∈ g.ls ∧ (p < i ∨ p = i ∧ ∃ j', j' < j ∧ g.ls[j']? = some l)
  snI : ∀ n : Int, 0 ≤ n → (sn seen n = true ↔ ∃ s ∈ steps, n ∈ s.ns)
  done : ∀ (t : Nat) s, steps[t]? = some s → ∀ l, (t < i ∧ l ∈ g.ls ∨ t = i ∧ ∃ j', j' < j ∧ g.ls[j']? = some l) → ∀ n ∈ s.ns, ∀ y ∈ g.succ n l, sn seen y = true
  nogoal : ∀ s ∈ steps, ∀ n ∈ s.ns, g.goal n = false
  inn : ∀ s ∈ steps, ∀ n ∈ s.ns, 0 ≤ n ∧ n < g.N
  start : sn seen g.s0 = true
  cnt : steps.length ≤ seen.count true
  le : i ≤ steps.length
  nd : ∀ s ∈ steps, s.ns.Nodup

theorem FI.lenN {g : Gr} {seen : List Bool} {steps : List Stp} {ws : List (List Int)} {i j : Nat} (h : FI g seen steps ws i j) : steps.length ≤ g.N := by
  have h1 := h.cnt
  have h2 : seen.count true ≤ seen.length := List.count_le_length
  rw [h.slen] at h2; omega

/-- All that a smaller word reaches is seen. -/
theorem FI.claim {g : Gr} (hg : GrOk g) {seen : List Bool} {steps : List Stp} {ws : List (List Int)} {i j : Nat} (h : FI g seen steps ws i j) {wi : List Int} {lj : Int} (hw : ws[i]? = some wi) (hj : g.ls[j]? = some lj) :
    ∀ (n : Nat) (u : List Int), u.length = n → over g u → slt u (wi ++ [lj]) → ∀ x, reach g u g.s0 x → sn seen x = true := by
  intro n
  induction n with
  | zero =>
    intro u hu _ _ x hx
    have : u = [] := List.length_eq_zero_iff.1 hu
    subst this
    have hx : g.s0 = x := hx
    rw [← hx]; exact h.start
  | succ n ih =>
    intro u hu ho hlt x hx
    have hu0 : u ≠ [] := fun e => by subst e; simp at hu
    obtain ⟨v, l, rfl⟩ : ∃ v l, u = v ++ [l] := ⟨u.dropLast, u.getLast hu0, (List.dropLast_concat_getLast hu0).symm⟩
    obtain ⟨m, hm, hxm⟩ := reach_snoc.1 hx
    obtain ⟨hov, hl⟩ := over_snoc.1 ho
    have hms := ih v (by simpa using hu) hov (slt_trans slt_self hlt) m hm
    have hmin := reach_in hg hov hg.s0 hm
    obtain ⟨s, hs, hms2⟩ := (h.snI m hmin.1).1 hms
    obtain ⟨t, ht⟩ := List.getElem?_of_mem hs
    obtain ⟨wt, hwt⟩ : ∃ wt, ws[t]? = some wt := get_some (by have := (List.getElem?_eq_some_iff.1 ht).1; rw [h.wlen]; exact this)
    have hle : ¬ slt v wt := fun h1 => h.min t s wt ht hwt m hms2 v hov h1 hm
    have hvi := slt_snoc hlt
    have hti : t ≤ i := by
      rcases Nat.lt_or_ge i t with h1 | h1
      · exfalso
        obtain ⟨a1, a2⟩ := List.getElem?_eq_some_iff.1 hw
        obtain ⟨b1, b2⟩ := List.getElem?_eq_some_iff.1 hwt
        have h2 := (List.pairwise_iff_getElem.1 h.ord) i t a1 b1 h1
        rw [a2, b2] at h2
        rcases slt_tri' v wt with h3 | h3 | h3
        · exact hle h3
        · subst h3
          rcases hvi with h4 | ⟨h4, _⟩
          · exact slt_irr (slt_trans h2 h4)
          · subst h4; exact slt_irr h2
        · rcases hvi with h4 | ⟨h4, _⟩
          · exact slt_irr (slt_trans (slt_trans h2 h3) h4)
          · subst h4; exact slt_irr (slt_trans h2 h3)
      · exact h1
    refine h.done t s ht l ?_ m hms2 x hxm
    rcases Nat.lt_or_ge t i with h1 | h1
    · exact .inl ⟨h1, hl⟩
    · have : t = i := by omega
      subst this
      rw [hw] at hwt
      injection hwt with hwt
      subst hwt
      rcases hvi with h4 | ⟨h4, h5⟩
      · exact absurd h4 hle
      · obtain ⟨j', hj'⟩ := List.getElem?_of_mem hl
        exact .inr ⟨rfl, j', idx_lt hg.srt hj' hj h5, hj'⟩
theorem IsAns.found {g : Gr} (hg : GrOk g) {seen : List Bool} {steps : List Stp} {ws : List (List Int)} {i j : Nat} (h : FI g seen steps ws i j) {wi : List Int} {lj : Int} (hw : ws[i]? = some wi) (hj : g.ls[j]? = some lj) {n x : Int} {s : Stp} (hs : steps[i]? = some s) (hn : n ∈ s.ns) (hx : x ∈ g.succ n lj) (hgx : g.goal x = true) : IsAns g (some (wi ++ [lj])) := by
  have hl := List.mem_of_getElem? hj
  refine ⟨over_snoc.2 ⟨h.ov wi (List.mem_of_getElem? hw), hl⟩, ⟨x, reach_snoc.2 ⟨n, h.rch i s wi hs hw n hn, hx⟩, hgx⟩, fun u hu hh hlt => ?_⟩
  obtain ⟨y, hy, hgy⟩ := hh
  have hys := h.claim hg hw hj u.length u rfl hu hlt y hy
  obtain ⟨s', hs', hy'⟩ := (h.snI y (reach_in hg hu hg.s0 hy).1).1 hys
  rw [h.nogoal s' hs' y hy'] at hgy; cases hgy
theorem IsAns.dry {g : Gr} (hg : GrOk g) {seen : List Bool} {steps : List Stp} {ws : List (List Int)} (h : FI g seen steps ws steps.length 0) : IsAns g none := by
  have key : ∀ (n : Nat) (u : List Int), u.length = n → over g u → ∀ x, reach g u g.s0 x → sn seen x = true := by
    intro n
    induction n with
    | zero =>
      intro u hu _ x hx
      have : u = [] := List.length_eq_zero_iff.1 hu
      subst this
      have hx : g.s0 = x := hx
      rw [← hx]; exact h.start
    | succ n ih =>
      intro u hu ho x hx
      have hu0 : u ≠ [] := fun e => by subst e; simp at hu
      obtain ⟨v, l, rfl⟩ : ∃ v l, u = v ++ [l] := ⟨u.dropLast, u.getLast hu0, (List.dropLast_concat_getLast hu0).symm⟩
      obtain ⟨m, hm, hxm⟩ := reach_snoc.1 hx
      obtain ⟨hov, hl⟩ := over_snoc.1 ho
      have hms := ih v (by simpa using hu) hov m hm
      obtain ⟨s, hs, hms2⟩ := (h.snI m (reach_in hg hov hg.s0 hm).1).1 hms
      obtain ⟨t, ht⟩ := List.getElem?_of_mem hs
      exact h.done t s ht l (.inl ⟨(List.getElem?_eq_some_iff.1 ht).1, hl⟩) m hms2 x hxm
  rintro u hu ⟨x, hx, hgx⟩
  have hxs := key u.length u rfl hu x hx
  obtain ⟨s, hs, hxs2⟩ := (h.snI x (reach_in hg hu hg.s0 hx).1).1 hxs
  rw [h.nogoal s hs x hxs2] at hgx; cases hgx
theorem FI.nextI {g : Gr} {seen : List Bool} {steps : List Stp} {ws : List (List Int)} {i : Nat} (h : FI g seen steps ws i g.ls.length) (hi : i < steps.length) : FI g seen steps ws (i + 1) 0 := by
  refine ⟨h.slen, h.wlen, h.chain, h.rch, h.ov, h.min, h.ord, fun w hw => ?_, h.snI, fun t s hs l hl => ?_, h.nogoal, h.inn, h.start, h.cnt, by omega, h.nd⟩
  · rcases h.par w hw with h1 | ⟨p, v, l, h1, h2, h3, h4⟩
    · exact .inl h1
    · exact .inr ⟨p, v, l, h1, h2, h3, .inl (by rcases h4 with h4 | ⟨h4, _⟩ <;> omega)⟩
  · refine h.done t s hs l ?_
    rcases hl with ⟨h1, h2⟩ | ⟨_, j', h1, _⟩
    · rcases Nat.lt_or_ge t i with h3 | h3
      · exact .inl ⟨h3, h2⟩
      · obtain ⟨j', hj'⟩ := List.getElem?_of_mem h2
        exact .inr ⟨by omega, j', (List.getElem?_eq_some_iff.1 hj').1, hj'⟩
    · omega
end Go.Am
/-
  The program's search, as plain data: visits.
-/
namespace Go.Am
open Go

def stepsV (steps : List Stp) (p l : Int) (fresh : List Int) : List Stp := if fresh = [] then steps else steps ++ [⟨p, l, fresh⟩]
def wsV (ws : List (List Int)) (w fresh : List Int) : List (List Int) := if fresh = [] then ws else ws ++ [w]
structure Chain (ls : List Int) (steps : List Stp) (ws : List (List Int)) : Prop where
  wlen : ws.length = steps.length
  chain : ∀ (t : Nat) s, steps[t]? = some s → (s.p = -1 ∧ ws[t]? = some []) ∨ ∃ (q : Nat) (w : List Int), s.p = (q : Int) ∧ q < t ∧ ws[q]? = some w ∧ ws[t]? = some (w ++ [s.l]) ∧ s.l ∈ ls
theorem app_get {α : Type} {l : List α} {x y : α} {t : Nat} (h : (l ++ [x])[t]? = some y) : l[t]? = some y ∨ t = l.length ∧ y = x := by
  rcases Nat.lt_or_ge t l.length with h1 | h1
  · rw [List.getElem?_append_left h1] at h; exact .inl h
  · rw [List.getElem?_append_right h1] at h
    have h2 := (List.getElem?_eq_some_iff.1 h).1
    simp at h2
    have : t = l.length := by omega
    subst this
    simp at h
    exact .inr ⟨rfl, h.symm⟩
theorem get_app {α : Type} {l : List α} {x y : α} {t : Nat} (h : l[t]? = some y) : (l ++ [x])[t]? = some y := by
  rw [List.getElem?_append_left (List.getElem?_eq_some_iff.1 h).1]; exact h
theorem Chain.app {ls : List Int} {steps : List Stp} {ws : List (List Int)} (h : Chain ls steps ws) {i : Nat} {wi : List Int} {l : Int} {ns : List Int} (hw : ws[i]? = some wi) (hl : l ∈ ls) : Chain ls (steps ++ [⟨i, l, ns⟩]) (ws ++ [wi ++ [l]]) := by
  have hi := (List.getElem?_eq_some_iff.1 hw).1
  refine ⟨by simp [h.wlen], fun t s hs => ?_⟩
  rcases app_get hs with h1 | ⟨h1, h2⟩
  · rcases h.chain t s h1 with ⟨h2, h3⟩ | ⟨q, w, h2, h3, h4, h5, h6⟩
    · exact .inl ⟨h2, get_app h3⟩
    · exact .inr ⟨q, w, h2, h3, get_app h4, get_app h5, h6⟩
  · subst h2
    refine .inr ⟨i, wi, rfl, ?_, get_app hw, ?_, hl⟩
    · rw [h1, ← h.wlen]; exact hi
    · rw [h1, ← h.wlen]; simp
theorem FI.toChain {g : Gr} {seen : List Bool} {steps : List Stp} {ws : List (List Int)} {i j : Nat} (h : FI g seen steps ws i j) : Chain g.ls steps ws := ⟨h.wlen, h.chain⟩
theorem FI.visit {g : Gr} (hg : GrOk g) {seen : List Bool} {steps : List Stp} {ws : List (List Int)} {i j : Nat} (h : FI g seen steps ws i j) {wi : List Int} {lj : Int} (hw : ws[i]? = some wi) (hj : g.ls[j]? = some lj) {s : Stp} (hs : steps[i]? = some s)
    {R : List Int} (hR : ∀ y, y ∈ R ↔ ∃ n ∈ s.ns, y ∈ g.succ n lj) {st : VSt} (hv : VOk g.goal g.N seen R st) (hf : st.found = false) : FI g st.seen (stepsV steps i lj st.fresh) (wsV ws (wi ++ [lj]) st.fresh) i (j + 1) := by
  have hl := List.mem_of_getElem? hj
  have hRin : ∀ y ∈ R, 0 ≤ y ∧ y < g.N := fun y hy => by
    obtain ⟨n, hn, hy⟩ := (hR y).1 hy
    exact hg.inn n (h.inn s (List.mem_of_getElem? hs) n hn) lj hl y hy
  have hmono : ∀ n : Int, 0 ≤ n → sn seen n = true → sn st.seen n = true := fun n hn hx => (hv.snI n hn).2 (.inl hx)
  have hnog : ∀ n ∈ st.fresh, g.goal n = false := fun n hn => by
    have := hv.fd
    rw [hf] at this
    have h2 := List.any_eq_false.1 this.symm n hn
    simpa using h2
  have hpar : ∀ w ∈ ws, w = [] ∨ ∃ (p : Nat) (v : List Int) (l : Int), ws[p]? = some v ∧ w = v ++ [l] ∧ l ∈ g.ls ∧ (p < i ∨ p = i ∧ ∃ j', j' < j + 1 ∧ g.ls[j']? = some l) := fun w hw => by
    rcases h.par w hw with h1 | ⟨p, v, l, h1, h2, h3, h4⟩
    · exact .inl h1
    · refine .inr ⟨p, v, l, h1, h2, h3, ?_⟩
      rcases h4 with h4 | ⟨h4, j', h5, h6⟩
      · exact .inl h4
      · exact .inr ⟨h4, j', by omega, h6⟩
  -- done, for the old ones
  have hdone : ∀ (t : Nat) s', steps[t]? = some s' → ∀ l, (t < i ∧ l ∈ g.ls ∨ t = i ∧ ∃ j', j' < j + 1 ∧ g.ls[j']? = some l) → ∀ n ∈ s'.ns, ∀ y ∈ g.succ n l, sn st.seen y = true := by
    intro t s' hs' l hl' n hn y hy
    have hyin : 0 ≤ y ∧ y < g.N := by
      refine hg.inn n (h.inn s' (List.mem_of_getElem? hs') n hn) l ?_ y hy
      rcases hl' with ⟨_, h1⟩ | ⟨_, j', _, h1⟩
      · exact h1
      · exact List.mem_of_getElem? h1
    rcases hl' with h1 | ⟨h1, j', h2, h3⟩
    · exact hmono y hyin.1 (h.done t s' hs' l (.inl h1) n hn y hy)
    · subst h1
      rcases Nat.lt_succ_iff_lt_or_eq.1 h2 with h4 | h4
      · exact hmono y hyin.1 (h.done t s' hs' l (.inr ⟨rfl, j', h4, h3⟩) n hn y hy)
      · subst h4
        rw [hj] at h3
        injection h3 with h3
        subst h3
        rw [hs] at hs'
        injection hs' with hs'
        subst hs'
        exact (hv.snI y hyin.1).2 (.inr ((hR y).2 ⟨n, hn, hy⟩))
  unfold stepsV wsV
  by_cases hfr : st.fresh = []
  · rw [if_pos hfr, if_pos hfr]
    have hsame : ∀ n : Int, 0 ≤ n → (sn st.seen n = true ↔ sn seen n = true) := fun n hn => by
      rw [hv.snI n hn]
      refine ⟨fun h1 => ?_, .inl⟩
      rcases h1 with h1 | h1
      · exact h1
      · rcases Bool.eq_false_or_eq_true (sn seen n) with h2 | h2
        · exact h2
        · have := (hv.fr n).2 ⟨h1, h2⟩
          rw [hfr] at this; cases this
    refine ⟨hv.len, h.wlen, h.chain, h.rch, h.ov, h.min, h.ord, hpar, fun n hn => by rw [hsame n hn]; exact h.snI n hn, hdone, h.nogoal, h.inn, hmono _ hg.s0.1 h.start, ?_, h.le, h.nd⟩
    rw [hv.cnt, hfr]; exact h.cnt
  · rw [if_neg hfr, if_neg hfr]
    have hch := h.toChain.app (ns := st.fresh) hw hl
    have hnew : ∀ n ∈ st.fresh, n ∈ R ∧ sn seen n = false := fun n hn => (hv.fr n).1 hn
    have hbig : ∀ w ∈ ws, slt w (wi ++ [lj]) := by
      intro w hww
      rcases h.par w hww with rfl | ⟨p, v, l, h1, rfl, h3, h4⟩
      · exact .inl (by simp)
      · rcases h4 with h4 | ⟨h4, j', h5, h6⟩
        · obtain ⟨a1, a2⟩ := List.getElem?_eq_some_iff.1 h1
          obtain ⟨b1, b2⟩ := List.getElem?_eq_some_iff.1 hw
          have h7 := (List.pairwise_iff_getElem.1 h.ord) p i a1 b1 h4
          rw [a2, b2] at h7
          exact slt_app h7
        · subst h4
          rw [hw] at h1
          injection h1 with h1
          subst h1
          obtain ⟨a1, a2⟩ := List.getElem?_eq_some_iff.1 h6
          obtain ⟨b1, b2⟩ := List.getElem?_eq_some_iff.1 hj
          have h7 := (List.pairwise_iff_getElem.1 hg.srt) j' j a1 b1 h5
          rw [a2, b2] at h7
          exact slt_last h7
    have hmemR : ∀ n ∈ st.fresh, ∃ m ∈ s.ns, n ∈ g.succ m lj := fun n hn => (hR n).1 (hnew n hn).1
    refine ⟨hv.len, hch.wlen, hch.chain, fun t s' w hs' hw' n hn => ?_, fun w hww => ?_, fun t s' w hs' hw' n hn u hu hlt hr => ?_, ?_, fun w hww => ?_, fun n hn => ?_, fun t s' hs' l hl' n hn y hy => ?_, fun s' hs' n hn => ?_, fun s' hs' n hn => ?_, hmono _ hg.s0.1 h.start, ?_, ?_, fun s' hs' => ?_⟩
    · rcases app_get hs' with h1 | ⟨h1, h2⟩
      · rcases app_get hw' with h3 | ⟨h3, h4⟩
        · exact h.rch t s' w h1 h3 n hn
        · have := (List.getElem?_eq_some_iff.1 h1).1
          rw [h.wlen] at h3; omega
      · subst h2
        rcases app_get hw' with h3 | ⟨h3, h4⟩
        · have := (List.getElem?_eq_some_iff.1 h3).1
          rw [h.wlen] at this; omega
        · subst h4
          obtain ⟨m, hm, hnm⟩ := hmemR n hn
          exact reach_snoc.2 ⟨m, h.rch i s wi hs hw m hm, hnm⟩
    · rcases List.mem_append.1 hww with h1 | h1
      · exact h.ov w h1
      · simp at h1; subst h1
        exact over_snoc.2 ⟨h.ov wi (List.mem_of_getElem? hw), hl⟩
    · rcases app_get hs' with h1 | ⟨h1, h2⟩
      · rcases app_get hw' with h3 | ⟨h3, h4⟩
        · exact h.min t s' w h1 h3 n hn u hu hlt hr
        · have := (List.getElem?_eq_some_iff.1 h1).1
          rw [h.wlen] at h3; omega
      · subst h2
        rcases app_get hw' with h3 | ⟨h3, h4⟩
        · have := (List.getElem?_eq_some_iff.1 h3).1
          rw [h.wlen] at this; omega
        · subst h4
          have := h.claim hg hw hj u.length u rfl hu hlt n hr
          rw [(hnew n hn).2] at this; cases this
    · refine List.pairwise_append.2 ⟨h.ord, by simp, fun a ha b hb => ?_⟩
      simp at hb; subst hb
      exact hbig a ha
    · rcases List.mem_append.1 hww with h1 | h1
      · rcases hpar w h1 with h2 | ⟨p, v, l, h2, h3, h4, h5⟩
        · exact .inl h2
        · exact .inr ⟨p, v, l, get_app h2, h3, h4, h5⟩
      · simp at h1; subst h1
        exact .inr ⟨i, wi, lj, get_app hw, rfl, hl, .inr ⟨rfl, j, by omega, hj⟩⟩
    · rw [hv.snI n hn, h.snI n hn]
      constructor
      · rintro (⟨s', hs', hns⟩ | hnR)
        · exact ⟨s', List.mem_append_left _ hs', hns⟩
        · rcases Bool.eq_false_or_eq_true (sn seen n) with h2 | h2
          · obtain ⟨s', hs', hns⟩ := (h.snI n hn).1 h2
            exact ⟨s', List.mem_append_left _ hs', hns⟩
          · exact ⟨⟨i, lj, st.fresh⟩, List.mem_append_right _ (by simp), (hv.fr n).2 ⟨hnR, h2⟩⟩
      · rintro ⟨s', hs', hns⟩
        rcases List.mem_append.1 hs' with h1 | h1
        · exact .inl ⟨s', h1, hns⟩
        · simp at h1; subst h1
          exact .inr (hnew n hns).1
    · rcases app_get hs' with h1 | ⟨h1, h2⟩
      · exact hdone t s' h1 l hl' n hn y hy
      · have := (List.getElem?_eq_some_iff.1 hs).1
        rcases hl' with ⟨h3, _⟩ | ⟨h3, _⟩ <;> omega
    · rcases List.mem_append.1 hs' with h1 | h1
      · exact h.nogoal s' h1 n hn
      · simp at h1; subst h1; exact hnog n hn
    · rcases List.mem_append.1 hs' with h1 | h1
      · exact h.inn s' h1 n hn
      · simp at h1; subst h1; exact hRin n (hnew n hn).1
    · have h1 := hv.cnt
      have h2 := h.cnt
      have h3 : 0 < st.fresh.length := List.length_pos_iff.2 hfr
      simp; omega
    · have := h.le; simp; omega
    · rcases List.mem_append.1 hs' with h1 | h1
      · exact h.nd s' h1
      · simp at h1; subst h1; exact hv.nd
theorem FI.init {g : Gr} (hg : GrOk g) {st : VSt} (hv : VOk g.goal g.N (List.replicate g.N false) [g.s0] st) (hf : st.found = false) : st.fresh = [g.s0] ∧ FI g st.seen [⟨-1, 0, [g.s0]⟩] [[]] 0 0 := by
  have hno : ∀ n, sn (List.replicate g.N false) n = false := fun n => by
    unfold sn
    by_cases h : n.toNat < g.N <;> simp [List.getD, h]
  have hmem : ∀ n, n ∈ st.fresh ↔ n = g.s0 := fun n => by rw [hv.fr n]; simp [hno]
  have hfr : st.fresh = [g.s0] := by
    have h1 := hv.nd
    generalize st.fresh = l at hmem h1
    cases l with
    | nil => have := (hmem g.s0).2 rfl; cases this
    | cons a l =>
      have ha := (hmem a).1 (by simp)
      subst ha
      cases l with
      | nil => rfl
      | cons b l =>
        have hb := (hmem b).1 (by simp)
        subst hb
        simp at h1
  refine ⟨hfr, ?_⟩
  have hng : g.goal g.s0 = false := by
    have := hv.fd
    rw [hf, hfr] at this
    simpa using this.symm
  have one : ∀ (t : Nat) (s : Stp), [(⟨-1, 0, [g.s0]⟩ : Stp)][t]? = some s → t = 0 ∧ s = ⟨-1, 0, [g.s0]⟩ := fun t s h => by
    cases t with
    | zero => simp at h; exact ⟨rfl, h.symm⟩
    | succ t => simp at h
  have one' : ∀ (t : Nat) (w : List Int), [([] : List Int)][t]? = some w → w = [] := fun t w h => by
    cases t with
    | zero => exact (Option.some.inj h).symm
    | succ t => simp at h
  refine ⟨hv.len, rfl, fun t s hs => ?_, fun t s w hs hw n hn => ?_, fun w hw => ?_, fun t s w hs hw n hn u _ hlt => ?_, by simp, fun w hw => by simp at hw; exact .inl hw, fun n hn => ?_, fun t s hs l hl n hn y hy => ?_, fun s hs n hn => ?_, fun s hs n hn => ?_, ?_, ?_, by simp, fun s hs => ?_⟩
  · obtain ⟨rfl, rfl⟩ := one t s hs; exact .inl ⟨rfl, rfl⟩
  · obtain ⟨rfl, rfl⟩ := one t s hs
    have := one' 0 w hw
    subst this
    simp at hn; subst hn; exact (rfl : g.s0 = g.s0)
  · simp at hw; subst hw; exact fun l hl => (by cases hl)
  · have := one' t w hw
    subst this
    rcases hlt with h1 | ⟨_, h1⟩
    · simp at h1
    · cases u <;> exact h1.elim
  · rw [hv.snI n hn]; simp [hno]
  · rcases hl with ⟨h1, _⟩ | ⟨_, j', h1, _⟩ <;> omega
  · simp at hs; subst hs; simp at hn; subst hn; exact hng
  · simp at hs; subst hs; simp at hn; subst hn; exact hg.s0
  · exact (hv.snI _ hg.s0.1).2 (.inr (by simp))
  · rw [hv.cnt, hfr]; simp
  · simp at hs; subst hs; simp
theorem IsAns.start {g : Gr} (h : g.goal g.s0 = true) : IsAns g (some []) :=
  ⟨fun l hl => (by cases hl), ⟨g.s0, rfl, h⟩, fun u _ _ hlt => by rcases hlt with h1 | ⟨_, h1⟩; (simp at h1); (cases u <;> exact h1.elim)⟩
end Go.Am
/-
  Marks of operations.
-/
namespace Go.Am
open Go
/-- Noisy ones, and those that are quiet whatever the store. -/
def mark (n1 n2 : List Nat) (i : Nat) : Nat := bif Nat.beq (noisy n1 i) 1 then 1 else bif Nat.beq (noisy n2 i) 1 then 2 else 0
end Go.Am
