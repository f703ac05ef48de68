/-
  The closures of firstBroken.
-/
import Derived.Test.YtilhofhoebpcgaaDoorPart15
namespace Go.Am
open Go Go.Proofs
set_option linter.unusedSimpArgs false
set_option linter.unusedVariables false
attribute [local irreducible] QOp AOp Lex LexO AWp Spec
variable {TB : List (Nat × Obj)}

def restI (a p : Aut) (node letter : Int) : Int := goA a (node / p.nx.length % a.nx.length).toNat letter * p.nx.length + goA p (node % p.nx.length).toNat letter
def succI (l : List Sys) (a p : Aut) (node letter : Int) : List Int := (lowN (l.map (·.st)) (csP l (node / p.nx.length / a.nx.length) letter)).map fun o => o * a.nx.length * p.nx.length + restI a p node letter
def goalI (a p : Aut) (node : Int) : Bool := a.ac.getD (node / p.nx.length % a.nx.length).toNat false && !p.ac.getD (node % p.nx.length).toNat false
def gI (l : List Sys) (a p : Aut) (ls : List Int) : Gr := ⟨(prodI (l.map (·.st)) * a.nx.length * p.nx.length).toNat, succI l a p, goalI a p, ls, 0⟩
theorem tbl_get {a : Aut} {q : Nat} (h : q < a.nx.length) : (tblD a)[q]? = some (rowD fun l => goA a q l) := rowsF_get (g := fun q => rowD fun l => goA a q l) h
theorem rowD_get {h : Nat → Int} {l : Int} (h0 : 0 ≤ l) (h1 : l < 6) : ((rowD h).drop (l.toNat * 1))[0]? = some (iD (h l.toNat)) := by
  rw [List.getElem?_drop]
  have h2 : l.toNat * 1 + 0 = l.toNat := by omega
  have h3 : l.toNat < 6 := by omega
  rw [h2]
  simp [rowD, h3]
theorem set_mid2 {outs low : List Int} {h : Int → Int} {k : Nat} {x : Int} (hx : low[k]? = some x) : (outs ++ ((low.take k).map h ++ low.drop k)).set (outs.length + k) (h x) = outs ++ ((low.take (k + 1)).map h ++ low.drop (k + 1)) := by
  have hk := (List.getElem?_eq_some_iff.1 hx).1
  rw [List.set_append_right _ _ (by omega), List.set_append_right _ _ (by simp; omega)]
  congr 1
  have e : outs.length + k - outs.length - ((low.take k).map h).length = 0 := by simp; omega
  rw [e, drop_some hx, List.take_add_one, hx]
  simp
theorem auts_len {a : Aut} (h : autOk a = true) : 1 ≤ a.nx.length ∧ a.nx.length ≤ 12 := by have := autOk_head h; omega
theorem prodS_le {l : List Sys} (h : ∀ s ∈ l, sysOk s = true) (hl : l.length ≤ 3) : 1 ≤ prodI (l.map (·.st)) ∧ prodI (l.map (·.st)) ≤ 4096 := by
  have hpos : ∀ z ∈ l.map (·.st), 1 ≤ z ∧ z ≤ 16 := by
    intro z hz
    obtain ⟨s, hs, rfl⟩ := List.mem_map.1 hz
    have := sysOk_head (h s hs)
    omega
  have h2 := prodI_le _ hpos
  have h3 : (16 : Int) ^ (l.map (·.st)).length ≤ 4096 := by
    have : (l.map (·.st)).length ≤ 3 := by simp; omega
    generalize (l.map (·.st)).length = n at this
    have : n = 0 ∨ n = 1 ∨ n = 2 ∨ n = 3 := by omega
    rcases this with rfl | rfl | rfl | rfl <;> decide
  omega
theorem restI_in {a p : Aut} (ha : autOk a = true) (hp : autOk p = true) {node letter : Int} (hn : 0 ≤ node) (h0 : 0 ≤ letter) (h1 : letter < 6) : 0 ≤ restI a p node letter ∧ restI a p node letter < a.nx.length * p.nx.length := by
  have h2 := auts_len ha
  have h3 := auts_len hp
  have h4 : 0 ≤ node / p.nx.length % a.nx.length ∧ node / p.nx.length % a.nx.length < a.nx.length := ⟨Int.emod_nonneg _ (by omega), Int.emod_lt_of_pos _ (by omega)⟩
  have h5 : 0 ≤ node % p.nx.length ∧ node % p.nx.length < p.nx.length := ⟨Int.emod_nonneg _ (by omega), Int.emod_lt_of_pos _ (by omega)⟩
  have h6 := goA_in ha (q := (node / p.nx.length % a.nx.length).toNat) (by omega) h0 h1
  have h7 := goA_in hp (q := (node % p.nx.length).toNat) (by omega) h0 h1
  unfold restI
  generalize goA a _ letter = x at *
  generalize goA p _ letter = y at *
  generalize (a.nx.length : Int) = n at *
  generalize (p.nx.length : Int) = m at *
  have h8 : 0 ≤ x * m := Int.mul_nonneg h6.1 (by omega)
  have h9 : (x + 1) * m ≤ n * m := Int.mul_le_mul_of_nonneg_right (by omega) (by omega)
  rw [Int.add_mul] at h9
  omega
theorem next1_ok [Tabs TB] {l : List Sys} {a p : Aut} (h : ∀ s ∈ l, sysOk s = true) (hl : l.length ≤ 3) (ha : autOk a = true) (hp : autOk p = true) (node letter : Int) (hn0 : 0 ≤ node) (hn1 : node ≤ 1048576) (h0 : 0 ≤ letter) (h1 : letter < 6) (outs : List Int) (hol : outs.length ≤ 1099511627776) :
    Spec Tryd.prog TB 71 [(0, .cells 3 1 (outs.map iRowC))] 1 [eI .i64 node, eI .i64 letter, .o (.arr 0 1 0 outs.length), .o (.ip [.l (tblD a)]), .o (.ip [iD p.nx.length]), .o (.ip [iD a.nx.length]), .o (.ip [.l (tblD p)]), .o (.ip (paRow l))]
      (fun x σ nx => x = .o (.arr 1 1 0 (outs ++ succI l a p node letter).length) ∧ nx = 2 ∧ σ = [(1, .cells 3 1 ((outs ++ succI l a p node letter).map iRowC))]) := by
  have han := auts_len ha
  have hpn := auts_len hp
  have hrest := restI_in ha hp hn0 h0 h1
  have hq1 : 0 ≤ node / p.nx.length := Int.ediv_nonneg hn0 (by omega)
  have hq2 : node / p.nx.length ≤ node := Int.ediv_le_self _ hn0
  have hq3 : 0 ≤ node / p.nx.length / a.nx.length := Int.ediv_nonneg hq1 (by omega)
  have hq4 : node / p.nx.length / a.nx.length ≤ node / p.nx.length := Int.ediv_le_self _ hq1
  have h4 : 0 ≤ node / p.nx.length % a.nx.length ∧ node / p.nx.length % a.nx.length < a.nx.length := ⟨Int.emod_nonneg _ (by omega), Int.emod_lt_of_pos _ (by omega)⟩
  have h5 : 0 ≤ node % p.nx.length ∧ node % p.nx.length < p.nx.length := ⟨Int.emod_nonneg _ (by omega), Int.emod_lt_of_pos _ (by omega)⟩
  have h6 := goA_in ha (q := (node / p.nx.length % a.nx.length).toNat) (by omega) h0 h1
  have h7 := goA_in hp (q := (node % p.nx.length).toNat) (by omega) h0 h1
  have ht1 := tbl_get (a := a) (q := (node / p.nx.length % a.nx.length).toNat) (by omega)
  have ht2 := tbl_get (a := p) (q := (node % p.nx.length).toNat) (by omega)
  have hr1 := rowD_get (h := fun l => goA a (node / p.nx.length % a.nx.length).toNat l) h0 h1
  have hr2 := rowD_get (h := fun l => goA p (node % p.nx.length).toNat l) h0 h1
  have el : ((letter.toNat : Nat) : Int) = letter := by omega
  have h8 : 0 ≤ goA a (node / p.nx.length % a.nx.length).toNat letter * p.nx.length ∧ goA a (node / p.nx.length % a.nx.length).toNat letter * p.nx.length ≤ 144 := ⟨Int.mul_nonneg h6.1 (by omega), by
    have : goA a (node / p.nx.length % a.nx.length).toNat letter * p.nx.length ≤ 12 * 12 := Int.mul_le_mul (by omega) (by omega) (by omega) (by omega)
    omega⟩
  simp only [el] at hr1 hr2
  have hnx := next_ok (TB := TB) l h hl (node / p.nx.length / a.nx.length) letter hq3 (by omega) h0 h1 outs hol
  have hlow := lowN_in (csP_ok h hl h0 h1 (node / p.nx.length / a.nx.length))
  have hps := prodS_le h hl
  have hre : goA a (node / p.nx.length % a.nx.length).toNat letter * p.nx.length + goA p (node % p.nx.length).toNat letter = restI a p node letter := rfl
  unfold succI
  generalize lowN (l.map (·.st)) (csP l (node / p.nx.length / a.nx.length) letter) = low at *
  refine Spec.of Tryd.func71 rfl (by kernel_rfl) (Nat.le_of_ble_eq_true rfl) ?_; intro Γ hΓ
  (repeat (first | (refine popO rfl ?_; first | (refine gA rfl ?_; first | refine yLm rfl rfl ?_ | ((first | refine yQ (md := false) rfl ?_ ?_ | refine yL rfl rfl (by assumption) rfl rfl ?_ ?_ | refine yT rfl rfl (by assumption) rfl ?_ ?_); (first | exact True.intro | omega | (simp only [oA, oB, oC, oD, oE, oF, oG] at *; omega))) | (refine yB rfl ?_; intro _ _hb) | refine yS rfl rfl ?_ | refine yM rfl rfl (by assumption) rfl rfl rfl ?_ | refine yZ rfl rfl rfl rfl rfl rfl ?_ | refine yY rfl rfl rfl ?_ | refine yO rfl rfl rfl ?_ | refine yW rfl rfl ?_ | refine yV rfl rfl rfl rfl (by assumption) rfl rfl rfl rfl ?_ ) | refine popN rfl ?_ | (refine yG rfl rfl ?_ ?_ <;> intro hb <;> subst hb)) | refine AWp.seq ?_ | refine reg (by kernel_rfl) ?_ | refine lexE ?_))
  refine regD (noisy []) mixed (by kernel_rfl) (by kernel_rfl) ?_
  (repeat (first | (refine popO rfl ?_; first | (refine gA rfl ?_; first | refine yLm rfl rfl ?_ | ((first | refine yQ (md := false) rfl ?_ ?_ | refine yL rfl rfl (by assumption) rfl rfl ?_ ?_ | refine yT rfl rfl (by assumption) rfl ?_ ?_); (first | exact True.intro | omega | (simp only [oA, oB, oC, oD, oE, oF, oG] at *; omega))) | (refine yB rfl ?_; intro _ _hb) | refine yS rfl rfl ?_ | refine yM rfl rfl (by assumption) rfl rfl rfl ?_ | refine yZ rfl rfl rfl rfl rfl rfl ?_ | refine yY rfl rfl rfl ?_ | refine yO rfl rfl rfl ?_ | refine yW rfl rfl ?_ | refine yV rfl rfl rfl rfl (by assumption) rfl rfl rfl rfl ?_ | refine gS (fun _ _ => q_loadIp0 rfl hr1) ?_ | refine gS (fun _ _ => q_loadIp0 rfl hr2) ?_) | refine popN rfl ?_ | (refine yG rfl rfl ?_ ?_ <;> intro hb <;> subst hb)) | refine AWp.seq ?_ | refine reg (by kernel_rfl) ?_ | refine lexE ?_))
  rw [hre]
  refine regD (noisy [8]) mixed (by kernel_rfl) (by kernel_rfl) ?_
  (repeat (first | (refine popO rfl ?_; first | (refine gA rfl ?_; first | refine yLm rfl rfl ?_ | ((first | refine yQ (md := false) rfl ?_ ?_ | refine yL rfl rfl (by assumption) rfl rfl ?_ ?_ | refine yT rfl rfl (by assumption) rfl ?_ ?_); (first | exact True.intro | omega | (simp only [oA, oB, oC, oD, oE, oF, oG] at *; omega))) | (refine yB rfl ?_; intro _ _hb) | refine yS rfl rfl ?_ | refine yM rfl rfl (by assumption) rfl rfl rfl ?_ | refine yZ rfl rfl rfl rfl rfl rfl ?_ | refine yY rfl rfl rfl ?_ | refine yO rfl rfl rfl ?_ | refine yW rfl rfl ?_ | refine yV rfl rfl rfl rfl (by assumption) rfl rfl rfl rfl ?_ ) | refine popN rfl ?_ | (refine yG rfl rfl ?_ ?_ <;> intro hb <;> subst hb)) | refine AWp.seq ?_ | refine reg (by kernel_rfl) ?_ | refine lexE ?_))
  (refine popO rfl ?_; refine popW ?_ rfl (by rfl); refine n_call [0] rfl rfl hnx ⟨rfl, by decide, by decide⟩ rfl (by simp [EnvSub, StoreSub, look_cons, nm, E.ren, C.ren, C.renL, O.ren, killc, kill0, Function.comp_def, argsFrom, zC, hΓ]) ?_; rintro x0 σ1 nx1 ⟨rfl, rfl, rfl⟩ _)
  (repeat (first | (refine popO rfl ?_; first | (refine gA rfl ?_; first | refine yLm rfl rfl ?_ | ((first | refine yQ (md := false) rfl ?_ ?_ | refine yL rfl rfl (by assumption) rfl rfl ?_ ?_ | refine yT rfl rfl (by assumption) rfl ?_ ?_); (first | exact True.intro | omega | (simp only [oA, oB, oC, oD, oE, oF, oG] at *; omega))) | (refine yB rfl ?_; intro _ _hb) | refine yS rfl rfl ?_ | refine yM rfl rfl (by assumption) rfl rfl rfl ?_ | refine yZ rfl rfl rfl rfl rfl rfl ?_ | refine yY rfl rfl rfl ?_ | refine yO rfl rfl rfl ?_ | refine yW rfl rfl ?_ | refine yV rfl rfl rfl rfl (by assumption) rfl rfl rfl rfl ?_ ) | refine popN rfl ?_ | (refine yG rfl rfl ?_ ?_ <;> intro hb <;> subst hb)) | refine AWp.seq ?_ | refine reg (by kernel_rfl) ?_ | refine lexE ?_))
  refine AWp.block ?_
  have hmb : ∀ k, ((outs ++ ((low.take k).map (fun o => o * a.nx.length * p.nx.length + restI a p node letter) ++ low.drop k)).length) = outs.length + low.length := by intro k; simp; omega
  refine AWp.loopL (α := {k : Nat // k ≤ low.length}) (fun ⟨k, hk⟩ => [(2, .o (.arr 1 1 0 (outs.length + low.length))), (4, .o (.ip [iD p.nx.length])), (5, .o (.ip [iD a.nx.length])), (12, eI .i64 (restI a p node letter)), (14, eI .i64 ((outs.length + k : Nat) : Int))]) (fun ⟨k, hk⟩ => [(1, .cells 3 1 ((outs ++ ((low.take k).map (fun o => o * a.nx.length * p.nx.length + restI a p node letter) ++ low.drop k)).map iRowC))]) 2 (fun ⟨k, hk⟩ => low.length - k) (⟨0, by omega⟩) [0, 1] (by first | (simp [hΓ]; done) | (rw [hΓ]; decide)) (by (repeat' (first | exact trivial | rfl | refine And.intro ?_ ?_)) <;> simp [EnvSub, StoreSub, look_cons, nm, E.ren, C.ren, C.renL, O.ren, killc, kill0, Function.comp_def, argsFrom, zC, hΓ, Store.ren, killL, nmo]) ?_; rintro ⟨k, hk⟩; try dsimp only
  (repeat (first | (refine popO rfl ?_; first | (refine gA rfl ?_; first | refine yLm rfl rfl ?_ | ((first | refine yQ (md := true) rfl ?_ ?_ | refine yL rfl rfl (by assumption) rfl rfl ?_ ?_ | refine yT rfl rfl (by assumption) rfl ?_ ?_); (first | exact True.intro | omega | (simp only [oA, oB, oC, oD, oE, oF, oG] at *; omega))) | (refine yB rfl ?_; intro _ _hb) | refine yS rfl rfl ?_ | refine yM rfl rfl (by assumption) rfl rfl rfl ?_ | refine yO rfl rfl rfl ?_ | refine yW rfl rfl ?_ | refine yV rfl rfl rfl rfl (by assumption) rfl rfl rfl rfl ?_ ) | refine popN rfl ?_ | (refine yG rfl rfl ?_ ?_ <;> intro hb <;> subst hb)) | refine AWp.seq ?_ | refine reg (by kernel_rfl) ?_ | refine lexE ?_ | refine regD (noisy []) mixed (by kernel_rfl) (by kernel_rfl) ?_))
  (refine AWp.cond rfl (fun hb => ?_) (fun hb => ?_) <;> cases hb)
  · have hkl : k < low.length := by first | omega | (simp only [oA, oB, oC, oD, oE, oF, oG] at *; omega)
    obtain ⟨x, hx⟩ := get_some (l := low) (k := k) hkl
    have hxb := hlow.1 x (List.mem_of_getElem? hx)
    have hset := set_mid2 (outs := outs) (h := fun o => o * a.nx.length * p.nx.length + restI a p node letter) hx
    have hgx : (outs ++ ((low.take k).map (fun o => o * a.nx.length * p.nx.length + restI a p node letter) ++ low.drop k))[outs.length + k]? = some x := by
      rw [List.getElem?_append_right (by omega), List.getElem?_append_right (by simp; omega), drop_some hx]
      have e : outs.length + k - outs.length - ((low.take k).map (fun o => o * a.nx.length * p.nx.length + restI a p node letter)).length = 0 := by simp; omega
      rw [e]; rfl
    have hgx' := get_mapA (g := iRowC) hgx
    have hm1 : 0 ≤ x * a.nx.length ∧ x * a.nx.length ≤ 49152 := ⟨Int.mul_nonneg hxb.1 (by omega), by
      have : x * a.nx.length ≤ 4096 * 12 := Int.mul_le_mul (by omega) (by omega) (by omega) (by omega)
      omega⟩
    have hm2 : 0 ≤ x * a.nx.length * p.nx.length ∧ x * a.nx.length * p.nx.length ≤ 589824 := ⟨Int.mul_nonneg hm1.1 (by omega), by
      have : x * a.nx.length * p.nx.length ≤ 49152 * 12 := Int.mul_le_mul hm1.2 (by omega) (by omega) (by omega)
      omega⟩
    have hm3 : (a.nx.length : Int) * p.nx.length ≤ 144 := by
      have : (a.nx.length : Int) * p.nx.length ≤ 12 * 12 := Int.mul_le_mul (by omega) (by omega) (by omega) (by omega)
      omega
    have hlk := hmb k
    have hk1 : ((outs.length + k : Nat) : Int) + 1 = ((outs.length + (k + 1) : Nat) : Int) := by omega
    have hsm := set_mapI (l := outs ++ ((low.take k).map (fun o => o * a.nx.length * p.nx.length + restI a p node letter) ++ low.drop k)) (k := outs.length + k) (x := x) (y := x * a.nx.length * p.nx.length + restI a p node letter)
    rw [hset] at hsm
    generalize outs ++ ((low.take k).map (fun o => o * a.nx.length * p.nx.length + restI a p node letter) ++ low.drop k) = cur at *
    refine AWp.skip ?_
    refine AWp.seq (AWp.block ?_)
    refine regD (noisy [13]) mixed (by kernel_rfl) (by kernel_rfl) ?_
    (repeat (first | (refine popO rfl ?_; first | (refine gA rfl ?_; first | refine yLm rfl rfl ?_ | ((first | refine yQ (md := true) rfl ?_ ?_ | refine yL rfl rfl (by assumption) rfl rfl ?_ ?_ | refine yT rfl rfl (by assumption) rfl ?_ ?_); (first | exact True.intro | omega | (simp only [oA, oB, oC, oD, oE, oF, oG] at *; omega))) | (refine yB rfl ?_; intro _ _hb) | refine yS rfl rfl ?_ | refine yM rfl rfl (by assumption) rfl rfl rfl ?_ | refine yO rfl rfl rfl ?_ | refine yW rfl rfl ?_ | refine yV rfl rfl rfl rfl (by assumption) rfl rfl rfl rfl ?_ ) | refine popN rfl ?_ | (refine yG rfl rfl ?_ ?_ <;> intro hb <;> subst hb)) | refine AWp.seq ?_ | refine reg (by kernel_rfl) ?_ | refine lexE ?_ | refine regD (noisy []) mixed (by kernel_rfl) (by kernel_rfl) ?_))
    refine ⟨⟨k + 1, hkl⟩, by dsimp only; omega, [0, 1], ?_⟩
    rw [hsm, hk1]
    simp [EnvSub, StoreSub, look_cons, nm, E.ren, C.ren, C.renL, O.ren, killc, kill0, Function.comp_def, argsFrom, zC, hΓ]
  · obtain rfl : k = low.length := by first | omega | (simp only [oA, oB, oC, oD, oE, oF, oG] at *; omega)
    rw [List.take_length, List.drop_length, List.append_nil]
    refine AWp.exit ?_
    (repeat (first | (refine popO rfl ?_; first | (refine gA rfl ?_; first | refine yLm rfl rfl ?_ | ((first | refine yQ (md := true) rfl ?_ ?_ | refine yL rfl rfl (by assumption) rfl rfl ?_ ?_ | refine yT rfl rfl (by assumption) rfl ?_ ?_); (first | exact True.intro | omega | (simp only [oA, oB, oC, oD, oE, oF, oG] at *; omega))) | (refine yB rfl ?_; intro _ _hb) | refine yS rfl rfl ?_ | refine yM rfl rfl (by assumption) rfl rfl rfl ?_ | refine yO rfl rfl rfl ?_ | refine yW rfl rfl ?_ | refine yV rfl rfl rfl rfl (by assumption) rfl rfl rfl rfl ?_ ) | refine popN rfl ?_ | (refine yG rfl rfl ?_ ?_ <;> intro hb <;> subst hb)) | refine AWp.seq ?_ | refine reg (by kernel_rfl) ?_ | refine lexE ?_ | refine regD (noisy []) mixed (by kernel_rfl) (by kernel_rfl) ?_))
    refine AWp.names [0, 1] [(11, .o (.arr 1 1 0 (outs.length + low.length)))] [(1, .cells 3 1 ((outs ++ low.map fun o => o * a.nx.length * p.nx.length + restI a p node letter).map iRowC))] (by intro i hi; rw [hΓ] at hi; obtain rfl : i = 0 := (by omega); rfl) (by simp) (by simp [EnvSub, StoreSub, look_cons, nm, E.ren, C.ren, C.renL, O.ren, killc, kill0, Function.comp_def, argsFrom, zC, hΓ]) (by simp [EnvSub, StoreSub, look_cons, nm, E.ren, C.ren, C.renL, O.ren, killc, kill0, Function.comp_def, argsFrom, zC, hΓ]) ?_
    refine AWp.ret ⟨_, rfl, by simp, rfl, rfl⟩
end Go.Am
/-
  Parts; the closure of goals.
-/
namespace Go.Am
open Go Go.Proofs
set_option linter.unusedSimpArgs false
set_option linter.unusedVariables false
attribute [local irreducible] QOp AOp Lex LexO AWp Spec
variable {TB : List (Nat × Obj)}

theorem areParts1_ok (s : Sys) : Pure Tryd.prog TB 77 [eSys s] (eB (!sysOk s)) := by
  refine Spec.of Tryd.func77 rfl (by kernel_rfl) (Nat.le_of_ble_eq_true rfl) ?_; intro Γ hΓ
  (repeat' (first | (first | (refine popO rfl ?_; first | (refine gA rfl ?_; first | refine yLm rfl rfl ?_ | ((first | refine yQ (md := false) rfl ?_ ?_ | refine yL rfl rfl (by assumption) rfl rfl ?_ ?_ | refine yT rfl rfl (by assumption) rfl ?_ ?_); (first | exact True.intro | omega | (simp only [oA, oB, oC, oD, oE, oF, oG] at *; omega))) | (refine yB rfl ?_; intro _ _hb) | refine yS rfl rfl ?_ | refine yM rfl rfl (by assumption) rfl rfl rfl ?_ | refine yZ rfl rfl rfl rfl rfl rfl ?_ | refine yY rfl rfl rfl ?_ | refine yO rfl rfl rfl ?_ | refine yW rfl rfl ?_ | refine yV rfl rfl rfl rfl (by assumption) rfl rfl rfl rfl ?_ | (refine yC rfl rfl rfl (implSystemValid_ok s) ?_; intro _ _hb) ) | refine popN rfl ?_ | (refine yG rfl rfl ?_ ?_ <;> intro hb <;> subst hb)) | refine AWp.seq ?_ | refine reg (by kernel_rfl) ?_ | refine lexE ?_ | refine regD (noisy []) mixed (by kernel_rfl) (by kernel_rfl) ?_) | (refine AWp.cond rfl (fun hb => ?_) (fun hb => ?_) <;> cases hb) | refine AWp.skip ?_ | refine AWp.exit ?_ | refine AWp.block ?_ | refine AWp.ret ⟨_, rfl, ?_⟩))
  all_goals (show E.o _ = E.o _; congr; grind)
def badI : List Sys → Int → Int
  | [], _ => -1
  | s :: l, k => if sysOk s then badI l (k + 1) else k
theorem badI_all : ∀ (l : List Sys) (k : Int), 0 ≤ k → (decide (0 ≤ badI l k) = !l.all sysOk)
  | [], _, _ => rfl
  | s :: l, k, h => by
    unfold badI
    by_cases hs : sysOk s = true
    · rw [if_pos hs, badI_all l (k + 1) (by omega)]; simp [hs]
    · rw [if_neg hs]; simp [hs, h]
theorem indexFunc_ok (l : List Sys) : Pure Tryd.prog TB 87 [eSyss l, .o (.fn 77 [])] (eI .i64 (badI l 0)) := by
  refine Spec.of Tryd.func87 rfl (by kernel_rfl) (Nat.le_of_ble_eq_true rfl) ?_; intro Γ hΓ
  refine AWp.bound 0 rfl fun hB0 => ?_
  have hB := hB0 (l.map syRow) .refl
  (repeat' (first | (first | (refine popO rfl ?_; first | (refine gA rfl ?_; first | refine yLm rfl rfl ?_ | ((first | refine yQ (md := false) rfl ?_ ?_ | refine yL rfl rfl (by assumption) rfl rfl ?_ ?_ | refine yT rfl rfl (by assumption) rfl ?_ ?_); (first | exact True.intro | omega | (simp only [oA, oB, oC, oD, oE, oF, oG] at *; omega))) | (refine yB rfl ?_; intro _ _hb) | refine yS rfl rfl ?_ | refine yM rfl rfl (by assumption) rfl rfl rfl ?_ | refine yZ rfl rfl rfl rfl rfl rfl ?_ | refine yY rfl rfl rfl ?_ | refine yO rfl rfl rfl ?_ | refine yW rfl rfl ?_ | refine yV rfl rfl rfl rfl (by assumption) rfl rfl rfl rfl ?_ ) | refine popN rfl ?_ | (refine yG rfl rfl ?_ ?_ <;> intro hb <;> subst hb)) | refine AWp.seq ?_ | refine reg (by kernel_rfl) ?_ | refine lexE ?_ | refine regD (noisy []) mixed (by kernel_rfl) (by kernel_rfl) ?_) | (refine AWp.cond rfl (fun hb => ?_) (fun hb => ?_) <;> cases hb) | refine AWp.skip ?_ | refine AWp.exit ?_ | refine AWp.block ?_ | refine AWp.ret ⟨_, rfl, ?_⟩))
  refine AWp.loopL (α := {k : Nat // k ≤ l.length ∧ badI l 0 = badI (l.drop k) k}) (fun ⟨k, hk, ha⟩ => [(0, eSyss l), (1, .o (.fn 77 [])), (7, eI .i64 l.length), (8, eI .i64 k)]) (fun ⟨k, hk, ha⟩ => []) 0 (fun ⟨k, hk, ha⟩ => l.length - k) (⟨0, by omega, rfl⟩) [] (by first | (simp [hΓ]; done) | (rw [hΓ]; decide)) (by (repeat' (first | exact trivial | rfl | refine And.intro ?_ ?_)) <;> simp [EnvSub, StoreSub, look_cons, nm, E.ren, C.ren, C.renL, O.ren, killc, kill0, Function.comp_def, argsFrom, zC, hΓ]) ?_; rintro ⟨k, hk, ha⟩; try dsimp only
  (repeat (first | (refine popO rfl ?_; first | (refine gA rfl ?_; first | refine yLm rfl rfl ?_ | ((first | refine yQ (md := false) rfl ?_ ?_ | refine yL rfl rfl (by assumption) rfl rfl ?_ ?_ | refine yT rfl rfl (by assumption) rfl ?_ ?_); (first | exact True.intro | omega | (simp only [oA, oB, oC, oD, oE, oF, oG] at *; omega))) | (refine yB rfl ?_; intro _ _hb) | refine yS rfl rfl ?_ | refine yM rfl rfl (by assumption) rfl rfl rfl ?_ | refine yZ rfl rfl rfl rfl rfl rfl ?_ | refine yY rfl rfl rfl ?_ | refine yO rfl rfl rfl ?_ | refine yW rfl rfl ?_ | refine yV rfl rfl rfl rfl (by assumption) rfl rfl rfl rfl ?_ ) | refine popN rfl ?_ | (refine yG rfl rfl ?_ ?_ <;> intro hb <;> subst hb)) | refine AWp.seq ?_ | refine reg (by kernel_rfl) ?_ | refine lexE ?_ | refine regD (noisy []) mixed (by kernel_rfl) (by kernel_rfl) ?_))
  (refine AWp.cond rfl (fun hb => ?_) (fun hb => ?_) <;> cases hb)
  · obtain ⟨x, hx⟩ := get_some (l := l) (k := k) (by first | omega | (simp only [oA, oB, oC, oD, oE, oF, oG] at *; omega))
    have hx' := get_map (g := syRow) hx
    rw [drop_some hx, badI] at ha
    (repeat' (first | (first | (refine popO rfl ?_; first | (refine gA rfl ?_; first | refine yLm rfl rfl ?_ | ((first | refine yQ (md := false) rfl ?_ ?_ | refine yL rfl rfl (by assumption) rfl rfl ?_ ?_ | refine yT rfl rfl (by assumption) rfl ?_ ?_); (first | exact True.intro | omega | (simp only [oA, oB, oC, oD, oE, oF, oG] at *; omega))) | (refine yB rfl ?_; intro _ _hb) | refine yS rfl rfl ?_ | refine yM rfl rfl (by assumption) rfl rfl rfl ?_ | refine yZ rfl rfl rfl rfl rfl rfl ?_ | refine yY rfl rfl rfl ?_ | refine yO rfl rfl rfl ?_ | refine yW rfl rfl ?_ | refine yV rfl rfl rfl rfl (by assumption) rfl rfl rfl rfl ?_ | (refine yC rfl rfl rfl (areParts1_ok x) ?_; intro _ _hb) ) | refine popN rfl ?_ | (refine yG rfl rfl ?_ ?_ <;> intro hb <;> subst hb)) | refine AWp.seq ?_ | refine reg (by kernel_rfl) ?_ | refine lexE ?_ | refine regD (noisy []) mixed (by kernel_rfl) (by kernel_rfl) ?_) | (refine AWp.cond rfl (fun hb => ?_) (fun hb => ?_) <;> cases hb) | refine AWp.skip ?_ | refine AWp.exit ?_ | refine AWp.block ?_ | refine AWp.ret ⟨_, rfl, ?_⟩))
    · rw [if_neg (by grind)] at ha
      show E.o _ = E.o _; rw [ha]
    · rw [if_pos (by grind)] at ha
      refine ⟨⟨k + 1, by first | omega | (simp only [oA, oB, oC, oD, oE, oF, oG] at *; omega), by rw [ha]; rfl⟩, by dsimp only; (first | omega | (simp only [oA, oB, oC, oD, oE, oF, oG] at *; omega)), [], ?_⟩
      simp [EnvSub, StoreSub, look_cons, nm, E.ren, C.ren, C.renL, O.ren, killc, kill0, Function.comp_def, argsFrom, zC, hΓ]
  · (repeat' (first | (first | (refine popO rfl ?_; first | (refine gA rfl ?_; first | refine yLm rfl rfl ?_ | ((first | refine yQ (md := false) rfl ?_ ?_ | refine yL rfl rfl (by assumption) rfl rfl ?_ ?_ | refine yT rfl rfl (by assumption) rfl ?_ ?_); (first | exact True.intro | omega | (simp only [oA, oB, oC, oD, oE, oF, oG] at *; omega))) | (refine yB rfl ?_; intro _ _hb) | refine yS rfl rfl ?_ | refine yM rfl rfl (by assumption) rfl rfl rfl ?_ | refine yZ rfl rfl rfl rfl rfl rfl ?_ | refine yY rfl rfl rfl ?_ | refine yO rfl rfl rfl ?_ | refine yW rfl rfl ?_ | refine yV rfl rfl rfl rfl (by assumption) rfl rfl rfl rfl ?_ ) | refine popN rfl ?_ | (refine yG rfl rfl ?_ ?_ <;> intro hb <;> subst hb)) | refine AWp.seq ?_ | refine reg (by kernel_rfl) ?_ | refine lexE ?_ | refine regD (noisy []) mixed (by kernel_rfl) (by kernel_rfl) ?_) | (refine AWp.cond rfl (fun hb => ?_) (fun hb => ?_) <;> cases hb) | refine AWp.skip ?_ | refine AWp.exit ?_ | refine AWp.block ?_ | refine AWp.ret ⟨_, rfl, ?_⟩))
    rw [List.drop_of_length_le (by first | omega | (simp only [oA, oB, oC, oD, oE, oF, oG] at *; omega))] at ha
    show E.o _ = E.o _; rw [ha]; rfl
theorem containsFunc_ok (l : List Sys) : Pure Tryd.prog TB 76 [eSyss l, .o (.fn 77 [])] (eB (!l.all sysOk)) := by
  have hb := badI_all l 0 (by omega)
  refine Spec.of Tryd.func76 rfl (by kernel_rfl) (Nat.le_of_ble_eq_true rfl) ?_; intro Γ hΓ
  (repeat' (first | (first | (refine popO rfl ?_; first | (refine gA rfl ?_; first | refine yLm rfl rfl ?_ | ((first | refine yQ (md := false) rfl ?_ ?_ | refine yL rfl rfl (by assumption) rfl rfl ?_ ?_ | refine yT rfl rfl (by assumption) rfl ?_ ?_); (first | exact True.intro | omega | (simp only [oA, oB, oC, oD, oE, oF, oG] at *; omega))) | (refine yB rfl ?_; intro _ _hb) | refine yS rfl rfl ?_ | refine yM rfl rfl (by assumption) rfl rfl rfl ?_ | refine yZ rfl rfl rfl rfl rfl rfl ?_ | refine yY rfl rfl rfl ?_ | refine yO rfl rfl rfl ?_ | refine yW rfl rfl ?_ | refine yV rfl rfl rfl rfl (by assumption) rfl rfl rfl rfl ?_ | refine yP rfl rfl rfl (indexFunc_ok l) rfl ?_ ) | refine popN rfl ?_ | (refine yG rfl rfl ?_ ?_ <;> intro hb <;> subst hb)) | refine AWp.seq ?_ | refine reg (by kernel_rfl) ?_ | refine lexE ?_ | refine regD (noisy []) mixed (by kernel_rfl) (by kernel_rfl) ?_) | (refine AWp.cond rfl (fun hb => ?_) (fun hb => ?_) <;> cases hb) | refine AWp.skip ?_ | refine AWp.exit ?_ | refine AWp.block ?_ | refine AWp.ret ⟨_, rfl, ?_⟩))
  all_goals (show E.o _ = E.o _; congr; grind)
theorem areParts_ok (l : List Sys) : Pure Tryd.prog TB 57 [eSyss l] (eB (partsOk l)) := by
  refine Spec.of Tryd.func57 rfl (by kernel_rfl) (Nat.le_of_ble_eq_true rfl) ?_; intro Γ hΓ
  (repeat' (first | (first | (refine popO rfl ?_; first | (refine gA rfl ?_; first | refine yLm rfl rfl ?_ | ((first | refine yQ (md := false) rfl ?_ ?_ | refine yL rfl rfl (by assumption) rfl rfl ?_ ?_ | refine yT rfl rfl (by assumption) rfl ?_ ?_); (first | exact True.intro | omega | (simp only [oA, oB, oC, oD, oE, oF, oG] at *; omega))) | (refine yB rfl ?_; intro _ _hb) | refine yS rfl rfl ?_ | refine yM rfl rfl (by assumption) rfl rfl rfl ?_ | refine yZ rfl rfl rfl rfl rfl rfl ?_ | refine yY rfl rfl rfl ?_ | refine yO rfl rfl rfl ?_ | refine yW rfl rfl ?_ | refine yV rfl rfl rfl rfl (by assumption) rfl rfl rfl rfl ?_ | (refine yC rfl rfl rfl (containsFunc_ok l) ?_; intro _ _hb) ) | refine popN rfl ?_ | (refine yG rfl rfl ?_ ?_ <;> intro hb <;> subst hb)) | refine AWp.seq ?_ | refine reg (by kernel_rfl) ?_ | refine lexE ?_ | refine regD (noisy []) mixed (by kernel_rfl) (by kernel_rfl) ?_) | (refine AWp.cond rfl (fun hb => ?_) (fun hb => ?_) <;> cases hb) | refine AWp.skip ?_ | refine AWp.exit ?_ | refine AWp.block ?_ | refine AWp.ret ⟨_, rfl, ?_⟩))
  all_goals (show E.o _ = E.o _; congr; unfold partsOk; grind)
theorem implPartsAlphabet_ok (l : List Sys) : Pure Tryd.prog TB 69 [eSyss l] (eI .i64 (palph l)) := by
  refine Spec.of Tryd.func69 rfl (by kernel_rfl) (Nat.le_of_ble_eq_true rfl) ?_; intro Γ hΓ
  refine AWp.bound 0 rfl fun hB0 => ?_
  have hB := hB0 (l.map syRow) .refl
  (repeat' (first | (first | (refine popO rfl ?_; first | (refine gA rfl ?_; first | refine yLm rfl rfl ?_ | ((first | refine yQ (md := false) rfl ?_ ?_ | refine yL rfl rfl (by assumption) rfl rfl ?_ ?_ | refine yT rfl rfl (by assumption) rfl ?_ ?_); (first | exact True.intro | omega | (simp only [oA, oB, oC, oD, oE, oF, oG] at *; omega))) | (refine yB rfl ?_; intro _ _hb) | refine yS rfl rfl ?_ | refine yM rfl rfl (by assumption) rfl rfl rfl ?_ | refine yZ rfl rfl rfl rfl rfl rfl ?_ | refine yY rfl rfl rfl ?_ | refine yO rfl rfl rfl ?_ | refine yW rfl rfl ?_ | refine yV rfl rfl rfl rfl (by assumption) rfl rfl rfl rfl ?_ | (refine yC rfl rfl rfl (areParts_ok l) ?_; intro _ _hb) ) | refine popN rfl ?_ | (refine yG rfl rfl ?_ ?_ <;> intro hb <;> subst hb)) | refine AWp.seq ?_ | refine reg (by kernel_rfl) ?_ | refine lexE ?_ | refine regD (noisy []) mixed (by kernel_rfl) (by kernel_rfl) ?_) | (refine AWp.cond rfl (fun hb => ?_) (fun hb => ?_) <;> cases hb) | refine AWp.skip ?_ | refine AWp.exit ?_ | refine AWp.block ?_ | refine AWp.ret ⟨_, rfl, ?_⟩))
  all_goals try (show E.o _ = E.o _; congr; unfold palph; rw [if_neg (by grind)])
  have hpk : partsOk l = true := by grind
  refine AWp.loopL (α := {k : Nat // k ≤ l.length}) (fun ⟨k, hk⟩ => [(3, eI .i64 (palphF (l.take k) 0)), (9, eSyss l), (10, eI .i64 l.length), (11, eI .i64 k)]) (fun ⟨k, hk⟩ => []) 0 (fun ⟨k, hk⟩ => l.length - k) (⟨0, by omega⟩) [] (by first | (simp [hΓ]; done) | (rw [hΓ]; decide)) (by (repeat' (first | exact trivial | rfl | refine And.intro ?_ ?_)) <;> simp [EnvSub, StoreSub, look_cons, nm, E.ren, C.ren, C.renL, O.ren, killc, kill0, Function.comp_def, argsFrom, zC, hΓ]) ?_; rintro ⟨k, hk⟩; try dsimp only
  (repeat (first | (refine popO rfl ?_; first | (refine gA rfl ?_; first | refine yLm rfl rfl ?_ | ((first | refine yQ (md := false) rfl ?_ ?_ | refine yL rfl rfl (by assumption) rfl rfl ?_ ?_ | refine yT rfl rfl (by assumption) rfl ?_ ?_); (first | exact True.intro | omega | (simp only [oA, oB, oC, oD, oE, oF, oG] at *; omega))) | (refine yB rfl ?_; intro _ _hb) | refine yS rfl rfl ?_ | refine yM rfl rfl (by assumption) rfl rfl rfl ?_ | refine yZ rfl rfl rfl rfl rfl rfl ?_ | refine yY rfl rfl rfl ?_ | refine yO rfl rfl rfl ?_ | refine yW rfl rfl ?_ | refine yV rfl rfl rfl rfl (by assumption) rfl rfl rfl rfl ?_ ) | refine popN rfl ?_ | (refine yG rfl rfl ?_ ?_ <;> intro hb <;> subst hb)) | refine AWp.seq ?_ | refine reg (by kernel_rfl) ?_ | refine lexE ?_ | refine regD (noisy []) mixed (by kernel_rfl) (by kernel_rfl) ?_))
  (refine AWp.cond rfl (fun hb => ?_) (fun hb => ?_) <;> cases hb)
  · obtain ⟨x, hx⟩ := get_some (l := l) (k := k) (by first | omega | (simp only [oA, oB, oC, oD, oE, oF, oG] at *; omega))
    have hx' := get_map (g := syRow) hx
    have hst : palphF (l.take (k + 1)) 0 = iOr .i64 (palphF (l.take k) 0) x.al := by unfold palphF; rw [foldl_step hx]
    (repeat' (first | (first | (refine popO rfl ?_; first | (refine gA rfl ?_; first | refine yLm rfl rfl ?_ | ((first | refine yQ (md := false) rfl ?_ ?_ | refine yL rfl rfl (by assumption) rfl rfl ?_ ?_ | refine yT rfl rfl (by assumption) rfl ?_ ?_); (first | exact True.intro | omega | (simp only [oA, oB, oC, oD, oE, oF, oG] at *; omega))) | (refine yB rfl ?_; intro _ _hb) | refine yS rfl rfl ?_ | refine yM rfl rfl (by assumption) rfl rfl rfl ?_ | refine yZ rfl rfl rfl rfl rfl rfl ?_ | refine yY rfl rfl rfl ?_ | refine yO rfl rfl rfl ?_ | refine yW rfl rfl ?_ | refine yV rfl rfl rfl rfl (by assumption) rfl rfl rfl rfl ?_ ) | refine popN rfl ?_ | (refine yG rfl rfl ?_ ?_ <;> intro hb <;> subst hb)) | refine AWp.seq ?_ | refine reg (by kernel_rfl) ?_ | refine lexE ?_ | refine regD (noisy []) mixed (by kernel_rfl) (by kernel_rfl) ?_) | (refine AWp.cond rfl (fun hb => ?_) (fun hb => ?_) <;> cases hb) | refine AWp.skip ?_ | refine AWp.exit ?_ | refine AWp.block ?_ | refine AWp.ret ⟨_, rfl, ?_⟩))
    refine ⟨⟨k + 1, by first | omega | (simp only [oA, oB, oC, oD, oE, oF, oG] at *; omega)⟩, by dsimp only; (first | omega | (simp only [oA, oB, oC, oD, oE, oF, oG] at *; omega)), [], ?_⟩
    simp [EnvSub, StoreSub, look_cons, nm, E.ren, C.ren, C.renL, O.ren, killc, kill0, Function.comp_def, argsFrom, zC, hΓ, hst]
  · (repeat' (first | (first | (refine popO rfl ?_; first | (refine gA rfl ?_; first | refine yLm rfl rfl ?_ | ((first | refine yQ (md := false) rfl ?_ ?_ | refine yL rfl rfl (by assumption) rfl rfl ?_ ?_ | refine yT rfl rfl (by assumption) rfl ?_ ?_); (first | exact True.intro | omega | (simp only [oA, oB, oC, oD, oE, oF, oG] at *; omega))) | (refine yB rfl ?_; intro _ _hb) | refine yS rfl rfl ?_ | refine yM rfl rfl (by assumption) rfl rfl rfl ?_ | refine yZ rfl rfl rfl rfl rfl rfl ?_ | refine yY rfl rfl rfl ?_ | refine yO rfl rfl rfl ?_ | refine yW rfl rfl ?_ | refine yV rfl rfl rfl rfl (by assumption) rfl rfl rfl rfl ?_ ) | refine popN rfl ?_ | (refine yG rfl rfl ?_ ?_ <;> intro hb <;> subst hb)) | refine AWp.seq ?_ | refine reg (by kernel_rfl) ?_ | refine lexE ?_ | refine regD (noisy []) mixed (by kernel_rfl) (by kernel_rfl) ?_) | (refine AWp.cond rfl (fun hb => ?_) (fun hb => ?_) <;> cases hb) | refine AWp.skip ?_ | refine AWp.exit ?_ | refine AWp.block ?_ | refine AWp.ret ⟨_, rfl, ?_⟩))
    rw [List.take_of_length_le (by first | omega | (simp only [oA, oB, oC, oD, oE, oF, oG] at *; omega))]
    show E.o _ = E.o _; congr; unfold palph; rw [if_pos hpk]
theorem goal2_ok {a p : Aut} (ha : autOk a = true) (hp : autOk p = true) (node : Int) (hn0 : 0 ≤ node) (hn1 : node ≤ 1048576) : Pure Tryd.prog TB 73 [eI .i64 node, .o (.ip [.p (auRow a)]), .o (.ip [iD p.nx.length]), .o (.ip [iD a.nx.length]), .o (.ip (auRow p))] (eB (goalI a p node)) := by
  have han := auts_len ha
  have hpn := auts_len hp
  have hah := autOk_head ha
  have hph := autOk_head hp
  have hq1 : 0 ≤ node / p.nx.length := Int.ediv_nonneg hn0 (by omega)
  have hq2 : node / p.nx.length ≤ node := Int.ediv_le_self _ hn0
  have h4 : 0 ≤ node / p.nx.length % a.nx.length ∧ node / p.nx.length % a.nx.length < a.nx.length := ⟨Int.emod_nonneg _ (by omega), Int.emod_lt_of_pos _ (by omega)⟩
  have h5 : 0 ≤ node % p.nx.length ∧ node % p.nx.length < p.nx.length := ⟨Int.emod_nonneg _ (by omega), Int.emod_lt_of_pos _ (by omega)⟩
  obtain ⟨b, hb⟩ := get_some (l := a.ac) (k := (node / p.nx.length % a.nx.length).toNat) (by omega)
  obtain ⟨c, hc⟩ := get_some (l := p.ac) (k := (node % p.nx.length).toNat) (by omega)
  have hb' : (a.ac.map bRow)[(node / p.nx.length % a.nx.length).toNat]? = some (bRow b) := by simp [hb]
  have hc' : (p.ac.map bRow)[(node % p.nx.length).toNat]? = some (bRow c) := by simp [hc]
  have hg : goalI a p node = (b && !c) := by simp [goalI, List.getD, hb, hc]
  rw [hg]
  refine Spec.of Tryd.func73 rfl (by kernel_rfl) (Nat.le_of_ble_eq_true rfl) ?_; intro Γ hΓ
  (repeat' (first | (first | (refine popO rfl ?_; first | (refine gA rfl ?_; first | refine yLm rfl rfl ?_ | ((first | refine yQ (md := false) rfl ?_ ?_ | refine yL rfl rfl (by assumption) rfl rfl ?_ ?_ | refine yT rfl rfl (by assumption) rfl ?_ ?_); (first | exact True.intro | omega | (simp only [oA, oB, oC, oD, oE, oF, oG] at *; omega))) | (refine yB rfl ?_; intro _ _hb) | refine yS rfl rfl ?_ | refine yM rfl rfl (by assumption) rfl rfl rfl ?_ | refine yZ rfl rfl rfl rfl rfl rfl ?_ | refine yY rfl rfl rfl ?_ | refine yO rfl rfl rfl ?_ | refine yW rfl rfl ?_ | refine yV rfl rfl rfl rfl (by assumption) rfl rfl rfl rfl ?_ ) | refine popN rfl ?_ | (refine yG rfl rfl ?_ ?_ <;> intro hb <;> subst hb)) | refine AWp.seq ?_ | refine reg (by kernel_rfl) ?_ | refine lexE ?_ | refine regD (noisy []) mixed (by kernel_rfl) (by kernel_rfl) ?_) | (refine AWp.cond rfl (fun hb => ?_) (fun hb => ?_) <;> cases hb) | refine AWp.skip ?_ | refine AWp.exit ?_ | refine AWp.block ?_ | refine AWp.ret ⟨_, rfl, ?_⟩))
  all_goals (show E.o _ = E.o _; first | rfl | (congr; grind))
end Go.Am
/-
  Regions that draw, with new variables in any order: a variable that is laid and not yet written is 'pending'.
-/
namespace Go.Am.R
open Go

structure Sta where
  f : Env
  σ : Store
  nx : Nat
  pd : Nat → Option (TypeId × List Value)
def Sta.put (S : Sta) (d : Option Tmp) (x : E) : Sta := ⟨fput S.f d x, S.σ, S.nx, fun t => if d = some t then none else S.pd t⟩
def Sta.pend (S : Sta) (d : Tmp) (q : TypeId × List Value) : Sta := ⟨S.f, S.σ, S.nx, fun t => if t = d then some q else S.pd t⟩
def Sta.ad (S : Sta) (d : Tmp) (T : TypeId) (z : List Value) : Sta := ⟨fput S.f (some d) (.o (.ptr S.nx z.length 0 0)), (S.nx, .cells T z.length [z.map zC]) :: S.σ, S.nx + 1, fun t => if t = d then none else S.pd t⟩
theorem Sta.put_comm (S : Sta) {d d' : Option Tmp} {x y : E} (h : ∀ t, d = some t → d' ≠ some t) : (S.put d x).put d' y = (S.put d' y).put d x := by
  unfold Sta.put
  rw [fput_comm h]
  congr 1
  funext t
  simp only
  split <;> split <;> rfl
theorem Sta.put_pend (S : Sta) {d' : Option Tmp} {d : Tmp} {q : TypeId × List Value} {y : E} (h : d' ≠ some d) : (S.put d' y).pend d q = (S.pend d q).put d' y := by
  unfold Sta.put Sta.pend
  simp only [Sta.mk.injEq, true_and]
  funext t
  by_cases e : t = d
  · subst e; simp [h]
  · simp [e]
theorem Sta.pend_pend (S : Sta) {d d' : Tmp} {q q' : TypeId × List Value} (h : d ≠ d') : (S.pend d q).pend d' q' = (S.pend d' q').pend d q := by
  unfold Sta.pend
  simp only [Sta.mk.injEq, true_and]
  funext t
  by_cases e : t = d
  · subst e; simp [h]
  · simp [e]
theorem Sta.ad_put (S : Sta) {d' : Option Tmp} {d : Tmp} {T : TypeId} {z : List Value} {y : E} (h : d' ≠ some d) : (S.put d' y).ad d T z = (S.ad d T z).put d' y := by
  unfold Sta.put Sta.ad
  simp only
  rw [fput_comm (d := d') (d' := some d) (fun t ht e => h (by rw [ht, e]))]
  congr 1
  funext t
  by_cases e : t = d
  · subst e; simp
  · simp [e]
theorem Sta.ad_pend (S : Sta) {d' d : Tmp} {T : TypeId} {z : List Value} {q : TypeId × List Value} (h : d' ≠ d) : (S.pend d' q).ad d T z = (S.ad d T z).pend d' q := by
  unfold Sta.pend Sta.ad
  simp only [Sta.mk.injEq, true_and]
  funext t
  by_cases e : t = d
  · subst e; simp [Ne.symm h]
  · simp [e]

section
variable (P : Program) (TB : List (Nat × Obj)) (ops : Array Oper)
/-- A step that may be moved. -/
def Mv (c : Nat) (o : Oper) (S : Sta) (u : Sta → Sta) : Prop :=
  (c ≠ 3 ∧ gval ops o S.f = some false ∧ u = fun S => S.put o.dst (.t [])) ∨
  (c ≠ 3 ∧ gval ops o S.f = some true ∧ ∃ x, (if c = 2 then ∀ Γ σ nx, QOp P TB Γ o S.f σ nx x else ∀ Γ, QOp P TB Γ o S.f S.σ S.nx x) ∧ u = fun S => S.put o.dst x) ∨
  (c = 3 ∧ o.guard = none ∧ ∃ d T z, o.dst = some d ∧ o.op = .alloc T ∧ zeF P T = some z ∧ z.all zOk = true ∧ S.f d = none ∧ u = fun S => S.pend d (T, z))
def St1 (o : Oper) (K : Sta → Prop) (S : Sta) : Prop :=
  (gval ops o S.f = some false ∧ K (S.put o.dst (.t []))) ∨ (gval ops o S.f = some true ∧ ∀ Γ, AOp P TB Γ o S.f S.σ S.nx (fun x σ' nx' => K (Sta.put ⟨S.f, σ', nx', S.pd⟩ o.dst x)))
def St (c : Nat) (o : Oper) (K : Sta → Prop) (S : Sta) : Prop :=
  if c = 1 then St1 P TB ops o K S else
  if c = 5 then ∃ d T z, .tmp d ∈ o.op.operands ∧ S.pd d = some (T, z) ∧ St1 P TB ops o K (S.ad d T z) else
  ∃ u, Mv P TB ops c o S u ∧ K (u S)
def Lex : List (Nat × Nat) → (Sta → Prop) → Sta → Prop
  | [], K, S => K S
  | (i, c) :: r, K, S => ∃ o, ops[i]? = some o ∧ St P TB ops c o (Lex r K) S
end
section
variable {P : Program} {TB : List (Nat × Obj)} {ops : Array Oper}
theorem St1.mono {o : Oper} {K K' : Sta → Prop} {S : Sta} (h : ∀ S, K S → K' S) (hs : St1 P TB ops o K S) : St1 P TB ops o K' S := by
  rcases hs with ⟨h1, h2⟩ | ⟨h1, h2⟩
  · exact .inl ⟨h1, h _ h2⟩
  · exact .inr ⟨h1, fun Γ => (h2 Γ).mono fun _ _ _ h3 => h _ h3⟩
theorem St.mono {c : Nat} {o : Oper} {K K' : Sta → Prop} {S : Sta} (h : ∀ S, K S → K' S) (hs : St P TB ops c o K S) : St P TB ops c o K' S := by
  unfold St at *
  split
  · rename_i e; rw [if_pos e] at hs; exact hs.mono h
  · rename_i e; rw [if_neg e] at hs
    split
    · rename_i e5; rw [if_pos e5] at hs
      obtain ⟨d, T, z, h1, h2, h3⟩ := hs
      exact ⟨d, T, z, h1, h2, h3.mono h⟩
    · rename_i e5; rw [if_neg e5] at hs
      obtain ⟨u, h1, h2⟩ := hs
      exact ⟨u, h1, h _ h2⟩

/-- Nothing that both look at. -/
def far (x y : Oper) : Bool := (x.looksAt ops).all fun t => !(y.looksAt ops).contains t
/-- May i be moved behind j? -/
def okPair (ops : Array Oper) (i ci j cj : Nat) : Bool :=
  waits ops i ops.size j || (match ops[i]?, ops[j]? with
    | some x, some y => x.apart ops y && (Nat.beq ci 2 || Nat.beq ci 3 || (Nat.beq ci 0 && !Nat.beq cj 1 && !Nat.beq cj 5)) && (!Nat.beq cj 5 || far (ops := ops) x y)
    | _, _ => false)
def okAt (ops : Array Oper) (i c : Nat) (r : List (Nat × Nat)) : Bool := r.all fun (j, cj) => okPair ops i c j cj
def okOrd (ops : Array Oper) : List (Nat × Nat) → Bool
  | [] => true
  | (i, c) :: r => okAt ops i c r && okOrd ops r

theorem gval_put {o : Oper} {S : Sta} {d : Option Tmp} {x : E} (h : ∀ t, d = some t → t ∉ o.looksAt ops) : gval ops o (S.put d x).f = gval ops o S.f := gval_fput h

/-- The movable step's condition does not look at what an apart one leaves. -/
theorem Mv.put {c : Nat} {o : Oper} {S : Sta} {u : Sta → Sta} (h : Mv P TB ops c o S u) {d : Option Tmp} {x : E} {σ : Store} {nx : Nat} {pd : Nat → Option (TypeId × List Value)} (hd : ∀ t, d = some t → t ∉ o.looksAt ops) (hd2 : ∀ t, o.dst = some t → d ≠ some t) (hs : c = 0 → σ = S.σ ∧ nx = S.nx) (hc : c = 0 ∨ c = 2 ∨ c = 3) :
    Mv P TB ops c o (Sta.put ⟨S.f, σ, nx, pd⟩ d x) u := by
  have hg : gval ops o (Sta.put ⟨S.f, σ, nx, pd⟩ d x).f = gval ops o S.f := gval_fput hd
  have ag : ∀ t, .tmp t ∈ o.op.operands → S.f t = fput S.f d x t := fun t ht => (agree_fput hd t ht).symm
  rcases h with ⟨h1, h2, h3⟩ | ⟨h1, h2, y, h3, h4⟩ | ⟨h1, h2, dd, T, z, h3, h4, h5, h6, h7, h8⟩
  · exact .inl ⟨h1, by rw [hg]; exact h2, h3⟩
  · refine .inr (.inl ⟨h1, by rw [hg]; exact h2, y, ?_, h4⟩)
    by_cases e : c = 2
    · rw [if_pos e] at h3 ⊢
      exact fun Γ σ nx => (h3 Γ σ nx).congr ag
    · rw [if_neg e] at h3 ⊢
      have hc0 : c = 0 := by omega
      obtain ⟨rfl, rfl⟩ := hs hc0
      exact fun Γ => (h3 Γ).congr ag
  · refine .inr (.inr ⟨h1, h2, dd, T, z, h3, h4, h5, h6, ?_, h8⟩)
    show fput S.f d x dd = none
    rw [fput_other (hd2 dd h3)]; exact h7
theorem Mv.upd {c : Nat} {o : Oper} {S : Sta} {u : Sta → Sta} (h : Mv P TB ops c o S u) : (∃ x, u = fun S => S.put o.dst x) ∨ ∃ d q, o.dst = some d ∧ u = fun S => S.pend d q := by
  rcases h with ⟨_, _, h3⟩ | ⟨_, _, y, _, h4⟩ | ⟨_, _, dd, T, z, h3, _, _, _, _, h8⟩
  · exact .inl ⟨_, h3⟩
  · exact .inl ⟨_, h4⟩
  · exact .inr ⟨dd, _, h3, h8⟩
/-- Back over a movable step. -/
theorem Mv.back {c : Nat} {o oi : Oper} {S : Sta} {u v : Sta → Sta} (hu : (∃ x, u = fun S => S.put oi.dst x) ∨ ∃ d q, oi.dst = some d ∧ u = fun S => S.pend d q) (h : Mv P TB ops c o (u S) v) (h1 : ∀ t, oi.dst = some t → t ∉ o.looksAt ops) (h2 : ∀ t, oi.dst = some t → o.dst ≠ some t) : Mv P TB ops c o S v := by
  rcases hu with ⟨x, rfl⟩ | ⟨d, q, hd, rfl⟩
  · have hg : gval ops o (S.put oi.dst x).f = gval ops o S.f := gval_fput h1
    have ag : ∀ t, .tmp t ∈ o.op.operands → fput S.f oi.dst x t = S.f t := agree_fput h1
    rcases h with ⟨a1, a2, a3⟩ | ⟨a1, a2, y, a3, a4⟩ | ⟨a1, a2, dd, T, z, a3, a4, a5, a6, a7, a8⟩
    · exact .inl ⟨a1, by rw [← hg]; exact a2, a3⟩
    · refine .inr (.inl ⟨a1, by rw [← hg]; exact a2, y, ?_, a4⟩)
      by_cases e : c = 2
      · rw [if_pos e] at a3 ⊢; exact fun Γ σ nx => (a3 Γ σ nx).congr ag
      · rw [if_neg e] at a3 ⊢; exact fun Γ => (a3 Γ).congr ag
    · refine .inr (.inr ⟨a1, a2, dd, T, z, a3, a4, a5, a6, ?_, a8⟩)
      have : fput S.f oi.dst x dd = none := a7
      rw [fput_other (fun e => h2 dd e a3)] at this; exact this
  · exact h
/-- Two movable steps, the other way round. -/
theorem upd_comm {oi oj : Oper} {S : Sta} {u v : Sta → Sta} (hu : (∃ x, u = fun S => S.put oi.dst x) ∨ ∃ d q, oi.dst = some d ∧ u = fun S => S.pend d q) (hv : (∃ x, v = fun S => S.put oj.dst x) ∨ ∃ d q, oj.dst = some d ∧ v = fun S => S.pend d q) (h : ∀ t, oi.dst = some t → oj.dst ≠ some t) : v (u S) = u (v S) := by
  rcases hu with ⟨x, rfl⟩ | ⟨d, q, hd, rfl⟩ <;> rcases hv with ⟨y, rfl⟩ | ⟨d', q', hd', rfl⟩
  · exact S.put_comm h
  · exact S.put_pend fun e => h d' e hd'
  · exact (S.put_pend (h d hd)).symm
  · exact S.pend_pend fun e => h d hd (by rw [hd', e])
/-- A noisy one ahead of a movable one. -/
theorem St1.swap {ci : Nat} {oi oj : Oper} {S : Sta} {u : Sta → Sta} {K : Sta → Prop} (hci : ci = 2 ∨ ci = 3) (hap : oi.apart ops oj = true) (hu : Mv P TB ops ci oi S u) (h : St1 P TB ops oj K (u S)) : St1 P TB ops oj (fun S' => ∃ u, Mv P TB ops ci oi S' u ∧ K (u S')) S := by
  obtain ⟨h1, h2, h3⟩ := Oper.apart_spec hap
  have hup := hu.upd
  have h2' : ∀ t, oi.dst = some t → oj.dst ≠ some t := h2
  have hmv : ∀ (x : E) (σ : Store) (nx : Nat), Mv P TB ops ci oi (Sta.put ⟨S.f, σ, nx, S.pd⟩ oj.dst x) u := fun x σ nx => hu.put (fun t ht => h3 t ht) h2' (fun e => by omega) (by omega)
  have hK : ∀ (x : E) (σ : Store) (nx : Nat), Sta.put ⟨(u S).f, σ, nx, (u S).pd⟩ oj.dst x = u (Sta.put ⟨S.f, σ, nx, S.pd⟩ oj.dst x) := by
    intro x σ nx
    have := upd_comm (S := ⟨S.f, σ, nx, S.pd⟩) hup (.inl ⟨x, rfl⟩) h2'
    rw [← this]
    rcases hup with ⟨y, rfl⟩ | ⟨d, q, _, rfl⟩ <;> rfl
  have hg : gval ops oj (u S).f = gval ops oj S.f := by
    rcases hup with ⟨y, rfl⟩ | ⟨d, q, _, rfl⟩
    · exact gval_fput h1
    · rfl
  have ag : ∀ t, .tmp t ∈ oj.op.operands → (u S).f t = S.f t := by
    rcases hup with ⟨y, rfl⟩ | ⟨d, q, _, rfl⟩
    · exact agree_fput h1
    · exact fun _ _ => rfl
  have hσ : (u S).σ = S.σ ∧ (u S).nx = S.nx := by rcases hup with ⟨y, rfl⟩ | ⟨d, q, _, rfl⟩ <;> exact ⟨rfl, rfl⟩
  rcases h with ⟨a1, a2⟩ | ⟨a1, a2⟩
  · refine .inl ⟨by rw [← hg]; exact a1, u, hmv _ S.σ S.nx, ?_⟩
    have := hK (.t []) S.σ S.nx
    rw [← hσ.1, ← hσ.2] at this
    have e : Sta.put ⟨(u S).f, (u S).σ, (u S).nx, (u S).pd⟩ oj.dst (.t []) = (u S).put oj.dst (.t []) := rfl
    rw [e] at this
    rw [this, hσ.1, hσ.2] at a2
    exact a2
  · refine .inr ⟨by rw [← hg]; exact a1, fun Γ => ?_⟩
    have := (a2 Γ).congr ag
    rw [hσ.1, hσ.2] at this
    exact this.mono fun x σ' nx' hk => ⟨u, hmv x σ' nx', by rw [← hK]; exact hk⟩
theorem St.swap {ci cj : Nat} {oi oj : Oper} {S : Sta} {u : Sta → Sta} {K : Sta → Prop} (hap : oi.apart ops oj = true) (hcc : (Nat.beq ci 2 || Nat.beq ci 3 || (Nat.beq ci 0 && !Nat.beq cj 1 && !Nat.beq cj 5)) = true) (hfar : (!Nat.beq cj 5 || far (ops := ops) oi oj) = true)
    (hu : Mv P TB ops ci oi S u) (h : St P TB ops cj oj K (u S)) : St P TB ops cj oj (fun S' => ∃ u, Mv P TB ops ci oi S' u ∧ K (u S')) S := by
  obtain ⟨h1, h2, h3⟩ := Oper.apart_spec hap
  have h2' : ∀ t, oi.dst = some t → oj.dst ≠ some t := h2
  have hup := hu.upd
  have hci : ci = 2 ∨ ci = 3 ∨ ci = 0 ∧ cj ≠ 1 ∧ cj ≠ 5 := by
    simp only [Bool.or_eq_true, Bool.and_eq_true, Nat.beq_eq] at hcc
    rcases hcc with (e | e) | ⟨⟨e, e1⟩, e5⟩
    · exact .inl e
    · exact .inr (.inl e)
    · exact .inr (.inr ⟨e, fun h => by subst h; simp at e1, fun h => by subst h; simp at e5⟩)
  unfold St at *
  by_cases c1 : cj = 1
  · rw [if_pos c1] at h ⊢
    exact h.swap (by omega) hap hu
  · rw [if_neg c1] at h ⊢
    by_cases c5 : cj = 5
    · rw [if_pos c5] at h ⊢
      obtain ⟨d, T, z, hdo, hpd, hst⟩ := h
      have hdl : d ∈ oj.looksAt ops := operands_looksAt hdo
      have hne : oi.dst ≠ some d := fun e => h1 d e hdl
      have hnl : d ∉ oi.looksAt ops := by
        subst c5
        unfold far at hfar
        simp only [Nat.beq_refl, Bool.not_true, Bool.false_or, List.all_eq_true] at hfar
        intro hd
        have := hfar d hd
        simp [hdl] at this
      have hpd' : S.pd d = some (T, z) := by
        rcases hup with ⟨x, rfl⟩ | ⟨d', q, hd', rfl⟩
        · have : (if oi.dst = some d then none else S.pd d) = some (T, z) := hpd
          rwa [if_neg hne] at this
        · have : (if d = d' then some q else S.pd d) = some (T, z) := hpd
          rwa [if_neg (fun e => hne (by rw [hd', e]))] at this
      have hcomm : (u S).ad d T z = u (S.ad d T z) := by
        rcases hup with ⟨x, rfl⟩ | ⟨d', q, hd', rfl⟩
        · exact S.ad_put hne
        · exact S.ad_pend fun e => hne (by rw [hd', e])
      have hmv : Mv P TB ops ci oi (S.ad d T z) u := by
        have := hu.put (d := some d) (x := .o (.ptr S.nx z.length 0 0)) (σ := (S.nx, .cells T z.length [z.map zC]) :: S.σ) (nx := S.nx + 1) (pd := S.pd) (fun t ht => by injection ht with ht; subst ht; exact hnl) (fun t ht e => hne (by rw [ht]; exact e.symm)) (fun e => by omega) (by omega)
        rcases this with ⟨a1, a2, a3⟩ | ⟨a1, a2, y, a3, a4⟩ | ⟨a1, a2, dd, T', z', a3, a4, a5, a6, a7, a8⟩
        · exact .inl ⟨a1, a2, a3⟩
        · exact .inr (.inl ⟨a1, a2, y, a3, a4⟩)
        · exact .inr (.inr ⟨a1, a2, dd, T', z', a3, a4, a5, a6, a7, a8⟩)
      rw [hcomm] at hst
      exact ⟨d, T, z, hdo, hpd', hst.swap (by omega) hap hmv⟩
    · rw [if_neg c5] at h ⊢
      obtain ⟨v, hv, hk⟩ := h
      have hvp := hv.upd
      refine ⟨v, hv.back hup h1 h2', u, ?_, by rw [← upd_comm hup hvp h2']; exact hk⟩
      rcases hvp with ⟨x, rfl⟩ | ⟨d, q, hd, rfl⟩
      · exact hu.put (σ := S.σ) (nx := S.nx) (pd := S.pd) (fun t ht => h3 t ht) h2' (fun _ => ⟨rfl, rfl⟩) (by omega)
      · exact hu
end
end Go.Am.R
/-
  Regions that draw, with new variables in any order: what holds of the machine.
-/
namespace Go.Am.R
open Go
section
variable {P : Program} {TB : List (Nat × Obj)} {ops : Array Oper}

theorem lex_extract (K : Sta → Prop) : ∀ (r : List (Nat × Nat)) (listed : Array Bool) (S : Sta), closedL ops listed → ordReady ops r listed = true → okOrd ops r = true →
    Lex P TB ops r K S → ∀ j, j ∈ Region.ready .any ops listed → ∃ r1 c r2 o, r = r1 ++ (j, c) :: r2 ∧ ops[j]? = some o ∧ St P TB ops c o (Lex P TB ops (r1 ++ r2) K) S
  | [], listed, _, _, ho, _, _, j, hj => by have := ord_mem _ _ ho j hj; simp at this
  | (i, ci) :: r, listed, S, hc, ho, hk, h, j, hj => by
    obtain ⟨oi, hoi, h⟩ := h
    by_cases hij : j = i
    · subst hij
      exact ⟨[], ci, r, oi, rfl, hoi, h⟩
    · simp only [ordReady, Bool.and_eq_true] at ho
      simp only [okOrd, Bool.and_eq_true] at hk
      have hi : i ∈ Region.ready .any ops listed := by simpa using ho.1
      have hjm : j ∈ r.map (·.1) := ord_mem r _ ho.2 j (ready_mono hj hij)
      obtain ⟨⟨j', cj⟩, hmem, rfl⟩ := List.mem_map.1 hjm
      have hat := hk.1
      unfold okAt at hat
      rw [List.all_eq_true] at hat
      have hnow : ∀ c', (j', c') ∈ r → ∃ oj, ops[j']? = some oj ∧ oi.apart ops oj = true ∧ (Nat.beq ci 2 || Nat.beq ci 3 || (Nat.beq ci 0 && !Nat.beq c' 1 && !Nat.beq c' 5)) = true ∧ (!Nat.beq c' 5 || far (ops := ops) oi oj) = true := by
        intro c' hm'
        have hj0 := hat _ hm'
        simp only [okPair] at hj0
        rw [Bool.or_eq_true] at hj0
        rcases hj0 with hj0 | hj0
        · exact absurd hj (waits_ready hc (un_false (ready_un hi)) hj0)
        · rw [hoi] at hj0
          cases hoj : ops[j']? with
          | none => rw [hoj] at hj0; cases hj0
          | some oj =>
            rw [hoj] at hj0
            simp only [Bool.and_eq_true] at hj0
            exact ⟨oj, rfl, hj0.1.1, hj0.1.2, hj0.2⟩
      have hci : ci ≠ 1 ∧ ci ≠ 5 := by
        obtain ⟨oj, _, _, h2, _⟩ := hnow cj hmem
        refine ⟨fun e => ?_, fun e => ?_⟩ <;> (subst e; simp at h2)
      have h' : ∃ u, Mv P TB ops ci oi S u ∧ Lex P TB ops r K (u S) := by
        unfold St at h
        rwa [if_neg hci.1, if_neg hci.2] at h
      obtain ⟨u, hu, hl⟩ := h'
      obtain ⟨r1, c, r2, oj, hr, hoj, h5⟩ := lex_extract K r (listed.setIfInBounds i true) _ (closed_set hc hi) ho.2 hk.2 hl j' (ready_mono hj hij)
      obtain ⟨oj', hoj', hap, hcc, hfar⟩ := hnow c (by rw [hr]; simp)
      rw [hoj] at hoj'
      injection hoj' with hoj'
      subst hoj'
      refine ⟨(i, ci) :: r1, c, r2, oj, by rw [hr]; rfl, hoj, ?_⟩
      refine (St.swap hap hcc hfar hu h5).mono fun S' ⟨u', hu', hk'⟩ => ?_
      refine ⟨oi, hoi, ?_⟩
      unfold St
      rw [if_neg hci.1, if_neg hci.2]
      exact ⟨u', hu', hk'⟩
theorem ord_skip' (r1 r2 : List (Nat × Nat)) (j c : Nat) (listed : Array Bool) (h : ordReady ops (r1 ++ (j, c) :: r2) listed = true) (hj : j ∈ Region.ready .any ops listed) : ordReady ops (r1 ++ r2) (listed.setIfInBounds j true) = true := ord_skip r1 r2 j c listed h hj
theorem ok_skip : ∀ (r1 r2 : List (Nat × Nat)) (x : Nat × Nat), okOrd ops (r1 ++ x :: r2) = true → okOrd ops (r1 ++ r2) = true
  | [], r2, (j, c), h => by
    simp only [List.nil_append, okOrd, Bool.and_eq_true] at h
    exact h.2
  | (i, d) :: r1, r2, x, h => by
    simp only [List.cons_append, okOrd, Bool.and_eq_true] at h ⊢
    refine ⟨?_, ok_skip r1 r2 x h.2⟩
    have h1 := h.1
    unfold okAt at h1 ⊢
    rw [List.all_eq_true] at h1 ⊢
    intro y hy
    refine h1 y ?_
    rcases List.mem_append.1 hy with hy | hy
    · exact List.mem_append_left _ hy
    · exact List.mem_append_right _ (List.mem_cons_of_mem _ hy)

structure Pend (Γ : Ctx) (V : View) (σ : Store) (b : Nat) (T : TypeId) (z : List Value) : Prop where
  cells : ∃ cur : Array Value, V.w.heap[b]? = some (.cells cur T (0, 0)) ∧ cur.toList = z
  ni : ¬ V.I b
  ns : ∀ id o, look σ id = some o → ¬ V.nl id → V.ρ id ≠ b
  lo : Γ.V.w.heap.size ≤ b
  zok : z.all zOk = true
theorem Pend.lt {Γ : Ctx} {V : View} {σ : Store} {b : Nat} {T : TypeId} {z : List Value} (h : Pend Γ V σ b T z) : b < V.w.heap.size := by
  obtain ⟨cur, h1, _⟩ := h.cells
  exact (Array.getElem?_eq_some_iff.1 h1).1
theorem Inv.comp {Γ : Ctx} {V V' : View} {σ σ' : Store} (h : Inv TB Γ V σ) (h' : Inv TB ⟨V, Foot V σ⟩ V' σ') : Inv TB Γ V' σ' := by
  have hf : ∀ b, Foot V σ b → Γ.V.w.heap.size ≤ b ∨ Γ.F b := by
    rintro b ⟨id, o, h1, h2, rfl⟩; exact h.live id o h1 h2
  refine ⟨h'.os.trans h.os, h'.tape.trans h.tape, h'.output.trans h.output, fun b hb hn => ?_, h'.iLt, fun b hb => ?_, h.ext.trans h'.ext, h'.st, fun id o h1 h2 => ?_, h'.tabs⟩
  · have h1 : ¬ Foot V σ b := fun hx => by rcases hf b hx with h2 | h2; omega; exact hn h2
    exact (h'.old b (Nat.lt_of_lt_of_le hb h.ext.size) h1).trans (h.old b hb hn)
  · rcases h'.iNew b hb with h1 | h1 | h1
    · exact h.iNew b h1
    · exact .inr (.inl (Nat.le_trans h.ext.size h1))
    · exact .inr (hf b h1)
  · rcases h'.live id o h1 h2 with h3 | h3
    · exact .inl (Nat.le_trans h.ext.size h3)
    · exact hf _ h3
theorem Pend.comp {Γ : Ctx} {V V' : View} {σ σ' : Store} {b : Nat} {T : TypeId} {z : List Value} (hp : Pend Γ V σ b T z) (h' : Inv TB ⟨V, Foot V σ⟩ V' σ') : Pend Γ V' σ' b T z := by
  have hlt := hp.lt
  have hnf : ¬ Foot V σ b := by rintro ⟨id, o, h1, h2, h3⟩; exact hp.ns id o h1 h2 h3
  refine ⟨?_, fun hI => ?_, fun id o h1 h2 e => ?_, hp.lo, hp.zok⟩
  · obtain ⟨cur, h1, h2⟩ := hp.cells
    exact ⟨cur, (h'.old b hlt hnf).trans h1, h2⟩
  · rcases h'.iNew b hI with h1 | h1 | h1
    · exact hp.ni h1
    · have h1 : V.w.heap.size ≤ b := h1; omega
    · exact hnf h1
  · rcases h'.live id o h1 h2 with h3 | h3
    · have h3 : V.w.heap.size ≤ V'.ρ id := h3; omega
    · rw [e] at h3; exact hnf h3

structure RelF (TB : List (Nat × Obj)) (Γ : Ctx) (N : Nat) (V : View) (S : Sta) (a : Act) : Prop where
  st : RelSt TB Γ N V S.f S.σ S.nx a
  pd : ∀ d T z, S.pd d = some (T, z) → S.f d = none ∧ ∃ b, a.tmps[d]? = some (.pointer (some ⟨b, 0, none⟩)) ∧ Pend Γ V S.σ b T z
  ne : ∀ d d' q q' b b', S.pd d = some q → S.pd d' = some q' → d ≠ d' → a.tmps[d]? = some (.pointer (some ⟨b, 0, none⟩)) → a.tmps[d']? = some (.pointer (some ⟨b', 0, none⟩)) → b ≠ b'

variable {Γ : Ctx} {N : Nat} {V V' : View} {S : Sta} {a : Act}
theorem put_get {a : Act} {d : Option Tmp} {v : Value} {t : Nat} (h : d ≠ some t) : (a.put d v).tmps[t]? = a.tmps[t]? := by
  cases d with
  | none => rfl
  | some d =>
    have : d ≠ t := fun e => h (by rw [e])
    simp [Act.put, Array.getElem?_setIfInBounds_ne this]
theorem RelF.put (h : RelF TB Γ N V S a) {d : Option Tmp} {x : E} {v : Value} {σ' : Store} {nx' : Nat} (hd : ∀ t, d = some t → t < N) (e : Ext V V') (hi : Inv TB ⟨V, Foot V S.σ⟩ V' σ') (hn : V'.nx = nx') (hx : ERel V' x v) : RelF TB Γ N V' (Sta.put ⟨S.f, σ', nx', S.pd⟩ d x) (a.put d v) := by
  have hp : ∀ t q, (if d = some t then none else S.pd t) = some q → d ≠ some t ∧ S.pd t = some q := fun t q hq => by
    split at hq
    · cases hq
    · rename_i hne; exact ⟨hne, hq⟩
  refine ⟨h.st.put hd e (Inv.comp h.st.inv hi) hn hx, fun t T z hq => ?_, fun t t' q q' b b' hq hq' hne hb hb' => ?_⟩
  · obtain ⟨h1, h2⟩ := hp t _ hq
    obtain ⟨h3, b, h4, h5⟩ := h.pd t T z h2
    refine ⟨?_, b, by rw [put_get h1]; exact h4, h5.comp hi⟩
    show fput S.f d x t = none
    rw [fput_other h1]; exact h3
  · obtain ⟨h1, h2⟩ := hp t _ hq
    obtain ⟨h1', h2'⟩ := hp t' _ hq'
    rw [put_get h1] at hb
    rw [put_get h1'] at hb'
    exact h.ne t t' q q' b b' h2 h2' hne hb hb'
/-- More memory. -/
theorem Inv.grow {σ : Store} (h : Inv TB Γ V σ) {w : World} (hos : w.os = V.w.os) (ht : w.tape = V.w.tape) (ho : w.output = V.w.output) (hs : V.w.heap.size ≤ w.heap.size) (hw : ∀ b, b < V.w.heap.size → w.heap[b]? = V.w.heap[b]?) : Inv TB Γ { V with w := w } σ ∧ Ext V { V with w := w } := by
  have e : Ext V { V with w := w } := ⟨fun _ h => h, fun b hb => hw b (h.iLt b hb), hs, fun _ _ => rfl, fun _ _ => rfl, fun _ _ => Iff.rfl, Nat.le_refl _⟩
  refine ⟨⟨hos.trans h.os, ht.trans h.tape, ho.trans h.output, fun b hb hf => (hw b (Nat.lt_of_lt_of_le hb h.ext.size)).trans (h.old b hb hf), fun b hb => Nat.lt_of_lt_of_le (h.iLt b hb) hs, h.iNew, h.ext.trans e, ⟨fun id o hl => ?_, h.st.lt, h.st.free, h.st.inj⟩, h.live, fun x hx => ?_⟩, e⟩
  · exact (h.st.obj id o hl).keep e (h.st.lt id o hl) fun hn => hw _ ((h.st.obj id o hl).blt hn)
  · have := h.tabs x hx
    exact ⟨this.1, (hw _ (h.iLt _ this.1)).trans this.2⟩
theorem RelF.alloc (h : RelF TB Γ N V S a) {d : Tmp} {T : TypeId} {zv : Value} {z : List Value} (hd : d < N) (hf : S.f d = none) (hz : zv.cells.toList = z) (hok : z.all zOk = true) : RelF TB Γ N { V with w := V.w.alloc (.cells zv.cells T) } (S.pend d (T, z)) (a.put (some d) (.pointer (some ⟨V.w.heap.size, 0, none⟩))) := by
  obtain ⟨hi, he⟩ := Inv.grow h.st.inv (w := V.w.alloc (.cells zv.cells T)) rfl rfl rfl (by simp) (fun b hb => heap_push_old _ _ _ hb)
  have hds : d < a.tmps.size := by rw [h.st.size]; exact hd
  have hput : (a.put (some d) (.pointer (some ⟨V.w.heap.size, 0, none⟩))).tmps[d]? = some (.pointer (some ⟨V.w.heap.size, 0, none⟩)) := by
    simp [Act.put, hds]
  refine ⟨⟨fun t e ht => ?_, h.st.lt, by simp [Act.put, h.st.size], hi, h.st.nx, h.st.defers⟩, fun t T' z' hq => ?_, fun t t' q q' b b' hq hq' hne hb hb' => ?_⟩
  · have ht : S.f t = some e := ht
    have hne : d ≠ t := fun e => by subst e; rw [hf] at ht; cases ht
    have := (h.st.env t e ht).ext he
    simpa [Act.put, Array.getElem?_setIfInBounds_ne hne] using this
  · have hq : (if t = d then some (T, z) else S.pd t) = some (T', z') := hq
    by_cases e : t = d
    · subst e
      rw [if_pos rfl] at hq
      injection hq with hq; injection hq with hq1 hq2
      subst hq1 hq2
      refine ⟨hf, _, hput, ⟨⟨zv.cells, heap_push_new _ _, hz⟩, fun hI => ?_, fun id o h1 h2 e => ?_, ?_, hok⟩⟩
      · exact Nat.lt_irrefl _ (h.st.inv.iLt _ hI)
      · have h3 := (h.st.inv.st.obj id o h1).blt h2
        have e : V.ρ id = V.w.heap.size := e
        omega
      · exact h.st.inv.ext.size
    · rw [if_neg e] at hq
      obtain ⟨h1, b, h2, h3⟩ := h.pd t T' z' hq
      refine ⟨h1, b, by rw [put_get (fun e' => e (by injection e' with e'; exact e'.symm))]; exact h2, ⟨?_, h3.ni, h3.ns, h3.lo, h3.zok⟩⟩
      obtain ⟨cur, h4, h5⟩ := h3.cells
      exact ⟨cur, (heap_push_old _ _ _ h3.lt).trans h4, h5⟩
  · have hq : (if t = d then some (T, z) else S.pd t) = some q := hq
    have hq' : (if t' = d then some (T, z) else S.pd t') = some q' := hq'
    have old : ∀ t q b, t ≠ d → S.pd t = some q → (a.put (some d) (.pointer (some ⟨V.w.heap.size, 0, none⟩))).tmps[t]? = some (.pointer (some ⟨b, 0, none⟩)) → a.tmps[t]? = some (.pointer (some ⟨b, 0, none⟩)) ∧ b < V.w.heap.size := fun t q b e hq hb => by
      rw [put_get (fun e' => e (by injection e' with e'; exact e'.symm))] at hb
      obtain ⟨_, b2, h2, h3⟩ := h.pd t q.1 q.2 hq
      rw [hb] at h2
      injection h2 with h2; injection h2 with h2; injection h2 with h2; injection h2 with h2
      subst h2
      exact ⟨hb, h3.lt⟩
    by_cases e : t = d
    · subst e
      rw [hput] at hb
      injection hb with hb; injection hb with hb; injection hb with hb; injection hb with hb
      rw [if_neg (Ne.symm hne)] at hq'
      have := (old t' q' b' (Ne.symm hne) hq' hb').2
      omega
    · rw [if_neg e] at hq
      have h1 := old t q b e hq hb
      by_cases e' : t' = d
      · subst e'
        rw [hput] at hb'
        injection hb' with hb'; injection hb' with hb'; injection hb' with hb'; injection hb' with hb'
        omega
      · rw [if_neg e'] at hq'
        exact h.ne t t' q q' b b' hq hq' hne h1.1 (old t' q' b' e' hq' hb').1
/-- A pending variable becomes the call's own. -/
theorem RelF.adopt (h : RelF TB Γ N V S a) {d : Tmp} {T : TypeId} {z : List Value} (hd : d < N) (hq : S.pd d = some (T, z)) : ∃ V', V'.w = V.w ∧ RelF TB Γ N V' (S.ad d T z) a := by
  obtain ⟨hf, b, hb, hp⟩ := h.pd d T z hq
  obtain ⟨cur, hcur, hcz⟩ := hp.cells
  have hi := h.st.inv
  have hnx := h.st.nx
  have e : Ext V (newV V b 1 False V.w) := newV_ext (Nat.le_refl _) fun _ _ => rfl
  have hρ : (newV V b 1 False V.w).ρ V.nx = b := by simp [newV]
  have hrel : LRel (newV V b 1 False V.w) (z.map zC) cur := by
    refine ⟨by rw [List.length_map, ← hcz]; simp, fun j c v hj hv => ?_⟩
    have hzj : z[j]? = some v := by rw [← hcz, Array.getElem?_toList]; exact hv
    rw [List.getElem?_map, hzj] at hj
    injection hj with hj
    subst hj
    exact zC_rel (List.all_eq_true.1 hp.zok v (List.mem_of_getElem? hzj))
  have hkeep : ∀ id o, look ((S.nx, O.cells T z.length [z.map zC]) :: S.σ) id = some o → (id = V.nx ∧ o = O.cells T z.length [z.map zC]) ∨ (id ≠ V.nx ∧ look S.σ id = some o) := fun id o hl => by
    rw [look_cons] at hl
    rw [← hnx] at hl
    by_cases hid : V.nx = id
    · rw [if_pos hid] at hl; injection hl with hl; exact .inl ⟨hid.symm, hl.symm⟩
    · rw [if_neg hid] at hl; exact .inr ⟨Ne.symm hid, hl⟩
  have hnlk : ∀ id, id < V.nx → ((newV V b 1 False V.w).nl id ↔ V.nl id) := fun id hid => e.nl id hid
  have hinv : Inv TB Γ (newV V b 1 False V.w) ((S.nx, O.cells T z.length [z.map zC]) :: S.σ) := by
    refine ⟨hi.os, hi.tape, hi.output, hi.old, hi.iLt, hi.iNew, hi.ext.trans e, ⟨fun id o hl => ?_, fun id o hl => ?_, fun id o hl hn hI => ?_, fun id id' o o' hl hl' hne hn hn' => ?_⟩, fun id o hl hn => ?_, hi.tabs⟩
    · rcases hkeep id o hl with ⟨rfl, rfl⟩ | ⟨h1, h2⟩
      · refine .inr ⟨by simp [newV], cur, by rw [hρ]; exact hcur, ?_, by simp [newV], by simp [newV, maxLen], ?_, ?_⟩
        · simp [newV, ← hcz]
        · intro r hr; simp at hr; subst hr; simp
        · intro i r j c hi hj
          have h1 := row_rel hrel i r j c hi hj
          rw [List.length_map] at h1
          exact h1
      · exact (hi.st.obj id o h2).keep e (hi.st.lt id o h2) fun _ => rfl
    · rcases hkeep id o hl with ⟨rfl, rfl⟩ | ⟨h1, h2⟩
      · exact Nat.lt_succ_self _
      · exact Nat.lt_succ_of_lt (hi.st.lt id o h2)
    · rcases hkeep id o hl with ⟨rfl, rfl⟩ | ⟨h1, h2⟩
      · rw [hρ] at hI; exact hp.ni hI
      · have hlt := hi.st.lt id o h2
        rw [e.ρ id hlt] at hI
        exact hi.st.free id o h2 (fun hx => hn ((hnlk id hlt).2 hx)) hI
    · rcases hkeep id o hl with ⟨rfl, rfl⟩ | ⟨h1, h2⟩ <;> rcases hkeep id' o' hl' with ⟨rfl, rfl⟩ | ⟨h1', h2'⟩
      · exact absurd rfl hne
      · have hlt := hi.st.lt id' o' h2'
        rw [hρ, e.ρ id' hlt]
        exact fun ee => hp.ns id' o' h2' (fun hx => hn' ((hnlk id' hlt).2 hx)) ee.symm
      · have hlt := hi.st.lt id o h2
        rw [hρ, e.ρ id hlt]
        exact hp.ns id o h2 fun hx => hn ((hnlk id hlt).2 hx)
      · have hlt := hi.st.lt id o h2
        have hlt' := hi.st.lt id' o' h2'
        rw [e.ρ id hlt, e.ρ id' hlt']
        exact hi.st.inj id id' o o' h2 h2' hne (fun hx => hn ((hnlk id hlt).2 hx)) fun hx => hn' ((hnlk id' hlt').2 hx)
    · rcases hkeep id o hl with ⟨rfl, rfl⟩ | ⟨h1, h2⟩
      · rw [hρ]; exact .inl hp.lo
      · have hlt := hi.st.lt id o h2
        rw [e.ρ id hlt]
        exact hi.live id o h2 fun hx => hn ((hnlk id hlt).2 hx)
  refine ⟨newV V b 1 False V.w, rfl, ⟨fun t x ht => ?_, fun t x ht => ?_, h.st.size, hinv, by show V.nx + 1 = S.nx + 1; rw [hnx], h.st.defers⟩, fun t T' z' hq' => ?_, fun t t' q q' b1 b1' hq1 hq1' hne hb1 hb1' => ?_⟩
  · by_cases et : t = d
    · subst et
      have ht : fput S.f (some t) (.o (.ptr S.nx z.length 0 0)) t = some x := ht
      simp only [fput, if_true] at ht
      injection ht with ht
      subst ht
      have hg : a.tmps.getD t undef = .pointer (some ⟨b, 0, none⟩) := by simp [hb]
      rw [hg, ← hnx]
      exact ptr_new
    · have ht : fput S.f (some d) (.o (.ptr S.nx z.length 0 0)) t = some x := ht
      rw [fput_other (fun e' => et (by injection e' with e'; exact e'.symm))] at ht
      exact (h.st.env t x ht).ext e
  · by_cases et : t = d
    · subst et; exact hd
    · have ht : fput S.f (some d) (.o (.ptr S.nx z.length 0 0)) t = some x := ht
      rw [fput_other (fun e' => et (by injection e' with e'; exact e'.symm))] at ht
      exact h.st.lt t x ht
  · have hq' : (if t = d then none else S.pd t) = some (T', z') := hq'
    by_cases et : t = d
    · rw [if_pos et] at hq'; cases hq'
    · rw [if_neg et] at hq'
      obtain ⟨h1, b2, h2, h3⟩ := h.pd t T' z' hq'
      refine ⟨?_, b2, h2, ⟨h3.cells, h3.ni, fun id o hl hn => ?_, h3.lo, h3.zok⟩⟩
      · show fput S.f (some d) _ t = none
        rw [fput_other (fun e' => et (by injection e' with e'; exact e'.symm))]; exact h1
      · rcases hkeep id o hl with ⟨rfl, rfl⟩ | ⟨h4, h5⟩
        · rw [hρ]; exact h.ne d t _ _ b b2 hq hq' (Ne.symm et) hb h2
        · have hlt := hi.st.lt id o h5
          rw [e.ρ id hlt]
          exact h3.ns id o h5 fun hx => hn ((hnlk id hlt).2 hx)
  · have hq1 : (if t = d then none else S.pd t) = some q := hq1
    have hq1' : (if t' = d then none else S.pd t') = some q' := hq1'
    by_cases et : t = d
    · rw [if_pos et] at hq1; cases hq1
    · by_cases et' : t' = d
      · rw [if_pos et'] at hq1'; cases hq1'
      · rw [if_neg et] at hq1; rw [if_neg et'] at hq1'
        exact h.ne t t' q q' b1 b1' hq1 hq1' hne hb1 hb1'
end
end Go.Am.R
