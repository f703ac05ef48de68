/-
  The reference's search, the walk.
-/
import Derived.Test.YtnnalheaipnnaaaGreatDoorPart9
import Derived.Lib.TrailingZeros
set_option linter.constructorNameAsVariable false
set_option linter.unusedSimpArgs false
set_option linter.unusedVariables false
namespace Go.Am
open Go Go.Proofs
attribute [local irreducible] QOp AOp Lex LexO AWp Spec
variable {TB : List (Nat × Obj)}

theorem idx_lt {l : List Int} (h : l.Pairwise (· < ·)) {i j : Nat} {a b : Int} (hi : l[i]? = some a) (hj : l[j]? = some b) (hab : a < b) : i < j := by
  obtain ⟨h1, rfl⟩ := List.getElem?_eq_some_iff.1 hi
  obtain ⟨h2, rfl⟩ := List.getElem?_eq_some_iff.1 hj
  rw [List.pairwise_iff_getElem] at h
  rcases Nat.lt_trichotomy i j with h3 | h3 | h3
  · exact h3
  · subst h3; omega
  · have := h j i h2 h1 h3; omega
theorem l4First_ok {n : Net} (hn : NetOk n) (hk : KdOk n) (hst : Fits (sizesN n) n.st) {r : Option (List Int)} (hr : IsAns (gOf n) r) : Pure Tryz.prog TB 42 [eNet n] (ansE r) := by
  have hpr := prod_le hn
  have hg := gOf_ok hn hst
  have hnp := hn.np
  have hna := hn.na
  have hzl := sizesN_len hn
  have hll : (letters n.ls).length ≤ 6 := lettersTo_len n.ls 6
  have hpos := sizes_pos hn
  have hsz := l4Sizes_ok (TB := TB) n (by omega)
  have hmv := l4Moves_ok (TB := TB) hn (gOf n).N (by show (prodI (sizesN n)).toNat ≤ 1048576; omega)
  have hpN : prodI (sizesN n) = (((gOf n).N : Nat) : Int) := by show _ = (((prodI (sizesN n)).toNat : Nat) : Int); omega
  have hNle : (gOf n).N ≤ 1048576 := by omega
  have hml : (movesN n (gOf n).N).length = (gOf n).N := by simp [movesN]
  have hdec : ∀ (x : Nat), x < (gOf n).N → Pure Tryz.prog TB 69 [eInts (sizesN n), eI .i64 x] (eInts (decN (sizesN n) x)) := fun x hx =>
    l4Decode_ok _ _ (by omega) (by omega) (fun z hz => by have := hpos z hz; omega) (by omega)
  have hfnd : ∀ (x : Nat), Pure Tryz.prog TB 68 [eNet n, eInts (decN (sizesN n) x), eIntss (rowN n x)] (eB (foundN n (decN (sizesN n) x) (rowN n x))) := fun x => l4Found_ok hn hk (dec_fits hn _) _
  have hencc := l4Encode_ok (TB := TB) (sizesN n) n.st hst (by omega)
  have hlet := l1Letters_ok (TB := TB) n.ls
  have hdist := fun dist h1 h2 => l4Dist_ok (TB := TB) (movesN n (gOf n).N) (fun i => foundN n (decN (sizesN n) i) (rowN n i)) dist (movesN_inAll hn) (by omega) h1 h2
  refine Spec.of Tryz.func42 rfl (by kernel_rfl) (Nat.le_of_ble_eq_true rfl) ?_; intro Γ hΓ
  (repeat (first | (refine popO rfl ?_; first | (refine gA rfl ?_; first | refine yLm rfl rfl ?_ | ((first | refine yQ (md := false) rfl ?_ ?_ | refine yL rfl rfl (by assumption) rfl rfl ?_ ?_ | refine yT rfl rfl (by assumption) rfl ?_ ?_); (first | exact True.intro | omega | (simp only [oZ] at *; omega))) | (refine yB rfl ?_; intro _ _hb) | refine yU (sl := true) rfl ?_ | refine yM rfl rfl (by assumption) rfl rfl rfl ?_ | refine yV rfl rfl rfl rfl (by assumption) rfl rfl rfl rfl ?_ | refine yP rfl rfl rfl (hsz) rfl ?_ ) | refine popN rfl ?_ | (refine yG rfl rfl ?_ ?_ <;> intro hb <;> subst hb)) | refine AWp.seq ?_ | refine reg (by kernel_rfl) ?_ | refine lexE ?_ | refine regD (flN []) mixed (by kernel_rfl) (by kernel_rfl) ?_))
  refine AWp.block ?_
  refine AWp.loopL (α := {k : Nat // k ≤ (sizesN n).length}) (fun ⟨k, hkl⟩ => [(1, .o (.ip (nRow n))), (4, eInts (sizesN n)), (5, eI .i64 (prodI ((sizesN n).take k))), (6, eI .i64 k)]) (fun ⟨k, hkl⟩ => []) 0 (fun ⟨k, hkl⟩ => (sizesN n).length - k) (⟨0, by omega⟩) [] (by first | (simp [hΓ]; done) | (rw [hΓ]; decide)) (by (repeat' (first | exact trivial | rfl | refine And.intro ?_ ?_)) <;> simp [EnvSub, StoreSub, look_cons, nm, E.ren, C.ren, C.renL, O.ren, killc, kill0, Function.comp_def, argsFrom, zC, hΓ, prodI]) ?_; rintro ⟨k, hkl⟩; try dsimp only
  (repeat (first | (refine popO rfl ?_; first | (refine gA rfl ?_; first | refine yLm rfl rfl ?_ | ((first | refine yQ (md := false) rfl ?_ ?_ | refine yL rfl rfl (by assumption) rfl rfl ?_ ?_ | refine yT rfl rfl (by assumption) rfl ?_ ?_); (first | exact True.intro | omega | (simp only [oZ] at *; omega))) | (refine yB rfl ?_; intro _ _hb) | refine yU (sl := true) rfl ?_ | refine yM rfl rfl (by assumption) rfl rfl rfl ?_ | refine yV rfl rfl rfl rfl (by assumption) rfl rfl rfl rfl ?_ ) | refine popN rfl ?_ | (refine yG rfl rfl ?_ ?_ <;> intro hb <;> subst hb)) | refine AWp.seq ?_ | refine reg (by kernel_rfl) ?_ | refine lexE ?_ | refine regD (flN []) mixed (by kernel_rfl) (by kernel_rfl) ?_))
  (refine AWp.cond rfl (fun hb => ?_) (fun hb => ?_) <;> cases hb)
  · obtain ⟨z, hz⟩ := get_some (l := sizesN n) (k := k) (by first | omega | (simp only [oZ] at *; omega))
    have hz' := get_map (g := iRow) hz
    have h1 := prodI_step hz
    have h2 := prodI_le ((sizesN n).take (k + 1)) fun z hz => hpos z (List.mem_of_mem_take hz)
    have h3 := (hst.take (k + 1)).2
    rw [h1] at h2 h3
    refine AWp.skip ?_
    refine AWp.seq (AWp.block ?_)
    (repeat (first | (refine popO rfl ?_; first | (refine gA rfl ?_; first | refine yLm rfl rfl ?_ | ((first | refine yQ (md := false) rfl ?_ ?_ | refine yL rfl rfl (by assumption) rfl rfl ?_ ?_ | refine yT rfl rfl (by assumption) rfl ?_ ?_); (first | exact True.intro | omega | (simp only [oZ] at *; omega))) | (refine yB rfl ?_; intro _ _hb) | refine yU (sl := true) rfl ?_ | refine yM rfl rfl (by assumption) rfl rfl rfl ?_ | refine yV rfl rfl rfl rfl (by assumption) rfl rfl rfl rfl ?_ ) | refine popN rfl ?_ | (refine yG rfl rfl ?_ ?_ <;> intro hb <;> subst hb)) | refine AWp.seq ?_ | refine reg (by kernel_rfl) ?_ | refine lexE ?_ | refine regD (flN []) mixed (by kernel_rfl) (by kernel_rfl) ?_))
    refine ⟨⟨k + 1, by first | omega | (simp only [oZ] at *; omega)⟩, by dsimp only; (first | omega | (simp only [oZ] at *; omega)), [], ?_⟩
    simp [EnvSub, StoreSub, look_cons, nm, E.ren, C.ren, C.renL, O.ren, killc, kill0, Function.comp_def, argsFrom, zC, hΓ, h1]
  obtain rfl : k = (sizesN n).length := by first | omega | (simp only [oZ] at *; omega)
  refine AWp.exit ?_
  rw [List.take_length, hpN]
  generalize hNN : (gOf n).N = N at *
  generalize hmm : movesN n N = mv at *
  (repeat (first | (refine popO rfl ?_; first | (refine gA rfl ?_; first | refine yLm rfl rfl ?_ | ((first | refine yQ (md := true) rfl ?_ ?_ | refine yL rfl rfl (by assumption) rfl rfl ?_ ?_ | refine yT rfl rfl (by assumption) rfl ?_ ?_); (first | exact True.intro | omega | (simp only [oZ] at *; omega))) | (refine yB rfl ?_; intro _ _hb) | refine yU (sl := false) rfl ?_ | refine yM rfl rfl (by assumption) rfl rfl rfl ?_ | refine yV rfl rfl rfl rfl (by assumption) rfl rfl rfl rfl ?_ | refine yP rfl rfl rfl (hmv) rfl ?_ ) | refine popN rfl ?_ | (refine yG rfl rfl ?_ ?_ <;> intro hb <;> subst hb)) | refine AWp.seq ?_ | refine reg (by kernel_rfl) ?_ | refine lexE ?_ | refine regD (flN []) mixed (by kernel_rfl) (by kernel_rfl) ?_))
  (refine popO rfl ?_; refine popW ?_ rfl (by rfl); refine n_make rfl rfl (by rfl) (by rfl) (Nat.le_of_ble_eq_true rfl) (by omega) (by omega) (by omega) ?_)
  (repeat (first | (refine popO rfl ?_; first | (refine gA rfl ?_; first | refine yLm rfl rfl ?_ | ((first | refine yQ (md := true) rfl ?_ ?_ | refine yL rfl rfl (by assumption) rfl rfl ?_ ?_ | refine yT rfl rfl (by assumption) rfl ?_ ?_); (first | exact True.intro | omega | (simp only [oZ] at *; omega))) | (refine yB rfl ?_; intro _ _hb) | refine yU (sl := false) rfl ?_ | refine yM rfl rfl (by assumption) rfl rfl rfl ?_ | refine yV rfl rfl rfl rfl (by assumption) rfl rfl rfl rfl ?_ ) | refine popN rfl ?_ | (refine yG rfl rfl ?_ ?_ <;> intro hb <;> subst hb)) | refine AWp.seq ?_ | refine reg (by kernel_rfl) ?_ | refine lexE ?_ | refine regD (flN []) mixed (by kernel_rfl) (by kernel_rfl) ?_))
  refine AWp.block ?_
  refine AWp.loopL (α := {i : Nat // i ≤ N}) (fun ⟨i, hi⟩ => [(1, .o (.ip (nRow n))), (4, eInts (sizesN n)), (5, eI .i64 N), (7, eIntsss mv), (8, .o (.arr 0 1 0 N)), (9, eI .i64 i)]) (fun ⟨i, hi⟩ => [(0, .cells 3 1 ((dl (fun j => if foundN n (decN (sizesN n) (j : Nat)) (rowN n j) then 0 else -1) N i).map iRowC))]) 1 (fun ⟨i, hi⟩ => N - i) (⟨0, by omega⟩) [0] (by first | (simp [hΓ]; done) | (rw [hΓ]; decide)) (by (repeat' (first | exact trivial | rfl | refine And.intro ?_ ?_)) <;> simp [EnvSub, StoreSub, look_cons, nm, E.ren, C.ren, C.renL, O.ren, killc, kill0, Function.comp_def, argsFrom, zC, hΓ, dl]) ?_; rintro ⟨i, hi⟩; try dsimp only
  (repeat (first | (refine popO rfl ?_; first | (refine gA rfl ?_; first | refine yLm rfl rfl ?_ | ((first | refine yQ (md := true) rfl ?_ ?_ | refine yL rfl rfl (by assumption) rfl rfl ?_ ?_ | refine yT rfl rfl (by assumption) rfl ?_ ?_); (first | exact True.intro | omega | (simp only [oZ] at *; omega))) | (refine yB rfl ?_; intro _ _hb) | refine yU (sl := false) rfl ?_ | refine yM rfl rfl (by assumption) rfl rfl rfl ?_ | refine yV rfl rfl rfl rfl (by assumption) rfl rfl rfl rfl ?_ ) | refine popN rfl ?_ | (refine yG rfl rfl ?_ ?_ <;> intro hb <;> subst hb)) | refine AWp.seq ?_ | refine reg (by kernel_rfl) ?_ | refine lexE ?_ | refine regD (flN []) mixed (by kernel_rfl) (by kernel_rfl) ?_))
  (refine AWp.cond rfl (fun hb => ?_) (fun hb => ?_) <;> cases hb)
  · have hiN : i < N := by first | omega | (simp only [oZ] at *; omega)
    have hd0 := dl_get (f := fun j => if foundN n (decN (sizesN n) (j : Nat)) (rowN n j) then 0 else -1) hiN
    have hds := dl_set (f := fun j => if foundN n (decN (sizesN n) (j : Nat)) (rowN n j) then 0 else -1) hiN
    have hdl := dl_len (f := fun j => if foundN n (decN (sizesN n) (j : Nat)) (rowN n j) then 0 else -1) (Nat.le_of_lt hiN)
    generalize dl (fun j => if foundN n (decN (sizesN n) (j : Nat)) (rowN n j) then 0 else -1) N i = cur at *
    have hd0' := get_mapA (g := iRowC) hd0
    have hd1 : (cur.set i (-1))[i]? = some (-1) := by simp [hdl, hiN]
    have hd1' := get_mapA (g := iRowC) hd1
    rw [← set_mapI (x := 0)] at hd1'
    have hmi : (mv.map iiiRow)[((i : Nat) : Int).toNat]? = some (iiiRow (rowN n i)) := by rw [← hmm]; exact get_map (movesN_get hiN)
    refine AWp.skip ?_
    refine AWp.seq (AWp.block ?_)
    (repeat' (first | (first | (refine popO rfl ?_; first | (refine gA rfl ?_; first | refine yLm rfl rfl ?_ | ((first | refine yQ (md := true) rfl ?_ ?_ | refine yL rfl rfl (by assumption) rfl rfl ?_ ?_ | refine yT rfl rfl (by assumption) rfl ?_ ?_); (first | exact True.intro | omega | (simp only [oZ] at *; omega))) | (refine yB rfl ?_; intro _ _hb) | refine yU (sl := false) rfl ?_ | refine yM rfl rfl (by assumption) rfl rfl rfl ?_ | refine yV rfl rfl rfl rfl (by assumption) rfl rfl rfl rfl ?_ | refine yP rfl rfl rfl (hdec i hiN) rfl ?_ | (refine yC rfl rfl rfl (hfnd i) ?_; intro _ _hb) ) | refine popN rfl ?_ | (refine yG rfl rfl ?_ ?_ <;> intro hb <;> subst hb)) | refine AWp.seq ?_ | refine reg (by kernel_rfl) ?_ | refine lexE ?_ | refine regD (flN []) mixed (by kernel_rfl) (by kernel_rfl) ?_) | (refine AWp.cond rfl (fun hb => ?_) (fun hb => ?_) <;> cases hb) | refine AWp.skip ?_ | refine AWp.exit ?_ | refine AWp.block ?_ | refine AWp.ret ⟨_, rfl, ?_⟩))
    · rw [if_pos (by assumption)] at hds
      refine ⟨⟨i + 1, by first | omega | (simp only [oZ] at *; omega)⟩, by dsimp only; (first | omega | (simp only [oZ] at *; omega)), [0], ?_⟩
      rw [set_mapI, set_mapI, List.set_set]
      simp [EnvSub, StoreSub, look_cons, nm, E.ren, C.ren, C.renL, O.ren, killc, kill0, Function.comp_def, argsFrom, zC, hΓ, hds]
    · rw [if_neg (by grind)] at hds
      refine ⟨⟨i + 1, by first | omega | (simp only [oZ] at *; omega)⟩, by dsimp only; (first | omega | (simp only [oZ] at *; omega)), [0], ?_⟩
      rw [set_mapI]
      simp [EnvSub, StoreSub, look_cons, nm, E.ren, C.ren, C.renL, O.ren, killc, kill0, Function.comp_def, argsFrom, zC, hΓ, hds]
  obtain rfl : i = N := by first | omega | (simp only [oZ] at *; omega)
  refine AWp.exit ?_
  (repeat (first | (refine popO rfl ?_; first | (refine gA rfl ?_; first | refine yLm rfl rfl ?_ | ((first | refine yQ (md := true) rfl ?_ ?_ | refine yL rfl rfl (by assumption) rfl rfl ?_ ?_ | refine yT rfl rfl (by assumption) rfl ?_ ?_); (first | exact True.intro | omega | (simp only [oZ] at *; omega))) | (refine yB rfl ?_; intro _ _hb) | refine yU (sl := false) rfl ?_ | refine yM rfl rfl (by assumption) rfl rfl rfl ?_ | refine yV rfl rfl rfl rfl (by assumption) rfl rfl rfl rfl ?_ ) | refine popN rfl ?_ | (refine yG rfl rfl ?_ ?_ <;> intro hb <;> subst hb)) | refine AWp.seq ?_ | refine reg (by kernel_rfl) ?_ | refine lexE ?_ | refine regD (flN []) mixed (by kernel_rfl) (by kernel_rfl) ?_))
  have hdlg : ∀ x, x < i → (dl (fun j => if foundN n (decN (sizesN n) (j : Nat)) (rowN n j) then 0 else -1) i i).getD x 0 = if foundN n (decN (sizesN n) (x : Nat)) (rowN n x) then 0 else -1 := by
    intro x hx; simp [dl, List.getD, hx]
  have hdll : (dl (fun j => if foundN n (decN (sizesN n) (j : Nat)) (rowN n j) then 0 else -1) i i).length = i := dl_len (Nat.le_refl _)
  generalize dl (fun j => if foundN n (decN (sizesN n) (j : Nat)) (rowN n j) then 0 else -1) i i = d0 at *
  have hdist := hdist d0 (by omega) (by rw [hml]; exact hdlg)
  rw [hml] at hdist
  (refine popO rfl ?_; refine popW ?_ rfl (by rfl); refine n_call [0] rfl rfl hdist ⟨rfl, by simp, by simp⟩ rfl (by simp [EnvSub, StoreSub, look_cons, nm, E.ren, C.ren, C.renL, O.ren, killc, kill0, Function.comp_def, argsFrom, zC, hΓ]) ?_; rintro x0 σ1 nx1 ⟨rfl, rfl, dist, hD, rfl⟩ _)
  refine lexE ?_
  refine AWp.seq ?_
  refine AWp.freeze [0] [(1, .o (.ip (nRow n))), (4, eInts (sizesN n)), (7, eIntsss mv), (8, eInts dist)] ⟨⟨_, rfl, .keep⟩, ⟨_, rfl, .keep⟩, ⟨_, rfl, .keep⟩, ⟨.o (.arr 0 1 0 i), rfl, .o (.full (T := 3) (rows := dist.map iRowC) (by simp) (by simp [EnvSub, StoreSub, look_cons, nm, E.ren, C.ren, C.renL, O.ren, killc, kill0, Function.comp_def, argsFrom, zC, hΓ, Store.ren, killL, nmo]) (by simp [Function.comp_def]) (by simp [hD.len, hml]))⟩, trivial⟩ ?_
  have hG : DistG (gOf n) (fun x => dist.getD x.toNat 0) := distG_of (by rw [hNN, hmm]; exact hD)
  have hdl := hD.len
  have hin := movesN_inAll hn
  rw [hNN, hmm] at hin
  have hrow : ∀ x : Int, 0 ≤ x ∧ x < i → mv.getD x.toNat [] = (letters n.ls).map fun l => (gOf n).succ x l := by
    intro x hx; rw [← hmm, ← hNN]; exact movesN_row (by rw [hNN]; exact hx)
  have hrl : ∀ x, x < mv.length → (mv.getD x []).length = (letters n.ls).length := by
    intro x hx
    have := hrow (x : Nat) (by omega)
    rw [Int.toNat_natCast] at this
    rw [this]; simp
  have hcl : ∀ (at' : List Int) (k : Nat) (d : Int), AccOk i at' → k < (letters n.ls).length → Pure Tryz.prog TB 72 [eIntsss mv, eInts dist, eInts at', eI .i64 k, eI .i64 d] (eInts (closN mv dist at' k d)) := fun at' k d ha hk =>
    l4Closer_ok mv dist at' k d hin (by omega) hdl (by rw [hml]; exact ha.2) (by have := nodup_len _ _ ha.1 ha.2; omega) (fun x hx => by rw [hrl x hx]; exact hk)
  have hcm : ∀ (at' : List Int) (k : Nat) (d : Int) (m : Int), (letters n.ls)[k]? = some m → AccOk i at' → ∀ y, y ∈ closN mv dist at' k d ↔ ∃ x ∈ at', y ∈ (gOf n).succ x m ∧ dist.getD y.toNat 0 = d := by
    intro at' k d m hm ha y
    rw [← hmm, ← hNN]
    exact clos_row hm (by rw [hNN]; exact ha.2)
  have hac : ∀ (at' : List Int) (k : Nat) (d : Int), AccOk i at' → AccOk i (closN mv dist at' k d) := by
    intro at' k d ha
    have := AccOk.clos hin (dist := dist) (d := d) (k := k) (l := at') .nil (by rw [hml]; exact ha.2)
    rwa [hml] at this
  obtain ⟨s, hs⟩ : ∃ s, encN (sizesN n) n.st 0 = s := ⟨_, rfl⟩
  have hgs : (gOf n).s0 = s := hs
  have hsin := hg.s0
  rw [hgs, hNN] at hsin
  rw [hs] at hencc
  obtain ⟨dd, hdd⟩ := get_some (l := dist) (k := s.toNat) (by omega)
  have hdd' : (dist.map iRow)[s.toNat]? = some (iRow dd) := by simp [hdd]
  have hddg : dist.getD (gOf n).s0.toNat 0 = dd := by rw [hgs]; simp [List.getD, hdd]
  have hs0' : ([s].map iRow)[(0 : Int).toNat]? = some (iRow s) := rfl
  have hbd := hD.bound s.toNat (by omega)
  have hddb : dist.getD s.toNat 0 = dd := by simp [List.getD, hdd]
  rw [hddb] at hbd
  (repeat (first | (refine popO rfl ?_; first | (refine gA rfl ?_; first | refine yLm rfl rfl ?_ | ((first | refine yQ (md := false) rfl ?_ ?_ | refine yL rfl rfl (by assumption) rfl rfl ?_ ?_ | refine yT rfl rfl (by assumption) rfl ?_ ?_); (first | exact True.intro | omega | (simp only [oZ] at *; omega))) | (refine yB rfl ?_; intro _ _hb) | refine yU (sl := true) rfl ?_ | refine yM rfl rfl (by assumption) rfl rfl rfl ?_ | refine yV rfl rfl rfl rfl (by assumption) rfl rfl rfl rfl ?_ | refine yP rfl rfl rfl (hencc) rfl ?_ | refine yP rfl rfl rfl (hlet) rfl ?_ ) | refine popN rfl ?_ | (refine yG rfl rfl ?_ ?_ <;> intro hb <;> subst hb)) | refine AWp.seq ?_ | refine reg (by kernel_rfl) ?_ | refine lexE ?_ | refine regD (flN []) mixed (by kernel_rfl) (by kernel_rfl) ?_))
  by_cases hneg : dd < 0
  · have hans := ans_none hg hG (by show dist.getD (gOf n).s0.toNat 0 < 0; rw [hddg]; exact hneg)
    have hrr := IsAns.unique hr hans
    subst hrr
    refine AWp.block ?_
    refine AWp.loopL (α := Unit) (fun _ => [(12, eT []), (13, eI .i64 dd)]) (fun _ => []) 0 (fun _ => 0) (()) [] (by first | (simp [hΓ]; done) | (rw [hΓ]; decide)) (by (repeat' (first | exact trivial | rfl | refine And.intro ?_ ?_)) <;> simp [EnvSub, StoreSub, look_cons, nm, E.ren, C.ren, C.renL, O.ren, killc, kill0, Function.comp_def, argsFrom, zC, hΓ]) ?_; rintro _; try dsimp only
    (repeat (first | (refine popO rfl ?_; first | (refine gA rfl ?_; first | refine yLm rfl rfl ?_ | ((first | refine yQ (md := false) rfl ?_ ?_ | refine yL rfl rfl (by assumption) rfl rfl ?_ ?_ | refine yT rfl rfl (by assumption) rfl ?_ ?_); (first | exact True.intro | omega | (simp only [oZ] at *; omega))) | (refine yB rfl ?_; intro _ _hb) | refine yU (sl := true) rfl ?_ | refine yM rfl rfl (by assumption) rfl rfl rfl ?_ | refine yV rfl rfl rfl rfl (by assumption) rfl rfl rfl rfl ?_ ) | refine popN rfl ?_ | (refine yG rfl rfl ?_ ?_ <;> intro hb <;> subst hb)) | refine AWp.seq ?_ | refine reg (by kernel_rfl) ?_ | refine lexE ?_ | refine regD (flN []) mixed (by kernel_rfl) (by kernel_rfl) ?_))
    (refine AWp.cond rfl (fun hb => ?_) (fun hb => ?_) <;> cases hb)
    · exfalso; first | omega | (simp only [oZ] at *; omega)
    (repeat' (first | (first | (refine popO rfl ?_; first | (refine gA rfl ?_; first | refine yLm rfl rfl ?_ | ((first | refine yQ (md := false) rfl ?_ ?_ | refine yL rfl rfl (by assumption) rfl rfl ?_ ?_ | refine yT rfl rfl (by assumption) rfl ?_ ?_); (first | exact True.intro | omega | (simp only [oZ] at *; omega))) | (refine yB rfl ?_; intro _ _hb) | refine yU (sl := true) rfl ?_ | refine yM rfl rfl (by assumption) rfl rfl rfl ?_ | refine yV rfl rfl rfl rfl (by assumption) rfl rfl rfl rfl ?_ ) | refine popN rfl ?_ | (refine yG rfl rfl ?_ ?_ <;> intro hb <;> subst hb)) | refine AWp.seq ?_ | refine reg (by kernel_rfl) ?_ | refine lexE ?_ | refine regD (flN []) mixed (by kernel_rfl) (by kernel_rfl) ?_) | (refine AWp.cond rfl (fun hb => ?_) (fun hb => ?_) <;> cases hb) | refine AWp.skip ?_ | refine AWp.exit ?_ | refine AWp.block ?_ | refine AWp.ret ⟨_, rfl, ?_⟩))
    all_goals first
      | (exfalso; first | omega | (simp only [oZ] at *; omega); done)
      | (subst _hb; rw [show decide (dd = 0) = false from decide_eq_false (by first | omega | (simp only [oZ] at *; omega))]; rfl)
  · have hW0 := WInv.init (dx := fun x => dist.getD x.toNat 0) hg (by show 0 ≤ dist.getD (gOf n).s0.toNat 0; rw [hddg]; omega)
    have hW0 : WInv (gOf n) (fun x => dist.getD x.toNat 0) [] [s] dd := by rw [hgs, hddb] at hW0; exact hW0
    refine AWp.block ?_
    refine AWp.loopL (α := {x : List Int × List Int × Int // WInv (gOf n) (fun x => dist.getD x.toNat 0) x.1 x.2.1 x.2.2}) (fun ⟨⟨w, at', d⟩, hW⟩ => [(7, eIntsss mv), (8, eInts dist), (10, eInts at'), (11, eInts (letters n.ls)), (12, eT (txt w)), (13, eI .i64 d)]) (fun ⟨⟨w, at', d⟩, hW⟩ => []) 0 (fun ⟨⟨w, at', d⟩, hW⟩ => d.toNat) (⟨([], [s], dd), hW0⟩) [] (by first | (simp [hΓ]; done) | (rw [hΓ]; decide)) (by (repeat' (first | exact trivial | rfl | refine And.intro ?_ ?_)) <;> simp [EnvSub, StoreSub, look_cons, nm, E.ren, C.ren, C.renL, O.ren, killc, kill0, Function.comp_def, argsFrom, zC, hΓ]) ?_; rintro ⟨⟨w, at', d⟩, hW⟩; try dsimp only
    simp only at hW
    have hWl := hW.len
    have hWd := hW.d0
    have hWa := hW.acc
    have hWl : (w.length : Int) + d = dd := by rw [← hddg]; exact hWl
    rw [hNN] at hWa
    (repeat (first | (refine popO rfl ?_; first | (refine gA rfl ?_; first | refine yLm rfl rfl ?_ | ((first | refine yQ (md := false) rfl ?_ ?_ | refine yL rfl rfl (by assumption) rfl rfl ?_ ?_ | refine yT rfl rfl (by assumption) rfl ?_ ?_); (first | exact True.intro | omega | (simp only [oZ] at *; omega))) | (refine yB rfl ?_; intro _ _hb) | refine yU (sl := true) rfl ?_ | refine yM rfl rfl (by assumption) rfl rfl rfl ?_ | refine yV rfl rfl rfl rfl (by assumption) rfl rfl rfl rfl ?_ ) | refine popN rfl ?_ | (refine yG rfl rfl ?_ ?_ <;> intro hb <;> subst hb)) | refine AWp.seq ?_ | refine reg (by kernel_rfl) ?_ | refine lexE ?_ | refine regD (flN []) mixed (by kernel_rfl) (by kernel_rfl) ?_))
    (refine AWp.cond rfl (fun hb => ?_) (fun hb => ?_) <;> cases hb)
    · have hdp : 0 < d := by first | omega | (simp only [oZ] at *; omega)
      obtain ⟨l0, hl0, hx0⟩ := hW.prog hG hdp
      have hlx : ∀ l : Int, l ∈ (gOf n).ls → ∃ k : Nat, (letters n.ls)[k]? = some l := fun l hl => List.getElem?_of_mem hl
      have hkp : ∀ k : Nat, (∀ k', k' < k → closN mv dist at' k' (d - 1) = []) → k < (letters n.ls).length := by
        intro k hk2
        rcases Nat.lt_or_ge k (letters n.ls).length with h | h
        · exact h
        · exfalso
          obtain ⟨j, hj⟩ := hlx l0 hl0
          have h1 := hk2 j (by have := (List.getElem?_eq_some_iff.1 hj).1; omega)
          obtain ⟨x, hx, y, hy, hdy⟩ := hx0
          have h2 := (hcm at' j (d - 1) l0 hj hWa y).2 ⟨x, hx, hy, hdy⟩
          rw [h1] at h2; cases h2
      have hk0 := hkp 0 (fun k' h => by omega)
      refine AWp.skip ?_
      refine AWp.seq (AWp.block ?_)
      (repeat (first | (refine popO rfl ?_; first | (refine gA rfl ?_; first | refine yLm rfl rfl ?_ | ((first | refine yQ (md := false) rfl ?_ ?_ | refine yL rfl rfl (by assumption) rfl rfl ?_ ?_ | refine yT rfl rfl (by assumption) rfl ?_ ?_); (first | exact True.intro | omega | (simp only [oZ] at *; omega))) | (refine yB rfl ?_; intro _ _hb) | refine yU (sl := true) rfl ?_ | refine yM rfl rfl (by assumption) rfl rfl rfl ?_ | refine yV rfl rfl rfl rfl (by assumption) rfl rfl rfl rfl ?_ | refine yP rfl rfl rfl (hcl at' 0 (d - 1) hWa hk0) rfl ?_ ) | refine popN rfl ?_ | (refine yG rfl rfl ?_ ?_ <;> intro hb <;> subst hb)) | refine AWp.seq ?_ | refine reg (by kernel_rfl) ?_ | refine lexE ?_ | refine regD (flN []) mixed (by kernel_rfl) (by kernel_rfl) ?_))
      refine AWp.block ?_
      refine AWp.loopL (α := {k : Nat // ∀ k', k' < k → closN mv dist at' k' (d - 1) = []}) (fun ⟨k, hkk⟩ => [(7, eIntsss mv), (8, eInts dist), (10, eInts at'), (11, eInts (letters n.ls)), (12, eT (txt w)), (13, eI .i64 d), (14, eI .i64 k), (15, eInts (closN mv dist at' k (d - 1)))]) (fun ⟨k, hkk⟩ => []) 0 (fun ⟨k, hkk⟩ => (letters n.ls).length - k) (⟨0, fun k' h => by omega⟩) [] (by first | (simp [hΓ]; done) | (rw [hΓ]; decide)) (by (repeat' (first | exact trivial | rfl | refine And.intro ?_ ?_)) <;> simp [EnvSub, StoreSub, look_cons, nm, E.ren, C.ren, C.renL, O.ren, killc, kill0, Function.comp_def, argsFrom, zC, hΓ]) ?_; rintro ⟨k, hkk⟩; try dsimp only
      have hkl := hkp k hkk
      have hacK := hac at' k (d - 1) hWa
      (repeat (first | (refine popO rfl ?_; first | (refine gA rfl ?_; first | refine yLm rfl rfl ?_ | ((first | refine yQ (md := false) rfl ?_ ?_ | refine yL rfl rfl (by assumption) rfl rfl ?_ ?_ | refine yT rfl rfl (by assumption) rfl ?_ ?_); (first | exact True.intro | omega | (simp only [oZ] at *; omega))) | (refine yB rfl ?_; intro _ _hb) | refine yU (sl := true) rfl ?_ | refine yM rfl rfl (by assumption) rfl rfl rfl ?_ | refine yV rfl rfl rfl rfl (by assumption) rfl rfl rfl rfl ?_ ) | refine popN rfl ?_ | (refine yG rfl rfl ?_ ?_ <;> intro hb <;> subst hb)) | refine AWp.seq ?_ | refine reg (by kernel_rfl) ?_ | refine lexE ?_ | refine regD (flN []) mixed (by kernel_rfl) (by kernel_rfl) ?_))
      (refine AWp.cond rfl (fun hb => ?_) (fun hb => ?_) <;> cases hb)
      · have hnil : closN mv dist at' k (d - 1) = [] := List.length_eq_zero_iff.1 (by first | omega | (simp only [oZ] at *; omega))
        have hkk2 : ∀ k', k' < k + 1 → closN mv dist at' k' (d - 1) = [] := fun k' h => by
          rcases Nat.lt_succ_iff_lt_or_eq.1 h with h | h
          · exact hkk k' h
          · rw [h]; exact hnil
        have hc2 := hcl at' (k + 1) (d - 1) hWa (hkp _ hkk2)
        rw [show (((k + 1 : Nat)) : Int) = (k : Int) + 1 from rfl] at hc2
        refine AWp.skip ?_
        refine AWp.block ?_
        (repeat (first | (refine popO rfl ?_; first | (refine gA rfl ?_; first | refine yLm rfl rfl ?_ | ((first | refine yQ (md := false) rfl ?_ ?_ | refine yL rfl rfl (by assumption) rfl rfl ?_ ?_ | refine yT rfl rfl (by assumption) rfl ?_ ?_); (first | exact True.intro | omega | (simp only [oZ] at *; omega))) | (refine yB rfl ?_; intro _ _hb) | refine yU (sl := true) rfl ?_ | refine yM rfl rfl (by assumption) rfl rfl rfl ?_ | refine yV rfl rfl rfl rfl (by assumption) rfl rfl rfl rfl ?_ | refine yP rfl rfl rfl (hc2) rfl ?_ ) | refine popN rfl ?_ | (refine yG rfl rfl ?_ ?_ <;> intro hb <;> subst hb)) | refine AWp.seq ?_ | refine reg (by kernel_rfl) ?_ | refine lexE ?_ | refine regD (flN []) mixed (by kernel_rfl) (by kernel_rfl) ?_))
        refine ⟨⟨k + 1, hkk2⟩, by dsimp only; (first | omega | (simp only [oZ] at *; omega)), [], ?_⟩
        simp [EnvSub, StoreSub, look_cons, nm, E.ren, C.ren, C.renL, O.ren, killc, kill0, Function.comp_def, argsFrom, zC, hΓ]
      · obtain ⟨m, hm⟩ := get_some (l := letters n.ls) (k := k) hkl
        have hm' := get_map (g := iRow) hm
        have hmb := lettersTo_in (List.mem_of_getElem? hm)
        have hne : closN mv dist at' k (d - 1) ≠ [] := fun e => by rw [e] at _hb; simp at _hb
        have hN2 := hW.next hg hG hdp (l := m) (List.mem_of_getElem? hm) (at2 := closN mv dist at' k (d - 1)) (by rw [hNN]; exact hacK) hne (fun y => by
            rw [hcm at' k (d - 1) m hm hWa y]) (fun m' hm' hlt => by
            rintro ⟨x, hx, y, hy, hdy⟩
            obtain ⟨j, hj⟩ := hlx m' hm'
            have hjk := idx_lt (letters_sorted n.ls 6) hj hm hlt
            have h2 := (hcm at' j (d - 1) m' hj hWa y).2 ⟨x, hx, hy, hdy⟩
            rw [hkk j hjk] at h2; cases h2)
        have htl : (txt w).length = w.length := by simp [txt]
        have htx : txt w ++ [97 + UInt8.ofNat m.toNat] = txt (w ++ [m]) := by simp [txt]
        refine AWp.exit ?_
        (repeat (first | (refine popO rfl ?_; first | (refine gA rfl ?_; first | refine yLm rfl rfl ?_ | ((first | refine yQ (md := false) rfl ?_ ?_ | refine yL rfl rfl (by assumption) rfl rfl ?_ ?_ | refine yT rfl rfl (by assumption) rfl ?_ ?_); (first | exact True.intro | omega | (simp only [oZ] at *; omega))) | (refine yB rfl ?_; intro _ _hb) | refine yU (sl := true) rfl ?_ | refine yM rfl rfl (by assumption) rfl rfl rfl ?_ | refine yV rfl rfl rfl rfl (by assumption) rfl rfl rfl rfl ?_ | refine yP rfl rfl rfl (l1Text_ok m (by omega) (by omega)) rfl ?_ ) | refine popN rfl ?_ | (refine yG rfl rfl ?_ ?_ <;> intro hb <;> subst hb)) | refine AWp.seq ?_ | refine reg (by kernel_rfl) ?_ | refine lexE ?_ | refine regD (flN []) mixed (by kernel_rfl) (by kernel_rfl) ?_))
        refine ⟨⟨(w ++ [m], closN mv dist at' k (d - 1), d - 1), hN2⟩, by dsimp only; omega, [], ?_⟩
        simp [EnvSub, StoreSub, look_cons, nm, E.ren, C.ren, C.renL, O.ren, killc, kill0, Function.comp_def, argsFrom, zC, hΓ, htx]
    · obtain rfl : d = 0 := by first | omega | (simp only [oZ] at *; omega)
      have hans := hW.ans hg hG
      have hrr := IsAns.unique hr hans
      subst hrr
      (repeat' (first | (first | (refine popO rfl ?_; first | (refine gA rfl ?_; first | refine yLm rfl rfl ?_ | ((first | refine yQ (md := false) rfl ?_ ?_ | refine yL rfl rfl (by assumption) rfl rfl ?_ ?_ | refine yT rfl rfl (by assumption) rfl ?_ ?_); (first | exact True.intro | omega | (simp only [oZ] at *; omega))) | (refine yB rfl ?_; intro _ _hb) | refine yU (sl := true) rfl ?_ | refine yM rfl rfl (by assumption) rfl rfl rfl ?_ | refine yV rfl rfl rfl rfl (by assumption) rfl rfl rfl rfl ?_ ) | refine popN rfl ?_ | (refine yG rfl rfl ?_ ?_ <;> intro hb <;> subst hb)) | refine AWp.seq ?_ | refine reg (by kernel_rfl) ?_ | refine lexE ?_ | refine regD (flN []) mixed (by kernel_rfl) (by kernel_rfl) ?_) | (refine AWp.cond rfl (fun hb => ?_) (fun hb => ?_) <;> cases hb) | refine AWp.skip ?_ | refine AWp.exit ?_ | refine AWp.block ?_ | refine AWp.ret ⟨_, rfl, ?_⟩))
      all_goals first
        | (subst _hb; rfl)
end Go.Am
/-
  A slice of zeros that nobody writes.
-/
namespace Go.Am
open Go Go.Proofs
section
variable {P : Program} {TB : List (Nat × Obj)} {Γ : Ctx} {d : Option Tmp} {ty : TypeId} {pos : String} {af : Array Edge} {g : Option (Nat × Bool)} {f : Env} {σ : Store} {nx : Nat}
end
end Go.Am
/-
  The reference's checks.
-/
namespace Go.Am
open Go Go.Proofs
attribute [local irreducible] QOp AOp Lex LexO AWp Spec
variable {TB : List (Nat × Obj)}

/-- An answer, as two values. -/
abbrev ansT (r : Option (List Int)) : List UInt8 := (r.map txt).getD []
abbrev eAns (r : Option (List Int)) : E := .t [(false, [.d (tD (ansT r))]), (false, [.d (bD r.isSome)])]
theorem ansE_eq (r : Option (List Int)) : ansE r = eAns r := by cases r <;> rfl
noncomputable def ansOf (g : Gr) : Option (List Int) := Classical.choose (exists_ans g)
theorem ansOf_is (g : Gr) : IsAns g (ansOf g) := Classical.choose_spec (exists_ans g)
theorem ansOf_eq {g : Gr} {r : Option (List Int)} (h : IsAns g r) : ansOf g = r := IsAns.unique (ansOf_is g) h

theorem iOr_nat {a b : Nat} (ha : a < 64) (hb : b < 64) : iOr .i64 a b = ((a ||| b : Nat) : Int) ∧ a ||| b < 64 := by
  have h0 : a ||| b < 64 := Nat.or_lt_two_pow (n := 6) ha hb
  refine ⟨?_, h0⟩
  unfold iOr
  have h1 : (BitVec.ofInt IntKind.i64.bits (a : Int) ||| BitVec.ofInt IntKind.i64.bits (b : Int)).toNat = a ||| b := by
    have e : IntKind.i64.bits = 64 := rfl
    rw [e]
    simp only [BitVec.toNat_or, BitVec.ofInt_natCast, BitVec.toNat_ofNat]
    rw [Nat.mod_eq_of_lt (by omega), Nat.mod_eq_of_lt (by omega)]
  rw [h1]
  exact IntWalk.i64_in _ (by omega)
theorem fits_zero : ∀ {zs : List Int}, (∀ z ∈ zs, 0 < z) → Fits zs (List.replicate zs.length 0)
  | [], _ => .nil
  | z :: zs, h => by
    rw [List.length_cons, List.replicate_succ]
    exact .cons (by omega) (h z (by simp)) (fits_zero fun x hx => h x (by simp [hx]))
end Go.Am
/-
  The reference's checks, the walks.
-/
namespace Go.Am
open Go Go.Proofs
attribute [local irreducible] QOp AOp Lex LexO AWp Spec
variable {TB : List (Nat × Obj)}

end Go.Am
/-
  Small sets as integers.
-/
namespace Go.Am
open Go

end Go.Am
/-
  Trailing zeros; the members of a set.
-/
namespace Go.Am
open Go Go.Proofs
attribute [local irreducible] QOp AOp Lex LexO AWp Spec
variable {TB : List (Nat × Obj)}

end Go.Am
/-
  Moves of a system as sets.
-/
namespace Go.Am
open Go Go.Proofs
attribute [local irreducible] QOp AOp Lex LexO AWp Spec
variable {TB : List (Nat × Obj)}

theorem renL_d (r : Nat → Nat) : ∀ ds : List D, C.renL r (ds.map .d) = ds.map .d
  | [] => rfl
  | d :: l => by simp [C.renL, C.ren, renL_d r l]
theorem splice_set {r : List C} {j : Nat} {c : C} (h : j < r.length) : spliceC r j [c] = r.set j c := by
  unfold spliceC
  rw [List.set_eq_take_append_cons_drop, if_pos h]
  simp
theorem shl_one {t : Int} (h0 : 0 ≤ t) (h1 : t < 16) : IntKind.i64.wrap (1 * 2 ^ (min t.toNat IntKind.i64.bits)) = ((2 ^ t.toNat : Nat) : Int) := by
  have e : min t.toNat IntKind.i64.bits = t.toNat := by
    have : IntKind.i64.bits = 64 := rfl
    omega
  rw [e, Int.one_mul]
  have h2 : 2 ^ t.toNat < 2 ^ 16 := Nat.pow_lt_pow_right (by omega) (by omega)
  have h3 : (2 : Int) ^ t.toNat = ((2 ^ t.toNat : Nat) : Int) := by push_cast; rfl
  rw [h3]
  generalize 2 ^ t.toNat = p at *
  exact IntWalk.i64_in _ (by omega)
end Go.Am
/-
  The table of an automaton.
-/
namespace Go.Am
open Go Go.Proofs
attribute [local irreducible] QOp AOp Lex LexO AWp Spec
variable {TB : List (Nat × Obj)}

def rowF (h : Nat → Int) : List C := (List.range 6).map fun l => .d (iD (h l))
def rowD (h : Nat → Int) : List D := (List.range 6).map fun l => iD (h l)
theorem rowF_d (h : Nat → Int) : rowF h = (rowD h).map .d := by simp [rowF, rowD]
def rowsF {α : Type} (n : Nat) (g : Nat → α) : List α := (List.range n).map g
theorem rowsF_get {α : Type} {n q : Nat} {g : Nat → α} (h : q < n) : (rowsF n g)[q]? = some (g q) := by simp [rowsF, h]
theorem rowsF_set {α : Type} {n q : Nat} {g : Nat → α} {x : α} : (rowsF n g).set q x = rowsF n fun i => if i = q then x else g i := by
  apply List.ext_getElem?
  intro i
  by_cases hi : i < n
  · rw [rowsF_get hi]
    by_cases hq : q = i
    · subst hq; rw [List.getElem?_set_self (by simp [rowsF, hi])]; simp
    · rw [List.getElem?_set_ne hq, rowsF_get hi, if_neg (Ne.symm hq)]
  · rw [List.getElem?_eq_none (by simp [rowsF]; omega), List.getElem?_eq_none (by simp [rowsF]; omega)]
theorem rowsF_congr {α : Type} {n : Nat} {g g' : Nat → α} (h : ∀ i, i < n → g i = g' i) : rowsF n g = rowsF n g' := by
  unfold rowsF
  exact List.map_congr_left fun i hi => h i (List.mem_range.1 hi)
theorem rowF_set {h : Nat → Int} {l : Nat} {v : Int} (hl : l < 6) : spliceC (rowF h) (0 + l * 1) (eC (eI .i64 v)) = rowF fun x => if x = l then v else h x := by
  have e : eC (eI .i64 v) = [C.d (iD v)] := rfl
  rw [e, splice_set (by simp [rowF]; omega)]
  have := rowsF_set (n := 6) (q := l) (g := fun l => C.d (iD (h l))) (x := C.d (iD v))
  have e1 : 0 + l * 1 = l := by omega
  rw [e1]
  refine Eq.trans this (rowsF_congr fun i _ => ?_)
  by_cases e : i = l <;> simp [e]
theorem rowF_congr {h h' : Nat → Int} (hh : ∀ l, l < 6 → h l = h' l) : rowF h = rowF h' := rowsF_congr fun i hi => by rw [hh i hi]
theorem lettersTo_pre (s : Int) : ∀ (n k : Nat), k ≤ n → lettersTo s k <+: lettersTo s n
  | 0, k, h => by have : k = 0 := by omega
                  subst this; exact List.prefix_refl _
  | n + 1, k, h => by
    rcases Nat.lt_or_ge k (n + 1) with h1 | h1
    · rw [lettersTo_succ]
      exact (lettersTo_pre s n k (by omega)).trans (List.prefix_append _ _)
    · have : k = n + 1 := by omega
      subst this; exact List.prefix_refl _
theorem letters_place {s : Int} {k n : Nat} {l : Int} (h : (lettersTo s n)[k]? = some l) : (lettersTo s l.toNat).length = k := by
  have h1 := lettersTo_in (List.mem_of_getElem? h)
  have h2 : (lettersTo s (l.toNat + 1))[(lettersTo s l.toNat).length]? = some l := by
    rw [lettersTo_succ, if_pos h1.2.2, List.getElem?_append_right (Nat.le_refl _)]
    simp; omega
  have h3 : (lettersTo s n)[(lettersTo s l.toNat).length]? = some l := by
    obtain ⟨t, ht⟩ := lettersTo_pre s n (l.toNat + 1) (by omega)
    rw [← ht, List.getElem?_append_left (List.getElem?_eq_some_iff.1 h2).1]; exact h2
  have hp := letters_sorted s n
  rw [List.pairwise_iff_getElem] at hp
  obtain ⟨a1, a2⟩ := List.getElem?_eq_some_iff.1 h
  obtain ⟨b1, b2⟩ := List.getElem?_eq_some_iff.1 h3
  rcases Nat.lt_trichotomy (lettersTo s l.toNat).length k with h4 | h4 | h4
  · have := hp _ _ b1 a1 h4; omega
  · exact h4
  · have := hp _ _ a1 b1 h4; omega
theorem mem_lettersTo {s : Int} {n l : Nat} : (l : Int) ∈ lettersTo s n ↔ l < n ∧ bitB s l = true := by
  unfold lettersTo
  simp only [List.mem_map, List.mem_filter, List.mem_range]
  constructor
  · rintro ⟨a, ha, e⟩
    have : a = l := by have e : ((a : Nat) : Int) = l := e; omega
    subst this; exact ha
  · intro h; exact ⟨l, h, rfl⟩
/-- Rows of six. -/
def tbC (n : Nat) (H : Nat → Nat → Int) : List (List C) := rowsF n fun i => rowF (H i)
theorem tbC_ren (r : Nat → Nat) (n : Nat) (H : Nat → Nat → Int) : (tbC n H).map (C.renL r) = tbC n H := by
  unfold tbC rowsF
  rw [List.map_map]
  exact List.map_congr_left fun i _ => by simp only [Function.comp_def, rowF_d, renL_d]
theorem tbC_zero (n : Nat) : tbC n (fun _ _ => 0) = List.replicate n [C.d (D.v (Value.int IntKind.i64 0)), C.d (D.v (Value.int IntKind.i64 0)), C.d (D.v (Value.int IntKind.i64 0)), C.d (D.v (Value.int IntKind.i64 0)), C.d (D.v (Value.int IntKind.i64 0)), C.d (D.v (Value.int IntKind.i64 0))] := by
  unfold tbC rowsF
  rw [List.map_const']; simp; exact .inr rfl
theorem tbC_get {n q : Nat} {H : Nat → Nat → Int} (h : q < n) : (tbC n H)[0 + ((q : Nat) : Int).toNat]? = some (rowF (H q)) := by
  rw [Nat.zero_add, Int.toNat_natCast]; exact rowsF_get (g := fun i => rowF (H i)) h
theorem tbC_set {n q l : Nat} {v : Int} {H : Nat → Nat → Int} (hl : l < 6) : (tbC n H).set (0 + ((q : Nat) : Int).toNat) (spliceC (rowF (H q)) (0 + ((l : Nat) : Int).toNat * 1) (eC (eI .i64 v))) = tbC n fun i x => if i = q ∧ x = l then v else H i x := by
  rw [Nat.zero_add, Int.toNat_natCast, Int.toNat_natCast, rowF_set hl]
  unfold tbC
  rw [rowsF_set]
  refine rowsF_congr fun i _ => ?_
  by_cases e : i = q
  · subst e; rw [if_pos rfl]; exact rowF_congr fun l _ => by simp
  · rw [if_neg e]; exact rowF_congr fun l _ => by simp [e]
theorem tbC_congr {n : Nat} {H H' : Nat → Nat → Int} (h : ∀ i, i < n → ∀ l, l < 6 → H i l = H' i l) : tbC n H = tbC n H' := rowsF_congr fun i hi => rowF_congr fun l hl => h i hi l hl
theorem tbC_len (n : Nat) (H : Nat → Nat → Int) : (tbC n H).length = n := by simp [tbC, rowsF]
/-- The table. -/
def tblD (a : Aut) : List (List D) := rowsF a.nx.length fun q => rowD fun l => goA a q l
theorem tbC_d (a : Aut) : tbC a.nx.length (fun i l => goA a i l) = (tblD a).map fun r => r.map .d := by
  unfold tbC tblD rowsF
  rw [List.map_map]
  exact List.map_congr_left fun i _ => by simp only [Function.comp_def, rowF_d]
theorem tableOf_ok (a : Aut) (h : autOk a = true) : Pure Tryz.prog TB 46 [eAut a] (.o (.d (.l (tblD a)))) := by
  have hh := autOk_head h
  have hll : (letters a.al).length ≤ 6 := lettersTo_len a.al 6
  refine Spec.of Tryz.func46 rfl (by kernel_rfl) (Nat.le_of_ble_eq_true rfl) ?_; intro Γ hΓ
  (repeat (first | (refine popO rfl ?_; first | (refine gA rfl ?_; first | refine yLm rfl rfl ?_ | ((first | refine yQ (md := true) rfl ?_ ?_ | refine yL rfl rfl (by assumption) rfl rfl ?_ ?_ | refine yT rfl rfl (by assumption) rfl ?_ ?_); (first | exact True.intro | omega | (simp only [oZ] at *; omega))) | (refine yB rfl ?_; intro _ _hb) | refine yU (sl := false) rfl ?_ | refine yM rfl rfl (by assumption) rfl rfl rfl ?_ | refine yV rfl rfl rfl rfl (by assumption) rfl rfl rfl rfl ?_ ) | refine popN rfl ?_ | (refine yG rfl rfl ?_ ?_ <;> intro hb <;> subst hb)) | refine AWp.seq ?_ | refine reg (by kernel_rfl) ?_ | refine lexE ?_ | refine regD (flN []) mixed (by kernel_rfl) (by kernel_rfl) ?_))
  (refine popO rfl ?_; refine popS (fun _ _ => q_boxI rfl rfl rfl) rfl ?_)
  (refine popO rfl ?_; refine popS (fun _ _ => q_assign rfl) rfl ?_)
  (repeat (first | (refine popO rfl ?_; first | (refine gA rfl ?_; first | refine yLm rfl rfl ?_ | ((first | refine yQ (md := true) rfl ?_ ?_ | refine yL rfl rfl (by assumption) rfl rfl ?_ ?_ | refine yT rfl rfl (by assumption) rfl ?_ ?_); (first | exact True.intro | omega | (simp only [oZ] at *; omega))) | (refine yB rfl ?_; intro _ _hb) | refine yU (sl := false) rfl ?_ | refine yM rfl rfl (by assumption) rfl rfl rfl ?_ | refine yV rfl rfl rfl rfl (by assumption) rfl rfl rfl rfl ?_ ) | refine popN rfl ?_ | (refine yG rfl rfl ?_ ?_ <;> intro hb <;> subst hb)) | refine AWp.seq ?_ | refine reg (by kernel_rfl) ?_ | refine lexE ?_ | refine regD (flN []) mixed (by kernel_rfl) (by kernel_rfl) ?_))
  (refine popO rfl ?_; refine popW ?_ rfl (by rfl); refine n_make rfl rfl (by rfl) (by rfl) (Nat.le_of_ble_eq_true rfl) (by omega) (by omega) (by omega) ?_)
  (repeat (first | (refine popO rfl ?_; first | (refine gA rfl ?_; first | refine yLm rfl rfl ?_ | ((first | refine yQ (md := true) rfl ?_ ?_ | refine yL rfl rfl (by assumption) rfl rfl ?_ ?_ | refine yT rfl rfl (by assumption) rfl ?_ ?_); (first | exact True.intro | omega | (simp only [oZ] at *; omega))) | (refine yB rfl ?_; intro _ _hb) | refine yU (sl := false) rfl ?_ | refine yM rfl rfl (by assumption) rfl rfl rfl ?_ | refine yV rfl rfl rfl rfl (by assumption) rfl rfl rfl rfl ?_ | refine yP rfl rfl rfl (lettersOf_ok a.al) rfl ?_ ) | refine popN rfl ?_ | (refine yG rfl rfl ?_ ?_ <;> intro hb <;> subst hb)) | refine AWp.seq ?_ | refine reg (by kernel_rfl) ?_ | refine lexE ?_ | refine regD (flN []) mixed (by kernel_rfl) (by kernel_rfl) ?_))
  refine AWp.block ?_
  refine AWp.loopL (α := {q : Nat // q ≤ a.nx.length}) (fun ⟨q, hq⟩ => [(1, .o (.ip (auRow a))), (3, .o (.arr 0 6 0 a.nx.length)), (4, eInts (letters a.al)), (18, eIntss a.nx), (19, eI .i64 a.nx.length), (20, eI .i64 q)]) (fun ⟨q, hq⟩ => [(0, .cells 91 6 (tbC a.nx.length fun i l => if i < q then goA a i l else 0))]) 1 (fun ⟨q, hq⟩ => a.nx.length - q) (⟨0, by omega⟩) [0] (by first | (simp [hΓ]; done) | (rw [hΓ]; decide)) (by (repeat' (first | exact trivial | rfl | refine And.intro ?_ ?_)) <;> simp [EnvSub, StoreSub, look_cons, nm, E.ren, C.ren, C.renL, O.ren, killc, kill0, Function.comp_def, argsFrom, zC, hΓ, tbC_ren, tbC_zero]) ?_; rintro ⟨q, hq⟩; try dsimp only
  (repeat (first | (refine popO rfl ?_; first | (refine gA rfl ?_; first | refine yLm rfl rfl ?_ | ((first | refine yQ (md := true) rfl ?_ ?_ | refine yL rfl rfl (by assumption) rfl rfl ?_ ?_ | refine yT rfl rfl (by assumption) rfl ?_ ?_); (first | exact True.intro | omega | (simp only [oZ] at *; omega))) | (refine yB rfl ?_; intro _ _hb) | refine yU (sl := false) rfl ?_ | refine yM rfl rfl (by assumption) rfl rfl rfl ?_ | refine yV rfl rfl rfl rfl (by assumption) rfl rfl rfl rfl ?_ ) | refine popN rfl ?_ | (refine yG rfl rfl ?_ ?_ <;> intro hb <;> subst hb)) | refine AWp.seq ?_ | refine reg (by kernel_rfl) ?_ | refine lexE ?_ | refine regD (flN []) mixed (by kernel_rfl) (by kernel_rfl) ?_))
  (refine AWp.cond rfl (fun hb => ?_) (fun hb => ?_) <;> cases hb)
  · have hqn : q < a.nx.length := by first | omega | (simp only [oZ] at *; omega)
    obtain ⟨row, hr, hrl, hrx⟩ := autOk_row h hqn
    have hr' := get_map (g := iiRow) hr
    refine AWp.skip ?_
    refine AWp.seq (AWp.block ?_)
    (repeat (first | (refine popO rfl ?_; first | (refine gA rfl ?_; first | refine yLm rfl rfl ?_ | ((first | refine yQ (md := true) rfl ?_ ?_ | refine yL rfl rfl (by assumption) rfl rfl ?_ ?_ | refine yT rfl rfl (by assumption) rfl ?_ ?_); (first | exact True.intro | omega | (simp only [oZ] at *; omega))) | (refine yB rfl ?_; intro _ _hb) | refine yU (sl := false) rfl ?_ | refine yM rfl rfl (by assumption) rfl rfl rfl ?_ | refine yV rfl rfl rfl rfl (by assumption) rfl rfl rfl rfl ?_ ) | refine popN rfl ?_ | (refine yG rfl rfl ?_ ?_ <;> intro hb <;> subst hb)) | refine AWp.seq ?_ | refine reg (by kernel_rfl) ?_ | refine lexE ?_ | refine regD (flN []) mixed (by kernel_rfl) (by kernel_rfl) ?_))
    refine AWp.block ?_
    refine AWp.loopL (α := {m : Nat // m ≤ 6}) (fun ⟨m, hm⟩ => [(1, .o (.ip (auRow a))), (3, .o (.arr 0 6 0 a.nx.length)), (4, eInts (letters a.al)), (18, eIntss a.nx), (19, eI .i64 a.nx.length), (20, eI .i64 q), (5, eI .i64 q), (6, eInts row), (25, eI .i64 m)]) (fun ⟨m, hm⟩ => [(0, .cells 91 6 (tbC a.nx.length fun i l => if i < q then goA a i l else if i = q ∧ l < m then q else 0))]) 1 (fun ⟨m, hm⟩ => 6 - m) (⟨0, by omega⟩) [0] (by first | (simp [hΓ]; done) | (rw [hΓ]; decide)) (by (repeat' (first | exact trivial | rfl | refine And.intro ?_ ?_)) <;> simp [EnvSub, StoreSub, look_cons, nm, E.ren, C.ren, C.renL, O.ren, killc, kill0, Function.comp_def, argsFrom, zC, hΓ, tbC_ren]) ?_; rintro ⟨m, hm⟩; try dsimp only
    (repeat (first | (refine popO rfl ?_; first | (refine gA rfl ?_; first | refine yLm rfl rfl ?_ | ((first | refine yQ (md := true) rfl ?_ ?_ | refine yL rfl rfl (by assumption) rfl rfl ?_ ?_ | refine yT rfl rfl (by assumption) rfl ?_ ?_); (first | exact True.intro | omega | (simp only [oZ] at *; omega))) | (refine yB rfl ?_; intro _ _hb) | refine yU (sl := false) rfl ?_ | refine yM rfl rfl (by assumption) rfl rfl rfl ?_ | refine yV rfl rfl rfl rfl (by assumption) rfl rfl rfl rfl ?_ ) | refine popN rfl ?_ | (refine yG rfl rfl ?_ ?_ <;> intro hb <;> subst hb)) | refine AWp.seq ?_ | refine reg (by kernel_rfl) ?_ | refine lexE ?_ | refine regD (flN []) mixed (by kernel_rfl) (by kernel_rfl) ?_))
    (refine AWp.cond rfl (fun hb => ?_) (fun hb => ?_) <;> cases hb)
    · have hm6 : m < 6 := by first | omega | (simp only [oZ] at *; omega)
      have hmj : 0 + ((m : Nat) : Int).toNat * 1 + 1 ≤ 6 := by omega
      have hg := tbC_get (H := fun i l => if i < q then goA a i l else if i = q ∧ l < m then q else 0) hqn
      have hs := tbC_set (n := a.nx.length) (q := q) (v := q) (H := fun i l => if i < q then goA a i l else if i = q ∧ l < m then q else 0) hm6
      have hc : (tbC a.nx.length fun (i x : Nat) => if i = q ∧ x = m then (q : Int) else (fun (i l : Nat) => if i < q then goA a i l else if i = q ∧ l < m then (q : Int) else 0) i x) = tbC a.nx.length fun i l => if i < q then goA a i l else if i = q ∧ l < m + 1 then (q : Int) else 0 := tbC_congr fun i _ l _ => by dsimp only; grind
      refine AWp.skip ?_
      refine AWp.seq (AWp.block ?_)
      (repeat (first | (refine popO rfl ?_; first | (refine gA rfl ?_; first | refine yLm rfl rfl ?_ | ((first | refine yQ (md := true) rfl ?_ ?_ | refine yL rfl rfl (by assumption) rfl rfl ?_ ?_ | refine yT rfl rfl (by assumption) rfl ?_ ?_); (first | exact True.intro | omega | (simp only [oZ] at *; omega))) | (refine yB rfl ?_; intro _ _hb) | refine yU (sl := false) rfl ?_ | refine yM rfl rfl (by assumption) rfl rfl rfl ?_ | refine yV rfl rfl rfl rfl (by assumption) rfl rfl rfl rfl ?_ ) | refine popN rfl ?_ | (refine yG rfl rfl ?_ ?_ <;> intro hb <;> subst hb)) | refine AWp.seq ?_ | refine reg (by kernel_rfl) ?_ | refine lexE ?_ | refine regD (flN []) mixed (by kernel_rfl) (by kernel_rfl) ?_))
      (refine popO rfl ?_; refine popW0 ?_ rfl (by rfl); refine n_store rfl rfl rfl rfl (hg) rfl (hmj) ?_)
      (repeat (first | (refine popO rfl ?_; first | (refine gA rfl ?_; first | refine yLm rfl rfl ?_ | ((first | refine yQ (md := true) rfl ?_ ?_ | refine yL rfl rfl (by assumption) rfl rfl ?_ ?_ | refine yT rfl rfl (by assumption) rfl ?_ ?_); (first | exact True.intro | omega | (simp only [oZ] at *; omega))) | (refine yB rfl ?_; intro _ _hb) | refine yU (sl := false) rfl ?_ | refine yM rfl rfl (by assumption) rfl rfl rfl ?_ | refine yV rfl rfl rfl rfl (by assumption) rfl rfl rfl rfl ?_ ) | refine popN rfl ?_ | (refine yG rfl rfl ?_ ?_ <;> intro hb <;> subst hb)) | refine AWp.seq ?_ | refine reg (by kernel_rfl) ?_ | refine lexE ?_))
      refine ⟨⟨m + 1, by first | omega | (simp only [oZ] at *; omega)⟩, by dsimp only; (first | omega | (simp only [oZ] at *; omega)), [0], ?_⟩
      rw [hs, hc]
      simp [EnvSub, StoreSub, look_cons, nm, E.ren, C.ren, C.renL, O.ren, killc, kill0, Function.comp_def, argsFrom, zC, hΓ, tbC_ren]
    · obtain rfl : m = 6 := by first | omega | (simp only [oZ] at *; omega)
      have hc0 := tbC_congr (n := a.nx.length) (H := fun i l => if i < q then goA a i l else if i = q ∧ l < 6 then (q : Int) else 0) (H' := fun i l => if i < q then goA a i l else if i = q then (if (l : Int) ∈ (letters a.al).take 0 then goA a q l else (q : Int)) else 0) fun i _ l hl => by simp [hl]
      rw [hc0]
      refine AWp.exit ?_
      (repeat (first | (refine popO rfl ?_; first | (refine gA rfl ?_; first | refine yLm rfl rfl ?_ | ((first | refine yQ (md := true) rfl ?_ ?_ | refine yL rfl rfl (by assumption) rfl rfl ?_ ?_ | refine yT rfl rfl (by assumption) rfl ?_ ?_); (first | exact True.intro | omega | (simp only [oZ] at *; omega))) | (refine yB rfl ?_; intro _ _hb) | refine yU (sl := false) rfl ?_ | refine yM rfl rfl (by assumption) rfl rfl rfl ?_ | refine yV rfl rfl rfl rfl (by assumption) rfl rfl rfl rfl ?_ ) | refine popN rfl ?_ | (refine yG rfl rfl ?_ ?_ <;> intro hb <;> subst hb)) | refine AWp.seq ?_ | refine reg (by kernel_rfl) ?_ | refine lexE ?_ | refine regD (flN []) mixed (by kernel_rfl) (by kernel_rfl) ?_))
      refine AWp.block ?_
      refine AWp.loopL (α := {k : Nat // k ≤ (letters a.al).length}) (fun ⟨k, hk⟩ => [(1, .o (.ip (auRow a))), (3, .o (.arr 0 6 0 a.nx.length)), (4, eInts (letters a.al)), (18, eIntss a.nx), (19, eI .i64 a.nx.length), (20, eI .i64 q), (5, eI .i64 q), (6, eInts row), (35, eInts (letters a.al)), (36, eI .i64 (letters a.al).length), (37, eI .i64 k)]) (fun ⟨k, hk⟩ => [(0, .cells 91 6 (tbC a.nx.length fun i l => if i < q then goA a i l else if i = q then (if (l : Int) ∈ (letters a.al).take k then goA a q l else (q : Int)) else 0))]) 1 (fun ⟨k, hk⟩ => (letters a.al).length - k) (⟨0, by omega⟩) [0] (by first | (simp [hΓ]; done) | (rw [hΓ]; decide)) (by (repeat' (first | exact trivial | rfl | refine And.intro ?_ ?_)) <;> simp [EnvSub, StoreSub, look_cons, nm, E.ren, C.ren, C.renL, O.ren, killc, kill0, Function.comp_def, argsFrom, zC, hΓ, tbC_ren]) ?_; rintro ⟨k, hk⟩; try dsimp only
      (repeat (first | (refine popO rfl ?_; first | (refine gA rfl ?_; first | refine yLm rfl rfl ?_ | ((first | refine yQ (md := true) rfl ?_ ?_ | refine yL rfl rfl (by assumption) rfl rfl ?_ ?_ | refine yT rfl rfl (by assumption) rfl ?_ ?_); (first | exact True.intro | omega | (simp only [oZ] at *; omega))) | (refine yB rfl ?_; intro _ _hb) | refine yU (sl := false) rfl ?_ | refine yM rfl rfl (by assumption) rfl rfl rfl ?_ | refine yV rfl rfl rfl rfl (by assumption) rfl rfl rfl rfl ?_ ) | refine popN rfl ?_ | (refine yG rfl rfl ?_ ?_ <;> intro hb <;> subst hb)) | refine AWp.seq ?_ | refine reg (by kernel_rfl) ?_ | refine lexE ?_ | refine regD (flN []) mixed (by kernel_rfl) (by kernel_rfl) ?_))
      (refine AWp.cond rfl (fun hb => ?_) (fun hb => ?_) <;> cases hb)
      · obtain ⟨l, hl⟩ := get_some (l := letters a.al) (k := k) (by first | omega | (simp only [oZ] at *; omega))
        have hl' := get_map (g := iRow) hl
        have hlb := lettersTo_in (List.mem_of_getElem? hl)
        have hpl := letters_place hl
        obtain ⟨y, hy⟩ := get_some (l := row) (k := k) (by first | omega | (simp only [oZ] at *; omega))
        have hy' := get_map (g := iRow) hy
        obtain ⟨m, rfl⟩ : ∃ m : Nat, l = m := ⟨l.toNat, by omega⟩
        have hgo : goA a q m = y := by
          unfold goA
          rw [if_pos hlb.2.2, hpl]; simp [List.getD, hr, hy]
        have hm6 : m < 6 := by omega
        have hmj : 0 + ((m : Nat) : Int).toNat * 1 + 1 ≤ 6 := by omega
        have hg := tbC_get (H := fun i l => if i < q then goA a i l else if i = q then (if (l : Int) ∈ (letters a.al).take k then goA a q l else (q : Int)) else 0) hqn
        have hs := tbC_set (n := a.nx.length) (q := q) (v := y) (H := fun i l => if i < q then goA a i l else if i = q then (if (l : Int) ∈ (letters a.al).take k then goA a q l else (q : Int)) else 0) hm6
        have hc : (tbC a.nx.length fun (i x : Nat) => if i = q ∧ x = m then y else (fun (i l : Nat) => if i < q then goA a i l else if i = q then (if (l : Int) ∈ (letters a.al).take k then goA a q l else (q : Int)) else 0) i x) = tbC a.nx.length fun i l => if i < q then goA a i l else if i = q then (if (l : Int) ∈ (letters a.al).take (k + 1) then goA a q l else (q : Int)) else 0 := tbC_congr fun i _ l _ => by
          try dsimp only
          rw [List.take_add_one, hl]
          by_cases e : i = q
          · subst e
            by_cases e2 : l = m
            · subst e2; simp [hgo]
            · have e3 : ¬ (l : Int) = (m : Int) := by omega
              simp [e2, e3]
          · simp [e]
        refine AWp.skip ?_
        refine AWp.seq (AWp.block ?_)
        (repeat (first | (refine popO rfl ?_; first | (refine gA rfl ?_; first | refine yLm rfl rfl ?_ | ((first | refine yQ (md := true) rfl ?_ ?_ | refine yL rfl rfl (by assumption) rfl rfl ?_ ?_ | refine yT rfl rfl (by assumption) rfl ?_ ?_); (first | exact True.intro | omega | (simp only [oZ] at *; omega))) | (refine yB rfl ?_; intro _ _hb) | refine yU (sl := false) rfl ?_ | refine yM rfl rfl (by assumption) rfl rfl rfl ?_ | refine yV rfl rfl rfl rfl (by assumption) rfl rfl rfl rfl ?_ ) | refine popN rfl ?_ | (refine yG rfl rfl ?_ ?_ <;> intro hb <;> subst hb)) | refine AWp.seq ?_ | refine reg (by kernel_rfl) ?_ | refine lexE ?_))
        refine regD (flN [9]) mixed (by kernel_rfl) (by kernel_rfl) ?_
        (repeat (first | (refine popO rfl ?_; first | (refine gA rfl ?_; first | refine yLm rfl rfl ?_ | ((first | refine yQ (md := true) rfl ?_ ?_ | refine yL rfl rfl (by assumption) rfl rfl ?_ ?_ | refine yT rfl rfl (by assumption) rfl ?_ ?_); (first | exact True.intro | omega | (simp only [oZ] at *; omega))) | (refine yB rfl ?_; intro _ _hb) | refine yU (sl := false) rfl ?_ | refine yM rfl rfl (by assumption) rfl rfl rfl ?_ | refine yV rfl rfl rfl rfl (by assumption) rfl rfl rfl rfl ?_ ) | refine popN rfl ?_ | (refine yG rfl rfl ?_ ?_ <;> intro hb <;> subst hb)) | refine AWp.seq ?_ | refine reg (by kernel_rfl) ?_ | refine lexE ?_ | refine regD (flN []) mixed (by kernel_rfl) (by kernel_rfl) ?_))
        (refine popO rfl ?_; refine popW0 ?_ rfl (by rfl); refine n_store rfl rfl rfl rfl (hg) rfl (hmj) ?_)
        (repeat (first | (refine popO rfl ?_; first | (refine gA rfl ?_; first | refine yLm rfl rfl ?_ | ((first | refine yQ (md := true) rfl ?_ ?_ | refine yL rfl rfl (by assumption) rfl rfl ?_ ?_ | refine yT rfl rfl (by assumption) rfl ?_ ?_); (first | exact True.intro | omega | (simp only [oZ] at *; omega))) | (refine yB rfl ?_; intro _ _hb) | refine yU (sl := false) rfl ?_ | refine yM rfl rfl (by assumption) rfl rfl rfl ?_ | refine yV rfl rfl rfl rfl (by assumption) rfl rfl rfl rfl ?_ ) | refine popN rfl ?_ | (refine yG rfl rfl ?_ ?_ <;> intro hb <;> subst hb)) | refine AWp.seq ?_ | refine reg (by kernel_rfl) ?_ | refine lexE ?_))
        refine ⟨⟨k + 1, by first | omega | (simp only [oZ] at *; omega)⟩, by dsimp only; (first | omega | (simp only [oZ] at *; omega)), [0], ?_⟩
        rw [hs, hc]
        simp [EnvSub, StoreSub, look_cons, nm, E.ren, C.ren, C.renL, O.ren, killc, kill0, Function.comp_def, argsFrom, zC, hΓ, tbC_ren]
      · obtain rfl : k = (letters a.al).length := by first | omega | (simp only [oZ] at *; omega)
        have hc0 := tbC_congr (n := a.nx.length) (H := fun i l => if i < q then goA a i l else if i = q then (if (l : Int) ∈ (letters a.al).take (letters a.al).length then goA a q l else (q : Int)) else 0) (H' := fun i l => if i < q + 1 then goA a i l else 0) fun i _ l hl => by
          try dsimp only
          rw [List.take_length]
          by_cases e : i = q
          · subst e
            simp only [Nat.lt_irrefl, if_false, if_true, Nat.lt_succ_self]
            by_cases e2 : bitB a.al l = true
            · rw [if_pos (mem_lettersTo.2 ⟨hl, e2⟩)]
            · rw [if_neg (fun h => e2 (mem_lettersTo.1 h).2)]; unfold goA; rw [if_neg (by simpa using e2)]
          · by_cases e2 : i < q
            · rw [if_pos e2, if_pos (by omega)]
            · rw [if_neg e2, if_neg e, if_neg (by omega)]
        rw [hc0]
        refine AWp.exit ?_
        (repeat (first | (refine popO rfl ?_; first | (refine gA rfl ?_; first | refine yLm rfl rfl ?_ | ((first | refine yQ (md := true) rfl ?_ ?_ | refine yL rfl rfl (by assumption) rfl rfl ?_ ?_ | refine yT rfl rfl (by assumption) rfl ?_ ?_); (first | exact True.intro | omega | (simp only [oZ] at *; omega))) | (refine yB rfl ?_; intro _ _hb) | refine yU (sl := false) rfl ?_ | refine yM rfl rfl (by assumption) rfl rfl rfl ?_ | refine yV rfl rfl rfl rfl (by assumption) rfl rfl rfl rfl ?_ ) | refine popN rfl ?_ | (refine yG rfl rfl ?_ ?_ <;> intro hb <;> subst hb)) | refine AWp.seq ?_ | refine reg (by kernel_rfl) ?_ | refine lexE ?_ | refine regD (flN []) mixed (by kernel_rfl) (by kernel_rfl) ?_))
        refine ⟨⟨q + 1, by first | omega | (simp only [oZ] at *; omega)⟩, by dsimp only; (first | omega | (simp only [oZ] at *; omega)), [0], ?_⟩
        simp [EnvSub, StoreSub, look_cons, nm, E.ren, C.ren, C.renL, O.ren, killc, kill0, Function.comp_def, argsFrom, zC, hΓ, tbC_ren]
  · obtain rfl : q = a.nx.length := by first | omega | (simp only [oZ] at *; omega)
    have hc := tbC_congr (n := a.nx.length) (H := fun i l => if i < a.nx.length then goA a i l else 0) (H' := fun i l => goA a i l) fun i hi l _ => by rw [if_pos hi]
    rw [hc]
    refine AWp.exit ?_
    (repeat (first | (refine popO rfl ?_; first | (refine gA rfl ?_; first | refine yLm rfl rfl ?_ | ((first | refine yQ (md := true) rfl ?_ ?_ | refine yL rfl rfl (by assumption) rfl rfl ?_ ?_ | refine yT rfl rfl (by assumption) rfl ?_ ?_); (first | exact True.intro | omega | (simp only [oZ] at *; omega))) | (refine yB rfl ?_; intro _ _hb) | refine yU (sl := false) rfl ?_ | refine yM rfl rfl (by assumption) rfl rfl rfl ?_ | refine yV rfl rfl rfl rfl (by assumption) rfl rfl rfl rfl ?_ ) | refine popN rfl ?_ | (refine yG rfl rfl ?_ ?_ <;> intro hb <;> subst hb)) | refine AWp.seq ?_ | refine reg (by kernel_rfl) ?_ | refine lexE ?_ | refine regD (flN []) mixed (by kernel_rfl) (by kernel_rfl) ?_))
    refine AWp.freeze [0] [(2, .o (.d (.l (tblD a))))] ⟨⟨_, rfl, .o (.full (by simp) rfl (tbC_d a) (by simp [tbC_len]))⟩, trivial⟩ ?_
    refine AWp.ret ⟨_, rfl, rfl⟩
end Go.Am
/-
  A struct's literal with a slice of the call's own; results in memory.
-/
namespace Go.Am
open Go
section
variable {P : Program} {TB : List (Nat × Obj)} {Γ : Ctx} {d : Option Tmp} {ty : TypeId} {pos : String} {af : Array Edge} {g : Option (Nat × Bool)} {f : Env} {σ : Store} {nx : Nat}
variable {K : E → Store → Nat → Prop}
theorem run_build {t : TypeId} {fl : List (Nat × Nat)} {parts : Array (Nat × Operand)} {ρ : Operand → Value} {V : View} {i : TypeInfo} {zv : Value} {cells : Array Value} (hi : P.info? t = some i) (hzv : i.zero = some zv) (hh : flF P t = some fl)
    (h3 : Instr.fill (fl[·]?) zv.cells (parts.toList.map fun (i, x) => (i, ρ x)) = some cells) : (Instr.build t (parts.map fun (i, x) => (i, ρ x))).run P V.w = .ok (.agg cells) V.w := by
  have hparts : (parts.map fun (i, x) => (i, ρ x)).toList = parts.toList.map fun (i, x) => (i, ρ x) := by simp
  unfold flF at hh
  split at hh
  · rename_i fs hu
    have hpl : ∀ (l : List Field) (ll : List (Nat × Nat)), (l.mapM fun f => (P.info? f.type).map fun i => (f.offset, i.size)) = some ll → ∀ w, ((l.mapM fun f => do pure (f.offset, ← sizeOf f.type)) : Sem (List (Nat × Nat))).run P w = .ok ll w := by
      intro l
      induction l with
      | nil => intro ll h w; simp at h; subst h; simp [go_sem]
      | cons y l ih =>
        intro ll h w
        simp only [List.mapM_cons, Option.bind_eq_bind, Option.bind_eq_some_iff, Option.map_eq_some_iff] at h
        obtain ⟨p, ⟨ii, hii, rfl⟩, ll', h5, h6⟩ := h
        simp at h6
        subst h6
        have hs : (sizeOf y.type).run P w = .ok ii.size w := by simp [sizeOf, typeInfo, hii, go_sem]
        have ihh := ih ll' h5 w
        simp only [bind_pure_comp] at ihh
        simp only [List.mapM_cons, Sem.run_bind, hs, Result.andThen_ok, bind_pure_comp, Sem.run_map, ihh]
    have hpl2 := hpl fs.toList fl hh V.w
    have hz0 : (zeroValue t).run P V.w = .ok zv V.w := by simp [zeroValue, typeInfo, hi, hzv, go_sem]
    have ha : ((fs.mapM fun f => do pure (f.offset, ← sizeOf f.type)) : Sem (Array (Nat × Nat))).run P V.w = .ok fl.toArray V.w := by
      rw [Array.mapM_eq_mapM_toList, Sem.run_map, hpl2]; rfl
    rw [← hparts] at h3
    simp only [Instr.build, Sem.run_bind, hz0, Result.andThen_ok, run_underlying hu, ha]
    simp only [List.getElem?_toArray]
    rw [h3]
    rfl
  · rename_i n e hu
    simp only [Option.map_eq_some_iff] at hh
    obtain ⟨ii, hii, rfl⟩ := hh
    have hz0 : (zeroValue t).run P V.w = .ok zv V.w := by simp [zeroValue, typeInfo, hi, hzv, go_sem]
    have hs : (sizeOf e).run P V.w = .ok ii.size V.w := by simp [sizeOf, typeInfo, hii, go_sem]
    have hfill : ∀ (ps : List (Nat × Value)) (c c' : Array Value), Instr.fill (fun i => ((List.range n).map fun j => (j * ii.size, ii.size))[i]?) c ps = some c' → Instr.fill (fun i => some (i * ii.size, ii.size)) c ps = some c' := by
      intro ps
      induction ps with
      | nil => intro c c' h; simpa [Instr.fill] using h
      | cons p ps ih =>
        intro c c' h
        obtain ⟨i', v'⟩ := p
        unfold Instr.fill at h ⊢
        by_cases hlt : i' < n
        · simp only [List.getElem?_map, List.getElem?_range hlt, Option.map_some] at h
          simp only at h ⊢
          split at h
          · cases h
          · rename_i hno
            rw [if_neg hno]; exact ih _ _ (by simpa only [List.getElem?_map] using h)
        · simp [hlt] at h
    rw [← hparts] at h3
    simp only [Instr.build, Sem.run_bind, hz0, Result.andThen_ok, run_underlying hu, hs]
    rw [hfill _ _ _ h3]
    rfl
  · cases hh
end

/-! Results in memory. -/
section
variable {P : Program} {TB : List (Nat × Obj)}
def RetQC (t : Tmp) (ids : List Nat) (post : E → Store → Nat → Prop) : Exit → Env → Store → Nat → Prop
  | .ret, f, σ, nx | .normal, f, σ, nx => ∃ id k i T rows r x, f t = some (.o (.ptr id k i 0)) ∧ look σ id = some (.cells T k rows) ∧ rows[i]? = some r ∧ FE σ ids (.a r) x ∧ post x (killL ids σ) nx
  | _, _, _, _ => False
theorem res_cell {fn : Func} {V : View} {Γ : Ctx} {f : Env} {a : Act} {σ : Store} {t : Tmp} {T' : TypeId} {n : Nat} {id k i : Nat} {T : TypeId} {rows : List (List C)} {r : List C} [hl : HasLd P T' true n] (hn : n = k) (hrs : fn.results = #[.cell t T']) (hE : EnvRel V f a.tmps) (hi : Inv TB Γ V σ) (ht : f t = some (.o (.ptr id k i 0))) (ho : look σ id = some (.cells T k rows)) (hr : rows[i]? = some r) :
    ∃ v, (results fn a.tmps).run P V.w = .ok v V.w ∧ ERel V (.a r) v := by
  have h3 := hE t _ ht
  subst hn
  have hres : ∀ w, (results fn a.tmps).run P w = ((do loadVar T' (← asAddr (a.tmps.getD t undef))) : Sem Value).run P w := fun w => by
    simp [results, hrs, -Array.getD_eq_getD_getElem?, go_sem]
  generalize hv : a.tmps.getD t undef = v0 at h3 hres
  cases h3 with
  | ptr hid hnl =>
    rcases hi.st.obj id _ ho with ⟨h4, _⟩ | ⟨_, cur, h4, h5, h6, h7, h8, h9⟩
    · exact absurd h4 hnl
    · have hrl := h8 r (List.mem_of_getElem? hr)
      rw [Nat.add_zero] at hres
      have hcell : ∀ q, q < n → ∃ v, cur[i * n + q]? = some v ∧ CRel V (r[q]?.getD (.d (.l []))) v := fun q hq => by
        have hlt : q < r.length := by omega
        obtain ⟨v, h10, h11⟩ := h9 i r q r[q] hr (List.getElem?_eq_getElem hlt)
        exact ⟨v, h10, by rw [List.getElem?_eq_getElem hlt]; exact h11⟩
      refine ⟨.agg ((List.range n).map fun q => cur.getD (i * n + q) undef).toArray, ?_, _, rfl, by simp [hrl], ?_⟩
      · have : (loadCells ⟨V.ρ id, i * n, none⟩ n).run P V.w = .ok ((List.range n).map fun q => cur.getD (i * n + q) undef).toArray V.w := run_loadCells V.w _ n _ fun q hq => by
          rw [addr_add]
          obtain ⟨v, h10, _⟩ := hcell q hq
          have : cur.getD (i * n + q) undef = v := by simp [h10]
          rw [this]
          simp [World.cell?, h4, h10]
        unfold loadCells at this
        rw [hres]
        simp [asAddr, loadVar, (run_isAgg hl.out V.w).1, (run_isAgg hl.out V.w).2, this, go_sem]
      · intro q c v hj hv'
        have hq : q < n := by have := (List.getElem?_eq_some_iff.1 hj).1; omega
        obtain ⟨v', h10, h11⟩ := hcell q hq
        rw [hj] at h11
        have : v = v' := by simpa [hq, h10] using hv'.symm
        rw [this]; exact h11
theorem frz_inv {V : View} {Γ : Ctx} {σ : Store} (hi : Inv TB Γ V σ) (ids : List Nat) : Inv TB Γ (frzV V σ ids) (killL ids σ) := by
  have h : RelSt TB Γ 0 V (fun _ => none) σ V.nx { tmps := #[], defers := [] } := ⟨fun t e h => (by cases h), fun t e h => (by cases h), rfl, hi, rfl, rfl⟩
  exact (h.freeze ids [] trivial).inv
theorem Spec.ofC {g : FuncId} {fn : Func} {c : Code} {σ : Store} {nx : Nat} {args : List E} {post : E → Store → Nat → Prop} (t : Tmp) (T' : TypeId) (n : Nat) (ids : List Nat) [hl : HasLd P T' true n] (hf : P.funcs[g]? = some fn) (hb : fn.body = some c) (hname : (fn.name == "runtime.NumGoroutine") = false) (hrs : fn.results = #[.cell t T'])
    (hargs : args.length ≤ fn.ntmps) (h : ∀ Γ : Ctx, Γ.V.nx = nx → AWp P TB Γ fn.ntmps c (fun e f σ nx => RetQC t ids post e f σ nx ∧ ∀ id k i, f t = some (.o (.ptr id k i 0)) → k = n) (look (argsFrom 0 args)) σ nx) : Spec P TB g σ nx args post := by
  refine ⟨⟨fn, hf, hname, by rw [hb]; rfl⟩, ?_⟩
  intro V vs hg ha
  refine calls_of_wp hf hb ?_
  have hs : vs.size ≤ fn.ntmps := by rw [ha.1]; exact hargs
  have hr : RelSt TB ⟨V, Foot V σ⟩ fn.ntmps V (look (argsFrom 0 args)) σ nx { tmps := vs ++ Array.replicate (fn.ntmps - vs.size) undef, defers := [] } := by
    refine ⟨?_, ?_, by simp; omega, hg.inv, hg.nx, rfl⟩
    · intro t e he
      obtain ⟨_, h2⟩ := argsFrom_look args 0 t e he
      have h2 : args[t]? = some e := by simpa using h2
      have hlt : t < vs.size := by rw [ha.1]; exact (List.getElem?_eq_some_iff.1 h2).1
      have h3 := ha.2 t e vs[t] h2 (Array.getElem?_eq_getElem hlt)
      simpa [Array.getElem?_append_left hlt, hlt] using h3
    · intro t e he
      obtain ⟨_, h2⟩ := argsFrom_look args 0 t e he
      have h2 : args[t]? = some e := by simpa using h2
      have := (List.getElem?_eq_some_iff.1 h2).1
      omega
  refine wp_mono (h ⟨V, Foot V σ⟩ hg.nx V _ hr) ?_
  rintro e a' w' ⟨V', f', σ', rfl, ⟨hq, hkn⟩, hr'⟩
  have fin : (∃ id k i T rows r x, f' t = some (.o (.ptr id k i 0)) ∧ look σ' id = some (.cells T k rows) ∧ rows[i]? = some r ∧ FE σ' ids (.a r) x ∧ post x (killL ids σ') V'.nx) → ∃ v, (results fn a'.tmps).run P V'.w = .ok v V'.w ∧ ∃ V'' v' x σ'', Ending.returned v = .returned v' ∧ V''.w = V'.w ∧ Inv TB ⟨V, Foot V σ⟩ V'' σ'' ∧ ERel V'' x v' ∧ post x σ'' V''.nx := by
    rintro ⟨id, k, i, T, rows, r, x, h1, h2, h3, h4, h5⟩
    obtain ⟨v, hv, he⟩ := res_cell (P := P) (hkn id k i h1).symm hrs hr'.env hr'.inv h1 h2 h3
    exact ⟨v, hv, frzV V' σ' ids, v, x, _, rfl, rfl, frz_inv hr'.inv ids, h4.rel hr'.inv he, h5⟩
  cases e with
  | normal => exact ⟨hr'.defers, fin hq⟩
  | ret => exact ⟨hr'.defers, fin hq⟩
  | exit id => exact hq.elim
  | goto l => exact hq.elim
  | panic ch => exact hq.elim
  | outgrown => exact hq.elim
end
end Go.Am
/-
  Systems that run together.
-/
namespace Go.Am
open Go Go.Proofs
attribute [local irreducible] QOp AOp Lex LexO AWp Spec
variable {TB : List (Nat × Obj)}

end Go.Am
/-
  Nodes of systems together, from the last member on.
-/
namespace Go.Am
open Go

def lowN : List Int → List (List Int) → List Int
  | _ :: zs, c :: cs => c.flatMap fun q => (lowN zs cs).map fun r => q * prodI zs + r
  | _, _ => [0]
theorem mixN_low : ∀ {zs : List Int} {cs : List (List Int)}, ChOk zs cs → ∀ out : List Int, mixN zs cs out = out.flatMap fun o => (lowN zs cs).map fun r => o * prodI zs + r := by
  intro zs cs h
  induction h with
  | nil => intro out; simp [mixN, lowN, prodI]
  | @cons z c zs cs _ _ _ ih =>
    intro out
    rw [mixN, ih, List.flatMap_assoc]
    congr 1
    funext o
    rw [List.flatMap_map, lowN, List.map_flatMap]
    congr 1
    funext q
    rw [List.map_map]
    congr 1
    funext r
    simp only [Function.comp_def, prodI]
    rw [Int.add_mul, Int.mul_assoc]; omega
theorem mixN_low0 {zs : List Int} {cs : List (List Int)} (h : ChOk zs cs) : mixN zs cs [0] = lowN zs cs := by
  rw [mixN_low h]; simp
theorem prodI_app : ∀ (zs ws : List Int), prodI (zs ++ ws) = prodI zs * prodI ws
  | [], ws => by simp [prodI]
  | z :: zs, ws => by simp [prodI, prodI_app zs ws, Int.mul_assoc]
theorem decN_app : ∀ (zs ws : List Int) (n : Int), (∀ w ∈ ws, 0 < w) → decN (zs ++ ws) n = decN zs (n / prodI ws) ++ decN ws n
  | [], ws, n, _ => rfl
  | z :: zs, ws, n, h => by
    have hp := prodI_pos h
    simp only [List.cons_append, decN, decN_app zs ws n h, prodI_app]
    rw [Int.mul_comm (prodI zs), Int.ediv_ediv_of_nonneg (by omega)]
/-- The choices of systems. -/
def csP (l : List Sys) (node letter : Int) : List (List Int) := l.zipWith (fun s q => sysTo s q letter) (decN (l.map (·.st)) node)
theorem csP_ok {l : List Sys} (h : ∀ s ∈ l, sysOk s = true) (hl : l.length ≤ 3) {letter : Int} (h0 : 0 ≤ letter) (h1 : letter < 6) (node : Int) : ChOk (l.map (·.st)) (csP l node letter) := by
  have hn : NetOk ⟨l, [], [], 0, 0, 0⟩ := ⟨h, fun a ha => (by cases ha), hl, by simp⟩
  have hz : sizesN ⟨l, [], [], 0, 0, 0⟩ = l.map (·.st) := by simp [sizesN]
  have hf := dec_fits hn node
  have := choL_ok hn hf h0 h1
  rw [hz] at this
  unfold choL at this
  simpa [csP] using this
end Go.Am
/-
  Where letters lead systems that run together.
-/
namespace Go.Am
open Go Go.Proofs
attribute [local irreducible] QOp AOp Lex LexO AWp Spec
variable {TB : List (Nat × Obj)}

theorem q_loadIp0 {P : Program} {Γ : Ctx} {d : Option Tmp} {ty : TypeId} {pos : String} {af : Array Edge} {g : Option (Nat × Bool)} {f : Env} {σ : Store} {nx : Nat} {t : TypeId} {x : Operand} {c : D} {cs : List D} {n : Nat} [hl : HasLd P t false n] (hx : ev f x = some (.o (.ip cs))) (hc : cs[0]? = some c) : QOp P TB Γ ⟨d, .load t x, ty, pos, af, g⟩ f σ nx (.o (.d c)) := by
  cases cs with
  | nil => cases hc
  | cons a l => injection hc with hc; subst hc; exact q_loadIp hx
end Go.Am
/-
  The program's search, as plain data.
-/
namespace Go.Am
open Go

structure Stp where
  p : Int
  l : Int
  ns : List Int
structure VSt where
  seen : List Bool
  fresh : List Int
  found : Bool
def sn (seen : List Bool) (n : Int) : Bool := seen.getD n.toNat false
def vstep (goal : Int → Bool) (st : VSt) (n : Int) : VSt := if sn st.seen n then st else ⟨st.seen.set n.toNat true, st.fresh ++ [n], st.found || goal n⟩
def vis (goal : Int → Bool) (seen : List Bool) (nodes : List Int) : VSt := nodes.foldl (vstep goal) ⟨seen, [], false⟩

theorem sn_set {seen : List Bool} {n m : Int} (hn : 0 ≤ n ∧ n.toNat < seen.length) (hm : 0 ≤ m) : sn (seen.set n.toNat true) m = (sn seen m || decide (m = n)) := by
  unfold sn
  by_cases h : m = n
  · subst h; simp [List.getD, hn.2]
  · have : n.toNat ≠ m.toNat := by omega
    simp [List.getD, List.getElem?_set_ne this, h]
theorem count_set {seen : List Bool} {k : Nat} (h : seen[k]? = some false) : (seen.set k true).count true = seen.count true + 1 := by
  induction seen generalizing k with
  | nil => simp at h
  | cons a l ih =>
    cases k with
    | zero => simp at h; subst h; simp
    | succ k =>
      have := ih (k := k) (by simpa using h)
      simp only [List.set_cons_succ, List.count_cons, this]; omega
/-- What a visit does. -/
structure VOk (goal : Int → Bool) (N : Nat) (seen : List Bool) (nodes : List Int) (st : VSt) : Prop where
  len : st.seen.length = N
  snI : ∀ n : Int, 0 ≤ n → (sn st.seen n = true ↔ sn seen n = true ∨ n ∈ nodes)
  fr : ∀ n : Int, n ∈ st.fresh ↔ n ∈ nodes ∧ sn seen n = false
  nd : st.fresh.Nodup
  fd : st.found = st.fresh.any goal
  cnt : st.seen.count true = seen.count true + st.fresh.length
theorem vis_ok {goal : Int → Bool} {N : Nat} {seen : List Bool} {nodes : List Int} (hs : seen.length = N) (hn : ∀ n ∈ nodes, 0 ≤ n ∧ n < N) : VOk goal N seen nodes (vis goal seen nodes) := by
  have key : ∀ (l done : List Int) (st : VSt), (∀ n ∈ l, 0 ≤ n ∧ n < N) → (∀ n ∈ done, 0 ≤ n) → VOk goal N seen done st → VOk goal N seen (done ++ l) (l.foldl (vstep goal) st) := by
    intro l
    induction l with
    | nil => intro done st _ _ h; simpa using h
    | cons a l ih =>
      intro done st hl hd h
      have ha := hl a (by simp)
      rw [List.foldl_cons, show done ++ a :: l = (done ++ [a]) ++ l by simp]
      refine ih (done ++ [a]) _ (fun n hn => hl n (by simp [hn])) (fun n hn => by rcases List.mem_append.1 hn with h1 | h1; exact hd n h1; simp at h1; omega) ?_
      have hlen := h.len
      have hmem : ∀ n : Int, n ∈ done ++ [a] ↔ n ∈ done ∨ n = a := fun n => by simp
      unfold vstep
      by_cases hsa : sn st.seen a = true
      · rw [if_pos hsa]
        have h1 := (h.snI a ha.1).1 hsa
        refine ⟨h.len, fun n hn0 => ?_, fun n => ?_, h.nd, h.fd, h.cnt⟩
        · rw [h.snI n hn0, hmem]
          constructor
          · rintro (h2 | h2); exact .inl h2; exact .inr (.inl h2)
          · rintro (h2 | h2 | rfl); exact .inl h2; exact .inr h2; exact h1
        · rw [h.fr n, hmem]
          constructor
          · rintro ⟨h2, h3⟩; exact ⟨.inl h2, h3⟩
          · rintro ⟨h2 | rfl, h3⟩
            · exact ⟨h2, h3⟩
            · rcases h1 with h1 | h1
              · rw [h1] at h3; cases h3
              · exact ⟨h1, h3⟩
      · rw [if_neg hsa]
        have h1 : sn seen a = false ∧ a ∉ done := by
          have h2 : ¬ (sn seen a = true ∨ a ∈ done) := fun h3 => hsa ((h.snI a ha.1).2 h3)
          exact ⟨by simpa using fun h3 => h2 (.inl h3), fun h3 => h2 (.inr h3)⟩
        have hk : st.seen[a.toNat]? = some false := by
          unfold sn at hsa
          have : a.toNat < st.seen.length := by omega
          simp [List.getD, this] at hsa
          rw [List.getElem?_eq_getElem this, hsa]
        refine ⟨by simpa using h.len, fun n hn0 => ?_, fun n => ?_, ?_, ?_, ?_⟩
        · rw [sn_set ⟨ha.1, by omega⟩ hn0, hmem, Bool.or_eq_true, h.snI n hn0]; simp; grind
        · simp only [List.mem_append, List.mem_singleton, h.fr n]
          grind
        · refine List.nodup_append.2 ⟨h.nd, by simp, fun x hx y hy => ?_⟩
          simp at hy; subst hy
          intro e; subst e
          exact h1.2 ((h.fr x).1 hx).1
        · simp [List.any_append, h.fd]
        · rw [count_set hk, h.cnt]; simp; omega
  have := key nodes [] ⟨seen, [], false⟩ hn (by simp) ⟨hs, fun n _ => by simp, fun n => by simp, .nil, rfl, by simp⟩
  simpa [vis] using this

/-! Orders. -/
theorem llt_trans : ∀ {a b c : List Int}, llt a b → llt b c → llt a c
  | [], _, _, h, _ => h.elim
  | _ :: _, [], _, h, _ => h.elim
  | _ :: _, _ :: _, [], _, h => h.elim
  | x :: a, y :: b, z :: c, h, k => by
    simp only [llt] at *
    rcases h with h | ⟨h, h'⟩ <;> rcases k with k | ⟨k, k'⟩
    · exact .inl (by omega)
    · exact .inl (by omega)
    · exact .inl (by omega)
    · exact .inr ⟨by omega, llt_trans h' k'⟩
theorem llt_irr : ∀ {a : List Int}, ¬ llt a a
  | [], h => h
  | x :: a, h => by rcases h with h | ⟨_, h⟩; omega; exact llt_irr h
theorem slt_trans {a b c : List Int} (h : slt a b) (k : slt b c) : slt a c := by
  unfold slt at *
  rcases h with h | ⟨h, h'⟩ <;> rcases k with k | ⟨k, k'⟩
  · exact .inl (by omega)
  · exact .inl (by omega)
  · exact .inl (by omega)
  · exact .inr ⟨by omega, llt_trans h' k'⟩
theorem slt_irr {a : List Int} : ¬ slt a a := by
  rintro (h | ⟨_, h⟩); omega; exact llt_irr h
theorem slt_tri' (a b : List Int) : slt a b ∨ a = b ∨ slt b a := by
  rcases Nat.lt_trichotomy a.length b.length with h | h | h
  · exact .inl (.inl h)
  · rcases llt_tri h with h1 | h1 | h1
    · exact .inl (.inr ⟨h, h1⟩)
    · exact .inr (.inl h1)
    · exact .inr (.inr (.inr ⟨h.symm, h1⟩))
  · exact .inr (.inr (.inl h))
theorem slt_app {a b : List Int} {l m : Int} (h : slt a b) : slt (a ++ [l]) (b ++ [m]) := by
  rcases h with h | ⟨h, h'⟩
  · exact .inl (by simp; omega)
  · exact .inr ⟨by simp; omega, (llt_snoc h).2 (.inl h')⟩
theorem slt_last {a : List Int} {l m : Int} (h : l < m) : slt (a ++ [l]) (a ++ [m]) := .inr ⟨by simp, (llt_snoc rfl).2 (.inr ⟨rfl, h⟩)⟩
theorem slt_snoc {a b : List Int} {l m : Int} : slt (a ++ [l]) (b ++ [m]) → slt a b ∨ a = b ∧ l < m := by
  intro h
  rcases slt_tri' a b with h1 | h1 | h1
  · exact .inl h1
  · subst h1
    rcases h with h | ⟨h, h'⟩
    · simp at h
    · rcases (llt_snoc rfl).1 h' with h2 | h2
      · exact absurd h2 llt_irr
      · exact .inr h2
  · exact absurd (slt_trans h (slt_app h1)) slt_irr
theorem slt_self {a : List Int} {l : Int} : slt a (a ++ [l]) := .inl (by simp)

structure FI (g : Gr) (seen : List Bool) (steps : List Stp) (ws : List (List Int)) (i j : Nat) : Prop where
  slen : seen.length = g.N
  wlen : ws.length = steps.length
  chain : ∀ (t : Nat) s, steps[t]? = some s → (s.p = -1 ∧ ws[t]? = some []) ∨ ∃ (q : Nat) (w : List Int), s.p = (q : Int) ∧ q < t ∧ ws[q]? = some w ∧ ws[t]? = some (w ++ [s.l]) ∧ s.l ∈ g.ls
  rch : ∀ (t : Nat) s w, steps[t]? = some s → ws[t]? = some w → ∀ n ∈ s.ns, reach g w g.s0 n
  ov : ∀ w ∈ ws, over g w
  min : ∀ (t : Nat) s w, steps[t]? = some s → ws[t]? = some w → ∀ n ∈ s.ns, ∀ u, over g u → slt u w → ¬ reach g u g.s0 n
  ord : ws.Pairwise slt
  par : ∀ w ∈ ws, w = [] ∨ ∃ (p : Nat) (v : List Int) (l : Int), ws[p]? = some v ∧ w = v ++ [l] ∧ l ∈ g.ls ∧ (p < i ∨ p = i ∧ ∃ j', j' < j ∧ g.ls[j']? = some l)
  snI : ∀ n : Int, 0 ≤ n → (sn seen n = true ↔ ∃ s ∈ steps, n ∈ s.ns)
  done : ∀ (t : Nat) s, steps[t]? = some s → ∀ l, (t < i ∧ l ∈ g.ls ∨ t = i ∧ ∃ j', j' < j ∧ g.ls[j']? = some l) → ∀ n ∈ s.ns, ∀ y ∈ g.succ n l, sn seen y = true
  nogoal : ∀ s ∈ steps, ∀ n ∈ s.ns, g.goal n = false
  inn : ∀ s ∈ steps, ∀ n ∈ s.ns, 0 ≤ n ∧ n < g.N
  start : sn seen g.s0 = true
  cnt : steps.length ≤ seen.count true
  le : i ≤ steps.length
  nd : ∀ s ∈ steps, s.ns.Nodup

theorem FI.lenN {g : Gr} {seen : List Bool} {steps : List Stp} {ws : List (List Int)} {i j : Nat} (h : FI g seen steps ws i j) : steps.length ≤ g.N := by
  have h1 := h.cnt
  have h2 : seen.count true ≤ seen.length := List.count_le_length
  rw [h.slen] at h2; omega

/-- All that a smaller word reaches is seen. -/
theorem FI.claim {g : Gr} (hg : GrOk g) {seen : List Bool} {steps : List Stp} {ws : List (List Int)} {i j : Nat} (h : FI g seen steps ws i j) {wi : List Int} {lj : Int} (hw : ws[i]? = some wi) (hj : g.ls[j]? = some lj) :
    ∀ (n : Nat) (u : List Int), u.length = n → over g u → slt u (wi ++ [lj]) → ∀ x, reach g u g.s0 x → sn seen x = true := by
  intro n
  induction n with
  | zero =>
    intro u hu _ _ x hx
    have : u = [] := List.length_eq_zero_iff.1 hu
    subst this
    have hx : g.s0 = x := hx
    rw [← hx]; exact h.start
  | succ n ih =>
    intro u hu ho hlt x hx
    have hu0 : u ≠ [] := fun e => by subst e; simp at hu
    obtain ⟨v, l, rfl⟩ : ∃ v l, u = v ++ [l] := ⟨u.dropLast, u.getLast hu0, (List.dropLast_concat_getLast hu0).symm⟩
    obtain ⟨m, hm, hxm⟩ := reach_snoc.1 hx
    obtain ⟨hov, hl⟩ := over_snoc.1 ho
    have hms := ih v (by simpa using hu) hov (slt_trans slt_self hlt) m hm
    have hmin := reach_in hg hov hg.s0 hm
    obtain ⟨s, hs, hms2⟩ := (h.snI m hmin.1).1 hms
    obtain ⟨t, ht⟩ := List.getElem?_of_mem hs
    obtain ⟨wt, hwt⟩ : ∃ wt, ws[t]? = some wt := get_some (by have := (List.getElem?_eq_some_iff.1 ht).1; rw [h.wlen]; exact this)
    have hle : ¬ slt v wt := fun h1 => h.min t s wt ht hwt m hms2 v hov h1 hm
    have hvi := slt_snoc hlt
    have hti : t ≤ i := by
      rcases Nat.lt_or_ge i t with h1 | h1
      · exfalso
        obtain ⟨a1, a2⟩ := List.getElem?_eq_some_iff.1 hw
        obtain ⟨b1, b2⟩ := List.getElem?_eq_some_iff.1 hwt
        have h2 := (List.pairwise_iff_getElem.1 h.ord) i t a1 b1 h1
        rw [a2, b2] at h2
        rcases slt_tri' v wt with h3 | h3 | h3
        · exact hle h3
        · subst h3
          rcases hvi with h4 | ⟨h4, _⟩
          · exact slt_irr (slt_trans h2 h4)
          · subst h4; exact slt_irr h2
        · rcases hvi with h4 | ⟨h4, _⟩
          · exact slt_irr (slt_trans (slt_trans h2 h3) h4)
          · subst h4; exact slt_irr (slt_trans h2 h3)
      · exact h1
    refine h.done t s ht l ?_ m hms2 x hxm
    rcases Nat.lt_or_ge t i with h1 | h1
    · exact .inl ⟨h1, hl⟩
    · have : t = i := by omega
      subst this
      rw [hw] at hwt
      injection hwt with hwt
      subst hwt
      rcases hvi with h4 | ⟨h4, h5⟩
      · exact absurd h4 hle
      · obtain ⟨j', hj'⟩ := List.getElem?_of_mem hl
        exact .inr ⟨rfl, j', idx_lt hg.srt hj' hj h5, hj'⟩
theorem IsAns.found {g : Gr} (hg : GrOk g) {seen : List Bool} {steps : List Stp} {ws : List (List Int)} {i j : Nat} (h : FI g seen steps ws i j) {wi : List Int} {lj : Int} (hw : ws[i]? = some wi) (hj : g.ls[j]? = some lj) {n x : Int} {s : Stp} (hs : steps[i]? = some s) (hn : n ∈ s.ns) (hx : x ∈ g.succ n lj) (hgx : g.goal x = true) : IsAns g (some (wi ++ [lj])) := by
  have hl := List.mem_of_getElem? hj
  refine ⟨over_snoc.2 ⟨h.ov wi (List.mem_of_getElem? hw), hl⟩, ⟨x, reach_snoc.2 ⟨n, h.rch i s wi hs hw n hn, hx⟩, hgx⟩, fun u hu hh hlt => ?_⟩
  obtain ⟨y, hy, hgy⟩ := hh
  have hys := h.claim hg hw hj u.length u rfl hu hlt y hy
  obtain ⟨s', hs', hy'⟩ := (h.snI y (reach_in hg hu hg.s0 hy).1).1 hys
  rw [h.nogoal s' hs' y hy'] at hgy; cases hgy
theorem IsAns.dry {g : Gr} (hg : GrOk g) {seen : List Bool} {steps : List Stp} {ws : List (List Int)} (h : FI g seen steps ws steps.length 0) : IsAns g none := by
  have key : ∀ (n : Nat) (u : List Int), u.length = n → over g u → ∀ x, reach g u g.s0 x → sn seen x = true := by
    intro n
    induction n with
    | zero =>
      intro u hu _ x hx
      have : u = [] := List.length_eq_zero_iff.1 hu
      subst this
      have hx : g.s0 = x := hx
      rw [← hx]; exact h.start
    | succ n ih =>
      intro u hu ho x hx
      have hu0 : u ≠ [] := fun e => by subst e; simp at hu
      obtain ⟨v, l, rfl⟩ : ∃ v l, u = v ++ [l] := ⟨u.dropLast, u.getLast hu0, (List.dropLast_concat_getLast hu0).symm⟩
      obtain ⟨m, hm, hxm⟩ := reach_snoc.1 hx
      obtain ⟨hov, hl⟩ := over_snoc.1 ho
      have hms := ih v (by simpa using hu) hov m hm
      obtain ⟨s, hs, hms2⟩ := (h.snI m (reach_in hg hov hg.s0 hm).1).1 hms
      obtain ⟨t, ht⟩ := List.getElem?_of_mem hs
      exact h.done t s ht l (.inl ⟨(List.getElem?_eq_some_iff.1 ht).1, hl⟩) m hms2 x hxm
  rintro u hu ⟨x, hx, hgx⟩
  have hxs := key u.length u rfl hu x hx
  obtain ⟨s, hs, hxs2⟩ := (h.snI x (reach_in hg hu hg.s0 hx).1).1 hxs
  rw [h.nogoal s hs x hxs2] at hgx; cases hgx
theorem FI.nextI {g : Gr} {seen : List Bool} {steps : List Stp} {ws : List (List Int)} {i : Nat} (h : FI g seen steps ws i g.ls.length) (hi : i < steps.length) : FI g seen steps ws (i + 1) 0 := by
  refine ⟨h.slen, h.wlen, h.chain, h.rch, h.ov, h.min, h.ord, fun w hw => ?_, h.snI, fun t s hs l hl => ?_, h.nogoal, h.inn, h.start, h.cnt, by omega, h.nd⟩
  · rcases h.par w hw with h1 | ⟨p, v, l, h1, h2, h3, h4⟩
    · exact .inl h1
    · exact .inr ⟨p, v, l, h1, h2, h3, .inl (by rcases h4 with h4 | ⟨h4, _⟩ <;> omega)⟩
  · refine h.done t s hs l ?_
    rcases hl with ⟨h1, h2⟩ | ⟨_, j', h1, _⟩
    · rcases Nat.lt_or_ge t i with h3 | h3
      · exact .inl ⟨h3, h2⟩
      · obtain ⟨j', hj'⟩ := List.getElem?_of_mem h2
        exact .inr ⟨by omega, j', (List.getElem?_eq_some_iff.1 hj').1, hj'⟩
    · omega
end Go.Am
