/-
  The answers of a known automaton; the column that a wrong word shows.
-/
import Derived.Test.YtnnalheaipnnaaaGreatDoorPart15
import Derived.Test.YtnnalheaipnnaaaGreatDoorPart14
set_option linter.constructorNameAsVariable false
set_option linter.unusedSimpArgs false
set_option linter.unusedVariables false
namespace Go.Am
open Go Go.Proofs
attribute [local irreducible] QOp AOp Lex LexO AWp Spec
variable {TB : List (Nat × Obj)}

theorem letterAt_ok (w : W) (i : Nat) (c : UInt8) (hc : w[((i : Nat) : Int).toNat]? = some c) (hl : 0 ≤ (c.toNat : Int) - 97 ∧ (c.toNat : Int) - 97 < 6) : Pure Tryz.prog TB 48 [eT w, eI .i64 i] (eI .i64 ((c.toNat : Int) - 97)) := by
  refine Spec.of Tryz.func48 rfl (by kernel_rfl) (Nat.le_of_ble_eq_true rfl) ?_; intro Γ hΓ
  (repeat' (first | (first | (refine popO rfl ?_; first | (refine gA rfl ?_; first | refine yLm rfl rfl ?_ | ((first | refine yQ (md := false) rfl ?_ ?_ | refine yL rfl rfl (by assumption) rfl rfl ?_ ?_ | refine yT rfl rfl (by assumption) rfl ?_ ?_); (first | exact True.intro | omega | (simp only [oZ] at *; omega))) | (refine yB rfl ?_; intro _ _hb) | refine yU (sl := true) rfl ?_ | refine yM rfl rfl (by assumption) rfl rfl rfl ?_ | refine yV rfl rfl rfl rfl (by assumption) rfl rfl rfl rfl ?_ ) | refine popN rfl ?_ | (refine yG rfl rfl ?_ ?_ <;> intro hb <;> subst hb)) | refine AWp.seq ?_ | refine reg (by kernel_rfl) ?_ | refine lexE ?_ | refine regD (flN []) mixed (by kernel_rfl) (by kernel_rfl) ?_) | (refine AWp.cond rfl (fun hb => ?_) (fun hb => ?_) <;> cases hb) | refine AWp.skip ?_ | refine AWp.exit ?_ | refine AWp.block ?_ | refine AWp.ret ⟨_, rfl, ?_⟩))
  all_goals first
    | rfl
    | (exfalso; grind)
abbrev teRow (kn : Bool) (p : Aut) (s : Sys) (q : Aut) (al : Int) : List D := [bD kn, iD p.al, iiList p.nx, bList p.ac, iD s.al, iD s.st, edList s.es, iD q.al, iiList q.nx, bList q.ac, iD al]
theorem on_take {ls : List UInt8} {w : W} (h : wordOn ls w) (k : Nat) : wordOn ls (w.take k) := fun c hc => h c (List.mem_of_mem_take hc)
theorem on_drop {ls : List UInt8} {w : W} (h : wordOn ls w) (k : Nat) : wordOn ls (w.drop k) := fun c hc => h c (List.mem_of_mem_drop hc)
theorem runA_step {p : Aut} {w : W} {k : Nat} {c : UInt8} (hc : w[k]? = some c) (q : Int) : runA p q (w.take (k + 1)) = goA p (runA p q (w.take k)).toNat ((c.toNat : Int) - 97) := by
  rw [List.take_add_one, hc, runA_app]; rfl
theorem runM_step {L : W → Bool} {t : Tab} {w : W} {k : Nat} {c : UInt8} (hc : w[k]? = some c) (q : Nat) : runM L t q (w.take (k + 1)) = idxM L t (t.rows.getD (runM L t q (w.take k)) [] ++ [c]) := by
  rw [List.take_add_one, hc, runM_app]; rfl
theorem ask1_ok {p : Aut} (hp : autOk p = true) (s : Sys) (q : Aut) (al : Int) (kn : Bool) (w : W) (hw : wordOn (lsB p.al) w) (hl : w.length ≤ 1048576) :
    Pure Tryz.prog TB 47 [eT w, .o (.ip [.l (tblD p)]), .o (.ip (teRow kn p s q al))] (eB (LA p w)) := by
  have hph := autOk_head hp
  refine Spec.of Tryz.func47 rfl (by kernel_rfl) (Nat.le_of_ble_eq_true rfl) ?_; intro Γ hΓ
  (repeat (first | (refine popO rfl ?_; first | (refine gA rfl ?_; first | refine yLm rfl rfl ?_ | ((first | refine yQ (md := false) rfl ?_ ?_ | refine yL rfl rfl (by assumption) rfl rfl ?_ ?_ | refine yT rfl rfl (by assumption) rfl ?_ ?_); (first | exact True.intro | omega | (simp only [oZ] at *; omega))) | (refine yB rfl ?_; intro _ _hb) | refine yU (sl := true) rfl ?_ | refine yM rfl rfl (by assumption) rfl rfl rfl ?_ | refine yV rfl rfl rfl rfl (by assumption) rfl rfl rfl rfl ?_ ) | refine popN rfl ?_ | (refine yG rfl rfl ?_ ?_ <;> intro hb <;> subst hb)) | refine AWp.seq ?_ | refine reg (by kernel_rfl) ?_ | refine lexE ?_))
  refine AWp.block ?_
  refine AWp.loopV (α := {k : Nat // k ≤ w.length}) [0, 1, 2, 8] [] rfl rfl (fun ⟨k, hk⟩ => [(5, eI .i64 (runA p 0 (w.take k))), (9, eI .i64 k)]) (fun ⟨k, hk⟩ => []) 0 (fun ⟨k, hk⟩ => w.length - k) (⟨0, by omega⟩) (List.range 0) (by first | (simp [hΓ]; done) | (rw [hΓ]; decide)) (by (repeat' (first | exact trivial | rfl | refine And.intro ?_ ?_)) <;> (simp [EnvSub, StoreSub, look_cons, nm, nmo, E.ren, C.ren, C.renL, O.ren, Store.ren, killc, kill0, killL, kill, fillC, spliceC, eC, Function.comp_def, argsFrom, zC, hΓ] <;> rfl)) ?_; rintro ⟨k, hk⟩; try dsimp only [List.cons_append, List.nil_append]
  have hr := runA_in hp (w.take k) 0 (on_take hw k) (by omega)
  by_cases hlt : k < w.length
  · obtain ⟨c, hc⟩ := get_some hlt
    have hc' : w[((k : Nat) : Int).toNat]? = some c := by simpa using hc
    have hcl := lsB_num (hw c (List.mem_of_getElem? hc))
    have hla := letterAt_ok (TB := TB) w k c hc' hcl
    have ta := tbl_get (a := p) (q := (runA p 0 (w.take k)).toNat) (by omega)
    have el : ((((c.toNat : Int) - 97).toNat : Nat) : Int) = (c.toNat : Int) - 97 := by omega
    have ra := rowD_get (h := fun l => goA p (runA p 0 (w.take k)).toNat l) hcl.1 (by omega)
    simp only [el] at ra
    have hst := runA_step (p := p) hc 0
    (repeat (first | (refine popO rfl ?_; first | (refine gA rfl ?_; first | refine yLm rfl rfl ?_ | ((first | refine yQ (md := false) rfl ?_ ?_ | refine yL rfl rfl (by assumption) rfl rfl ?_ ?_ | refine yT rfl rfl (by assumption) rfl ?_ ?_); (first | exact True.intro | omega | (simp only [oZ] at *; omega))) | (refine yB rfl ?_; intro _ _hb) | refine yU (sl := true) rfl ?_ | refine yM rfl rfl (by assumption) rfl rfl rfl ?_ | refine yV rfl rfl rfl rfl (by assumption) rfl rfl rfl rfl ?_ ) | refine popN rfl ?_ | (refine yG rfl rfl ?_ ?_ <;> intro hb <;> subst hb)) | refine AWp.seq ?_ | refine reg (by kernel_rfl) ?_ | refine lexE ?_))
    (refine AWp.cond rfl (fun hb => ?_) (fun hb => ?_) <;> cases hb)
    · (repeat' (first | (first | (refine popO rfl ?_; first | (refine gA rfl ?_; first | refine yLm rfl rfl ?_ | ((first | refine yQ (md := false) rfl ?_ ?_ | refine yL rfl rfl (by assumption) rfl rfl ?_ ?_ | refine yT rfl rfl (by assumption) rfl ?_ ?_); (first | exact True.intro | omega | (simp only [oZ] at *; omega))) | (refine yB rfl ?_; intro _ _hb) | refine yU (sl := true) rfl ?_ | refine yM rfl rfl (by assumption) rfl rfl rfl ?_ | refine yV rfl rfl rfl rfl (by assumption) rfl rfl rfl rfl ?_ | refine yP rfl rfl rfl (hla) rfl ?_ | refine gS (fun _ _ => q_loadIp0 rfl ra) ?_) | refine popN rfl ?_ | (refine yG rfl rfl ?_ ?_ <;> intro hb <;> subst hb)) | refine AWp.seq ?_ | refine reg (by kernel_rfl) ?_ | refine lexE ?_ | refine regD (flN []) mixed (by kernel_rfl) (by kernel_rfl) ?_) | (refine AWp.cond rfl (fun hb => ?_) (fun hb => ?_) <;> cases hb) | refine AWp.skip ?_ | refine AWp.exit ?_ | refine AWp.block ?_ | refine AWp.ret ⟨_, rfl, ?_⟩))
      refine ⟨⟨k + 1, by first | omega | (simp only [oZ] at *; omega)⟩, by dsimp only; (first | omega | (simp only [oZ] at *; omega)), [], ?_⟩
      simp [EnvSub, StoreSub, look_cons, nm, nmo, E.ren, C.ren, C.renL, O.ren, Store.ren, killc, kill0, killL, kill, fillC, spliceC, eC, Function.comp_def, argsFrom, zC, hΓ, hst]
    · exfalso; first | omega | (simp only [oZ] at *; omega)
  · obtain rfl : k = w.length := by omega
    rw [List.take_length] at *
    obtain ⟨b, hb⟩ := get_some (l := p.ac) (k := (runA p 0 w).toNat) (by omega)
    have hb' : (p.ac.map bRow)[(runA p 0 w).toNat]? = some (bRow b) := by simp [hb]
    have hbl : LA p w = b := by unfold LA; simp [List.getD, hb]
    rw [hbl]
    (repeat (first | (refine popO rfl ?_; first | (refine gA rfl ?_; first | refine yLm rfl rfl ?_ | ((first | refine yQ (md := false) rfl ?_ ?_ | refine yL rfl rfl (by assumption) rfl rfl ?_ ?_ | refine yT rfl rfl (by assumption) rfl ?_ ?_); (first | exact True.intro | omega | (simp only [oZ] at *; omega))) | (refine yB rfl ?_; intro _ _hb) | refine yU (sl := true) rfl ?_ | refine yM rfl rfl (by assumption) rfl rfl rfl ?_ | refine yV rfl rfl rfl rfl (by assumption) rfl rfl rfl rfl ?_ ) | refine popN rfl ?_ | (refine yG rfl rfl ?_ ?_ <;> intro hb <;> subst hb)) | refine AWp.seq ?_ | refine reg (by kernel_rfl) ?_ | refine lexE ?_))
    (refine AWp.cond rfl (fun hb => ?_) (fun hb => ?_) <;> cases hb)
    · exfalso; first | omega | (simp only [oZ] at *; omega)
    · (repeat' (first | (first | (refine popO rfl ?_; first | (refine gA rfl ?_; first | refine yLm rfl rfl ?_ | ((first | refine yQ (md := false) rfl ?_ ?_ | refine yL rfl rfl (by assumption) rfl rfl ?_ ?_ | refine yT rfl rfl (by assumption) rfl ?_ ?_); (first | exact True.intro | omega | (simp only [oZ] at *; omega))) | (refine yB rfl ?_; intro _ _hb) | refine yU (sl := true) rfl ?_ | refine yM rfl rfl (by assumption) rfl rfl rfl ?_ | refine yV rfl rfl rfl rfl (by assumption) rfl rfl rfl rfl ?_ ) | refine popN rfl ?_ | (refine yG rfl rfl ?_ ?_ <;> intro hb <;> subst hb)) | refine AWp.seq ?_ | refine reg (by kernel_rfl) ?_ | refine lexE ?_ | refine regD (flN []) mixed (by kernel_rfl) (by kernel_rfl) ?_) | (refine AWp.cond rfl (fun hb => ?_) (fun hb => ?_) <;> cases hb) | refine AWp.skip ?_ | refine AWp.exit ?_ | refine AWp.block ?_ | refine AWp.ret ⟨_, rfl, ?_⟩))
      rfl
/-- The column that a wrong word shows. -/
def splitO (L : W → Bool) (t : Tab) (w : W) : Option W := if accM L t w = L w then none else splitAt L t (L w) 0 w
theorem splitAt_step {L : W → Bool} {t : Tab} {b : Bool} {w : W} {k q : Nat} {c : UInt8} (hc : w[k]? = some c) : splitAt L t b q (w.drop k) = if L (t.rows.getD (idxM L t (t.rows.getD q [] ++ [c])) [] ++ w.drop (k + 1)) ≠ b then some (w.drop (k + 1)) else splitAt L t b (idxM L t (t.rows.getD q [] ++ [c])) (w.drop (k + 1)) := by
  rw [drop_some hc, splitAt]
theorem splitWord_ok {c : C} {L : W → Bool} {ok : W → Prop} (hc : AskV Tryz.prog TB c L ok) (al : Int) (t : Tab) (hf : OkFits ok al) (ht : TBd al 20012 t) (hal : alphB al = true) (hcl : Closed L (lsB al) t) (ho : openW L (lsB al) t = none) (w : W) (hw : wordOn (lsB al) w) (hwl : w.length ≤ 20000) :
    Pure Tryz.prog TB 59 [eOra al c, eTab t, eT w] (eOpt (splitO L t w)) := by
  have hr := ren_pur c hc.pur
  have hrl := ht.rl
  have hau := automaton_ok (TB := TB) hc al t hf ht ho
  have haok := autM_ok hal hcl hrl
  have hta := tableOf_ok (TB := TB) (autM L al t) haok
  have hnl : (autM L al t).nx.length = t.rows.length := by simp [autM]
  have h0 : 0 < t.rows.length := (List.getElem?_eq_some_iff.1 hcl.r0).1
  have hokw := hf w hw (by omega)
  have hpu : ([eOra al c, eTab t].all E.pur && C.purL []) = true := by simp [E.pur, C.purL, C.pur, hc.pur]
  refine Spec.of Tryz.func59 rfl (by kernel_rfl) (Nat.le_of_ble_eq_true rfl) ?_; intro Γ hΓ
  (repeat (first | (refine popO rfl ?_; first | (refine gA rfl ?_; first | refine yLm rfl rfl ?_ | ((first | refine yQ (md := false) rfl ?_ ?_ | refine yL rfl rfl (by assumption) rfl rfl ?_ ?_ | refine yT rfl rfl (by assumption) rfl ?_ ?_); (first | exact True.intro | omega | (simp only [oZ] at *; omega))) | (refine yB rfl ?_; intro _ _hb) | refine yU (sl := true) rfl ?_ | refine yM rfl rfl (by assumption) rfl rfl rfl ?_ | refine yV rfl rfl rfl rfl (by assumption) rfl rfl rfl rfl ?_ ) | refine popN rfl ?_ | (refine yG rfl rfl ?_ ?_ <;> intro hb <;> subst hb)) | refine AWp.seq ?_ | refine reg (by kernel_rfl) ?_ | refine lexE ?_))
  (refine popO rfl ?_; refine popW ?_ rfl (by rfl); refine n_box rfl rfl ?_)
  (refine popO rfl ?_; refine popS (fun _ _ => q_boxI rfl rfl rfl) rfl ?_)
  (repeat (first | (refine popO rfl ?_; first | (refine gA rfl ?_; first | refine yLm rfl rfl ?_ | ((first | refine yQ (md := false) rfl ?_ ?_ | refine yL rfl rfl (by assumption) rfl rfl ?_ ?_ | refine yT rfl rfl (by assumption) rfl ?_ ?_); (first | exact True.intro | omega | (simp only [oZ] at *; omega))) | (refine yB rfl ?_; intro _ _hb) | refine yU (sl := true) rfl ?_ | refine yM rfl rfl (by assumption) rfl rfl rfl ?_ | refine yV rfl rfl rfl rfl (by assumption) rfl rfl rfl rfl ?_ ) | refine popN rfl ?_ | (refine yG rfl rfl ?_ ?_ <;> intro hb <;> subst hb)) | refine AWp.seq ?_ | refine reg (by kernel_rfl) ?_ | refine lexE ?_))
  (repeat (first | (refine popO rfl ?_; first | (refine gA rfl ?_; first | refine yLm rfl rfl ?_ | ((first | refine yQ (md := false) rfl ?_ ?_ | refine yL rfl rfl (by assumption) rfl rfl ?_ ?_ | refine yT rfl rfl (by assumption) rfl ?_ ?_); (first | exact True.intro | omega | (simp only [oZ] at *; omega))) | (refine yB rfl ?_; intro _ _hb) | refine yU (sl := true) rfl ?_ | refine yM rfl rfl (by assumption) rfl rfl rfl ?_ | refine yV rfl rfl rfl rfl (by assumption) rfl rfl rfl rfl ?_ | refine gS (fun _ _ => q_call rfl rfl hpu hau rfl) ?_) | refine popN rfl ?_ | (refine yG rfl rfl ?_ ?_ <;> intro hb <;> subst hb)) | refine AWp.seq ?_ | refine reg (by kernel_rfl) ?_ | refine lexE ?_))
  (repeat (first | (refine popO rfl ?_; first | (refine gA rfl ?_; first | refine yLm rfl rfl ?_ | ((first | refine yQ (md := false) rfl ?_ ?_ | refine yL rfl rfl (by assumption) rfl rfl ?_ ?_ | refine yT rfl rfl (by assumption) rfl ?_ ?_); (first | exact True.intro | omega | (simp only [oZ] at *; omega))) | (refine yB rfl ?_; intro _ _hb) | refine yU (sl := true) rfl ?_ | refine yM rfl rfl (by assumption) rfl rfl rfl ?_ | refine yV rfl rfl rfl rfl (by assumption) rfl rfl rfl rfl ?_ | refine yP rfl rfl rfl (hta) rfl ?_ ) | refine popN rfl ?_ | (refine yG rfl rfl ?_ ?_ <;> intro hb <;> subst hb)) | refine AWp.seq ?_ | refine reg (by kernel_rfl) ?_ | refine lexE ?_))
  refine AWp.block ?_
  refine AWp.loopV (α := {k : Nat // k ≤ w.length}) [2, 3, 4, 8, 9, 20] [0, 1] rfl rfl (fun ⟨k, hk⟩ => [(10, eI .i64 (runM L t 0 (w.take k) : Nat)), (21, eI .i64 k)]) (fun ⟨k, hk⟩ => []) 2 (fun ⟨k, hk⟩ => w.length - k) (⟨0, by omega⟩) (List.range 2) (by first | (simp [hΓ]; done) | (rw [hΓ]; decide)) (by (repeat' (first | exact trivial | rfl | refine And.intro ?_ ?_)) <;> (simp [EnvSub, StoreSub, look_cons, nm, nmo, E.ren, C.ren, C.renL, O.ren, Store.ren, killc, kill0, killL, kill, fillC, spliceC, eC, Function.comp_def, argsFrom, zC, hΓ, hr] <;> rfl)) ?_; rintro ⟨k, hk⟩; try dsimp only [List.cons_append, List.nil_append]
  have hrn := hcl.run (w.take k) 0 (on_take hw k) h0
  by_cases hlt : k < w.length
  · obtain ⟨c2, hc2⟩ := get_some hlt
    have hc' : w[((k : Nat) : Int).toNat]? = some c2 := by simpa using hc2
    have hcm := hw c2 (List.mem_of_getElem? hc2)
    have hcn := lsB_num hcm
    have hla := letterAt_ok (TB := TB) w k c2 hc' hcn
    have ta := tbl_get (a := autM L al t) (q := (((runM L t 0 (w.take k) : Nat) : Int)).toNat) (by omega)
    have el : ((((c2.toNat : Int) - 97).toNat : Nat) : Int) = (c2.toNat : Int) - 97 := by omega
    have ra := rowD_get (h := fun l => goA (autM L al t) (((runM L t 0 (w.take k) : Nat) : Int)).toNat l) hcn.1 (by omega)
    simp only [el] at ra
    have hga := goA_autM (L := L) (al := al) (t := t) (q := runM L t 0 (w.take k)) hrn hcm
    have hst := runM_step (L := L) (t := t) hc2 0
    rw [← hst] at hga
    rw [Int.toNat_natCast, hga] at ra
    (repeat (first | (refine popO rfl ?_; first | (refine gA rfl ?_; first | refine yLm rfl rfl ?_ | ((first | refine yQ (md := false) rfl ?_ ?_ | refine yL rfl rfl (by assumption) rfl rfl ?_ ?_ | refine yT rfl rfl (by assumption) rfl ?_ ?_); (first | exact True.intro | omega | (simp only [oZ] at *; omega))) | (refine yB rfl ?_; intro _ _hb) | refine yU (sl := true) rfl ?_ | refine yM rfl rfl (by assumption) rfl rfl rfl ?_ | refine yV rfl rfl rfl rfl (by assumption) rfl rfl rfl rfl ?_ ) | refine popN rfl ?_ | (refine yG rfl rfl ?_ ?_ <;> intro hb <;> subst hb)) | refine AWp.seq ?_ | refine reg (by kernel_rfl) ?_ | refine lexE ?_))
    (refine AWp.cond rfl (fun hb => ?_) (fun hb => ?_) <;> cases hb)
    · (repeat' (first | (first | (refine popO rfl ?_; first | (refine gA rfl ?_; first | refine yLm rfl rfl ?_ | ((first | refine yQ (md := false) rfl ?_ ?_ | refine yL rfl rfl (by assumption) rfl rfl ?_ ?_ | refine yT rfl rfl (by assumption) rfl ?_ ?_); (first | exact True.intro | omega | (simp only [oZ] at *; omega))) | (refine yB rfl ?_; intro _ _hb) | refine yU (sl := true) rfl ?_ | refine yM rfl rfl (by assumption) rfl rfl rfl ?_ | refine yV rfl rfl rfl rfl (by assumption) rfl rfl rfl rfl ?_ | refine yP rfl rfl rfl (hla) rfl ?_ | refine gS (fun _ _ => q_loadIp0 rfl ra) ?_) | refine popN rfl ?_ | (refine yG rfl rfl ?_ ?_ <;> intro hb <;> subst hb)) | refine AWp.seq ?_ | refine reg (by kernel_rfl) ?_ | refine lexE ?_ | refine regD (flN []) mixed (by kernel_rfl) (by kernel_rfl) ?_) | (refine AWp.cond rfl (fun hb => ?_) (fun hb => ?_) <;> cases hb) | refine AWp.skip ?_ | refine AWp.exit ?_ | refine AWp.block ?_ | refine AWp.ret ⟨_, rfl, ?_⟩))
      refine ⟨⟨k + 1, by first | omega | (simp only [oZ] at *; omega)⟩, by dsimp only; (first | omega | (simp only [oZ] at *; omega)), [0, 1], ?_⟩
      simp [EnvSub, StoreSub, look_cons, nm, nmo, E.ren, C.ren, C.renL, O.ren, Store.ren, killc, kill0, killL, kill, fillC, spliceC, eC, Function.comp_def, argsFrom, zC, hΓ, hr]
    · exfalso; first | omega | (simp only [oZ] at *; omega)
  · obtain rfl : k = w.length := by omega
    rw [List.take_length] at *
    (repeat (first | (refine popO rfl ?_; first | (refine gA rfl ?_; first | refine yLm rfl rfl ?_ | ((first | refine yQ (md := false) rfl ?_ ?_ | refine yL rfl rfl (by assumption) rfl rfl ?_ ?_ | refine yT rfl rfl (by assumption) rfl ?_ ?_); (first | exact True.intro | omega | (simp only [oZ] at *; omega))) | (refine yB rfl ?_; intro _ _hb) | refine yU (sl := true) rfl ?_ | refine yM rfl rfl (by assumption) rfl rfl rfl ?_ | refine yV rfl rfl rfl rfl (by assumption) rfl rfl rfl rfl ?_ ) | refine popN rfl ?_ | (refine yG rfl rfl ?_ ?_ <;> intro hb <;> subst hb)) | refine AWp.seq ?_ | refine reg (by kernel_rfl) ?_ | refine lexE ?_))
    (refine AWp.cond rfl (fun hb => ?_) (fun hb => ?_) <;> cases hb)
    · exfalso; first | omega | (simp only [oZ] at *; omega)
    · refine AWp.exit ?_
      have hacx : ((autM L al t).ac.map bRow)[(((runM L t 0 w : Nat) : Int)).toNat]? = some (bRow (accM L t w)) := by
        unfold accM
        simp [autM, List.getD, hrn]
      (repeat (first | (refine popO rfl ?_; first | (refine gA rfl ?_; first | refine yLm rfl rfl ?_ | ((first | refine yQ (md := false) rfl ?_ ?_ | refine yL rfl rfl (by assumption) rfl rfl ?_ ?_ | refine yT rfl rfl (by assumption) rfl ?_ ?_); (first | exact True.intro | omega | (simp only [oZ] at *; omega))) | (refine yB rfl ?_; intro _ _hb) | refine yU (sl := true) rfl ?_ | refine yM rfl rfl (by assumption) rfl rfl rfl ?_ | refine yV rfl rfl rfl rfl (by assumption) rfl rfl rfl rfl ?_ | refine gS (fun _ _ => hc.ask rfl rfl hokw) ?_) | refine popN rfl ?_ | (refine yG rfl rfl ?_ ?_ <;> intro hb <;> subst hb)) | refine AWp.seq ?_ | refine reg (by kernel_rfl) ?_ | refine lexE ?_))
      (refine AWp.cond rfl (fun hb => ?_) (fun hb => ?_) <;> cases hb)
      · have hn : splitO L t w = none := by unfold splitO; rw [if_pos (by simpa using _hb)]
        (repeat (first | (refine popO rfl ?_; first | (refine gA rfl ?_; first | refine yLm rfl rfl ?_ | ((first | refine yQ (md := false) rfl ?_ ?_ | refine yL rfl rfl (by assumption) rfl rfl ?_ ?_ | refine yT rfl rfl (by assumption) rfl ?_ ?_); (first | exact True.intro | omega | (simp only [oZ] at *; omega))) | (refine yB rfl ?_; intro _ _hb) | refine yU (sl := true) rfl ?_ | refine yM rfl rfl (by assumption) rfl rfl rfl ?_ | refine yV rfl rfl rfl rfl (by assumption) rfl rfl rfl rfl ?_ ) | refine popN rfl ?_ | (refine yG rfl rfl ?_ ?_ <;> intro hb <;> subst hb)) | refine AWp.seq ?_ | refine reg (by kernel_rfl) ?_ | refine lexE ?_))
        refine AWp.ret ⟨_, rfl, ?_⟩
        rw [hn]; rfl
      · have hso : splitO L t w = splitAt L t (L w) 0 w := by unfold splitO; rw [if_neg (by simpa using _hb)]
        rw [hso]
        refine AWp.skip ?_
        (repeat (first | (refine popO rfl ?_; first | (refine gA rfl ?_; first | refine yLm rfl rfl ?_ | ((first | refine yQ (md := false) rfl ?_ ?_ | refine yL rfl rfl (by assumption) rfl rfl ?_ ?_ | refine yT rfl rfl (by assumption) rfl ?_ ?_); (first | exact True.intro | omega | (simp only [oZ] at *; omega))) | (refine yB rfl ?_; intro _ _hb) | refine yU (sl := true) rfl ?_ | refine yM rfl rfl (by assumption) rfl rfl rfl ?_ | refine yV rfl rfl rfl rfl (by assumption) rfl rfl rfl rfl ?_ ) | refine popN rfl ?_ | (refine yG rfl rfl ?_ ?_ <;> intro hb <;> subst hb)) | refine AWp.seq ?_ | refine reg (by kernel_rfl) ?_ | refine lexE ?_))
        refine AWp.block ?_
        refine AWp.loopV (α := {k : Nat // k ≤ w.length ∧ splitAt L t (L w) 0 w = splitAt L t (L w) (runM L t 0 (w.take k)) (w.drop k)}) [2, 3, 4, 9, 12, 45] [0] rfl rfl (fun ⟨k, hk, he⟩ => [(10, eI .i64 (runM L t 0 (w.take k) : Nat)), (46, eI .i64 k)]) (fun ⟨k, hk, he⟩ => []) 1 (fun ⟨k, hk, he⟩ => w.length - k) (⟨0, by omega, rfl⟩) (List.range 1) (by first | (simp [hΓ]; done) | (rw [hΓ]; decide)) (by (repeat' (first | exact trivial | rfl | refine And.intro ?_ ?_)) <;> (simp [EnvSub, StoreSub, look_cons, nm, nmo, E.ren, C.ren, C.renL, O.ren, Store.ren, killc, kill0, killL, kill, fillC, spliceC, eC, Function.comp_def, argsFrom, zC, hΓ, hr] <;> rfl)) ?_; rintro ⟨k, hk, he⟩; try dsimp only [List.cons_append, List.nil_append]
        have hrn := hcl.run (w.take k) 0 (on_take hw k) h0
        by_cases hlt : k < w.length
        · obtain ⟨c2, hc2⟩ := get_some hlt
          have hc' : w[((k : Nat) : Int).toNat]? = some c2 := by simpa using hc2
          have hcm := hw c2 (List.mem_of_getElem? hc2)
          have hcn := lsB_num hcm
          have hla := letterAt_ok (TB := TB) w k c2 hc' hcn
          have ta := tbl_get (a := autM L al t) (q := (((runM L t 0 (w.take k) : Nat) : Int)).toNat) (by omega)
          have el : ((((c2.toNat : Int) - 97).toNat : Nat) : Int) = (c2.toNat : Int) - 97 := by omega
          have ra := rowD_get (h := fun l => goA (autM L al t) (((runM L t 0 (w.take k) : Nat) : Int)).toNat l) hcn.1 (by omega)
          simp only [el] at ra
          have hga := goA_autM (L := L) (al := al) (t := t) (q := runM L t 0 (w.take k)) hrn hcm
          have hst := runM_step (L := L) (t := t) hc2 0
          have hrn2 := hcl.run (w.take (k + 1)) 0 (on_take hw (k + 1)) h0
          rw [splitAt_step hc2, ← hst] at he
          rw [← hst] at hga
          rw [Int.toNat_natCast, hga] at ra
          generalize hq2 : runM L t 0 (w.take (k + 1)) = q2 at *
          obtain ⟨r2, hr2⟩ := get_some (l := t.rows) (k := q2) hrn2
          have hr2' := get_map (g := tRow) hr2
          have hgd : t.rows.getD q2 [] = r2 := by simp [List.getD, hr2]
          rw [hgd] at he
          have hrb := ht.onR r2 (List.mem_of_getElem? hr2)
          have hdl : (w.drop (k + 1)).length = w.length - (k + 1) := List.length_drop
          have hokv := hf (r2 ++ w.drop (k + 1)) (fun c hc => by
            rcases List.mem_append.1 hc with hc | hc
            · exact hrb.1 c hc
            · exact on_drop hw _ c hc) (by simp; omega)
          have hk1 : (((k : Nat) : Int) + 1).toNat = k + 1 := by omega
          (repeat (first | (refine popO rfl ?_; first | (refine gA rfl ?_; first | refine yLm rfl rfl ?_ | ((first | refine yQ (md := false) rfl ?_ ?_ | refine yL rfl rfl (by assumption) rfl rfl ?_ ?_ | refine yT rfl rfl (by assumption) rfl ?_ ?_); (first | exact True.intro | omega | (simp only [oZ] at *; omega))) | (refine yB rfl ?_; intro _ _hb) | refine yU (sl := true) rfl ?_ | refine yM rfl rfl (by assumption) rfl rfl rfl ?_ | refine yV rfl rfl rfl rfl (by assumption) rfl rfl rfl rfl ?_ ) | refine popN rfl ?_ | (refine yG rfl rfl ?_ ?_ <;> intro hb <;> subst hb)) | refine AWp.seq ?_ | refine reg (by kernel_rfl) ?_ | refine lexE ?_))
          (refine AWp.cond rfl (fun hb => ?_) (fun hb => ?_) <;> cases hb)
          · refine AWp.skip ?_
            refine AWp.seq (AWp.block ?_)
            (repeat (first | (refine popO rfl ?_; first | (refine gA rfl ?_; first | refine yLm rfl rfl ?_ | ((first | refine yQ (md := false) rfl ?_ ?_ | refine yL rfl rfl (by assumption) rfl rfl ?_ ?_ | refine yT rfl rfl (by assumption) rfl ?_ ?_); (first | exact True.intro | omega | (simp only [oZ] at *; omega))) | (refine yB rfl ?_; intro _ _hb) | refine yU (sl := true) rfl ?_ | refine yM rfl rfl (by assumption) rfl rfl rfl ?_ | refine yV rfl rfl rfl rfl (by assumption) rfl rfl rfl rfl ?_ | refine yP rfl rfl rfl (hla) rfl ?_ | refine gS (fun _ _ => q_loadIp0 rfl ra) ?_) | refine popN rfl ?_ | (refine yG rfl rfl ?_ ?_ <;> intro hb <;> subst hb)) | refine AWp.seq ?_ | refine reg (by kernel_rfl) ?_ | refine lexE ?_ | refine regD (flN []) mixed (by kernel_rfl) (by kernel_rfl) ?_))
            (repeat (first | (refine popO rfl ?_; first | (refine gA rfl ?_; first | refine yLm rfl rfl ?_ | ((first | refine yQ (md := false) rfl ?_ ?_ | refine yL rfl rfl (by assumption) rfl rfl ?_ ?_ | refine yT rfl rfl (by assumption) rfl ?_ ?_); (first | exact True.intro | omega | (simp only [oZ] at *; omega))) | (refine yB rfl ?_; intro _ _hb) | refine yU (sl := true) rfl ?_ | refine yM rfl rfl (by assumption) rfl rfl rfl ?_ | refine yV rfl rfl rfl rfl (by assumption) rfl rfl rfl rfl ?_ | refine gS (fun _ _ => q_dropT rfl rfl (by omega) (by omega)) ?_) | refine popN rfl ?_ | (refine yG rfl rfl ?_ ?_ <;> intro hb <;> subst hb)) | refine AWp.seq ?_ | refine reg (by kernel_rfl) ?_ | refine lexE ?_ | refine regD (flN []) mixed (by kernel_rfl) (by kernel_rfl) ?_))
            rw [hk1]
            (repeat (first | (refine popO rfl ?_; first | (refine gA rfl ?_; first | refine yLm rfl rfl ?_ | ((first | refine yQ (md := false) rfl ?_ ?_ | refine yL rfl rfl (by assumption) rfl rfl ?_ ?_ | refine yT rfl rfl (by assumption) rfl ?_ ?_); (first | exact True.intro | omega | (simp only [oZ] at *; omega))) | (refine yB rfl ?_; intro _ _hb) | refine yU (sl := true) rfl ?_ | refine yM rfl rfl (by assumption) rfl rfl rfl ?_ | refine yV rfl rfl rfl rfl (by assumption) rfl rfl rfl rfl ?_ | refine gS (fun _ _ => hc.ask rfl rfl hokv) ?_) | refine popN rfl ?_ | (refine yG rfl rfl ?_ ?_ <;> intro hb <;> subst hb)) | refine AWp.seq ?_ | refine reg (by kernel_rfl) ?_ | refine lexE ?_ | refine regD (flN []) mixed (by kernel_rfl) (by kernel_rfl) ?_))
            (refine AWp.cond rfl (fun hb => ?_) (fun hb => ?_) <;> cases hb)
            · rw [if_pos (by simpa using _hb)] at he
              (repeat (first | (refine popO rfl ?_; first | (refine gA rfl ?_; first | refine yLm rfl rfl ?_ | ((first | refine yQ (md := false) rfl ?_ ?_ | refine yL rfl rfl (by assumption) rfl rfl ?_ ?_ | refine yT rfl rfl (by assumption) rfl ?_ ?_); (first | exact True.intro | omega | (simp only [oZ] at *; omega))) | (refine yB rfl ?_; intro _ _hb) | refine yU (sl := true) rfl ?_ | refine yM rfl rfl (by assumption) rfl rfl rfl ?_ | refine yV rfl rfl rfl rfl (by assumption) rfl rfl rfl rfl ?_ | refine gS (fun _ _ => q_dropT rfl rfl (by omega) (by omega)) ?_) | refine popN rfl ?_ | (refine yG rfl rfl ?_ ?_ <;> intro hb <;> subst hb)) | refine AWp.seq ?_ | refine reg (by kernel_rfl) ?_ | refine lexE ?_ | refine regD (flN []) mixed (by kernel_rfl) (by kernel_rfl) ?_))
              refine AWp.ret ⟨_, rfl, ?_⟩
              rw [hk1, he]; rfl
            · rw [if_neg (by simpa using _hb)] at he
              refine AWp.skip ?_
              (repeat (first | (refine popO rfl ?_; first | (refine gA rfl ?_; first | refine yLm rfl rfl ?_ | ((first | refine yQ (md := false) rfl ?_ ?_ | refine yL rfl rfl (by assumption) rfl rfl ?_ ?_ | refine yT rfl rfl (by assumption) rfl ?_ ?_); (first | exact True.intro | omega | (simp only [oZ] at *; omega))) | (refine yB rfl ?_; intro _ _hb) | refine yU (sl := true) rfl ?_ | refine yM rfl rfl (by assumption) rfl rfl rfl ?_ | refine yV rfl rfl rfl rfl (by assumption) rfl rfl rfl rfl ?_ ) | refine popN rfl ?_ | (refine yG rfl rfl ?_ ?_ <;> intro hb <;> subst hb)) | refine AWp.seq ?_ | refine reg (by kernel_rfl) ?_ | refine lexE ?_ | refine regD (flN []) mixed (by kernel_rfl) (by kernel_rfl) ?_))
              subst hq2
              refine ⟨⟨k + 1, by first | omega | (simp only [oZ] at *; omega), he⟩, by dsimp only; (first | omega | (simp only [oZ] at *; omega)), [0], ?_⟩
              simp [EnvSub, StoreSub, look_cons, nm, nmo, E.ren, C.ren, C.renL, O.ren, Store.ren, killc, kill0, killL, kill, fillC, spliceC, eC, Function.comp_def, argsFrom, zC, hΓ, hr]
          · exfalso; first | omega | (simp only [oZ] at *; omega)
        · obtain rfl : k = w.length := by omega
          rw [List.drop_length] at he
          (repeat (first | (refine popO rfl ?_; first | (refine gA rfl ?_; first | refine yLm rfl rfl ?_ | ((first | refine yQ (md := false) rfl ?_ ?_ | refine yL rfl rfl (by assumption) rfl rfl ?_ ?_ | refine yT rfl rfl (by assumption) rfl ?_ ?_); (first | exact True.intro | omega | (simp only [oZ] at *; omega))) | (refine yB rfl ?_; intro _ _hb) | refine yU (sl := true) rfl ?_ | refine yM rfl rfl (by assumption) rfl rfl rfl ?_ | refine yV rfl rfl rfl rfl (by assumption) rfl rfl rfl rfl ?_ ) | refine popN rfl ?_ | (refine yG rfl rfl ?_ ?_ <;> intro hb <;> subst hb)) | refine AWp.seq ?_ | refine reg (by kernel_rfl) ?_ | refine lexE ?_))
          (refine AWp.cond rfl (fun hb => ?_) (fun hb => ?_) <;> cases hb)
          · exfalso; first | omega | (simp only [oZ] at *; omega)
          · refine AWp.exit ?_
            (repeat (first | (refine popO rfl ?_; first | (refine gA rfl ?_; first | refine yLm rfl rfl ?_ | ((first | refine yQ (md := false) rfl ?_ ?_ | refine yL rfl rfl (by assumption) rfl rfl ?_ ?_ | refine yT rfl rfl (by assumption) rfl ?_ ?_); (first | exact True.intro | omega | (simp only [oZ] at *; omega))) | (refine yB rfl ?_; intro _ _hb) | refine yU (sl := true) rfl ?_ | refine yM rfl rfl (by assumption) rfl rfl rfl ?_ | refine yV rfl rfl rfl rfl (by assumption) rfl rfl rfl rfl ?_ ) | refine popN rfl ?_ | (refine yG rfl rfl ?_ ?_ <;> intro hb <;> subst hb)) | refine AWp.seq ?_ | refine reg (by kernel_rfl) ?_ | refine lexE ?_))
            refine AWp.ret ⟨_, rfl, ?_⟩
            rw [he]; rfl
end Go.Am
/-
  One step of learning.
-/
namespace Go.Am
open Go Go.Proofs
attribute [local irreducible] QOp AOp Lex LexO AWp Spec
variable {TB : List (Nat × Obj)}

/-- The next table. -/
def stepO (L : W → Bool) (ls : List UInt8) (t : Tab) (w : W) : Option Tab := (splitO L t w).bind fun v => (addC t v).bind fun u => closeN L ls 13 u
theorem splitAt_suf {L : W → Bool} {t : Tab} {b : Bool} : ∀ {w : W} {q : Nat} {v : W}, splitAt L t b q w = some v → ∃ p, p ≠ [] ∧ w = p ++ v
  | [], q, v, h => by simp [splitAt] at h
  | c :: w, q, v, h => by
    unfold splitAt at h
    split at h
    · injection h with h; subst h; exact ⟨[c], by simp, rfl⟩
    · obtain ⟨p, _, h2⟩ := splitAt_suf h; exact ⟨c :: p, by simp, by rw [h2]; rfl⟩
theorem splitO_suf {L : W → Bool} {t : Tab} {w v : W} (h : splitO L t w = some v) : ∃ p, p ≠ [] ∧ w = p ++ v := by
  unfold splitO at h
  split at h
  · cases h
  · exact splitAt_suf h
theorem TBd.mono {al : Int} {b b' : Nat} {t : Tab} (h : TBd al b t) (hb : b ≤ b') : TBd al b' t := ⟨fun w hw => ⟨(h.onR w hw).1, Nat.le_trans (h.onR w hw).2 hb⟩, h.onC, h.rl, h.cl⟩
theorem addC_bd {al : Int} {b : Nat} {t u : Tab} {v : W} (h : TBd al b t) (hv : wordOn (lsB al) v) (hl : v.length ≤ 20000) (ha : addC t v = some u) : TBd al b u := by
  unfold addC at ha
  split at ha
  · cases ha
  · rename_i hn
    injection ha with ha
    subst ha
    refine ⟨h.onR, fun x hx => ?_, h.rl, ?_⟩
    · rcases List.mem_append.1 hx with hx | hx
      · exact h.onC x hx
      · simp at hx; subst hx; exact ⟨hv, hl⟩
    · have := h.cl
      have h2 : t.cols.length ≠ 20 := fun e => hn (.inl e)
      simp; omega
theorem learnStep_ok {c : C} {L : W → Bool} {ok : W → Prop} (hc : AskV Tryz.prog TB c L ok) (al : Int) (t : Tab) (hf : OkFits ok al) (ht : TBd al 20000 t) (hal : alphB al = true) (hcl : Closed L (lsB al) t) (ho : openW L (lsB al) t = none) (w : W) (hw : wordOn (lsB al) w) (hwl : w.length ≤ 20000) :
    Pure Tryz.prog TB 31 [eOra al c, eTab t, eT w] (eTabO (stepO L (lsB al) t w)) := by
  have hr := ren_pur c hc.pur
  have hpu1 : ([eOra al c, eTab t, eT w].all E.pur && C.purL []) = true := by simp [E.pur, C.purL, C.pur, hc.pur]
  have hsp := splitWord_ok (TB := TB) hc al t hf (ht.mono (by omega)) hal hcl ho w hw hwl
  have hrl := ht.rl
  have hcl2 := ht.cl
  rcases hs : splitO L t w with _ | v
  · have hn : stepO L (lsB al) t w = none := by unfold stepO; rw [hs]; rfl
    rw [hn]
    rw [hs] at hsp
    refine SpecK.toSpec (SpecK.ofM 2 (Nat.le_refl _) Tryz.func31 rfl rfl (by kernel_rfl) (Nat.le_of_ble_eq_true rfl) ?_); intro Γ hΓ
    (repeat (first | (refine popO rfl ?_; first | (refine gA rfl ?_; first | refine yLm rfl rfl ?_ | ((first | refine yQ (md := false) rfl ?_ ?_ | refine yL rfl rfl (by assumption) rfl rfl ?_ ?_ | refine yT rfl rfl (by assumption) rfl ?_ ?_); (first | exact True.intro | omega | (simp only [oZ] at *; omega))) | (refine yB rfl ?_; intro _ _hb) | refine yU (sl := true) rfl ?_ | refine yM rfl rfl (by assumption) rfl rfl rfl ?_ | refine yV rfl rfl rfl rfl (by assumption) rfl rfl rfl rfl ?_ ) | refine popN rfl ?_ | (refine yG rfl rfl ?_ ?_ <;> intro hb <;> subst hb)) | refine AWp.seq ?_ | refine reg (by kernel_rfl) ?_ | refine lexE ?_))
    (refine popO rfl ?_; refine popW ?_ rfl (by rfl); refine n_box rfl rfl ?_)
    (refine popO rfl ?_; refine popW ?_ rfl (by rfl); refine n_box rfl rfl ?_)
    (repeat (first | (refine popO rfl ?_; first | (refine gA rfl ?_; first | refine yLm rfl rfl ?_ | ((first | refine yQ (md := false) rfl ?_ ?_ | refine yL rfl rfl (by assumption) rfl rfl ?_ ?_ | refine yT rfl rfl (by assumption) rfl ?_ ?_); (first | exact True.intro | omega | (simp only [oZ] at *; omega))) | (refine yB rfl ?_; intro _ _hb) | refine yU (sl := true) rfl ?_ | refine yM rfl rfl (by assumption) rfl rfl rfl ?_ | refine yV rfl rfl rfl rfl (by assumption) rfl rfl rfl rfl ?_ ) | refine popN rfl ?_ | (refine yG rfl rfl ?_ ?_ <;> intro hb <;> subst hb)) | refine AWp.seq ?_ | refine reg (by kernel_rfl) ?_ | refine lexE ?_))
    (repeat (first | (refine popO rfl ?_; first | (refine gA rfl ?_; first | refine yLm rfl rfl ?_ | ((first | refine yQ (md := false) rfl ?_ ?_ | refine yL rfl rfl (by assumption) rfl rfl ?_ ?_ | refine yT rfl rfl (by assumption) rfl ?_ ?_); (first | exact True.intro | omega | (simp only [oZ] at *; omega))) | (refine yB rfl ?_; intro _ _hb) | refine yU (sl := true) rfl ?_ | refine yM rfl rfl (by assumption) rfl rfl rfl ?_ | refine yV rfl rfl rfl rfl (by assumption) rfl rfl rfl rfl ?_ | refine gS (fun _ _ => q_call rfl rfl hpu1 hsp rfl) ?_) | refine popN rfl ?_ | (refine yG rfl rfl ?_ ?_ <;> intro hb <;> subst hb)) | refine AWp.seq ?_ | refine reg (by kernel_rfl) ?_ | refine lexE ?_))
    ((refine AWp.cond rfl (fun hb => ?_) (fun hb => ?_) <;> cases hb); all_goals try (simp at _hb; done))
    (repeat (first | (refine popO rfl ?_; first | (refine gA rfl ?_; first | refine yLm rfl rfl ?_ | ((first | refine yQ (md := false) rfl ?_ ?_ | refine yL rfl rfl (by assumption) rfl rfl ?_ ?_ | refine yT rfl rfl (by assumption) rfl ?_ ?_); (first | exact True.intro | omega | (simp only [oZ] at *; omega))) | (refine yB rfl ?_; intro _ _hb) | refine yU (sl := true) rfl ?_ | refine yM rfl rfl (by assumption) rfl rfl rfl ?_ | refine yV rfl rfl rfl rfl (by assumption) rfl rfl rfl rfl ?_ | refine gS (fun _ _ => q_build rfl rfl (by rfl) (by rfl)) ?_) | refine popN rfl ?_ | (refine yG rfl rfl ?_ ?_ <;> intro hb <;> subst hb)) | refine AWp.seq ?_ | refine reg (by kernel_rfl) ?_ | refine lexE ?_))
    refine AWp.settle [(6, .o (.ip [.l [], .l []])), (7, eB false)] ⟨⟨_, rfl, .o (.box rfl (.cons .d (.cons .d .nil)))⟩, ⟨_, rfl, .o .d⟩, trivial⟩ ?_
    refine AWp.ret ⟨_, rfl, rfl⟩
  · have hsuf := splitO_suf hs
    have hvw : wordOn (lsB al) v ∧ v.length ≤ 20000 := by
      obtain ⟨p, _, rfl⟩ := hsuf
      exact ⟨fun c hc => hw c (by simp [hc]), by simp at hwl; omega⟩
    have hac := addColumn_ok (TB := TB) t v (by omega) (by omega)
    rw [hs] at hsp
    rcases ha : addC t v with _ | u
    · have hn : stepO L (lsB al) t w = none := by unfold stepO; rw [hs]; simp [ha]
      rw [hn]
      rw [ha] at hac
      refine SpecK.toSpec (SpecK.ofM 2 (Nat.le_refl _) Tryz.func31 rfl rfl (by kernel_rfl) (Nat.le_of_ble_eq_true rfl) ?_); intro Γ hΓ
      (repeat (first | (refine popO rfl ?_; first | (refine gA rfl ?_; first | refine yLm rfl rfl ?_ | ((first | refine yQ (md := false) rfl ?_ ?_ | refine yL rfl rfl (by assumption) rfl rfl ?_ ?_ | refine yT rfl rfl (by assumption) rfl ?_ ?_); (first | exact True.intro | omega | (simp only [oZ] at *; omega))) | (refine yB rfl ?_; intro _ _hb) | refine yU (sl := true) rfl ?_ | refine yM rfl rfl (by assumption) rfl rfl rfl ?_ | refine yV rfl rfl rfl rfl (by assumption) rfl rfl rfl rfl ?_ ) | refine popN rfl ?_ | (refine yG rfl rfl ?_ ?_ <;> intro hb <;> subst hb)) | refine AWp.seq ?_ | refine reg (by kernel_rfl) ?_ | refine lexE ?_))
      (refine popO rfl ?_; refine popW ?_ rfl (by rfl); refine n_box rfl rfl ?_)
      (refine popO rfl ?_; refine popW ?_ rfl (by rfl); refine n_box rfl rfl ?_)
      (repeat (first | (refine popO rfl ?_; first | (refine gA rfl ?_; first | refine yLm rfl rfl ?_ | ((first | refine yQ (md := false) rfl ?_ ?_ | refine yL rfl rfl (by assumption) rfl rfl ?_ ?_ | refine yT rfl rfl (by assumption) rfl ?_ ?_); (first | exact True.intro | omega | (simp only [oZ] at *; omega))) | (refine yB rfl ?_; intro _ _hb) | refine yU (sl := true) rfl ?_ | refine yM rfl rfl (by assumption) rfl rfl rfl ?_ | refine yV rfl rfl rfl rfl (by assumption) rfl rfl rfl rfl ?_ ) | refine popN rfl ?_ | (refine yG rfl rfl ?_ ?_ <;> intro hb <;> subst hb)) | refine AWp.seq ?_ | refine reg (by kernel_rfl) ?_ | refine lexE ?_))
      (repeat (first | (refine popO rfl ?_; first | (refine gA rfl ?_; first | refine yLm rfl rfl ?_ | ((first | refine yQ (md := false) rfl ?_ ?_ | refine yL rfl rfl (by assumption) rfl rfl ?_ ?_ | refine yT rfl rfl (by assumption) rfl ?_ ?_); (first | exact True.intro | omega | (simp only [oZ] at *; omega))) | (refine yB rfl ?_; intro _ _hb) | refine yU (sl := true) rfl ?_ | refine yM rfl rfl (by assumption) rfl rfl rfl ?_ | refine yV rfl rfl rfl rfl (by assumption) rfl rfl rfl rfl ?_ | refine gS (fun _ _ => q_call rfl rfl hpu1 hsp rfl) ?_) | refine popN rfl ?_ | (refine yG rfl rfl ?_ ?_ <;> intro hb <;> subst hb)) | refine AWp.seq ?_ | refine reg (by kernel_rfl) ?_ | refine lexE ?_))
      ((refine AWp.cond rfl (fun hb => ?_) (fun hb => ?_) <;> cases hb); all_goals try (simp at _hb; done))
      refine AWp.skip ?_
      (repeat (first | (refine popO rfl ?_; first | (refine gA rfl ?_; first | refine yLm rfl rfl ?_ | ((first | refine yQ (md := false) rfl ?_ ?_ | refine yL rfl rfl (by assumption) rfl rfl ?_ ?_ | refine yT rfl rfl (by assumption) rfl ?_ ?_); (first | exact True.intro | omega | (simp only [oZ] at *; omega))) | (refine yB rfl ?_; intro _ _hb) | refine yU (sl := true) rfl ?_ | refine yM rfl rfl (by assumption) rfl rfl rfl ?_ | refine yV rfl rfl rfl rfl (by assumption) rfl rfl rfl rfl ?_ | refine yP rfl rfl rfl (hac) rfl ?_ ) | refine popN rfl ?_ | (refine yG rfl rfl ?_ ?_ <;> intro hb <;> subst hb)) | refine AWp.seq ?_ | refine reg (by kernel_rfl) ?_ | refine lexE ?_))
      ((refine AWp.cond rfl (fun hb => ?_) (fun hb => ?_) <;> cases hb); all_goals try (simp at _hb; done))
      (repeat (first | (refine popO rfl ?_; first | (refine gA rfl ?_; first | refine yLm rfl rfl ?_ | ((first | refine yQ (md := false) rfl ?_ ?_ | refine yL rfl rfl (by assumption) rfl rfl ?_ ?_ | refine yT rfl rfl (by assumption) rfl ?_ ?_); (first | exact True.intro | omega | (simp only [oZ] at *; omega))) | (refine yB rfl ?_; intro _ _hb) | refine yU (sl := true) rfl ?_ | refine yM rfl rfl (by assumption) rfl rfl rfl ?_ | refine yV rfl rfl rfl rfl (by assumption) rfl rfl rfl rfl ?_ | refine gS (fun _ _ => q_build rfl rfl (by rfl) (by rfl)) ?_) | refine popN rfl ?_ | (refine yG rfl rfl ?_ ?_ <;> intro hb <;> subst hb)) | refine AWp.seq ?_ | refine reg (by kernel_rfl) ?_ | refine lexE ?_))
      refine AWp.settle [(6, .o (.ip [.l [], .l []])), (7, eB false)] ⟨⟨_, rfl, .o (.box rfl (.cons .d (.cons .d .nil)))⟩, ⟨_, rfl, .o .d⟩, trivial⟩ ?_
      refine AWp.ret ⟨_, rfl, rfl⟩
    · have hu := addC_bd ht hvw.1 hvw.2 ha
      have hct := closeTable_ok (TB := TB) hc al u hf hu
      have hpu2 : ([eOra al c, eTab u].all E.pur && C.purL []) = true := by simp [E.pur, C.purL, C.pur, hc.pur]
      have hn : stepO L (lsB al) t w = closeN L (lsB al) 13 u := by unfold stepO; rw [hs]; simp [ha]
      rw [hn]
      rw [ha] at hac
      rcases hcn : closeN L (lsB al) 13 u with _ | x
      · rw [hcn] at hct
        refine SpecK.toSpec (SpecK.ofM 2 (Nat.le_refl _) Tryz.func31 rfl rfl (by kernel_rfl) (Nat.le_of_ble_eq_true rfl) ?_); intro Γ hΓ
        (repeat (first | (refine popO rfl ?_; first | (refine gA rfl ?_; first | refine yLm rfl rfl ?_ | ((first | refine yQ (md := false) rfl ?_ ?_ | refine yL rfl rfl (by assumption) rfl rfl ?_ ?_ | refine yT rfl rfl (by assumption) rfl ?_ ?_); (first | exact True.intro | omega | (simp only [oZ] at *; omega))) | (refine yB rfl ?_; intro _ _hb) | refine yU (sl := true) rfl ?_ | refine yM rfl rfl (by assumption) rfl rfl rfl ?_ | refine yV rfl rfl rfl rfl (by assumption) rfl rfl rfl rfl ?_ ) | refine popN rfl ?_ | (refine yG rfl rfl ?_ ?_ <;> intro hb <;> subst hb)) | refine AWp.seq ?_ | refine reg (by kernel_rfl) ?_ | refine lexE ?_))
        (refine popO rfl ?_; refine popW ?_ rfl (by rfl); refine n_box rfl rfl ?_)
        (refine popO rfl ?_; refine popW ?_ rfl (by rfl); refine n_box rfl rfl ?_)
        (repeat (first | (refine popO rfl ?_; first | (refine gA rfl ?_; first | refine yLm rfl rfl ?_ | ((first | refine yQ (md := false) rfl ?_ ?_ | refine yL rfl rfl (by assumption) rfl rfl ?_ ?_ | refine yT rfl rfl (by assumption) rfl ?_ ?_); (first | exact True.intro | omega | (simp only [oZ] at *; omega))) | (refine yB rfl ?_; intro _ _hb) | refine yU (sl := true) rfl ?_ | refine yM rfl rfl (by assumption) rfl rfl rfl ?_ | refine yV rfl rfl rfl rfl (by assumption) rfl rfl rfl rfl ?_ ) | refine popN rfl ?_ | (refine yG rfl rfl ?_ ?_ <;> intro hb <;> subst hb)) | refine AWp.seq ?_ | refine reg (by kernel_rfl) ?_ | refine lexE ?_))
        (repeat (first | (refine popO rfl ?_; first | (refine gA rfl ?_; first | refine yLm rfl rfl ?_ | ((first | refine yQ (md := false) rfl ?_ ?_ | refine yL rfl rfl (by assumption) rfl rfl ?_ ?_ | refine yT rfl rfl (by assumption) rfl ?_ ?_); (first | exact True.intro | omega | (simp only [oZ] at *; omega))) | (refine yB rfl ?_; intro _ _hb) | refine yU (sl := true) rfl ?_ | refine yM rfl rfl (by assumption) rfl rfl rfl ?_ | refine yV rfl rfl rfl rfl (by assumption) rfl rfl rfl rfl ?_ | refine gS (fun _ _ => q_call rfl rfl hpu1 hsp rfl) ?_) | refine popN rfl ?_ | (refine yG rfl rfl ?_ ?_ <;> intro hb <;> subst hb)) | refine AWp.seq ?_ | refine reg (by kernel_rfl) ?_ | refine lexE ?_))
        ((refine AWp.cond rfl (fun hb => ?_) (fun hb => ?_) <;> cases hb); all_goals try (simp at _hb; done))
        refine AWp.skip ?_
        (repeat (first | (refine popO rfl ?_; first | (refine gA rfl ?_; first | refine yLm rfl rfl ?_ | ((first | refine yQ (md := false) rfl ?_ ?_ | refine yL rfl rfl (by assumption) rfl rfl ?_ ?_ | refine yT rfl rfl (by assumption) rfl ?_ ?_); (first | exact True.intro | omega | (simp only [oZ] at *; omega))) | (refine yB rfl ?_; intro _ _hb) | refine yU (sl := true) rfl ?_ | refine yM rfl rfl (by assumption) rfl rfl rfl ?_ | refine yV rfl rfl rfl rfl (by assumption) rfl rfl rfl rfl ?_ | refine yP rfl rfl rfl (hac) rfl ?_ ) | refine popN rfl ?_ | (refine yG rfl rfl ?_ ?_ <;> intro hb <;> subst hb)) | refine AWp.seq ?_ | refine reg (by kernel_rfl) ?_ | refine lexE ?_))
        ((refine AWp.cond rfl (fun hb => ?_) (fun hb => ?_) <;> cases hb); all_goals try (simp at _hb; done))
        refine AWp.skip ?_
        (repeat (first | (refine popO rfl ?_; first | (refine gA rfl ?_; first | refine yLm rfl rfl ?_ | ((first | refine yQ (md := false) rfl ?_ ?_ | refine yL rfl rfl (by assumption) rfl rfl ?_ ?_ | refine yT rfl rfl (by assumption) rfl ?_ ?_); (first | exact True.intro | omega | (simp only [oZ] at *; omega))) | (refine yB rfl ?_; intro _ _hb) | refine yU (sl := true) rfl ?_ | refine yM rfl rfl (by assumption) rfl rfl rfl ?_ | refine yV rfl rfl rfl rfl (by assumption) rfl rfl rfl rfl ?_ | refine gS (fun _ _ => q_call rfl rfl hpu2 hct rfl) ?_) | refine popN rfl ?_ | (refine yG rfl rfl ?_ ?_ <;> intro hb <;> subst hb)) | refine AWp.seq ?_ | refine reg (by kernel_rfl) ?_ | refine lexE ?_))
        refine AWp.settle [(6, .o (.ip [.l [], .l []])), (7, eB false)] ⟨⟨_, rfl, .o (.box rfl (.cons .d (.cons .d .nil)))⟩, ⟨_, rfl, .o .d⟩, trivial⟩ ?_
        refine AWp.ret ⟨_, rfl, rfl⟩
      · rw [hcn] at hct
        refine SpecK.toSpec (SpecK.ofM 2 (Nat.le_refl _) Tryz.func31 rfl rfl (by kernel_rfl) (Nat.le_of_ble_eq_true rfl) ?_); intro Γ hΓ
        (repeat (first | (refine popO rfl ?_; first | (refine gA rfl ?_; first | refine yLm rfl rfl ?_ | ((first | refine yQ (md := false) rfl ?_ ?_ | refine yL rfl rfl (by assumption) rfl rfl ?_ ?_ | refine yT rfl rfl (by assumption) rfl ?_ ?_); (first | exact True.intro | omega | (simp only [oZ] at *; omega))) | (refine yB rfl ?_; intro _ _hb) | refine yU (sl := true) rfl ?_ | refine yM rfl rfl (by assumption) rfl rfl rfl ?_ | refine yV rfl rfl rfl rfl (by assumption) rfl rfl rfl rfl ?_ ) | refine popN rfl ?_ | (refine yG rfl rfl ?_ ?_ <;> intro hb <;> subst hb)) | refine AWp.seq ?_ | refine reg (by kernel_rfl) ?_ | refine lexE ?_))
        (refine popO rfl ?_; refine popW ?_ rfl (by rfl); refine n_box rfl rfl ?_)
        (refine popO rfl ?_; refine popW ?_ rfl (by rfl); refine n_box rfl rfl ?_)
        (repeat (first | (refine popO rfl ?_; first | (refine gA rfl ?_; first | refine yLm rfl rfl ?_ | ((first | refine yQ (md := false) rfl ?_ ?_ | refine yL rfl rfl (by assumption) rfl rfl ?_ ?_ | refine yT rfl rfl (by assumption) rfl ?_ ?_); (first | exact True.intro | omega | (simp only [oZ] at *; omega))) | (refine yB rfl ?_; intro _ _hb) | refine yU (sl := true) rfl ?_ | refine yM rfl rfl (by assumption) rfl rfl rfl ?_ | refine yV rfl rfl rfl rfl (by assumption) rfl rfl rfl rfl ?_ ) | refine popN rfl ?_ | (refine yG rfl rfl ?_ ?_ <;> intro hb <;> subst hb)) | refine AWp.seq ?_ | refine reg (by kernel_rfl) ?_ | refine lexE ?_))
        (repeat (first | (refine popO rfl ?_; first | (refine gA rfl ?_; first | refine yLm rfl rfl ?_ | ((first | refine yQ (md := false) rfl ?_ ?_ | refine yL rfl rfl (by assumption) rfl rfl ?_ ?_ | refine yT rfl rfl (by assumption) rfl ?_ ?_); (first | exact True.intro | omega | (simp only [oZ] at *; omega))) | (refine yB rfl ?_; intro _ _hb) | refine yU (sl := true) rfl ?_ | refine yM rfl rfl (by assumption) rfl rfl rfl ?_ | refine yV rfl rfl rfl rfl (by assumption) rfl rfl rfl rfl ?_ | refine gS (fun _ _ => q_call rfl rfl hpu1 hsp rfl) ?_) | refine popN rfl ?_ | (refine yG rfl rfl ?_ ?_ <;> intro hb <;> subst hb)) | refine AWp.seq ?_ | refine reg (by kernel_rfl) ?_ | refine lexE ?_))
        ((refine AWp.cond rfl (fun hb => ?_) (fun hb => ?_) <;> cases hb); all_goals try (simp at _hb; done))
        refine AWp.skip ?_
        (repeat (first | (refine popO rfl ?_; first | (refine gA rfl ?_; first | refine yLm rfl rfl ?_ | ((first | refine yQ (md := false) rfl ?_ ?_ | refine yL rfl rfl (by assumption) rfl rfl ?_ ?_ | refine yT rfl rfl (by assumption) rfl ?_ ?_); (first | exact True.intro | omega | (simp only [oZ] at *; omega))) | (refine yB rfl ?_; intro _ _hb) | refine yU (sl := true) rfl ?_ | refine yM rfl rfl (by assumption) rfl rfl rfl ?_ | refine yV rfl rfl rfl rfl (by assumption) rfl rfl rfl rfl ?_ | refine yP rfl rfl rfl (hac) rfl ?_ ) | refine popN rfl ?_ | (refine yG rfl rfl ?_ ?_ <;> intro hb <;> subst hb)) | refine AWp.seq ?_ | refine reg (by kernel_rfl) ?_ | refine lexE ?_))
        ((refine AWp.cond rfl (fun hb => ?_) (fun hb => ?_) <;> cases hb); all_goals try (simp at _hb; done))
        refine AWp.skip ?_
        (repeat (first | (refine popO rfl ?_; first | (refine gA rfl ?_; first | refine yLm rfl rfl ?_ | ((first | refine yQ (md := false) rfl ?_ ?_ | refine yL rfl rfl (by assumption) rfl rfl ?_ ?_ | refine yT rfl rfl (by assumption) rfl ?_ ?_); (first | exact True.intro | omega | (simp only [oZ] at *; omega))) | (refine yB rfl ?_; intro _ _hb) | refine yU (sl := true) rfl ?_ | refine yM rfl rfl (by assumption) rfl rfl rfl ?_ | refine yV rfl rfl rfl rfl (by assumption) rfl rfl rfl rfl ?_ | refine gS (fun _ _ => q_call rfl rfl hpu2 hct rfl) ?_) | refine popN rfl ?_ | (refine yG rfl rfl ?_ ?_ <;> intro hb <;> subst hb)) | refine AWp.seq ?_ | refine reg (by kernel_rfl) ?_ | refine lexE ?_))
        refine AWp.settle [(6, .o (.ip [tList x.rows, tList x.cols])), (7, eB true)] ⟨⟨_, rfl, .o (.box rfl (.cons .d (.cons .d .nil)))⟩, ⟨_, rfl, .o .d⟩, trivial⟩ ?_
        refine AWp.ret ⟨_, rfl, rfl⟩
end Go.Am
/-
  What a call hands back: each result a slot or a cell, of the call's own or laid down for good.
-/
namespace Go.Am
open Go
set_option linter.unusedVariables false

def xE1 : Bool × List C → Option E
  | (false, [c]) => some (.o c)
  | (true, cs) => some (.a cs)
  | _ => none
/-- What a cell holds: n cells from an address on. -/
def cellO (f : Env) (σ : Store) (t : Tmp) (ag : Bool) (n : Nat) : Option (Bool × List C) := match f t with
  | some (.o (.d (.p cs))) => match Nat.ble n cs.length with
    | true => some (ag, (cs.take n).map .d)
    | false => none
  | some (.o (.ptr id k i j)) => match look σ id with
    | some (.cells _ k' rows) => match Nat.beq k k', nth rows i with
      | true, some r => match Nat.ble (j + n) r.length with
        | true => some (ag, (r.drop j).take n)
        | false => none
      | _, _ => none
    | _ => none
  | _ => none
def resC (T : List (Nat × TI)) (f : Env) (σ : Store) : ResultVar → Option (Bool × List C)
  | .tmp t => match f t with
    | some e => oneT e
    | none => none
  | .cell t T' => match (tyi T T').ld with
    | some (true, n) => cellO f σ t true n
    | some (false, 1) => cellO f σ t false 1
    | _ => none
def resL (T : List (Nat × TI)) (f : Env) (σ : Store) : List ResultVar → Option (List (Bool × List C))
  | [] => some []
  | r :: rs => match resC T f σ r, resL T f σ rs with
    | some x, some xs => some (x :: xs)
    | _, _ => none
def resG (T : List (Nat × TI)) (rs : Array ResultVar) (f : Env) (σ : Store) : Option E := match rs.toList with
  | [] => some (.t [])
  | [r] => match resC T f σ r with
    | some x => xE1 x
    | none => none
  | rs => match rs.length, resL T f σ rs with
    | 2, some xs => some (.t xs)
    | 3, some xs => some (.t xs)
    | 4, some xs => some (.t xs)
    | _, _ => none
def RetQG (T : List (Nat × TI)) (rs : Array ResultVar) (post : E → Store → Nat → Prop) : Exit → Env → Store → Nat → Prop
  | .ret, f, σ, nx | .normal, f, σ, nx => ∃ x, resG T rs f σ = some x ∧ post x σ nx
  | _, _, _, _ => False
section
variable {P : Program} {TB : List (Nat × Obj)} {Γ : Ctx} {σ : Store}
theorem cellO_run {V : View} {f : Env} {a : Act} {t : Tmp} {T' : TypeId} {ag : Bool} {n : Nat} {x : Bool × List C} (hi : Inv TB Γ V σ) (hl : HasLd P T' ag n) (h1n : ag = false → n = 1) (hE : EnvRel V f a.tmps) (h : cellO f σ t ag n = some x) :
    ∃ v, ((do loadVar T' (← asAddr (a.tmps.getD t undef))) : Sem Value).run P V.w = .ok v V.w ∧ TRel V x v := by
  -- the cells, one by one
  have key : ∃ (b o : Nat) (cs : List C) (vs : Nat → Value), a.tmps.getD t undef = .pointer (some ⟨b, o, none⟩) ∧ x = (ag, cs) ∧ cs.length = n ∧ ∀ (q : Nat) (c : C), cs[q]? = some c → V.w.cell? ⟨b, o + q, none⟩ = some (vs q) ∧ CRel V c (vs q) := by
    unfold cellO at h
    split at h
    · rename_i ds hf
      split at h
      · rename_i hn
        have hn := Nat.le_of_ble_eq_true hn
        injection h with h
        subst h
        have h3 : CRel V (.d (.p ds)) (a.tmps.getD t undef) := hE t _ hf
        generalize a.tmps.getD t undef = v0 at h3
        obtain ⟨h3⟩ := h3
        cases h3 with
        | @p _ b o vs hb h1 h2 =>
          refine ⟨b, o, _, vs, rfl, rfl, by simp; omega, fun q c hq => ?_⟩
          rw [List.getElem?_map, Option.map_eq_some_iff] at hq
          obtain ⟨dd, hd, rfl⟩ := hq
          rw [List.getElem?_take] at hd
          split at hd
          · exact ⟨h1 q dd hd, .d (h2 q dd hd)⟩
          · cases hd
      · cases h
    · rename_i id k i j hf
      split at h
      · rename_i T0 k' rows ho
        split at h
        · rename_i r hk hr
          have hk := Nat.eq_of_beq_eq_true hk
          subst hk
          split at h
          · rename_i hn
            have hn := Nat.le_of_ble_eq_true hn
            injection h with h
            subst h
            rw [nth_get] at hr
            have h3 : CRel V (.ptr id k i j) (a.tmps.getD t undef) := hE t _ hf
            generalize a.tmps.getD t undef = v0 at h3
            cases h3 with
            | ptr hid hnl =>
              rcases hi.st.obj id _ ho with ⟨h4, _⟩ | ⟨_, cur, h4, h5, h6, h7, h8, h9⟩
              · exact absurd h4 hnl
              · refine ⟨V.ρ id, i * k + j, _, fun q => cur.getD (i * k + j + q) undef, rfl, rfl, by simp; omega, fun q c hq => ?_⟩
                rw [List.getElem?_take] at hq
                split at hq
                · rw [List.getElem?_drop] at hq
                  obtain ⟨v, h10, h11⟩ := h9 i r (j + q) c hr hq
                  rw [← Nat.add_assoc] at h10
                  have e : cur.getD (i * k + j + q) undef = v := by simp [h10]
                  dsimp only
                  rw [e]
                  exact ⟨by simp [World.cell?, h4, h10], h11⟩
                · cases hq
          · cases h
        · cases h
      · cases h
    · cases h
  obtain ⟨b, o, cs, vs, hv, rfl, hlen, hc⟩ := key
  rw [hv]
  cases ag with
  | false =>
    have hn1 := h1n rfl
    subst hn1
    match cs, hlen with
    | [c], _ =>
      obtain ⟨h1, h2⟩ := hc 0 c rfl
      refine ⟨vs 0, ?_, c, rfl, h2⟩
      rw [Nat.add_zero] at h1
      simp [asAddr, loadVar, (run_isAgg hl.out V.w).1, h1, go_sem]
  | true =>
    refine ⟨.agg ((List.range n).map fun q => vs q).toArray, ?_, _, rfl, by simp [hlen], fun j c v hj hvv => ?_⟩
    · have : (loadCells ⟨b, o, none⟩ n).run P V.w = .ok ((List.range n).map fun q => vs q).toArray V.w := run_loadCells V.w _ n _ fun q hq => by
        rw [addr_add]
        exact (hc q cs[q] (List.getElem?_eq_getElem (by omega))).1
      unfold loadCells at this
      simp [asAddr, loadVar, (run_isAgg hl.out V.w).1, (run_isAgg hl.out V.w).2, this, go_sem]
    · have hq : j < n := by have := (List.getElem?_eq_some_iff.1 hj).1; omega
      have : v = vs j := by simpa [hq] using hvv.symm
      subst this
      exact (hc j c hj).2
theorem resC_run [hT : HasT P] {V : View} {f : Env} {a : Act} {r : ResultVar} {x : Bool × List C} (hi : Inv TB Γ V σ) (hE : EnvRel V f a.tmps) (h : resC hT.T f σ r = some x) :
    ∃ v, ((match r with
      | .tmp t => pure (a.tmps.getD t undef)
      | .cell b t => do loadVar t (← asAddr (a.tmps.getD b undef))) : Sem Value).run P V.w = .ok v V.w ∧ TRel V x v := by
  have hty := fun t => tyi_ok (P := P) t hT.ok
  unfold resC at h
  split at h
  · rename_i t
    split at h
    · rename_i e he
      exact ⟨_, by simp [go_sem], oneT_rel h (hE t e he)⟩
    · cases h
  · rename_i t T'
    split at h
    · rename_i n hl
      exact cellO_run hi ((hty T').hasLd hl) (fun h => (by cases h)) hE h
    · rename_i hl
      exact cellO_run hi ((hty T').hasLd hl) (fun _ => rfl) hE h
    · cases h
theorem xE1_rel {V : View} {x : Bool × List C} {e : E} {v : Value} (h : xE1 x = some e) (hr : TRel V x v) : ERel V e v := by
  unfold xE1 at h
  split at h
  · injection h with h; subst h
    obtain ⟨c, h1, h2⟩ := hr
    simp at h1; subst h1; exact h2
  · injection h with h; subst h; exact hr
  · cases h
theorem resG_run [hT : HasT P] {fn : Func} {V : View} {f : Env} {a : Act} {x : E} (hi : Inv TB Γ V σ) (hE : EnvRel V f a.tmps) (h : resG hT.T fn.results f σ = some x) : ∃ v, (results fn a.tmps).run P V.w = .ok v V.w ∧ ERel V x v := by
  obtain ⟨F, hF, hFr⟩ : ∃ F : ResultVar → Sem Value, results fn a.tmps = (do let vs ← fn.results.mapM F; pure (if h : vs.size = 1 then vs[0] else .tuple vs)) ∧ ∀ r x, resC hT.T f σ r = some x → ∃ v, (F r).run P V.w = .ok v V.w ∧ TRel V x v :=
    ⟨fun r => match r with
      | .tmp t => pure (a.tmps.getD t undef)
      | .cell b t => do loadVar t (← asAddr (a.tmps.getD b undef)), rfl, fun r x hr => resC_run hi hE hr⟩
  have two : ∀ {r : ResultVar} {rs : List ResultVar} {xs : List (Bool × List C)}, resL hT.T f σ (r :: rs) = some xs → ∃ y ys, xs = y :: ys ∧ resC hT.T f σ r = some y ∧ resL hT.T f σ rs = some ys := by
    intro r rs xs h
    unfold resL at h
    split at h
    · rename_i y ys h1 h2
      injection h with h; subst h; exact ⟨y, ys, rfl, h1, h2⟩
    · cases h
  have nil : ∀ {xs : List (Bool × List C)}, resL hT.T f σ [] = some xs → xs = [] := fun h => by injection h with h; exact h.symm
  have key : ∀ l : List ResultVar, fn.results = l.toArray → resG hT.T l.toArray f σ = some x → ∃ v, (results fn a.tmps).run P V.w = .ok v V.w ∧ ERel V x v := by
    intro l hll h
    rw [hF, hll]
    unfold resG at h
    simp only at h
    match l with
    | [] =>
      injection h with h; subst h
      exact ⟨.tuple #[], by simp [go_sem], #[], rfl, rfl, fun j x v hj => by simp at hj⟩
    | [r] =>
      simp only at h
      split at h
      · rename_i y hy
        obtain ⟨v, h1, h2⟩ := hFr r y hy
        exact ⟨v, by simp [h1, go_sem], xE1_rel h h2⟩
      · cases h
    | [r1, r2] =>
      simp only [List.length_cons, List.length_nil] at h
      split at h
      · rename_i xs _ hx
        injection h with h; subst h
        obtain ⟨y1, ys, rfl, h1, hx⟩ := two hx
        obtain ⟨y2, ys, rfl, h2, hx⟩ := two hx
        have := nil hx; subst this
        obtain ⟨v1, e1, t1⟩ := hFr _ _ h1
        obtain ⟨v2, e2, t2⟩ := hFr _ _ h2
        refine ⟨.tuple #[v1, v2], by simp [e1, e2, go_sem], _, rfl, rfl, fun j x v' hj hv => ?_⟩
        match j with
        | 0 => simp at hj hv; subst hj; subst hv; exact t1
        | 1 => simp at hj hv; subst hj; subst hv; exact t2
        | j + 2 => simp at hj
      · omega
      · omega
      · cases h
    | [r1, r2, r3] =>
      simp only [List.length_cons, List.length_nil] at h
      split at h
      · omega
      · rename_i xs _ hx
        injection h with h; subst h
        obtain ⟨y1, ys, rfl, h1, hx⟩ := two hx
        obtain ⟨y2, ys, rfl, h2, hx⟩ := two hx
        obtain ⟨y3, ys, rfl, h3, hx⟩ := two hx
        have := nil hx; subst this
        obtain ⟨v1, e1, t1⟩ := hFr _ _ h1
        obtain ⟨v2, e2, t2⟩ := hFr _ _ h2
        obtain ⟨v3, e3, t3⟩ := hFr _ _ h3
        refine ⟨.tuple #[v1, v2, v3], by simp [e1, e2, e3, go_sem], _, rfl, rfl, fun j x v' hj hv => ?_⟩
        match j with
        | 0 => simp at hj hv; subst hj; subst hv; exact t1
        | 1 => simp at hj hv; subst hj; subst hv; exact t2
        | 2 => simp at hj hv; subst hj; subst hv; exact t3
        | j + 3 => simp at hj
      · omega
      · cases h
    | [r1, r2, r3, r4] =>
      simp only [List.length_cons, List.length_nil] at h
      split at h
      · omega
      · omega
      · rename_i xs _ hx
        injection h with h; subst h
        obtain ⟨y1, ys, rfl, h1, hx⟩ := two hx
        obtain ⟨y2, ys, rfl, h2, hx⟩ := two hx
        obtain ⟨y3, ys, rfl, h3, hx⟩ := two hx
        obtain ⟨y4, ys, rfl, h4, hx⟩ := two hx
        have := nil hx; subst this
        obtain ⟨v1, e1, t1⟩ := hFr _ _ h1
        obtain ⟨v2, e2, t2⟩ := hFr _ _ h2
        obtain ⟨v3, e3, t3⟩ := hFr _ _ h3
        obtain ⟨v4, e4, t4⟩ := hFr _ _ h4
        refine ⟨.tuple #[v1, v2, v3, v4], by simp [e1, e2, e3, e4, go_sem], _, rfl, rfl, fun j x v' hj hv => ?_⟩
        match j with
        | 0 => simp at hj hv; subst hj; subst hv; exact t1
        | 1 => simp at hj hv; subst hj; subst hv; exact t2
        | 2 => simp at hj hv; subst hj; subst hv; exact t3
        | 3 => simp at hj hv; subst hj; subst hv; exact t4
        | j + 4 => simp at hj
      · cases h
    | _ :: _ :: _ :: _ :: _ :: _ =>
      simp only [List.length_cons] at h
      cases h
  exact key fn.results.toList (by simp) (by simpa using h)
theorem SpecK.ofG [hT : HasT P] {g : FuncId} {fn : Func} {c : Code} {m : Nat} {σ : Store} {nx : Nat} {args : List E} {post : E → Store → Nat → Prop} (hm : m ≤ nx) (hf : P.funcs[g]? = some fn) (hb : fn.body = some c) (hname : (fn.name == "runtime.NumGoroutine") = false)
    (hargs : args.length ≤ fn.ntmps) (h : ∀ Γ : Ctx, Γ.V.nx = m → AWp P TB Γ fn.ntmps c (RetQG hT.T fn.results post) (look (argsFrom 0 args)) σ nx) : SpecK P TB g m σ nx args post := by
  refine ⟨⟨fn, hf, hname, by rw [hb]; rfl⟩, ?_⟩
  intro V vs hg ha
  refine calls_of_wp hf hb ?_
  have hs : vs.size ≤ fn.ntmps := by rw [ha.1]; exact hargs
  have hi : Inv TB ⟨lowV V m, Foot V σ⟩ V σ :=
    ⟨rfl, rfl, rfl, fun _ _ _ => rfl, hg.iLt, fun _ h => .inl h, low_ext (by rw [hg.nx]; exact hm), hg.st, fun id o ho hnl => .inr ⟨id, o, ho, hnl, rfl⟩, hg.tabs⟩
  have hr : RelSt TB ⟨lowV V m, Foot V σ⟩ fn.ntmps V (look (argsFrom 0 args)) σ nx { tmps := vs ++ Array.replicate (fn.ntmps - vs.size) undef, defers := [] } := by
    refine ⟨?_, ?_, by simp; omega, hi, hg.nx, rfl⟩
    · intro t e he
      obtain ⟨_, h2⟩ := argsFrom_look args 0 t e he
      have h2 : args[t]? = some e := by simpa using h2
      have hlt : t < vs.size := by rw [ha.1]; exact (List.getElem?_eq_some_iff.1 h2).1
      have h3 := ha.2 t e vs[t] h2 (Array.getElem?_eq_getElem hlt)
      simpa [Array.getElem?_append_left hlt, hlt] using h3
    · intro t e he
      obtain ⟨_, h2⟩ := argsFrom_look args 0 t e he
      have h2 : args[t]? = some e := by simpa using h2
      have := (List.getElem?_eq_some_iff.1 h2).1
      omega
  refine wp_mono (h ⟨lowV V m, Foot V σ⟩ rfl V _ hr) ?_
  rintro e a' w' ⟨V', f', σ', rfl, hq, hr'⟩
  have fin : (∃ x, resG hT.T fn.results f' σ' = some x ∧ post x σ' V'.nx) → a'.defers = [] ∧ ∃ v, (results fn a'.tmps).run P V'.w = .ok v V'.w ∧ ∃ V'' v' x σ'', Ending.returned v = .returned v' ∧ V''.w = V'.w ∧ Inv TB ⟨lowV V m, Foot V σ⟩ V'' σ'' ∧ ERel V'' x v' ∧ post x σ'' V''.nx := by
    rintro ⟨x, hx, hp⟩
    obtain ⟨v, hv, he⟩ := resG_run (P := P) hr'.inv hr'.env hx
    exact ⟨hr'.defers, v, hv, V', v, x, σ', rfl, rfl, hr'.inv, he, hp⟩
  cases e with
  | normal => exact fin hq
  | ret => exact fin hq
  | exit id => exact hq.elim
  | goto l => exact hq.elim
  | panic ch => exact hq.elim
  | outgrown => exact hq.elim
end
end Go.Am
/-
  A known automaton's oracle; learning, walked.
-/
namespace Go.Am
open Go Go.Proofs
attribute [local irreducible] QOp AOp Lex LexO AWp Spec
variable {TB : List (Nat × Obj)}

abbrev teE (kn : Bool) (p : Aut) (s : Sys) (q : Aut) (al : Int) : E := .a ((teRow kn p s q al).map .d)
theorem teacherKnown_ok (p : Aut) (s : Sys) (q : Aut) (al : Int) : Pure Tryz.prog TB 45 [teE true p s q al] (eI .i64 (if autOk p then p.al else -1)) := by
  refine Spec.of Tryz.func45 rfl (by kernel_rfl) (Nat.le_of_ble_eq_true rfl) ?_; intro Γ hΓ
  (repeat' (first | (first | (refine popO rfl ?_; first | (refine gA rfl ?_; first | refine yLm rfl rfl ?_ | ((first | refine yQ (md := false) rfl ?_ ?_ | refine yL rfl rfl (by assumption) rfl rfl ?_ ?_ | refine yT rfl rfl (by assumption) rfl ?_ ?_); (first | exact True.intro | omega | (simp only [oZ] at *; omega))) | (refine yB rfl ?_; intro _ _hb) | refine yU (sl := true) rfl ?_ | refine yM rfl rfl (by assumption) rfl rfl rfl ?_ | refine yV rfl rfl rfl rfl (by assumption) rfl rfl rfl rfl ?_ | (refine yC rfl rfl rfl (implAutomatonValid_ok p) ?_; intro _ _hb) ) | refine popN rfl ?_ | (refine yG rfl rfl ?_ ?_ <;> intro hb <;> subst hb)) | refine AWp.seq ?_ | refine reg (by kernel_rfl) ?_ | refine lexE ?_ | refine regD (flN []) mixed (by kernel_rfl) (by kernel_rfl) ?_) | (refine AWp.cond rfl (fun hb => ?_) (fun hb => ?_) <;> cases hb) | refine AWp.skip ?_ | refine AWp.exit ?_ | refine AWp.block ?_ | refine AWp.ret ⟨_, rfl, ?_⟩))
  all_goals first
    | (show E.o _ = E.o _; congr; grind)
    | (exfalso; simp at *; done)
abbrev askC (kn : Bool) (p : Aut) (s : Sys) (q : Aut) (al : Int) : C := .fn 47 [.ip [.l (tblD p)], .ip (teRow kn p s q al)]
theorem ask1_V {p : Aut} (hp : autOk p = true) (s : Sys) (q : Aut) (al : Int) (kn : Bool) : AskV Tryz.prog TB (askC kn p s q al) (LA p) (fun w => wordOn (lsB p.al) w ∧ w.length ≤ 1048576) :=
  .of rfl fun w hw => ask1_ok hp s q al kn w hw.1 hw.2
theorem fits_known (p : Aut) : OkFits (fun w => wordOn (lsB p.al) w ∧ w.length ≤ 1048576) p.al := fun w h1 h2 => ⟨h1, by omega⟩
theorem newOracleK_ok {p : Aut} (hp : autOk p = true) (s : Sys) (q : Aut) (al : Int) : Pure Tryz.prog TB 27 [teE true p s q al] (.t [(true, [.d (iD p.al), askC true p s q al]), (false, [.d (bD true)])]) := by
  have hT := teacherKnown_ok (TB := TB) p s q al
  rw [if_pos hp] at hT
  have h0 := autOk_head hp
  have ha := h0.1
  unfold alphB at ha
  simp only [decide_eq_true_eq] at ha
  have htb := tableOf_ok (TB := TB) p hp
  refine SpecK.toSpec (SpecK.ofG (Nat.le_refl _) Tryz.func27 rfl (by kernel_rfl) (Nat.le_of_ble_eq_true rfl) ?_); intro Γ hΓ
  (repeat (first | (refine popO rfl ?_; first | (refine gA rfl ?_; first | refine yLm rfl rfl ?_ | ((first | refine yQ (md := false) rfl ?_ ?_ | refine yL rfl rfl (by assumption) rfl rfl ?_ ?_ | refine yT rfl rfl (by assumption) rfl ?_ ?_); (first | exact True.intro | omega | (simp only [oZ] at *; omega))) | (refine yB rfl ?_; intro _ _hb) | refine yU (sl := true) rfl ?_ | refine yM rfl rfl (by assumption) rfl rfl rfl ?_ | refine yV rfl rfl rfl rfl (by assumption) rfl rfl rfl rfl ?_ | refine yP rfl rfl rfl (hT) rfl ?_ ) | refine popN rfl ?_ | (refine yG rfl rfl ?_ ?_ <;> intro hb <;> subst hb)) | refine AWp.seq ?_ | refine reg (by kernel_rfl) ?_ | refine lexE ?_))
  refine AWp.block ?_
  (repeat (first | (refine popO rfl ?_; first | (refine gA rfl ?_; first | refine yLm rfl rfl ?_ | ((first | refine yQ (md := false) rfl ?_ ?_ | refine yL rfl rfl (by assumption) rfl rfl ?_ ?_ | refine yT rfl rfl (by assumption) rfl ?_ ?_); (first | exact True.intro | omega | (simp only [oZ] at *; omega))) | (refine yB rfl ?_; intro _ _hb) | refine yU (sl := true) rfl ?_ | refine yM rfl rfl (by assumption) rfl rfl rfl ?_ | refine yV rfl rfl rfl rfl (by assumption) rfl rfl rfl rfl ?_ ) | refine popN rfl ?_ | (refine yG rfl rfl ?_ ?_ <;> intro hb <;> subst hb)) | refine AWp.seq ?_ | refine reg (by kernel_rfl) ?_ | refine lexE ?_))
  ((refine AWp.cond rfl (fun hb => ?_) (fun hb => ?_) <;> cases hb); all_goals try (simp at _hb; done))
  · exfalso; first | omega | (simp only [oZ] at *; omega)
  · (repeat (first | (refine popO rfl ?_; first | (refine gA rfl ?_; first | refine yLm rfl rfl ?_ | ((first | refine yQ (md := false) rfl ?_ ?_ | refine yL rfl rfl (by assumption) rfl rfl ?_ ?_ | refine yT rfl rfl (by assumption) rfl ?_ ?_); (first | exact True.intro | omega | (simp only [oZ] at *; omega))) | (refine yB rfl ?_; intro _ _hb) | refine yU (sl := true) rfl ?_ | refine yM rfl rfl (by assumption) rfl rfl rfl ?_ | refine yV rfl rfl rfl rfl (by assumption) rfl rfl rfl rfl ?_ ) | refine popN rfl ?_ | (refine yG rfl rfl ?_ ?_ <;> intro hb <;> subst hb)) | refine AWp.seq ?_ | refine reg (by kernel_rfl) ?_ | refine lexE ?_))
    ((refine AWp.cond rfl (fun hb => ?_) (fun hb => ?_) <;> cases hb); all_goals try (simp at _hb; done))
    refine AWp.seq ?_
    refine reg (by kernel_rfl) ?_; (repeat (first | (refine popO rfl ?_; first | (refine gA rfl ?_; first | refine yLm rfl rfl ?_ | ((first | refine yQ (md := false) rfl ?_ ?_ | refine yL rfl rfl (by assumption) rfl rfl ?_ ?_ | refine yT rfl rfl (by assumption) rfl ?_ ?_); (first | exact True.intro | omega | (simp only [oZ] at *; omega))) | (refine yB rfl ?_; intro _ _hb) | refine yU (sl := true) rfl ?_ | refine yM rfl rfl (by assumption) rfl rfl rfl ?_ | refine yV rfl rfl rfl rfl (by assumption) rfl rfl rfl rfl ?_ | refine yP rfl rfl rfl (htb) rfl ?_ ) | refine popN rfl ?_ | (refine yG rfl rfl ?_ ?_ <;> intro hb <;> subst hb)))); refine lexE ?_
    refine AWp.seq ?_
    refine AWp.freezeV [1] [1, 2, 3, 4] rfl [(5, .o (.ip [.l (tblD p)]))] ⟨⟨_, rfl, .o (.ptr (by simp) rfl rfl rfl)⟩, trivial⟩ ?_; try dsimp only [List.cons_append, List.nil_append]
    (repeat (first | (refine popO rfl ?_; first | (refine gA rfl ?_; first | refine yLm rfl rfl ?_ | ((first | refine yQ (md := false) rfl ?_ ?_ | refine yL rfl rfl (by assumption) rfl rfl ?_ ?_ | refine yT rfl rfl (by assumption) rfl ?_ ?_); (first | exact True.intro | omega | (simp only [oZ] at *; omega))) | (refine yB rfl ?_; intro _ _hb) | refine yU (sl := true) rfl ?_ | refine yM rfl rfl (by assumption) rfl rfl rfl ?_ | refine yV rfl rfl rfl rfl (by assumption) rfl rfl rfl rfl ?_ | refine gS (fun _ _ => q_build rfl rfl (by rfl) (by rfl)) ?_) | refine popN rfl ?_ | (refine yG rfl rfl ?_ ?_ <;> intro hb <;> subst hb)) | refine AWp.seq ?_ | refine reg (by kernel_rfl) ?_ | refine lexE ?_))
    refine AWp.ret ⟨_, rfl, rfl⟩
theorem newOracleK_no {p : Aut} (hp : autOk p = false) (s : Sys) (q : Aut) (al : Int) : Pure Tryz.prog TB 27 [teE true p s q al] (.t [(true, [.d (iD 0), .d (.v .nilFunc)]), (false, [.d (bD false)])]) := by
  have hT := teacherKnown_ok (TB := TB) p s q al
  rw [if_neg (by simp [hp])] at hT
  refine SpecK.toSpec (SpecK.ofG (Nat.le_refl _) Tryz.func27 rfl (by kernel_rfl) (Nat.le_of_ble_eq_true rfl) ?_); intro Γ hΓ
  (repeat (first | (refine popO rfl ?_; first | (refine gA rfl ?_; first | refine yLm rfl rfl ?_ | ((first | refine yQ (md := false) rfl ?_ ?_ | refine yL rfl rfl (by assumption) rfl rfl ?_ ?_ | refine yT rfl rfl (by assumption) rfl ?_ ?_); (first | exact True.intro | omega | (simp only [oZ] at *; omega))) | (refine yB rfl ?_; intro _ _hb) | refine yU (sl := true) rfl ?_ | refine yM rfl rfl (by assumption) rfl rfl rfl ?_ | refine yV rfl rfl rfl rfl (by assumption) rfl rfl rfl rfl ?_ | refine yP rfl rfl rfl (hT) rfl ?_ ) | refine popN rfl ?_ | (refine yG rfl rfl ?_ ?_ <;> intro hb <;> subst hb)) | refine AWp.seq ?_ | refine reg (by kernel_rfl) ?_ | refine lexE ?_))
  refine AWp.block ?_
  (repeat (first | (refine popO rfl ?_; first | (refine gA rfl ?_; first | refine yLm rfl rfl ?_ | ((first | refine yQ (md := false) rfl ?_ ?_ | refine yL rfl rfl (by assumption) rfl rfl ?_ ?_ | refine yT rfl rfl (by assumption) rfl ?_ ?_); (first | exact True.intro | omega | (simp only [oZ] at *; omega))) | (refine yB rfl ?_; intro _ _hb) | refine yU (sl := true) rfl ?_ | refine yM rfl rfl (by assumption) rfl rfl rfl ?_ | refine yV rfl rfl rfl rfl (by assumption) rfl rfl rfl rfl ?_ ) | refine popN rfl ?_ | (refine yG rfl rfl ?_ ?_ <;> intro hb <;> subst hb)) | refine AWp.seq ?_ | refine reg (by kernel_rfl) ?_ | refine lexE ?_))
  ((refine AWp.cond rfl (fun hb => ?_) (fun hb => ?_) <;> cases hb); all_goals try (simp at _hb; done))
  · (repeat (first | (refine popO rfl ?_; first | (refine gA rfl ?_; first | refine yLm rfl rfl ?_ | ((first | refine yQ (md := false) rfl ?_ ?_ | refine yL rfl rfl (by assumption) rfl rfl ?_ ?_ | refine yT rfl rfl (by assumption) rfl ?_ ?_); (first | exact True.intro | omega | (simp only [oZ] at *; omega))) | (refine yB rfl ?_; intro _ _hb) | refine yU (sl := true) rfl ?_ | refine yM rfl rfl (by assumption) rfl rfl rfl ?_ | refine yV rfl rfl rfl rfl (by assumption) rfl rfl rfl rfl ?_ | refine gS (fun _ _ => q_build rfl rfl (by rfl) (by rfl)) ?_) | refine popN rfl ?_ | (refine yG rfl rfl ?_ ?_ <;> intro hb <;> subst hb)) | refine AWp.seq ?_ | refine reg (by kernel_rfl) ?_ | refine lexE ?_))
    refine AWp.ret ⟨_, rfl, rfl⟩
end Go.Am
/-
  Learning, walked: no one is told of the proposals.
-/
namespace Go.Am
open Go Go.Proofs
attribute [local irreducible] QOp AOp Lex LexO AWp Spec
variable {TB : List (Nat × Obj)}

abbrev sys0 : Sys := ⟨0, 0, []⟩
abbrev autE : Aut := ⟨0, [], []⟩
theorem Closed.open_no {L : W → Bool} {ls : List UInt8} {t : Tab} (h : Closed L ls t) : openW L ls t = none := List.find?_eq_none.2 fun w hw => by
  unfold nextsB at hw
  simp only [List.mem_flatMap, List.mem_map] at hw
  obtain ⟨r, hr, l, hl, rfl⟩ := hw
  simpa using h.cl r hr l hl
theorem tabK_bd {p : Aut} (hp : autOk p = true) {k : Nat} (hk : k ≤ lastK p) : TBd p.al 20000 (tabK p k) := by
  obtain ⟨h1, h2, h3, h4, h5⟩ := tabK_ok hp k hk
  have h6 := (lastK_ok hp).1
  refine ⟨fun w hw => ⟨h1.onR w hw, ?_⟩, fun x hx => ⟨h1.onC x hx, by have := h5 x hx; omega⟩, h3, by omega⟩
  obtain ⟨i, hi, he⟩ := List.getElem_of_mem hw
  have := h1.toTOk.short i w (by rw [List.getElem?_eq_getElem hi, he])
  omega
theorem stepO_next {L : W → Bool} {ls : List UInt8} {t t' : Tab} {w v : W} (h : Next L ls t w v t') (hd : accM L t w ≠ L w) (hc : t.cols.length < 20) : stepO L ls t w = some t' := by
  unfold stepO splitO
  rw [if_neg hd, h.split]
  simp only [Option.bind_some]
  unfold addC
  rw [if_neg (by intro he; rcases he with he | he; omega; exact h.new he)]
  exact h.close
noncomputable def learnT (p : Aut) : Tab := if autOk p then tabK p (lastK p) else ⟨[], []⟩
noncomputable def learnN (p : Aut) : Int := if autOk p then (lastK p : Int) + 1 else 0
theorem learn0_ok (p : Aut) : Pure Tryz.prog TB 15 [eAut p, .o (.d (.v .nilFunc))] (.t [(true, [.d (tList (learnT p).rows), .d (tList (learnT p).cols)]), (false, [.d (iD (learnN p))])]) := by
  by_cases hp : autOk p = true
  · have hno := newOracleK_ok (TB := TB) hp sys0 autE 0
    have hV := ask1_V (TB := TB) hp sys0 autE 0 true
    have hf := fits_known p
    have hnt := newTable_ok (TB := TB) hV p.al hf
    rw [(tabZ_ok hp).1] at hnt
    have hLT : learnT p = tabK p (lastK p) := by unfold learnT; rw [if_pos hp]
    have hLN : learnN p = (lastK p : Int) + 1 := by unfold learnN; rw [if_pos hp]
    rw [hLT, hLN]
    have hl12 := (lastK_ok hp).1
    refine SpecK.toSpec (SpecK.ofG (Nat.le_refl _) Tryz.func15 rfl (by kernel_rfl) (Nat.le_of_ble_eq_true rfl) ?_); intro Γ hΓ
    (repeat (first | (refine popO rfl ?_; first | (refine gA rfl ?_; first | refine yLm rfl rfl ?_ | ((first | refine yQ (md := false) rfl ?_ ?_ | refine yL rfl rfl (by assumption) rfl rfl ?_ ?_ | refine yT rfl rfl (by assumption) rfl ?_ ?_); (first | exact True.intro | omega | (simp only [oZ] at *; omega))) | (refine yB rfl ?_; intro _ _hb) | refine yU (sl := true) rfl ?_ | refine yM rfl rfl (by assumption) rfl rfl rfl ?_ | refine yV rfl rfl rfl rfl (by assumption) rfl rfl rfl rfl ?_ | refine yP rfl rfl rfl (hno) rfl ?_ | refine gS (fun _ _ => q_build rfl rfl (by rfl) (by rfl)) ?_) | refine popN rfl ?_ | (refine yG rfl rfl ?_ ?_ <;> intro hb <;> subst hb)) | refine AWp.seq ?_ | refine reg (by kernel_rfl) ?_ | refine lexE ?_))
    ((refine AWp.cond rfl (fun hb => ?_) (fun hb => ?_) <;> cases hb); all_goals try (simp at _hb; done))
    refine AWp.skip ?_
    (repeat (first | (refine popO rfl ?_; first | (refine gA rfl ?_; first | refine yLm rfl rfl ?_ | ((first | refine yQ (md := false) rfl ?_ ?_ | refine yL rfl rfl (by assumption) rfl rfl ?_ ?_ | refine yT rfl rfl (by assumption) rfl ?_ ?_); (first | exact True.intro | omega | (simp only [oZ] at *; omega))) | (refine yB rfl ?_; intro _ _hb) | refine yU (sl := true) rfl ?_ | refine yM rfl rfl (by assumption) rfl rfl rfl ?_ | refine yV rfl rfl rfl rfl (by assumption) rfl rfl rfl rfl ?_ | refine yP rfl rfl rfl (hnt) rfl ?_ ) | refine popN rfl ?_ | (refine yG rfl rfl ?_ ?_ <;> intro hb <;> subst hb)) | refine AWp.seq ?_ | refine reg (by kernel_rfl) ?_ | refine lexE ?_))
    refine AWp.block ?_
    refine AWp.loopV (α := {k : Nat // k ≤ lastK p}) [1, 2, 4, 6, 8] [0, 1] rfl rfl (fun ⟨k, hk⟩ => [(10, eI .i64 ((k : Int) + 1))]) (fun ⟨k, hk⟩ => [(2, .cells 37 2 [[.d (tList (tabK p k).rows), .d (tList (tabK p k).cols)]])]) 3 (fun ⟨k, hk⟩ => lastK p - k) (⟨0, by omega⟩) (List.range 3) (by first | (simp [hΓ]; done) | (rw [hΓ]; decide)) (by (repeat' (first | exact trivial | rfl | refine And.intro ?_ ?_)) <;> (simp [EnvSub, StoreSub, look_cons, nm, nmo, E.ren, C.ren, C.renL, O.ren, Store.ren, killc, kill0, killL, kill, fillC, spliceC, eC, Function.comp_def, argsFrom, zC, hΓ] <;> rfl)) ?_; rintro ⟨k, hk⟩; try dsimp only [List.cons_append, List.nil_append]
    obtain ⟨h1, h2, h3, h4, h5⟩ := tabK_ok hp k hk
    have hbd := tabK_bd hp hk
    have hau := automaton_ok (TB := TB) hV p.al (tabK p k) hf (hbd.mono (by omega)) h1.open_no
    have hdf := implDifferOf_ok (TB := TB) (autM (LA p) p.al (tabK p k)) p
    refine AWp.seq (AWp.block ?_)
    by_cases hlt : k < lastK p
    · obtain ⟨w, v, hw, hN⟩ := tabK_step hp hlt
      have hwd := hw
      unfold wrD at hwd
      obtain ⟨u, hu, hut⟩ := Option.map_eq_some_iff.1 hwd
      obtain ⟨hon, hne⟩ := (wrD_ok p).on _ w hw h1
      have hsh := wrD_short hw
      have hls := learnStep_ok (TB := TB) hV p.al (tabK p k) hf hbd (autOk_head hp).1 h1 h1.open_no w hon (by omega)
      rw [stepO_next hN hne (by omega)] at hls
      rw [hu] at hdf
      rw [← hut] at hls
      (repeat (first | (refine popO rfl ?_; first | (refine gA rfl ?_; first | refine yLm rfl rfl ?_ | ((first | refine yQ (md := false) rfl ?_ ?_ | refine yL rfl rfl (by assumption) rfl rfl ?_ ?_ | refine yT rfl rfl (by assumption) rfl ?_ ?_); (first | exact True.intro | omega | (simp only [oZ] at *; omega))) | (refine yB rfl ?_; intro _ _hb) | refine yU (sl := true) rfl ?_ | refine yM rfl rfl (by assumption) rfl rfl rfl ?_ | refine yV rfl rfl rfl rfl (by assumption) rfl rfl rfl rfl ?_ | refine yP rfl rfl rfl (hau) rfl ?_ ) | refine popN rfl ?_ | (refine yG rfl rfl ?_ ?_ <;> intro hb <;> subst hb)) | refine AWp.seq ?_ | refine reg (by kernel_rfl) ?_ | refine lexE ?_))
      (repeat (first | (refine popO rfl ?_; first | (refine gA rfl ?_; first | refine yLm rfl rfl ?_ | ((first | refine yQ (md := false) rfl ?_ ?_ | refine yL rfl rfl (by assumption) rfl rfl ?_ ?_ | refine yT rfl rfl (by assumption) rfl ?_ ?_); (first | exact True.intro | omega | (simp only [oZ] at *; omega))) | (refine yB rfl ?_; intro _ _hb) | refine yU (sl := true) rfl ?_ | refine yM rfl rfl (by assumption) rfl rfl rfl ?_ | refine yV rfl rfl rfl rfl (by assumption) rfl rfl rfl rfl ?_ | refine gS (fun _ _ => q_neNil rfl rfl) ?_) | refine popN rfl ?_ | (refine yG rfl rfl ?_ ?_ <;> intro hb <;> subst hb)) | refine AWp.seq ?_ | refine reg (by kernel_rfl) ?_ | refine lexE ?_))
      ((refine AWp.cond rfl (fun hb => ?_) (fun hb => ?_) <;> cases hb); all_goals try (simp at _hb; done))
      refine AWp.skip ?_
      (repeat (first | (refine popO rfl ?_; first | (refine gA rfl ?_; first | refine yLm rfl rfl ?_ | ((first | refine yQ (md := false) rfl ?_ ?_ | refine yL rfl rfl (by assumption) rfl rfl ?_ ?_ | refine yT rfl rfl (by assumption) rfl ?_ ?_); (first | exact True.intro | omega | (simp only [oZ] at *; omega))) | (refine yB rfl ?_; intro _ _hb) | refine yU (sl := true) rfl ?_ | refine yM rfl rfl (by assumption) rfl rfl rfl ?_ | refine yV rfl rfl rfl rfl (by assumption) rfl rfl rfl rfl ?_ | refine yP rfl rfl rfl (hdf) rfl ?_ ) | refine popN rfl ?_ | (refine yG rfl rfl ?_ ?_ <;> intro hb <;> subst hb)) | refine AWp.seq ?_ | refine reg (by kernel_rfl) ?_ | refine lexE ?_))
      ((refine AWp.cond rfl (fun hb => ?_) (fun hb => ?_) <;> cases hb); all_goals try (simp at _hb; done))
      refine AWp.skip ?_
      (repeat (first | (refine popO rfl ?_; first | (refine gA rfl ?_; first | refine yLm rfl rfl ?_ | ((first | refine yQ (md := false) rfl ?_ ?_ | refine yL rfl rfl (by assumption) rfl rfl ?_ ?_ | refine yT rfl rfl (by assumption) rfl ?_ ?_); (first | exact True.intro | omega | (simp only [oZ] at *; omega))) | (refine yB rfl ?_; intro _ _hb) | refine yU (sl := true) rfl ?_ | refine yM rfl rfl (by assumption) rfl rfl rfl ?_ | refine yV rfl rfl rfl rfl (by assumption) rfl rfl rfl rfl ?_ | refine yP rfl rfl rfl (hls) rfl ?_ ) | refine popN rfl ?_ | (refine yG rfl rfl ?_ ?_ <;> intro hb <;> subst hb)) | refine AWp.seq ?_ | refine reg (by kernel_rfl) ?_ | refine lexE ?_))
      refine ⟨⟨k + 1, by first | omega | (simp only [oZ] at *; omega)⟩, by dsimp only; (first | omega | (simp only [oZ] at *; omega)), [0, 1, 2], ?_⟩
      simp [EnvSub, StoreSub, look_cons, nm, nmo, E.ren, C.ren, C.renL, O.ren, Store.ren, killc, kill0, killL, kill, fillC, spliceC, eC, Function.comp_def, argsFrom, zC, hΓ]
    · obtain rfl : k = lastK p := by omega
      have hwd := (lastK_ok hp).2.1
      unfold wrD at hwd
      rw [Option.map_eq_none_iff.1 hwd] at hdf
      (repeat (first | (refine popO rfl ?_; first | (refine gA rfl ?_; first | refine yLm rfl rfl ?_ | ((first | refine yQ (md := false) rfl ?_ ?_ | refine yL rfl rfl (by assumption) rfl rfl ?_ ?_ | refine yT rfl rfl (by assumption) rfl ?_ ?_); (first | exact True.intro | omega | (simp only [oZ] at *; omega))) | (refine yB rfl ?_; intro _ _hb) | refine yU (sl := true) rfl ?_ | refine yM rfl rfl (by assumption) rfl rfl rfl ?_ | refine yV rfl rfl rfl rfl (by assumption) rfl rfl rfl rfl ?_ | refine yP rfl rfl rfl (hau) rfl ?_ ) | refine popN rfl ?_ | (refine yG rfl rfl ?_ ?_ <;> intro hb <;> subst hb)) | refine AWp.seq ?_ | refine reg (by kernel_rfl) ?_ | refine lexE ?_))
      (repeat (first | (refine popO rfl ?_; first | (refine gA rfl ?_; first | refine yLm rfl rfl ?_ | ((first | refine yQ (md := false) rfl ?_ ?_ | refine yL rfl rfl (by assumption) rfl rfl ?_ ?_ | refine yT rfl rfl (by assumption) rfl ?_ ?_); (first | exact True.intro | omega | (simp only [oZ] at *; omega))) | (refine yB rfl ?_; intro _ _hb) | refine yU (sl := true) rfl ?_ | refine yM rfl rfl (by assumption) rfl rfl rfl ?_ | refine yV rfl rfl rfl rfl (by assumption) rfl rfl rfl rfl ?_ | refine gS (fun _ _ => q_neNil rfl rfl) ?_) | refine popN rfl ?_ | (refine yG rfl rfl ?_ ?_ <;> intro hb <;> subst hb)) | refine AWp.seq ?_ | refine reg (by kernel_rfl) ?_ | refine lexE ?_))
      ((refine AWp.cond rfl (fun hb => ?_) (fun hb => ?_) <;> cases hb); all_goals try (simp at _hb; done))
      refine AWp.skip ?_
      (repeat (first | (refine popO rfl ?_; first | (refine gA rfl ?_; first | refine yLm rfl rfl ?_ | ((first | refine yQ (md := false) rfl ?_ ?_ | refine yL rfl rfl (by assumption) rfl rfl ?_ ?_ | refine yT rfl rfl (by assumption) rfl ?_ ?_); (first | exact True.intro | omega | (simp only [oZ] at *; omega))) | (refine yB rfl ?_; intro _ _hb) | refine yU (sl := true) rfl ?_ | refine yM rfl rfl (by assumption) rfl rfl rfl ?_ | refine yV rfl rfl rfl rfl (by assumption) rfl rfl rfl rfl ?_ | refine yP rfl rfl rfl (hdf) rfl ?_ ) | refine popN rfl ?_ | (refine yG rfl rfl ?_ ?_ <;> intro hb <;> subst hb)) | refine AWp.seq ?_ | refine reg (by kernel_rfl) ?_ | refine lexE ?_))
      ((refine AWp.cond rfl (fun hb => ?_) (fun hb => ?_) <;> cases hb); all_goals try (simp at _hb; done))
      (repeat (first | (refine popO rfl ?_; first | (refine gA rfl ?_; first | refine yLm rfl rfl ?_ | ((first | refine yQ (md := false) rfl ?_ ?_ | refine yL rfl rfl (by assumption) rfl rfl ?_ ?_ | refine yT rfl rfl (by assumption) rfl ?_ ?_); (first | exact True.intro | omega | (simp only [oZ] at *; omega))) | (refine yB rfl ?_; intro _ _hb) | refine yU (sl := true) rfl ?_ | refine yM rfl rfl (by assumption) rfl rfl rfl ?_ | refine yV rfl rfl rfl rfl (by assumption) rfl rfl rfl rfl ?_ ) | refine popN rfl ?_ | (refine yG rfl rfl ?_ ?_ <;> intro hb <;> subst hb)) | refine AWp.seq ?_ | refine reg (by kernel_rfl) ?_ | refine lexE ?_))
      refine AWp.ret ⟨_, rfl, rfl⟩
  · have hLT : learnT p = ⟨[], []⟩ := by unfold learnT; rw [if_neg hp]
    have hLN : learnN p = 0 := by unfold learnN; rw [if_neg hp]
    rw [hLT, hLN]
    have hno := newOracleK_no (TB := TB) (by simpa using hp) sys0 autE 0
    refine SpecK.toSpec (SpecK.ofG (Nat.le_refl _) Tryz.func15 rfl (by kernel_rfl) (Nat.le_of_ble_eq_true rfl) ?_); intro Γ hΓ
    (repeat (first | (refine popO rfl ?_; first | (refine gA rfl ?_; first | refine yLm rfl rfl ?_ | ((first | refine yQ (md := false) rfl ?_ ?_ | refine yL rfl rfl (by assumption) rfl rfl ?_ ?_ | refine yT rfl rfl (by assumption) rfl ?_ ?_); (first | exact True.intro | omega | (simp only [oZ] at *; omega))) | (refine yB rfl ?_; intro _ _hb) | refine yU (sl := true) rfl ?_ | refine yM rfl rfl (by assumption) rfl rfl rfl ?_ | refine yV rfl rfl rfl rfl (by assumption) rfl rfl rfl rfl ?_ | refine yP rfl rfl rfl (hno) rfl ?_ | refine gS (fun _ _ => q_build rfl rfl (by rfl) (by rfl)) ?_) | refine popN rfl ?_ | (refine yG rfl rfl ?_ ?_ <;> intro hb <;> subst hb)) | refine AWp.seq ?_ | refine reg (by kernel_rfl) ?_ | refine lexE ?_))
    ((refine AWp.cond rfl (fun hb => ?_) (fun hb => ?_) <;> cases hb); all_goals try (simp at _hb; done))
    (repeat (first | (refine popO rfl ?_; first | (refine gA rfl ?_; first | refine yLm rfl rfl ?_ | ((first | refine yQ (md := false) rfl ?_ ?_ | refine yL rfl rfl (by assumption) rfl rfl ?_ ?_ | refine yT rfl rfl (by assumption) rfl ?_ ?_); (first | exact True.intro | omega | (simp only [oZ] at *; omega))) | (refine yB rfl ?_; intro _ _hb) | refine yU (sl := true) rfl ?_ | refine yM rfl rfl (by assumption) rfl rfl rfl ?_ | refine yV rfl rfl rfl rfl (by assumption) rfl rfl rfl rfl ?_ | refine gS (fun _ _ => q_build rfl rfl (by rfl) (by rfl)) ?_) | refine popN rfl ?_ | (refine yG rfl rfl ?_ ?_ <;> intro hb <;> subst hb)) | refine AWp.seq ?_ | refine reg (by kernel_rfl) ?_ | refine lexE ?_))
    refine AWp.ret ⟨_, rfl, rfl⟩
theorem implLearnRounds_ok (p : Aut) : Pure Tryz.prog TB 7 [eAut p] (eI .i64 (learnN p)) := by
  have hl := learn0_ok (TB := TB) p
  refine SpecK.toSpec (SpecK.ofG (Nat.le_refl _) Tryz.func7 rfl (by kernel_rfl) (Nat.le_of_ble_eq_true rfl) ?_); intro Γ hΓ
  (repeat (first | (refine popO rfl ?_; first | (refine gA rfl ?_; first | refine yLm rfl rfl ?_ | ((first | refine yQ (md := false) rfl ?_ ?_ | refine yL rfl rfl (by assumption) rfl rfl ?_ ?_ | refine yT rfl rfl (by assumption) rfl ?_ ?_); (first | exact True.intro | omega | (simp only [oZ] at *; omega))) | (refine yB rfl ?_; intro _ _hb) | refine yU (sl := true) rfl ?_ | refine yM rfl rfl (by assumption) rfl rfl rfl ?_ | refine yV rfl rfl rfl rfl (by assumption) rfl rfl rfl rfl ?_ | refine yP rfl rfl rfl (hl) rfl ?_ ) | refine popN rfl ?_ | (refine yG rfl rfl ?_ ?_ <;> intro hb <;> subst hb)) | refine AWp.seq ?_ | refine reg (by kernel_rfl) ?_ | refine lexE ?_))
  refine AWp.ret ⟨_, rfl, rfl⟩
end Go.Am
