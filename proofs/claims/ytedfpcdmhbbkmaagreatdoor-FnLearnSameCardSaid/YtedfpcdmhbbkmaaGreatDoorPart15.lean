/-
  An automaton as a text, walked: any text that is not too long will do.
-/
import Derived.Test.YtedfpcdmhbbkmaaGreatDoorPart14
import Derived.Test.YtedfpcdmhbbkmaaGreatDoorPart10
import Derived.Test.YtedfpcdmhbbkmaaGreatDoorPart8
set_option linter.constructorNameAsVariable false
set_option linter.unusedSimpArgs false
set_option linter.unusedVariables false
namespace Go.Am
open Go Go.Proofs
set_option maxHeartbeats 1000000
attribute [local irreducible] QOp AOp Lex LexO AWp Spec
variable {TB : List (Nat × Obj)}

theorem FormatAutomaton_ok (a : Aut) : Spec Tryz.prog TB 101 [] 0 [eAut a] (AnyPost (fun r : W => r.length ≤ 1000) eT) := by
  refine SpecK.toSpec (SpecK.ren (SpecK.ofG (Nat.le_refl _) Tryz.func101 rfl (by kernel_rfl) (Nat.le_of_ble_eq_true rfl) ?_));intro Γ hΓ
  (repeat first | refine sN rfl ?_ | ((first|refine sA rfl ?_ ?_|refine s4 rfl ‹_› rfl ?_ ?_);first|exact tI|omega|(simp only[oZ] at *;omega)) | (refine s2 rfl ?_;intro _ _hb) |(refine sC rfl (specAutomatonValid_ok a) ?_;intro _ _hb) | (refine s3 rfl ?_ ?_<;>intro hb<;>subst hb) | refine aS ?_ | refine reg (by kernel_rfl) ?_ | refine lexE ?_)
  (refine aC rfl ?_ ?_<;>intro hb<;>cases hb)
  · (repeat first | refine sN rfl ?_ | ((first|refine sA rfl ?_ ?_|refine s4 rfl ‹_› rfl ?_ ?_);first|exact tI|omega|(simp only[oZ] at *;omega)) | (refine s2 rfl ?_;intro _ _hb) | (refine s3 rfl ?_ ?_<;>intro hb<;>subst hb) | refine aS ?_ | refine reg (by kernel_rfl) ?_ | refine lexE ?_)
    exact AWp.ret ⟨_, rfl, [], eT [], [], ⟨fun i hi => absurd hi (Nat.not_lt_zero i), List.nodup_nil⟩, rfl, trivial, [], Nat.zero_le _, rfl, rfl, rfl⟩
  have hok : autOk a = true := by (simp at _hb; subst _hb; assumption)
  obtain ⟨_, hn1, hn2, hac⟩ := autOk_head hok
  have hla : (letters a.al).length ≤ 6 := lettersTo_len a.al 6
  refine AWp.skip ?_
  (repeat first | refine sN rfl ?_ | ((first|refine sA rfl ?_ ?_|refine s4 rfl ‹_› rfl ?_ ?_);first|exact tI|omega|(simp only[oZ] at *;omega)) | (refine s2 rfl ?_;intro _ _hb) | (refine s3 rfl ?_ ?_<;>intro hb<;>subst hb) | refine aS ?_ | refine reg (by kernel_rfl) ?_ | refine lexE ?_)
  (refine popO rfl ?_;refine popW ?_ rfl (by rfl);refine n_call [] rfl rfl (FormatAlphabet_ok (TB := TB) a.al) ⟨rfl, by decide, by decide⟩ rfl trivial ?_;rintro x0 σ1 nx1 ⟨w0, hw0, rfl, rfl, rfl⟩ _)
  (repeat first | refine sN rfl ?_ | ((first|refine sA rfl ?_ ?_|refine s4 rfl ‹_› rfl ?_ ?_);first|exact tI|omega|(simp only[oZ] at *;omega)) | (refine s2 rfl ?_;intro _ _hb) | (refine s3 rfl ?_ ?_<;>intro hb<;>subst hb) | refine aS ?_ | refine reg (by kernel_rfl) ?_ | refine lexE ?_)
  refine aB ?_
  refine AWp.loopV (α := {z : Nat × W // z.1 ≤ a.nx.length ∧ z.2.length ≤ 6 + 30 * z.1}) [1] [] rfl rfl (fun s => [(3, eT s.1.2), (4, eI .i64 s.1.1)]) (fun s => []) 0 (fun s => a.nx.length - s.1.1) (⟨⟨0, w0⟩, by simp; omega⟩) (List.range 0) (by first | (simp [hΓ]; done) | (rw [hΓ]; decide)) (by (repeat' (first | exact trivial | rfl | refine And.intro ?_ ?_)) <;> (simp [EnvSub, StoreSub, look_cons, nm, nmo, E.ren, C.ren, C.renL, O.ren, Store.ren, killc, kill0, killL, kill, fillC, spliceC, eC, Function.comp_def, argsFrom, zC, hΓ] <;> rfl)) ?_; rintro ⟨⟨k, w⟩, hk, hw⟩; (try dsimp only [List.cons_append, List.nil_append])
  have hk : k ≤ a.nx.length := hk
  have hw : w.length ≤ 6 + 30 * k := hw
  (repeat first | refine sN rfl ?_ | ((first|refine sA rfl ?_ ?_|refine s4 rfl ‹_› rfl ?_ ?_);first|exact tI|omega|(simp only[oZ] at *;omega)) | (refine s2 rfl ?_;intro _ _hb) | (refine s3 rfl ?_ ?_<;>intro hb<;>subst hb) | refine aS ?_ | refine reg (by kernel_rfl) ?_ | refine lexE ?_)
  ((refine aC rfl ?_ ?_<;>intro hb<;>cases hb); all_goals try (simp at _hb; done))
  · have hlt : k < a.nx.length := by first | omega | (simp only [oZ] at *; omega)
    obtain ⟨row, hrow, hrl, hrv⟩ := autOk_row hok hlt
    have hrow' := get_map (g := fun r : List Int => [iList r]) hrow
    obtain ⟨b, hb⟩ := get_some (l := a.ac) (k := k) (by omega)
    have hb' := get_map (g := bRow) hb
    refine AWp.skip ?_
    refine AWp.seq (AWp.block ?_)
    (repeat first | refine sN rfl ?_ | ((first|refine sA rfl ?_ ?_|refine s4 rfl ‹_› rfl ?_ ?_);first|exact tI|omega|(simp only[oZ] at *;omega)) | (refine s2 rfl ?_;intro _ _hb) | (refine s3 rfl ?_ ?_<;>intro hb<;>subst hb) | refine aS ?_ | refine reg (by kernel_rfl) ?_ | refine lexE ?_)
    (refine aC rfl ?_ ?_<;>intro hb<;>cases hb)
    · (repeat first | refine sN rfl ?_ | ((first|refine sA rfl ?_ ?_|refine s4 rfl ‹_› rfl ?_ ?_);first|exact tI|omega|(simp only[oZ] at *;omega)) | (refine s2 rfl ?_;intro _ _hb) | (refine s3 rfl ?_ ?_<;>intro hb<;>subst hb) | refine aS ?_ | refine reg (by kernel_rfl) ?_ | refine lexE ?_)
      refine aB ?_
      refine AWp.loopV (α := {z : Nat × W // z.1 ≤ row.length ∧ z.2.length ≤ 8 + 30 * k + 4 * z.1}) [1, 4] [] rfl rfl (fun s => [(3, eT s.1.2), (6, eI .i64 s.1.1)]) (fun s => []) 0 (fun s => row.length - s.1.1) (⟨⟨0, w ++ [32, 43]⟩, by dsimp only; omega, by simp; omega⟩) (List.range 0) (by first | (simp [hΓ]; done) | (rw [hΓ]; decide)) (by (repeat' (first | exact trivial | rfl | refine And.intro ?_ ?_)) <;> (simp [EnvSub, StoreSub, look_cons, nm, nmo, E.ren, C.ren, C.renL, O.ren, Store.ren, killc, kill0, killL, kill, fillC, spliceC, eC, Function.comp_def, argsFrom, zC, hΓ] <;> rfl)) ?_; rintro ⟨⟨j, v⟩, hj, hv⟩; (try dsimp only [List.cons_append, List.nil_append])
      have hj : j ≤ row.length := hj
      have hv : v.length ≤ 8 + 30 * k + 4 * j := hv
      (repeat first | refine sN rfl ?_ | ((first|refine sA rfl ?_ ?_|refine s4 rfl ‹_› rfl ?_ ?_);first|exact tI|omega|(simp only[oZ] at *;omega)) | (refine s2 rfl ?_;intro _ _hb) | (refine s3 rfl ?_ ?_<;>intro hb<;>subst hb) | refine aS ?_ | refine reg (by kernel_rfl) ?_ | refine lexE ?_)
      ((refine aC rfl ?_ ?_<;>intro hb<;>cases hb); all_goals try (simp at _hb; done))
      · have hjl : j < row.length := by first | omega | (simp only [oZ] at *; omega)
        obtain ⟨x, hx⟩ := get_some (l := row) (k := j) hjl
        have hx' := get_map (g := iRow) hx
        have hxv := hrv j x hx
        have hdec := l19Dec_ok (TB := TB) x (by omega)
        refine AWp.skip ?_
        refine AWp.seq (AWp.block ?_)
        (repeat first | refine sN rfl ?_ | ((first|refine sA rfl ?_ ?_|refine s4 rfl ‹_› rfl ?_ ?_);first|exact tI|omega|(simp only[oZ] at *;omega)) | (refine s2 rfl ?_;intro _ _hb) | (refine s3 rfl ?_ ?_<;>intro hb<;>subst hb) | refine aS ?_ | refine reg (by kernel_rfl) ?_ | refine lexE ?_)
        (refine aC rfl ?_ ?_<;>intro hb<;>cases hb)
        · (repeat first | refine sN rfl ?_ | ((first|refine sA rfl ?_ ?_|refine s4 rfl ‹_› rfl ?_ ?_);first|exact tI|omega|(simp only[oZ] at *;omega)) | (refine s2 rfl ?_;intro _ _hb) | (refine s3 rfl ?_ ?_<;>intro hb<;>subst hb) | refine aS ?_ | refine reg (by kernel_rfl) ?_ | refine lexE ?_)
          (refine popO rfl ?_;refine popW ?_ rfl (by rfl);refine n_call [] rfl rfl (hdec) ⟨rfl, by decide, by decide⟩ rfl trivial ?_;rintro x0 σ1 nx1 ⟨d, hd, rfl, rfl, rfl⟩ _)
          (repeat first | refine sN rfl ?_ | ((first|refine sA rfl ?_ ?_|refine s4 rfl ‹_› rfl ?_ ?_);first|exact tI|omega|(simp only[oZ] at *;omega)) | (refine s2 rfl ?_;intro _ _hb) | (refine s3 rfl ?_ ?_<;>intro hb<;>subst hb) | refine aS ?_ | refine reg (by kernel_rfl) ?_ | refine lexE ?_)
          refine ⟨⟨⟨j + 1, v ++ [44] ++ d⟩, by dsimp only; omega, by simp; omega⟩, by dsimp only; (first | omega | (simp only [oZ] at *; omega)), [], ?_⟩
          (simp [EnvSub, StoreSub, look_cons, nm, nmo, E.ren, C.ren, C.renL, O.ren, Store.ren, killc, kill0, killL, kill, fillC, spliceC, eC, Function.comp_def, argsFrom, zC, hΓ, rawR_ren, cond_eq_ite, Nat.beq_eq] <;> rfl)
        · refine AWp.skip ?_
          (repeat first | refine sN rfl ?_ | ((first|refine sA rfl ?_ ?_|refine s4 rfl ‹_› rfl ?_ ?_);first|exact tI|omega|(simp only[oZ] at *;omega)) | (refine s2 rfl ?_;intro _ _hb) | (refine s3 rfl ?_ ?_<;>intro hb<;>subst hb) | refine aS ?_ | refine reg (by kernel_rfl) ?_ | refine lexE ?_)
          (refine popO rfl ?_;refine popW ?_ rfl (by rfl);refine n_call [] rfl rfl (hdec) ⟨rfl, by decide, by decide⟩ rfl trivial ?_;rintro x0 σ1 nx1 ⟨d, hd, rfl, rfl, rfl⟩ _)
          (repeat first | refine sN rfl ?_ | ((first|refine sA rfl ?_ ?_|refine s4 rfl ‹_› rfl ?_ ?_);first|exact tI|omega|(simp only[oZ] at *;omega)) | (refine s2 rfl ?_;intro _ _hb) | (refine s3 rfl ?_ ?_<;>intro hb<;>subst hb) | refine aS ?_ | refine reg (by kernel_rfl) ?_ | refine lexE ?_)
          refine ⟨⟨⟨j + 1, v ++ d⟩, by dsimp only; omega, by simp; omega⟩, by dsimp only; (first | omega | (simp only [oZ] at *; omega)), [], ?_⟩
          (simp [EnvSub, StoreSub, look_cons, nm, nmo, E.ren, C.ren, C.renL, O.ren, Store.ren, killc, kill0, killL, kill, fillC, spliceC, eC, Function.comp_def, argsFrom, zC, hΓ, rawR_ren, cond_eq_ite, Nat.beq_eq] <;> rfl)
      · refine AWp.exit ?_
        (repeat first | refine sN rfl ?_ | ((first|refine sA rfl ?_ ?_|refine s4 rfl ‹_› rfl ?_ ?_);first|exact tI|omega|(simp only[oZ] at *;omega)) | (refine s2 rfl ?_;intro _ _hb) | (refine s3 rfl ?_ ?_<;>intro hb<;>subst hb) | refine aS ?_ | refine reg (by kernel_rfl) ?_ | refine lexE ?_)
        refine ⟨⟨⟨k + 1, v⟩, by dsimp only; omega, by dsimp only; omega⟩, by dsimp only; (first | omega | (simp only [oZ] at *; omega)), [], ?_⟩
        (simp [EnvSub, StoreSub, look_cons, nm, nmo, E.ren, C.ren, C.renL, O.ren, Store.ren, killc, kill0, killL, kill, fillC, spliceC, eC, Function.comp_def, argsFrom, zC, hΓ, rawR_ren, cond_eq_ite, Nat.beq_eq] <;> rfl)
    · refine AWp.skip ?_
      (repeat first | refine sN rfl ?_ | ((first|refine sA rfl ?_ ?_|refine s4 rfl ‹_› rfl ?_ ?_);first|exact tI|omega|(simp only[oZ] at *;omega)) | (refine s2 rfl ?_;intro _ _hb) | (refine s3 rfl ?_ ?_<;>intro hb<;>subst hb) | refine aS ?_ | refine reg (by kernel_rfl) ?_ | refine lexE ?_)
      refine aB ?_
      refine AWp.loopV (α := {z : Nat × W // z.1 ≤ row.length ∧ z.2.length ≤ 8 + 30 * k + 4 * z.1}) [1, 4] [] rfl rfl (fun s => [(3, eT s.1.2), (6, eI .i64 s.1.1)]) (fun s => []) 0 (fun s => row.length - s.1.1) (⟨⟨0, w ++ [32, 45]⟩, by dsimp only; omega, by simp; omega⟩) (List.range 0) (by first | (simp [hΓ]; done) | (rw [hΓ]; decide)) (by (repeat' (first | exact trivial | rfl | refine And.intro ?_ ?_)) <;> (simp [EnvSub, StoreSub, look_cons, nm, nmo, E.ren, C.ren, C.renL, O.ren, Store.ren, killc, kill0, killL, kill, fillC, spliceC, eC, Function.comp_def, argsFrom, zC, hΓ] <;> rfl)) ?_; rintro ⟨⟨j, v⟩, hj, hv⟩; (try dsimp only [List.cons_append, List.nil_append])
      have hj : j ≤ row.length := hj
      have hv : v.length ≤ 8 + 30 * k + 4 * j := hv
      (repeat first | refine sN rfl ?_ | ((first|refine sA rfl ?_ ?_|refine s4 rfl ‹_› rfl ?_ ?_);first|exact tI|omega|(simp only[oZ] at *;omega)) | (refine s2 rfl ?_;intro _ _hb) | (refine s3 rfl ?_ ?_<;>intro hb<;>subst hb) | refine aS ?_ | refine reg (by kernel_rfl) ?_ | refine lexE ?_)
      ((refine aC rfl ?_ ?_<;>intro hb<;>cases hb); all_goals try (simp at _hb; done))
      · have hjl : j < row.length := by first | omega | (simp only [oZ] at *; omega)
        obtain ⟨x, hx⟩ := get_some (l := row) (k := j) hjl
        have hx' := get_map (g := iRow) hx
        have hxv := hrv j x hx
        have hdec := l19Dec_ok (TB := TB) x (by omega)
        refine AWp.skip ?_
        refine AWp.seq (AWp.block ?_)
        (repeat first | refine sN rfl ?_ | ((first|refine sA rfl ?_ ?_|refine s4 rfl ‹_› rfl ?_ ?_);first|exact tI|omega|(simp only[oZ] at *;omega)) | (refine s2 rfl ?_;intro _ _hb) | (refine s3 rfl ?_ ?_<;>intro hb<;>subst hb) | refine aS ?_ | refine reg (by kernel_rfl) ?_ | refine lexE ?_)
        (refine aC rfl ?_ ?_<;>intro hb<;>cases hb)
        · (repeat first | refine sN rfl ?_ | ((first|refine sA rfl ?_ ?_|refine s4 rfl ‹_› rfl ?_ ?_);first|exact tI|omega|(simp only[oZ] at *;omega)) | (refine s2 rfl ?_;intro _ _hb) | (refine s3 rfl ?_ ?_<;>intro hb<;>subst hb) | refine aS ?_ | refine reg (by kernel_rfl) ?_ | refine lexE ?_)
          (refine popO rfl ?_;refine popW ?_ rfl (by rfl);refine n_call [] rfl rfl (hdec) ⟨rfl, by decide, by decide⟩ rfl trivial ?_;rintro x0 σ1 nx1 ⟨d, hd, rfl, rfl, rfl⟩ _)
          (repeat first | refine sN rfl ?_ | ((first|refine sA rfl ?_ ?_|refine s4 rfl ‹_› rfl ?_ ?_);first|exact tI|omega|(simp only[oZ] at *;omega)) | (refine s2 rfl ?_;intro _ _hb) | (refine s3 rfl ?_ ?_<;>intro hb<;>subst hb) | refine aS ?_ | refine reg (by kernel_rfl) ?_ | refine lexE ?_)
          refine ⟨⟨⟨j + 1, v ++ [44] ++ d⟩, by dsimp only; omega, by simp; omega⟩, by dsimp only; (first | omega | (simp only [oZ] at *; omega)), [], ?_⟩
          (simp [EnvSub, StoreSub, look_cons, nm, nmo, E.ren, C.ren, C.renL, O.ren, Store.ren, killc, kill0, killL, kill, fillC, spliceC, eC, Function.comp_def, argsFrom, zC, hΓ, rawR_ren, cond_eq_ite, Nat.beq_eq] <;> rfl)
        · refine AWp.skip ?_
          (repeat first | refine sN rfl ?_ | ((first|refine sA rfl ?_ ?_|refine s4 rfl ‹_› rfl ?_ ?_);first|exact tI|omega|(simp only[oZ] at *;omega)) | (refine s2 rfl ?_;intro _ _hb) | (refine s3 rfl ?_ ?_<;>intro hb<;>subst hb) | refine aS ?_ | refine reg (by kernel_rfl) ?_ | refine lexE ?_)
          (refine popO rfl ?_;refine popW ?_ rfl (by rfl);refine n_call [] rfl rfl (hdec) ⟨rfl, by decide, by decide⟩ rfl trivial ?_;rintro x0 σ1 nx1 ⟨d, hd, rfl, rfl, rfl⟩ _)
          (repeat first | refine sN rfl ?_ | ((first|refine sA rfl ?_ ?_|refine s4 rfl ‹_› rfl ?_ ?_);first|exact tI|omega|(simp only[oZ] at *;omega)) | (refine s2 rfl ?_;intro _ _hb) | (refine s3 rfl ?_ ?_<;>intro hb<;>subst hb) | refine aS ?_ | refine reg (by kernel_rfl) ?_ | refine lexE ?_)
          refine ⟨⟨⟨j + 1, v ++ d⟩, by dsimp only; omega, by simp; omega⟩, by dsimp only; (first | omega | (simp only [oZ] at *; omega)), [], ?_⟩
          (simp [EnvSub, StoreSub, look_cons, nm, nmo, E.ren, C.ren, C.renL, O.ren, Store.ren, killc, kill0, killL, kill, fillC, spliceC, eC, Function.comp_def, argsFrom, zC, hΓ, rawR_ren, cond_eq_ite, Nat.beq_eq] <;> rfl)
      · refine AWp.exit ?_
        (repeat first | refine sN rfl ?_ | ((first|refine sA rfl ?_ ?_|refine s4 rfl ‹_› rfl ?_ ?_);first|exact tI|omega|(simp only[oZ] at *;omega)) | (refine s2 rfl ?_;intro _ _hb) | (refine s3 rfl ?_ ?_<;>intro hb<;>subst hb) | refine aS ?_ | refine reg (by kernel_rfl) ?_ | refine lexE ?_)
        refine ⟨⟨⟨k + 1, v⟩, by dsimp only; omega, by dsimp only; omega⟩, by dsimp only; (first | omega | (simp only [oZ] at *; omega)), [], ?_⟩
        (simp [EnvSub, StoreSub, look_cons, nm, nmo, E.ren, C.ren, C.renL, O.ren, Store.ren, killc, kill0, killL, kill, fillC, spliceC, eC, Function.comp_def, argsFrom, zC, hΓ, rawR_ren, cond_eq_ite, Nat.beq_eq] <;> rfl)
  · refine AWp.exit ?_
    (repeat first | refine sN rfl ?_ | ((first|refine sA rfl ?_ ?_|refine s4 rfl ‹_› rfl ?_ ?_);first|exact tI|omega|(simp only[oZ] at *;omega)) | (refine s2 rfl ?_;intro _ _hb) | (refine s3 rfl ?_ ?_<;>intro hb<;>subst hb) | refine aS ?_ | refine reg (by kernel_rfl) ?_ | refine lexE ?_)
    exact AWp.ret ⟨_, rfl, [], eT w, [], ⟨fun i hi => absurd hi (Nat.not_lt_zero i), List.nodup_nil⟩, rfl, trivial, w, by show w.length ≤ _; omega, rfl, rfl, rfl⟩
end Go.Am
/-
  A text, read as an automaton: any automaton that is not too big will do.
-/
namespace Go.Am
open Go Go.Proofs
set_option maxHeartbeats 1000000
attribute [local irreducible] QOp AOp Lex LexO AWp Spec
variable {TB : List (Nat × Obj)}

abbrev eAB (r : Aut × Bool) : E := .t [(true, [.d (iD r.1.al), .d (iiList r.1.nx), .d (bList r.1.ac)]), (false, [.d (bD r.2)])]
/-- The rows so far: none, or two arrays of the call's own. -/
def rowsS (n : Int) : List (List Int) → List Bool → Store
  | [], _ => [(1, .cells 26 3 [[.d (iD n), .d (.v (.slice none 0 0)), .d (.v (.slice none 0 0))]])]
  | r :: l, ac => [(1, .cells 26 3 [[.d (iD n), .arr 2 1 0 (l.length + 1), .arr 3 1 0 ac.length]]), (2, .cells 65 1 ((r :: l).map iiRowC)), (3, .cells 4 1 (ac.map bRowC))]
theorem ParseAutomaton_ok (w0 : W) (hs : w0.length ≤ 10000) : Spec Tryz.prog TB 57 [] 0 [eT w0] (AnyPost (fun r : Aut × Bool => ABd (w0.length + 1) r.1) eAB) := by
  have hb0 : ABd (w0.length + 1) ⟨0, [], []⟩ := ⟨Nat.zero_le _, Nat.zero_le _, fun r hr => by cases hr⟩
  refine SpecK.toSpec (SpecK.ren (SpecK.ofG (Nat.le_refl _) Tryz.func57 rfl (by kernel_rfl) (Nat.le_of_ble_eq_true rfl) ?_));intro Γ hΓ
  (repeat first | refine sN rfl ?_ | ((first|refine sA rfl ?_ ?_|refine s4 rfl ‹_› rfl ?_ ?_);first|exact tI|omega|(simp only[oZ] at *;omega)) | (refine s2 rfl ?_;intro _ _hb) | (refine s3 rfl ?_ ?_<;>intro hb<;>subst hb) | refine aS ?_ | refine reg (by kernel_rfl) ?_ | refine lexE ?_)
  (refine popO rfl ?_;refine popW ?_ rfl (by rfl);refine n_call [] rfl rfl (l19Cut_ok (TB := TB) w0 (by omega) 32) ⟨rfl, by decide, by decide⟩ rfl trivial ?_;rintro x0 σ1 nx1 ⟨ps, ⟨hp1, hp2, hp3⟩, rfl, rfl, rfl⟩ _)
  obtain ⟨p0, h0⟩ := get_some (l := ps) (k := (0 : Int).toNat) (by simp; omega)
  have h0' := get_map (g := tRow) h0
  (repeat first | refine sN rfl ?_ | ((first|refine sA rfl ?_ ?_|refine s4 rfl ‹_› rfl ?_ ?_);first|exact tI|omega|(simp only[oZ] at *;omega)) | (refine s2 rfl ?_;intro _ _hb) | (refine s3 rfl ?_ ?_<;>intro hb<;>subst hb) | refine aS ?_ | refine reg (by kernel_rfl) ?_ | refine lexE ?_)
  (refine popO rfl ?_;refine popW ?_ rfl (by rfl);refine n_call [] rfl rfl (ParseAlphabet_ok (TB := TB) p0) ⟨rfl, by decide, by decide⟩ rfl trivial ?_;rintro x0 σ1 nx1 ⟨⟨n, ok⟩, _, rfl, rfl, rfl⟩ _)
  (repeat first | refine sN rfl ?_ | ((first|refine sA rfl ?_ ?_|refine s4 rfl ‹_› rfl ?_ ?_);first|exact tI|omega|(simp only[oZ] at *;omega)) | (refine s2 rfl ?_;intro _ _hb) | (refine s3 rfl ?_ ?_<;>intro hb<;>subst hb) | refine aS ?_ | refine reg (by kernel_rfl) ?_ | refine lexE ?_)
  (refine aC rfl ?_ ?_<;>intro hb<;>cases hb)
  · (repeat first | refine sN rfl ?_ | ((first|refine sA rfl ?_ ?_|refine s4 rfl ‹_› rfl ?_ ?_);first|exact tI|omega|(simp only[oZ] at *;omega)) | (refine s2 rfl ?_;intro _ _hb) | (refine popO rfl ?_;refine gA rfl ?_;first | refine gS (fun _ _ => q_build rfl rfl (by rfl) (by rfl)) ?_) | (refine s3 rfl ?_ ?_<;>intro hb<;>subst hb) | refine aS ?_ | refine reg (by kernel_rfl) ?_ | refine lexE ?_)
    exact AWp.ret ⟨_, rfl, [], eAB (⟨0, [], []⟩, false), [], ⟨fun i hi => absurd hi (Nat.not_lt_zero i), List.nodup_nil⟩, rfl, trivial, (⟨0, [], []⟩, false), hb0, rfl, rfl, rfl⟩
  refine AWp.skip ?_
  by_cases hp9 : ps.length = 1
  · (repeat first | refine sN rfl ?_ | ((first|refine sA rfl ?_ ?_|refine s4 rfl ‹_› rfl ?_ ?_);first|exact tI|omega|(simp only[oZ] at *;omega)) | (refine s2 rfl ?_;intro _ _hb) | (refine popO rfl ?_;refine gA rfl ?_;first | refine gS (fun _ _ => q_build rfl rfl (by rfl) (by rfl)) ?_) | (refine s3 rfl ?_ ?_<;>intro hb<;>subst hb) | refine aS ?_ | refine reg (by kernel_rfl) ?_ | refine lexE ?_)
    refine aB ?_
    refine AWp.loopV (α := {k : Nat // k = 1}) [0, 3] [] rfl rfl (fun s => [(2, .o (.ptr 0 3 0 0)), (4, eTexts ps), (7, .o (.ptr 1 3 0 0)), (8, eI .i64 s.1)]) (fun s => [(0, .cells 26 3 [[.d (iD 0), .d (.l []), .d (.l [])]]), (1, .cells 26 3 [[.d (iD n), .d (.l []), .d (.l [])]])]) 2 (fun s => 0) (⟨1, rfl⟩) (List.range 2) (by first | (simp [hΓ]; done) | (rw [hΓ]; decide)) (by (repeat' (first | exact trivial | rfl | refine And.intro ?_ ?_)) <;> (simp [EnvSub, StoreSub, look_cons, nm, nmo, E.ren, C.ren, C.renL, O.ren, Store.ren, killc, kill0, killL, kill, fillC, spliceC, eC, Function.comp_def, argsFrom, zC, hΓ, rawR_ren, cond_eq_ite, Nat.beq_eq] <;> rfl)) ?_; rintro ⟨k, hk⟩; (try dsimp only [List.cons_append, List.nil_append])
    (repeat first | refine sN rfl ?_ | ((first|refine sA rfl ?_ ?_|refine s4 rfl ‹_› rfl ?_ ?_);first|exact tI|omega|(simp only[oZ] at *;omega)) | (refine s2 rfl ?_;intro _ _hb) | (refine s3 rfl ?_ ?_<;>intro hb<;>subst hb) | refine aS ?_ | refine reg (by kernel_rfl) ?_ | refine lexE ?_)
    ((refine aC rfl ?_ ?_<;>intro hb<;>cases hb); all_goals try (simp at _hb; done))
    · exfalso; first | omega | (simp only [oZ] at *; omega)
    refine AWp.exit ?_
    (repeat first | refine sN rfl ?_ | ((first|refine sA rfl ?_ ?_|refine s4 rfl ‹_› rfl ?_ ?_);first|exact tI|omega|(simp only[oZ] at *;omega)) | (refine s2 rfl ?_;intro _ _hb) | (refine s3 rfl ?_ ?_<;>intro hb<;>subst hb) | refine aS ?_ | refine reg (by kernel_rfl) ?_ | refine lexE ?_)
    (refine popO rfl ?_;refine popW ?_ rfl (by rfl);refine n_call [] rfl rfl (FormatAutomaton_ok (TB := TB) ⟨n, [], []⟩) ⟨rfl, by decide, by decide⟩ rfl trivial ?_;rintro x0 σ1 nx1 ⟨w9, hw9, rfl, rfl, rfl⟩ _)
    (repeat first | refine sN rfl ?_ | ((first|refine sA rfl ?_ ?_|refine s4 rfl ‹_› rfl ?_ ?_);first|exact tI|omega|(simp only[oZ] at *;omega)) | (refine s2 rfl ?_;intro _ _hb) | (refine s3 rfl ?_ ?_<;>intro hb<;>subst hb) | refine aS ?_ | refine reg (by kernel_rfl) ?_ | refine lexE ?_)
    (refine aC rfl ?_ ?_<;>intro hb<;>cases hb)
    · (repeat first | refine sN rfl ?_ | ((first|refine sA rfl ?_ ?_|refine s4 rfl ‹_› rfl ?_ ?_);first|exact tI|omega|(simp only[oZ] at *;omega)) | (refine s2 rfl ?_;intro _ _hb) | (refine popO rfl ?_;refine gA rfl ?_;first | refine gS (fun _ _ => q_build rfl rfl (by rfl) (by rfl)) ?_) | (refine s3 rfl ?_ ?_<;>intro hb<;>subst hb) | refine aS ?_ | refine reg (by kernel_rfl) ?_ | refine lexE ?_)
      exact AWp.ret ⟨_, rfl, [], eAB (⟨0, [], []⟩, false), [], ⟨fun i hi => absurd hi (Nat.not_lt_zero i), List.nodup_nil⟩, rfl, trivial, (⟨0, [], []⟩, false), hb0, rfl, rfl, rfl⟩
    refine AWp.skip ?_
    (repeat first | refine sN rfl ?_ | ((first|refine sA rfl ?_ ?_|refine s4 rfl ‹_› rfl ?_ ?_);first|exact tI|omega|(simp only[oZ] at *;omega)) | (refine s2 rfl ?_;intro _ _hb) | (refine s3 rfl ?_ ?_<;>intro hb<;>subst hb) | refine aS ?_ | refine reg (by kernel_rfl) ?_ | refine lexE ?_)
    exact AWp.ret ⟨_, rfl, [], eAB (⟨n, [], []⟩, true), [], ⟨fun i hi => absurd hi (Nat.not_lt_zero i), List.nodup_nil⟩, rfl, trivial, (⟨n, [], []⟩, true), ⟨Nat.zero_le _, Nat.zero_le _, fun r hr => by cases hr⟩, rfl, rfl, rfl⟩
  (repeat first | refine sN rfl ?_ | ((first|refine sA rfl ?_ ?_|refine s4 rfl ‹_› rfl ?_ ?_);first|exact tI|omega|(simp only[oZ] at *;omega)) | (refine s2 rfl ?_;intro _ _hb) | (refine popO rfl ?_;refine gA rfl ?_;first | refine gS (fun _ _ => q_buildV rfl rfl (by rfl) (by rfl)) ?_) | (refine s3 rfl ?_ ?_<;>intro hb<;>subst hb) | refine aS ?_ | refine reg (by kernel_rfl) ?_ | refine lexE ?_)
  refine aB ?_
  refine AWp.loopV (α := {z : Nat × List (List Int) × List Bool // (1 ≤ z.1 ∧ z.1 ≤ ps.length) ∧ z.2.1.length + 1 = z.1 ∧ z.2.2.length + 1 = z.1 ∧ ∀ r ∈ z.2.1, r.length ≤ w0.length + 1}) [0, 3] [] rfl rfl (fun s => [(2, .o (.ptr 0 3 0 0)), (4, eTexts ps), (7, .o (.ptr 1 3 0 0)), (8, eI .i64 s.1.1)]) (fun s => ((0, .cells 26 3 [[.d (iD 0), .d (.l []), .d (.l [])]]) :: rowsS n s.1.2.1 s.1.2.2)) 4 (fun s => ps.length - s.1.1) (⟨⟨1, [], []⟩, by simp; omega⟩) (List.range 4) (by first | (simp [hΓ]; done) | (rw [hΓ]; decide)) (by (repeat' (first | exact trivial | rfl | refine And.intro ?_ ?_)) <;> (simp [EnvSub, StoreSub, look_cons, nm, nmo, E.ren, C.ren, C.renL, O.ren, Store.ren, killc, kill0, killL, kill, fillC, spliceC, eC, Function.comp_def, argsFrom, zC, hΓ, rowsS, rawR_ren, cond_eq_ite, Nat.beq_eq] <;> rfl)) ?_; rintro ⟨⟨k, l, ac⟩, hk, hl, hac, hr⟩; (try dsimp only [List.cons_append, List.nil_append])
  have hk : 1 ≤ k ∧ k ≤ ps.length := hk
  have hl : l.length + 1 = k := hl
  have hac : ac.length + 1 = k := hac
  (repeat first | refine sN rfl ?_ | ((first|refine sA rfl ?_ ?_|refine s4 rfl ‹_› rfl ?_ ?_);first|exact tI|omega|(simp only[oZ] at *;omega)) | (refine s2 rfl ?_;intro _ _hb) | (refine s3 rfl ?_ ?_<;>intro hb<;>subst hb) | refine aS ?_ | refine reg (by kernel_rfl) ?_ | refine lexE ?_)
  ((refine aC rfl ?_ ?_<;>intro hb<;>cases hb); all_goals try (simp at _hb; done))
  · have hlt : k < ps.length := by first | omega | (simp only [oZ] at *; omega)
    obtain ⟨w, hw⟩ := get_some (l := ps) (k := k) hlt
    have hw' := get_map (g := tRow) hw
    have hwl := hp3 w (List.mem_of_getElem? hw)
    refine AWp.skip ?_
    refine AWp.seq (AWp.block ?_)
    (repeat first | refine sN rfl ?_ | ((first|refine sA rfl ?_ ?_|refine s4 rfl ‹_› rfl ?_ ?_);first|exact tI|omega|(simp only[oZ] at *;omega)) | (refine s2 rfl ?_;intro _ _hb) | (refine s3 rfl ?_ ?_<;>intro hb<;>subst hb) | refine aS ?_ | refine reg (by kernel_rfl) ?_ | refine lexE ?_)
    (refine aC rfl ?_ ?_<;>intro hb<;>cases hb)
    · (repeat first | refine sN rfl ?_ | ((first|refine sA rfl ?_ ?_|refine s4 rfl ‹_› rfl ?_ ?_);first|exact tI|omega|(simp only[oZ] at *;omega)) | (refine s2 rfl ?_;intro _ _hb) | (refine popO rfl ?_;refine gA rfl ?_;first | refine gS (fun _ _ => q_build rfl rfl (by rfl) (by rfl)) ?_) | (refine s3 rfl ?_ ?_<;>intro hb<;>subst hb) | refine aS ?_ | refine reg (by kernel_rfl) ?_ | refine lexE ?_)
      exact AWp.ret ⟨_, rfl, [], eAB (⟨0, [], []⟩, false), [], ⟨fun i hi => absurd hi (Nat.not_lt_zero i), List.nodup_nil⟩, rfl, trivial, (⟨0, [], []⟩, false), hb0, rfl, rfl, rfl⟩
    have hwp : 0 < w.length := by (simp at _hb; exact List.length_pos_iff.2 _hb)
    obtain ⟨e, he⟩ := get_some (l := w) (k := (0 : Int).toNat) (by simp; omega)
    refine AWp.skip ?_
    (repeat first | refine sN rfl ?_ | ((first|refine sA rfl ?_ ?_|refine s4 rfl ‹_› rfl ?_ ?_);first|exact tI|omega|(simp only[oZ] at *;omega)) | (refine s2 rfl ?_;intro _ _hb) | (refine popO rfl ?_;refine gA rfl ?_;first | refine gS (fun _ _ => q_dropT rfl rfl (by omega) (by omega)) ?_) | (refine s3 rfl ?_ ?_<;>intro hb<;>subst hb) | refine aS ?_ | refine reg (by kernel_rfl) ?_ | refine lexE ?_)
    (refine popO rfl ?_;refine popW ?_ rfl (by rfl);refine n_call [] rfl rfl (l3Parse_ok (TB := TB) (w.drop (Int.toNat 1)) (by simp; omega)) ⟨rfl, by decide, by decide⟩ rfl trivial ?_;rintro x0 σ1 nx1 ⟨⟨r, ok2⟩, hrl, rfl, rfl, rfl⟩ _)
    have hrl : r.length ≤ w0.length + 1 := Nat.le_trans hrl (by simp; omega)
    (repeat first | refine sN rfl ?_ | ((first|refine sA rfl ?_ ?_|refine s4 rfl ‹_› rfl ?_ ?_);first|exact tI|omega|(simp only[oZ] at *;omega)) | (refine s2 rfl ?_;intro _ _hb) | (refine s3 rfl ?_ ?_<;>intro hb<;>subst hb) | refine aS ?_ | refine reg (by kernel_rfl) ?_ | refine lexE ?_)
    (refine aC rfl ?_ ?_<;>intro hb<;>cases hb)
    · (repeat first | refine sN rfl ?_ | ((first|refine sA rfl ?_ ?_|refine s4 rfl ‹_› rfl ?_ ?_);first|exact tI|omega|(simp only[oZ] at *;omega)) | (refine s2 rfl ?_;intro _ _hb) | (refine popO rfl ?_;refine gA rfl ?_;first | refine gS (fun _ _ => q_build rfl rfl (by rfl) (by rfl)) ?_) | (refine s3 rfl ?_ ?_<;>intro hb<;>subst hb) | refine aS ?_ | refine reg (by kernel_rfl) ?_ | refine lexE ?_)
      exact AWp.ret ⟨_, rfl, [], eAB (⟨0, [], []⟩, false), [], ⟨fun i hi => absurd hi (Nat.not_lt_zero i), List.nodup_nil⟩, rfl, trivial, (⟨0, [], []⟩, false), hb0, rfl, rfl, rfl⟩
    refine AWp.skip ?_
    have hr2 : ∀ x ∈ l ++ [r], x.length ≤ w0.length + 1 := fun x hx => by
      rcases List.mem_append.1 hx with hx | hx
      · exact hr x hx
      · simp at hx; subst hx; exact hrl
    cases l with
    | nil =>
      obtain rfl : ac = [] := List.length_eq_zero_iff.1 (by simp at hl; omega)
      (repeat first | refine sN rfl ?_ | ((first|refine sA rfl ?_ ?_|refine s4 rfl ‹_› rfl ?_ ?_);first|exact tI|omega|(simp only[oZ] at *;omega)) | (refine s2 rfl ?_;intro _ _hb) | (refine s3 rfl ?_ ?_<;>intro hb<;>subst hb) | refine aS ?_ | refine reg (by kernel_rfl) ?_ | refine lexE ?_)
      (refine popO rfl ?_; refine popW ?_ rfl (by rfl); refine n_asE 50 rfl ?_; refine n_appendE rfl rfl rfl (by intro r hr; simp at hr; subst hr; rfl) (by rfl) (Nat.le_of_ble_eq_true rfl) (by simp) (fun h => ?_) (fun _ => ?_))
      · exact absurd h (by simp)
      (repeat first | refine sN rfl ?_ | ((first|refine sA rfl ?_ ?_|refine s4 rfl ‹_› rfl ?_ ?_);first|exact tI|omega|(simp only[oZ] at *;omega)) | (refine s2 rfl ?_;intro _ _hb) | (refine s3 rfl ?_ ?_<;>intro hb<;>subst hb))
      refine lexE ?_
      refine regD (flN [9, 11]) mixed (by kernel_rfl) (by kernel_rfl) ?_
      (repeat first | refine sN rfl ?_ | ((first|refine sA rfl ?_ ?_|refine s4 rfl ‹_› rfl ?_ ?_);first|exact tI|omega|(simp only[oZ] at *;omega)) | (refine s2 rfl ?_;intro _ _hb) | (refine s3 rfl ?_ ?_<;>intro hb<;>subst hb) | refine aS ?_ | refine reg (by kernel_rfl) ?_ | refine lexE ?_)
      (refine popO rfl ?_; refine popW ?_ rfl (by rfl); refine n_asE 56 rfl ?_; refine n_appendE rfl rfl rfl (by intro r hr; simp at hr; subst hr; rfl) (by rfl) (Nat.le_of_ble_eq_true rfl) (by simp) (fun h => ?_) (fun _ => ?_))
      · exact absurd h (by simp)
      (repeat first | refine sN rfl ?_ | ((first|refine sA rfl ?_ ?_|refine s4 rfl ‹_› rfl ?_ ?_);first|exact tI|omega|(simp only[oZ] at *;omega)) | (refine s2 rfl ?_;intro _ _hb) | (refine s3 rfl ?_ ?_<;>intro hb<;>subst hb) | refine aS ?_ | refine reg (by kernel_rfl) ?_ | refine lexE ?_)
      subst _hb
      refine ⟨⟨⟨k + 1, [r], [decide ((e.toNat : Int) = 43)]⟩, ⟨by dsimp only; omega, by dsimp only; omega⟩, by simp at hl; simp; omega, by simp at hl; simp; omega, hr2⟩, by dsimp only; (first | omega | (simp only [oZ] at *; omega)), [0, 1, 4, 5], ?_⟩
      (simp [EnvSub, StoreSub, look_cons, nm, nmo, E.ren, C.ren, C.renL, O.ren, Store.ren, killc, kill0, killL, kill, fillC, spliceC, eC, Function.comp_def, argsFrom, zC, hΓ, rawR_ren, cond_eq_ite, Nat.beq_eq, rowsS, spliceC, eC] <;> rfl)
    | cons r0 l =>
      (repeat first | refine sN rfl ?_ | ((first|refine sA rfl ?_ ?_|refine s4 rfl ‹_› rfl ?_ ?_);first|exact tI|omega|(simp only[oZ] at *;omega)) | (refine s2 rfl ?_;intro _ _hb) | (refine s3 rfl ?_ ?_<;>intro hb<;>subst hb) | refine aS ?_ | refine reg (by kernel_rfl) ?_ | refine lexE ?_)
      (refine popO rfl ?_; refine popW ?_ rfl (by rfl); refine n_append rfl rfl rfl (by first | (simp; done) | (simp; (first | omega | (simp only [oZ] at *; omega)))) rfl (by intro r hr; simp at hr; subst hr; rfl) (by rfl) (Nat.le_of_ble_eq_true rfl) (by simp at hl ⊢; omega) ?_)
      (repeat first | refine sN rfl ?_ | ((first|refine sA rfl ?_ ?_|refine s4 rfl ‹_› rfl ?_ ?_);first|exact tI|omega|(simp only[oZ] at *;omega)) | (refine s2 rfl ?_;intro _ _hb) | (refine s3 rfl ?_ ?_<;>intro hb<;>subst hb))
      refine lexE ?_
      refine AWp.namesV [0, 3, 8] [] rfl rfl [(2, .o (.ptr 0 3 0 0)), (4, eTexts ps), (7, .o (.ptr 1 3 0 0))] [(0, .cells 26 3 [[.d (iD 0), .d (.l []), .d (.l [])]]), (1, .cells 26 3 [[.d (iD n), .arr 2 1 0 (l.length + 1 + 1), .arr 3 1 0 ac.length]]), (2, .cells 65 1 ((r0 :: (l ++ [r])).map iiRowC)), (3, .cells 4 1 (ac.map bRowC))] [0, 1, 4, 3] (by first | (simp [hΓ]; done) | (rw [hΓ]; decide)) (by (repeat' (first | exact trivial | rfl | refine And.intro ?_ ?_)) <;> (simp [EnvSub, StoreSub, look_cons, nm, nmo, E.ren, C.ren, C.renL, O.ren, Store.ren, killc, kill0, killL, kill, fillC, spliceC, eC, Function.comp_def, argsFrom, zC, hΓ, rawR_ren, cond_eq_ite, Nat.beq_eq, rowsS, spliceC, eC] <;> rfl)) ?_; (try dsimp only [List.cons_append, List.nil_append])
      refine regD (flN [9, 11]) mixed (by kernel_rfl) (by kernel_rfl) ?_
      (repeat first | refine sN rfl ?_ | ((first|refine sA rfl ?_ ?_|refine s4 rfl ‹_› rfl ?_ ?_);first|exact tI|omega|(simp only[oZ] at *;omega)) | (refine s2 rfl ?_;intro _ _hb) | (refine s3 rfl ?_ ?_<;>intro hb<;>subst hb) | refine aS ?_ | refine reg (by kernel_rfl) ?_ | refine lexE ?_)
      (refine popO rfl ?_; refine popW ?_ rfl (by rfl); refine n_append rfl rfl rfl (by first | (simp; done) | (simp; (first | omega | (simp only [oZ] at *; omega)))) rfl (by intro r hr; simp at hr; subst hr; rfl) (by rfl) (Nat.le_of_ble_eq_true rfl) (by simp at hl ⊢; omega) ?_)
      (repeat first | refine sN rfl ?_ | ((first|refine sA rfl ?_ ?_|refine s4 rfl ‹_› rfl ?_ ?_);first|exact tI|omega|(simp only[oZ] at *;omega)) | (refine s2 rfl ?_;intro _ _hb) | (refine s3 rfl ?_ ?_<;>intro hb<;>subst hb) | refine aS ?_ | refine reg (by kernel_rfl) ?_ | refine lexE ?_)
      subst _hb
      refine ⟨⟨⟨k + 1, r0 :: (l ++ [r]), ac ++ [decide ((e.toNat : Int) = 43)]⟩, ⟨by dsimp only; omega, by dsimp only; omega⟩, by simp at hl ⊢; omega, by simp; omega, hr2⟩, by dsimp only; (first | omega | (simp only [oZ] at *; omega)), [0, 1, 2, 4], ?_⟩
      (simp [EnvSub, StoreSub, look_cons, nm, nmo, E.ren, C.ren, C.renL, O.ren, Store.ren, killc, kill0, killL, kill, fillC, spliceC, eC, Function.comp_def, argsFrom, zC, hΓ, rawR_ren, cond_eq_ite, Nat.beq_eq, rowsS, spliceC, eC] <;> rfl)
  refine AWp.exit ?_
  have hkn : k = ps.length := by first | omega | (simp only [oZ] at *; omega)
  cases l with
  | nil => exfalso; simp at hl; omega
  | cons r0 l =>
    refine AWp.freezeZ [1, 2, 3] [(0, eT w0), (2, .o (.ptr 0 3 0 0)), (3, eB false), (7, .o (.ip (auRow ⟨n, r0 :: l, ac⟩)))] ⟨⟨_, rfl, .inl rfl⟩, ⟨_, rfl, .inl rfl⟩, ⟨_, rfl, .inl rfl⟩, ⟨_, rfl, .inr (.o (.box rfl (.cons .d (.cons (.full rfl (by simp [Function.comp_def]) (by simp)) (.cons (.full rfl (by simp [Function.comp_def]) (by simp)) .nil)))))⟩, trivial⟩ ?_
    (repeat first | refine sN rfl ?_ | ((first|refine sA rfl ?_ ?_|refine s4 rfl ‹_› rfl ?_ ?_);first|exact tI|omega|(simp only[oZ] at *;omega)) | (refine s2 rfl ?_;intro _ _hb) | (refine s3 rfl ?_ ?_<;>intro hb<;>subst hb) | refine aS ?_ | refine reg (by kernel_rfl) ?_ | refine lexE ?_)
    (refine popO rfl ?_;refine popW ?_ rfl (by rfl);refine n_call [] rfl rfl (FormatAutomaton_ok (TB := TB) ⟨n, r0 :: l, ac⟩) ⟨rfl, by decide, by decide⟩ rfl trivial ?_;rintro x0 σ1 nx1 ⟨w9, hw9, rfl, rfl, rfl⟩ _)
    (repeat first | refine sN rfl ?_ | ((first|refine sA rfl ?_ ?_|refine s4 rfl ‹_› rfl ?_ ?_);first|exact tI|omega|(simp only[oZ] at *;omega)) | (refine s2 rfl ?_;intro _ _hb) | (refine s3 rfl ?_ ?_<;>intro hb<;>subst hb) | refine aS ?_ | refine reg (by kernel_rfl) ?_ | refine lexE ?_)
    (refine aC rfl ?_ ?_<;>intro hb<;>cases hb)
    · (repeat first | refine sN rfl ?_ | ((first|refine sA rfl ?_ ?_|refine s4 rfl ‹_› rfl ?_ ?_);first|exact tI|omega|(simp only[oZ] at *;omega)) | (refine s2 rfl ?_;intro _ _hb) | (refine popO rfl ?_;refine gA rfl ?_;first | refine gS (fun _ _ => q_build rfl rfl (by rfl) (by rfl)) ?_) | (refine s3 rfl ?_ ?_<;>intro hb<;>subst hb) | refine aS ?_ | refine reg (by kernel_rfl) ?_ | refine lexE ?_)
      exact AWp.ret ⟨_, rfl, [], eAB (⟨0, [], []⟩, false), [], ⟨fun i hi => absurd hi (Nat.not_lt_zero i), List.nodup_nil⟩, rfl, trivial, (⟨0, [], []⟩, false), hb0, rfl, rfl, rfl⟩
    refine AWp.skip ?_
    (repeat first | refine sN rfl ?_ | ((first|refine sA rfl ?_ ?_|refine s4 rfl ‹_› rfl ?_ ?_);first|exact tI|omega|(simp only[oZ] at *;omega)) | (refine s2 rfl ?_;intro _ _hb) | (refine s3 rfl ?_ ?_<;>intro hb<;>subst hb) | refine aS ?_ | refine reg (by kernel_rfl) ?_ | refine lexE ?_)
    exact AWp.ret ⟨_, rfl, [], eAB (⟨n, r0 :: l, ac⟩, true), [], ⟨fun i hi => absurd hi (Nat.not_lt_zero i), List.nodup_nil⟩, rfl, trivial, (⟨n, r0 :: l, ac⟩, true), ⟨by show (r0 :: l).length ≤ _; omega, by show ac.length ≤ _; omega, hr⟩, rfl, rfl, rfl⟩
end Go.Am
/-
  A drawn automaton, walked.
-/
namespace Go.Am
open Go Go.Proofs
set_option maxHeartbeats 1000000
attribute [local irreducible] QOp AOp Lex LexO AWp Spec
variable {TB : List (Nat × Obj)}

def texts3 : List W := [[97, 98, 32, 43, 49, 44, 48, 32, 45, 49, 44, 49], [97, 98, 32, 43, 48, 44, 49, 32, 43, 50, 44, 49, 32, 45, 50, 44, 50], [97, 99, 32, 43, 49, 44, 50, 32, 43, 49, 44, 50, 32, 45, 50, 44, 50], [98, 32, 43, 49, 32, 45, 49], [97, 98, 99, 32, 43, 49, 44, 48, 44, 50, 32, 43, 50, 44, 48, 44, 49, 32, 45, 50, 44, 50, 44, 50], [45, 32, 43], [45, 32, 45], [97, 32, 43, 49, 32, 45, 48], [97, 98, 32, 43, 48, 44, 49, 32, 45, 48, 44, 49], [98, 99, 32, 43, 49, 44, 50, 32, 43, 50, 44, 48, 32, 45, 50, 44, 50], [97, 98, 32, 43, 49, 44, 50, 32, 45, 49, 44, 51, 32, 43, 52, 44, 50, 32, 45, 49, 44, 51, 32, 43, 52, 44, 50], [97, 98, 99, 32, 43, 48, 44, 49, 44, 48, 32, 43, 48, 44, 49, 44, 50, 32, 45, 50, 44, 50, 44, 50]]
theorem texts3_bd : ∀ w ∈ texts3, w.length ≤ 40 := by decide
theorem l3Texts_ok : Pure Tryz.prog TB 74 [] (eTexts texts3) := by
  refine eN Tryz.func74 rfl (by kernel_rfl) rfl ?_;intro Γ hΓ
  (repeat first | refine sN rfl ?_ | ((first|refine sA rfl ?_ ?_|refine s4 rfl ‹_› rfl ?_ ?_);first|exact tI|omega|(simp only[oZ] at *;omega)) | (refine s2 rfl ?_;intro _ _hb) | (refine s3 rfl ?_ ?_<;>intro hb<;>subst hb) | refine aS ?_ | refine reg (by kernel_rfl) ?_ | refine lexE ?_)
  refine AWp.ret ⟨_, rfl, rfl⟩
theorem l3Draw_ok (b : List UInt8) (hb : b.length ≤ 2000) (p : Int) (h0 : 0 ≤ p ∧ p < 700000000) : Spec Tryz.prog TB 44 [(0, rdO b p)] 1 [.o (.ptr 0 2 0 0)] (DrawPost b p 60 (fun a => ABd 41 a)) := by
  obtain ⟨c, c1, c2, hp⟩ := pick_ok (TB := TB) b hb p 3 (by omega)
  obtain ⟨w, hw, ho⟩ := of_ok (TB := TB) b hb (p + 1) (by omega) texts3 (by decide) (by decide)
  have hwl := texts3_bd w hw
  have hpa := ParseAutomaton_ok (TB := TB) w (by omega)
  refine SpecK.toSpec (SpecK.ren (SpecK.ofG (Nat.le_refl _) Tryz.func44 rfl (by kernel_rfl) (Nat.le_of_ble_eq_true rfl) ?_));intro Γ hΓ
  (repeat first | refine sN rfl ?_ | ((first|refine sA rfl ?_ ?_|refine s4 rfl ‹_› rfl ?_ ?_);first|exact tI|omega|(simp only[oZ] at *;omega)) | (refine s2 rfl ?_;intro _ _hb) | (refine s3 rfl ?_ ?_<;>intro hb<;>subst hb) | refine aS ?_ | refine reg (by kernel_rfl) ?_ | refine lexE ?_)
  (refine popO rfl ?_;refine popW ?_ rfl (by rfl);refine n_call [0] rfl rfl (hp) ⟨rfl, by decide, by decide⟩ rfl (by simp [EnvSub, StoreSub, look_cons, nm, nmo, E.ren, C.ren, C.renL, O.ren, Store.ren, killc, kill0, killL, kill, fillC, spliceC, eC, Function.comp_def, argsFrom, zC, hΓ, rawR_ren, cond_eq_ite, Nat.beq_eq]) ?_;rintro x0 σ1 nx1 ⟨rfl, rfl, rfl⟩ _)
  (repeat first | refine sN rfl ?_ | ((first|refine sA rfl ?_ ?_|refine s4 rfl ‹_› rfl ?_ ?_);first|exact tI|omega|(simp only[oZ] at *;omega)) | (refine s2 rfl ?_;intro _ _hb) | (refine s3 rfl ?_ ?_<;>intro hb<;>subst hb) | refine aS ?_ | refine reg (by kernel_rfl) ?_ | refine lexE ?_)
  (refine aC rfl ?_ ?_<;>intro hb<;>cases hb)
  · (repeat first | refine sN rfl ?_ | ((first|refine sA rfl ?_ ?_|refine s4 rfl ‹_› rfl ?_ ?_);first|exact tI|omega|(simp only[oZ] at *;omega)) | (refine s2 rfl ?_;intro _ _hb) |refine sP rfl (l3Texts_ok) rfl ?_ | (refine s3 rfl ?_ ?_<;>intro hb<;>subst hb) | refine aS ?_ | refine reg (by kernel_rfl) ?_ | refine lexE ?_)
    (refine popO rfl ?_;refine popW ?_ rfl (by rfl);refine n_call [0] rfl rfl (ho) ⟨rfl, by decide, by decide⟩ rfl (by simp [EnvSub, StoreSub, look_cons, nm, nmo, E.ren, C.ren, C.renL, O.ren, Store.ren, killc, kill0, killL, kill, fillC, spliceC, eC, Function.comp_def, argsFrom, zC, hΓ, rawR_ren, cond_eq_ite, Nat.beq_eq]) ?_;rintro x0 σ1 nx1 ⟨rfl, rfl, rfl⟩ _)
    (repeat first | refine sN rfl ?_ | ((first|refine sA rfl ?_ ?_|refine s4 rfl ‹_› rfl ?_ ?_);first|exact tI|omega|(simp only[oZ] at *;omega)) | (refine s2 rfl ?_;intro _ _hb) | (refine s3 rfl ?_ ?_<;>intro hb<;>subst hb) | refine aS ?_ | refine reg (by kernel_rfl) ?_ | refine lexE ?_)
    (refine popO rfl ?_;refine popW ?_ rfl (by rfl);refine n_call [] rfl rfl (hpa) ⟨rfl, by decide, by decide⟩ rfl trivial ?_;rintro x0 σ1 nx1 ⟨⟨a, ok⟩, ha, rfl, rfl, rfl⟩ _)
    have hA : ABd (w.length + 1) a := ha
    (repeat first | refine sN rfl ?_ | ((first|refine sA rfl ?_ ?_|refine s4 rfl ‹_› rfl ?_ ?_);first|exact tI|omega|(simp only[oZ] at *;omega)) | (refine s2 rfl ?_;intro _ _hb) | (refine s3 rfl ?_ ?_<;>intro hb<;>subst hb) | refine aS ?_ | refine reg (by kernel_rfl) ?_ | refine lexE ?_)
    (refine aC rfl ?_ ?_<;>intro hb<;>cases hb)
    · (repeat first | refine sN rfl ?_ | ((first|refine sA rfl ?_ ?_|refine s4 rfl ‹_› rfl ?_ ?_);first|exact tI|omega|(simp only[oZ] at *;omega)) | (refine s2 rfl ?_;intro _ _hb) | (refine s3 rfl ?_ ?_<;>intro hb<;>subst hb) | refine aS ?_ | refine reg (by kernel_rfl) ?_ | refine lexE ?_)
      exact AWp.ret ⟨_, rfl, [0], eAut a, [(0, rdO b (p + 1 + 1))], ⟨by intro i hi; match i with | 0 => rfl, by decide⟩, rfl, by (repeat' (first | exact trivial | rfl | refine And.intro ?_ ?_)) <;> (simp [EnvSub, StoreSub, look_cons, nm, nmo, E.ren, C.ren, C.renL, O.ren, Store.ren, killc, kill0, killL, kill, fillC, spliceC, eC, Function.comp_def, argsFrom, zC, hΓ, rawR_ren, cond_eq_ite, Nat.beq_eq] <;> rfl), p + 1 + 1, a, by omega, ⟨by have := hA.nx; omega, by have := hA.ac; omega, fun r hr => by have := hA.row r hr; omega⟩, rfl, rfl, rfl⟩
    refine AWp.skip ?_
    obtain ⟨n1, m1, k1⟩ := num_ok (TB := TB) b hb (p + 1 + 1) (by omega) [3, 6, 7, 5, 1, 0, 2] (by decide) (by decide)
    have f1 := l3Over_ok (TB := TB) b hb (p + 1 + 1 + 1) (by omega) n1
    (repeat first | refine sN rfl ?_ | ((first|refine sA rfl ?_ ?_|refine s4 rfl ‹_› rfl ?_ ?_);first|exact tI|omega|(simp only[oZ] at *;omega)) | (refine s2 rfl ?_;intro _ _hb) | (refine s3 rfl ?_ ?_<;>intro hb<;>subst hb) | refine aS ?_ | refine reg (by kernel_rfl) ?_ | refine lexE ?_)
    (refine popO rfl ?_;refine popW ?_ rfl (by rfl);refine n_call [0] rfl rfl (k1) ⟨rfl, by decide, by decide⟩ rfl (by simp [EnvSub, StoreSub, look_cons, nm, nmo, E.ren, C.ren, C.renL, O.ren, Store.ren, killc, kill0, killL, kill, fillC, spliceC, eC, Function.comp_def, argsFrom, zC, hΓ, rawR_ren, cond_eq_ite, Nat.beq_eq]) ?_;rintro x0 σ1 nx1 ⟨rfl, rfl, rfl⟩ _)
    (repeat first | refine sN rfl ?_ | ((first|refine sA rfl ?_ ?_|refine s4 rfl ‹_› rfl ?_ ?_);first|exact tI|omega|(simp only[oZ] at *;omega)) | (refine s2 rfl ?_;intro _ _hb) | (refine s3 rfl ?_ ?_<;>intro hb<;>subst hb) | refine aS ?_ | refine reg (by kernel_rfl) ?_ | refine lexE ?_)
    (refine popO rfl ?_;refine popW ?_ rfl (by rfl);refine n_call [0] rfl rfl (f1) ⟨rfl, by decide, by decide⟩ rfl (by simp [EnvSub, StoreSub, look_cons, nm, nmo, E.ren, C.ren, C.renL, O.ren, Store.ren, killc, kill0, killL, kill, fillC, spliceC, eC, Function.comp_def, argsFrom, zC, hΓ, rawR_ren, cond_eq_ite, Nat.beq_eq]) ?_;rintro x0 σ1 nx1 ⟨q, a2, hq, ⟨_, ha2⟩, rfl, rfl, rfl⟩ _)
    (repeat first | refine sN rfl ?_ | ((first|refine sA rfl ?_ ?_|refine s4 rfl ‹_› rfl ?_ ?_);first|exact tI|omega|(simp only[oZ] at *;omega)) | (refine s2 rfl ?_;intro _ _hb) | (refine s3 rfl ?_ ?_<;>intro hb<;>subst hb) | refine aS ?_ | refine reg (by kernel_rfl) ?_ | refine lexE ?_)
    exact AWp.ret ⟨_, rfl, [0], eAut a2, [(0, rdO b (q))], ⟨by intro i hi; match i with | 0 => rfl, by decide⟩, rfl, by (repeat' (first | exact trivial | rfl | refine And.intro ?_ ?_)) <;> (simp [EnvSub, StoreSub, look_cons, nm, nmo, E.ren, C.ren, C.renL, O.ren, Store.ren, killc, kill0, killL, kill, fillC, spliceC, eC, Function.comp_def, argsFrom, zC, hΓ, rawR_ren, cond_eq_ite, Nat.beq_eq] <;> rfl), q, a2, by omega, ⟨by have := ha2.nx; omega, by have := ha2.ac; omega, fun r hr => by have := ha2.row r hr; omega⟩, rfl, rfl, rfl⟩
  refine AWp.skip ?_
  obtain ⟨n1, m1, k1⟩ := num_ok (TB := TB) b hb (p + 1) (by omega) [3, 6, 7, 5, 1, 0, 2] (by decide) (by decide)
  have f1 := l3Over_ok (TB := TB) b hb (p + 1 + 1) (by omega) n1
  (repeat first | refine sN rfl ?_ | ((first|refine sA rfl ?_ ?_|refine s4 rfl ‹_› rfl ?_ ?_);first|exact tI|omega|(simp only[oZ] at *;omega)) | (refine s2 rfl ?_;intro _ _hb) | (refine s3 rfl ?_ ?_<;>intro hb<;>subst hb) | refine aS ?_ | refine reg (by kernel_rfl) ?_ | refine lexE ?_)
  (refine popO rfl ?_;refine popW ?_ rfl (by rfl);refine n_call [0] rfl rfl (k1) ⟨rfl, by decide, by decide⟩ rfl (by simp [EnvSub, StoreSub, look_cons, nm, nmo, E.ren, C.ren, C.renL, O.ren, Store.ren, killc, kill0, killL, kill, fillC, spliceC, eC, Function.comp_def, argsFrom, zC, hΓ, rawR_ren, cond_eq_ite, Nat.beq_eq]) ?_;rintro x0 σ1 nx1 ⟨rfl, rfl, rfl⟩ _)
  (repeat first | refine sN rfl ?_ | ((first|refine sA rfl ?_ ?_|refine s4 rfl ‹_› rfl ?_ ?_);first|exact tI|omega|(simp only[oZ] at *;omega)) | (refine s2 rfl ?_;intro _ _hb) | (refine s3 rfl ?_ ?_<;>intro hb<;>subst hb) | refine aS ?_ | refine reg (by kernel_rfl) ?_ | refine lexE ?_)
  (refine popO rfl ?_;refine popW ?_ rfl (by rfl);refine n_call [0] rfl rfl (f1) ⟨rfl, by decide, by decide⟩ rfl (by simp [EnvSub, StoreSub, look_cons, nm, nmo, E.ren, C.ren, C.renL, O.ren, Store.ren, killc, kill0, killL, kill, fillC, spliceC, eC, Function.comp_def, argsFrom, zC, hΓ, rawR_ren, cond_eq_ite, Nat.beq_eq]) ?_;rintro x0 σ1 nx1 ⟨q, a2, hq, ⟨_, ha2⟩, rfl, rfl, rfl⟩ _)
  (repeat first | refine sN rfl ?_ | ((first|refine sA rfl ?_ ?_|refine s4 rfl ‹_› rfl ?_ ?_);first|exact tI|omega|(simp only[oZ] at *;omega)) | (refine s2 rfl ?_;intro _ _hb) | (refine s3 rfl ?_ ?_<;>intro hb<;>subst hb) | refine aS ?_ | refine reg (by kernel_rfl) ?_ | refine lexE ?_)
  exact AWp.ret ⟨_, rfl, [0], eAut a2, [(0, rdO b (q))], ⟨by intro i hi; match i with | 0 => rfl, by decide⟩, rfl, by (repeat' (first | exact trivial | rfl | refine And.intro ?_ ?_)) <;> (simp [EnvSub, StoreSub, look_cons, nm, nmo, E.ren, C.ren, C.renL, O.ren, Store.ren, killc, kill0, killL, kill, fillC, spliceC, eC, Function.comp_def, argsFrom, zC, hΓ, rawR_ren, cond_eq_ite, Nat.beq_eq] <;> rfl), q, a2, by omega, ⟨by have := ha2.nx; omega, by have := ha2.ac; omega, fun r hr => by have := ha2.row r hr; omega⟩, rfl, rfl, rfl⟩
end Go.Am
