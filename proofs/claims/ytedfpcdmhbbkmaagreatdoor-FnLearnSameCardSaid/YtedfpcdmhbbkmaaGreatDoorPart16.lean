/-
  Two drawn automata, walked.
-/
import Derived.Test.YtedfpcdmhbbkmaaGreatDoorPart15
import Derived.Test.YtedfpcdmhbbkmaaGreatDoorPart14
import Derived.Test.YtedfpcdmhbbkmaaGreatDoorPart8
set_option linter.constructorNameAsVariable false
set_option linter.unusedSimpArgs false
set_option linter.unusedVariables false
namespace Go.Am
open Go Go.Proofs
set_option maxHeartbeats 1000000
attribute [local irreducible] QOp AOp Lex LexO AWp Spec
variable {TB : List (Nat × Obj)}

theorem ABd.mono {m n : Nat} {a : Aut} (h : ABd m a) (hm : m ≤ n) : ABd n a := ⟨Nat.le_trans h.nx hm, Nat.le_trans h.ac hm, fun r hr => Nat.le_trans (h.row r hr) hm⟩
abbrev auRowC (a : Aut) : List C := [.d (iD a.al), .d (iiList a.nx), .d (bList a.ac)]
abbrev eAA (r : Aut × Aut) : E := .t [(true, [.d (iD r.1.al), .d (iiList r.1.nx), .d (bList r.1.ac)]), (true, [.d (iD r.2.al), .d (iiList r.2.nx), .d (bList r.2.ac)])]
theorem l4Pair_ok (b : List UInt8) (hb : b.length ≤ 2000) : Spec Tryz.prog TB 23 [(0, rdO b 0)] 1 [.o (.ptr 0 2 0 0)] (fun x σ nx => ∃ (r : Aut × Aut) (q : Int), x = eAA r ∧ σ = [(0, rdO b q)] ∧ nx = 1) := by
  have f0 := l3Draw_ok (TB := TB) b hb 0 (by omega)
  refine SpecK.toSpec (SpecK.ren (SpecK.ofG (Nat.le_refl _) Tryz.func23 rfl (by kernel_rfl) (Nat.le_of_ble_eq_true rfl) ?_));intro Γ hΓ
  (repeat first | refine sN rfl ?_ | ((first|refine sA rfl ?_ ?_|refine s4 rfl ‹_› rfl ?_ ?_);first|exact tI|omega|(simp only[oZ] at *;omega)) | (refine s2 rfl ?_;intro _ _hb) | (refine s3 rfl ?_ ?_<;>intro hb<;>subst hb) | refine aS ?_ | refine reg (by kernel_rfl) ?_ | refine lexE ?_)
  (refine popO rfl ?_;refine popW ?_ rfl (by rfl);refine n_call [0] rfl rfl (f0) ⟨rfl, by decide, by decide⟩ rfl (by simp [EnvSub, StoreSub, look_cons, nm, nmo, E.ren, C.ren, C.renL, O.ren, Store.ren, killc, kill0, killL, kill, fillC, spliceC, eC, Function.comp_def, argsFrom, zC, hΓ, rawR_ren, cond_eq_ite, Nat.beq_eq]) ?_;rintro x0 σ1 nx1 ⟨p1, a0, hp1, ha0, rfl, rfl, rfl⟩ _)
  (repeat first | refine sN rfl ?_ | ((first|refine sA rfl ?_ ?_|refine s4 rfl ‹_› rfl ?_ ?_);first|exact tI|omega|(simp only[oZ] at *;omega)) | (refine s2 rfl ?_;intro _ _hb) | (refine s3 rfl ?_ ?_<;>intro hb<;>subst hb) | refine aS ?_ | refine reg (by kernel_rfl) ?_ | refine lexE ?_)
  (refine popO rfl ?_;refine popW ?_ rfl (by rfl);refine n_call [0] rfl rfl (l4Change_ok (TB := TB) b hb p1 (by omega) a0 41 ha0 (by omega)) ⟨rfl, by decide, by decide⟩ rfl (by simp [EnvSub, StoreSub, look_cons, nm, nmo, E.ren, C.ren, C.renL, O.ren, Store.ren, killc, kill0, killL, kill, fillC, spliceC, eC, Function.comp_def, argsFrom, zC, hΓ, rawR_ren, cond_eq_ite, Nat.beq_eq]) ?_;rintro x0 σ1 nx1 ⟨p2, a1, hp2, ⟨_, ha1⟩, rfl, rfl, rfl⟩ _)
  (repeat first | refine sN rfl ?_ | ((first|refine sA rfl ?_ ?_|refine s4 rfl ‹_› rfl ?_ ?_);first|exact tI|omega|(simp only[oZ] at *;omega)) | (refine s2 rfl ?_;intro _ _hb) | (refine s3 rfl ?_ ?_<;>intro hb<;>subst hb) | refine aS ?_ | refine reg (by kernel_rfl) ?_ | refine lexE ?_)
  (refine popO rfl ?_;refine popW ?_ rfl (by rfl);refine n_call [0] rfl rfl (l4Change_ok (TB := TB) b hb p2 (by omega) a1 42 ha1 (by omega)) ⟨rfl, by decide, by decide⟩ rfl (by simp [EnvSub, StoreSub, look_cons, nm, nmo, E.ren, C.ren, C.renL, O.ren, Store.ren, killc, kill0, killL, kill, fillC, spliceC, eC, Function.comp_def, argsFrom, zC, hΓ, rawR_ren, cond_eq_ite, Nat.beq_eq]) ?_;rintro x0 σ1 nx1 ⟨p3, a2, hp3, ⟨_, ha2⟩, rfl, rfl, rfl⟩ _)
  (repeat first | refine sN rfl ?_ | ((first|refine sA rfl ?_ ?_|refine s4 rfl ‹_› rfl ?_ ?_);first|exact tI|omega|(simp only[oZ] at *;omega)) | (refine s2 rfl ?_;intro _ _hb) | (refine s3 rfl ?_ ?_<;>intro hb<;>subst hb) | refine aS ?_ | refine reg (by kernel_rfl) ?_ | refine lexE ?_)
  obtain ⟨c, c1, c2, hc⟩ := pick_ok (TB := TB) b hb p3 4 (by omega)
  (refine popO rfl ?_;refine popW ?_ rfl (by rfl);refine n_call [0] rfl rfl (hc) ⟨rfl, by decide, by decide⟩ rfl (by simp [EnvSub, StoreSub, look_cons, nm, nmo, E.ren, C.ren, C.renL, O.ren, Store.ren, killc, kill0, killL, kill, fillC, spliceC, eC, Function.comp_def, argsFrom, zC, hΓ, rawR_ren, cond_eq_ite, Nat.beq_eq]) ?_;rintro x0 σ1 nx1 ⟨rfl, rfl, rfl⟩ _)
  (repeat first | refine sN rfl ?_ | ((first|refine sA rfl ?_ ?_|refine s4 rfl ‹_› rfl ?_ ?_);first|exact tI|omega|(simp only[oZ] at *;omega)) | (refine s2 rfl ?_;intro _ _hb) | (refine s3 rfl ?_ ?_<;>intro hb<;>subst hb))
  refine lexE ?_
  refine AWp.namesV [14] [] rfl rfl [(0, .o (.ptr 0 2 0 0)), (2, .o (.ptr 1 3 0 0)), (3, .o (.ptr 2 3 0 0)), (4, .o (.ptr 3 3 0 0)), (5, .o (.ptr 4 3 0 0))] [(0, rdO b (p3 + 1)), (1, .cells 26 3 [[.d (iD 0), .d (.l []), .d (.l [])]]), (2, .cells 26 3 [[.d (iD 0), .d (.l []), .d (.l [])]]), (3, .cells 26 3 [auRowC a0]), (4, .cells 26 3 [auRowC a2])] [0, 1, 2, 3, 4] (by first | (simp [hΓ]; done) | (rw [hΓ]; decide)) (by (repeat' (first | exact trivial | rfl | refine And.intro ?_ ?_)) <;> (simp [EnvSub, StoreSub, look_cons, nm, nmo, E.ren, C.ren, C.renL, O.ren, Store.ren, killc, kill0, killL, kill, fillC, spliceC, eC, Function.comp_def, argsFrom, zC, hΓ, rawR_ren, cond_eq_ite, Nat.beq_eq, spliceC, eC] <;> rfl)) ?_; (try dsimp only [List.cons_append, List.nil_append])
  have ha0 : ABd 41 a0 := ha0
  have ha2 : ABd 43 a2 := ha2
  refine AWp.block ?_
  (repeat first | refine sN rfl ?_ | ((first|refine sA rfl ?_ ?_|refine s4 rfl ‹_› rfl ?_ ?_);first|exact tI|omega|(simp only[oZ] at *;omega)) | (refine s2 rfl ?_;intro _ _hb) | (refine s3 rfl ?_ ?_<;>intro hb<;>subst hb) | refine aS ?_ | refine reg (by kernel_rfl) ?_ | refine lexE ?_)
  (refine aC rfl ?_ ?_<;>intro hb<;>cases hb)
  · (repeat first | refine sN rfl ?_ | ((first|refine sA rfl ?_ ?_|refine s4 rfl ‹_› rfl ?_ ?_);first|exact tI|omega|(simp only[oZ] at *;omega)) | (refine s2 rfl ?_;intro _ _hb) | (refine s3 rfl ?_ ?_<;>intro hb<;>subst hb) | refine aS ?_ | refine reg (by kernel_rfl) ?_ | refine lexE ?_)
    (refine popO rfl ?_;refine popW ?_ rfl (by rfl);refine n_call [0] rfl rfl (l3Over_ok (TB := TB) b hb (p3 + 1) (by omega) a0.al) ⟨rfl, by decide, by decide⟩ rfl (by simp [EnvSub, StoreSub, look_cons, nm, nmo, E.ren, C.ren, C.renL, O.ren, Store.ren, killc, kill0, killL, kill, fillC, spliceC, eC, Function.comp_def, argsFrom, zC, hΓ, rawR_ren, cond_eq_ite, Nat.beq_eq]) ?_;rintro x0 σ1 nx1 ⟨q, a5, hq, ⟨_, ha5⟩, rfl, rfl, rfl⟩ _)
    (repeat first | refine sN rfl ?_ | ((first|refine sA rfl ?_ ?_|refine s4 rfl ‹_› rfl ?_ ?_);first|exact tI|omega|(simp only[oZ] at *;omega)) | (refine s2 rfl ?_;intro _ _hb) | (refine s3 rfl ?_ ?_<;>intro hb<;>subst hb))
    refine lexE ?_
    refine AWp.namesV [] [] rfl rfl [(0, .o (.ptr 0 2 0 0)), (2, .o (.ptr 1 3 0 0)), (3, .o (.ptr 2 3 0 0)), (4, .o (.ptr 3 3 0 0)), (5, .o (.ptr 4 3 0 0))] [(0, rdO b (q)), (1, .cells 26 3 [[.d (iD 0), .d (.l []), .d (.l [])]]), (2, .cells 26 3 [[.d (iD 0), .d (.l []), .d (.l [])]]), (3, .cells 26 3 [auRowC a0]), (4, .cells 26 3 [auRowC a5])] [0, 1, 2, 3, 4] (by first | (simp [hΓ]; done) | (rw [hΓ]; decide)) (by (repeat' (first | exact trivial | rfl | refine And.intro ?_ ?_)) <;> (simp [EnvSub, StoreSub, look_cons, nm, nmo, E.ren, C.ren, C.renL, O.ren, Store.ren, killc, kill0, killL, kill, fillC, spliceC, eC, Function.comp_def, argsFrom, zC, hΓ, rawR_ren, cond_eq_ite, Nat.beq_eq, spliceC, eC] <;> rfl)) ?_; (try dsimp only [List.cons_append, List.nil_append])
    have ha5 : ABd 43 a5 := ha5.mono (by omega)
    have hx41 : ABd 41 a0 := ha0
    obtain ⟨d, d1, d2, hd⟩ := pick_ok (TB := TB) b hb (q) 20 (by omega)
    (repeat first | refine sN rfl ?_ | ((first|refine sA rfl ?_ ?_|refine s4 rfl ‹_› rfl ?_ ?_);first|exact tI|omega|(simp only[oZ] at *;omega)) | (refine s2 rfl ?_;intro _ _hb) | (refine s3 rfl ?_ ?_<;>intro hb<;>subst hb) | refine aS ?_ | refine reg (by kernel_rfl) ?_ | refine lexE ?_)
    (refine popO rfl ?_;refine popW ?_ rfl (by rfl);refine n_call [0] rfl rfl (hd) ⟨rfl, by decide, by decide⟩ rfl (by simp [EnvSub, StoreSub, look_cons, nm, nmo, E.ren, C.ren, C.renL, O.ren, Store.ren, killc, kill0, killL, kill, fillC, spliceC, eC, Function.comp_def, argsFrom, zC, hΓ, rawR_ren, cond_eq_ite, Nat.beq_eq]) ?_;rintro x0 σ1 nx1 ⟨rfl, rfl, rfl⟩ _)
    (repeat first | refine sN rfl ?_ | ((first|refine sA rfl ?_ ?_|refine s4 rfl ‹_› rfl ?_ ?_);first|exact tI|omega|(simp only[oZ] at *;omega)) | (refine s2 rfl ?_;intro _ _hb) | (refine s3 rfl ?_ ?_<;>intro hb<;>subst hb))
    refine lexE ?_
    refine AWp.namesV [27] [] rfl rfl [(0, .o (.ptr 0 2 0 0)), (2, .o (.ptr 1 3 0 0)), (3, .o (.ptr 2 3 0 0)), (4, .o (.ptr 3 3 0 0)), (5, .o (.ptr 4 3 0 0))] [(0, rdO b (q + 1)), (1, .cells 26 3 [[.d (iD 0), .d (.l []), .d (.l [])]]), (2, .cells 26 3 [[.d (iD 0), .d (.l []), .d (.l [])]]), (3, .cells 26 3 [auRowC a0]), (4, .cells 26 3 [auRowC a5])] [0, 1, 2, 3, 4] (by first | (simp [hΓ]; done) | (rw [hΓ]; decide)) (by (repeat' (first | exact trivial | rfl | refine And.intro ?_ ?_)) <;> (simp [EnvSub, StoreSub, look_cons, nm, nmo, E.ren, C.ren, C.renL, O.ren, Store.ren, killc, kill0, killL, kill, fillC, spliceC, eC, Function.comp_def, argsFrom, zC, hΓ, rawR_ren, cond_eq_ite, Nat.beq_eq, spliceC, eC] <;> rfl)) ?_; (try dsimp only [List.cons_append, List.nil_append])
    refine AWp.block ?_
    (repeat first | refine sN rfl ?_ | ((first|refine sA rfl ?_ ?_|refine s4 rfl ‹_› rfl ?_ ?_);first|exact tI|omega|(simp only[oZ] at *;omega)) | (refine s2 rfl ?_;intro _ _hb) | (refine s3 rfl ?_ ?_<;>intro hb<;>subst hb) | refine aS ?_ | refine reg (by kernel_rfl) ?_ | refine lexE ?_)
    (refine aC rfl ?_ ?_<;>intro hb<;>cases hb)
    · (repeat first | refine sN rfl ?_ | ((first|refine sA rfl ?_ ?_|refine s4 rfl ‹_› rfl ?_ ?_);first|exact tI|omega|(simp only[oZ] at *;omega)) | (refine s2 rfl ?_;intro _ _hb) | (refine s3 rfl ?_ ?_<;>intro hb<;>subst hb) | refine aS ?_ | refine reg (by kernel_rfl) ?_ | refine lexE ?_)
      (refine popO rfl ?_;refine popW ?_ rfl (by rfl);refine n_call [0] rfl rfl (l3Wrong_ok (TB := TB) b hb (q + 1) (by omega) a0 41 ha0 (by omega)) ⟨rfl, by decide, by decide⟩ rfl (by simp [EnvSub, StoreSub, look_cons, nm, nmo, E.ren, C.ren, C.renL, O.ren, Store.ren, killc, kill0, killL, kill, fillC, spliceC, eC, Function.comp_def, argsFrom, zC, hΓ, rawR_ren, cond_eq_ite, Nat.beq_eq]) ?_;rintro x0 σ1 nx1 ⟨r1, u1, hr1, hu1, rfl, rfl, rfl⟩ _)
      (repeat first | refine sN rfl ?_ | ((first|refine sA rfl ?_ ?_|refine s4 rfl ‹_› rfl ?_ ?_);first|exact tI|omega|(simp only[oZ] at *;omega)) | (refine s2 rfl ?_;intro _ _hb) | (refine s3 rfl ?_ ?_<;>intro hb<;>subst hb) | refine aS ?_ | refine reg (by kernel_rfl) ?_ | refine lexE ?_)
      (refine popO rfl ?_;refine popW ?_ rfl (by rfl);refine n_call [0] rfl rfl (l3Wrong_ok (TB := TB) b hb (r1) (by omega) u1 55 hu1 (by omega)) ⟨rfl, by decide, by decide⟩ rfl (by simp [EnvSub, StoreSub, look_cons, nm, nmo, E.ren, C.ren, C.renL, O.ren, Store.ren, killc, kill0, killL, kill, fillC, spliceC, eC, Function.comp_def, argsFrom, zC, hΓ, rawR_ren, cond_eq_ite, Nat.beq_eq]) ?_;rintro x0 σ1 nx1 ⟨r2, u2, hr2, hu2, rfl, rfl, rfl⟩ _)
      (repeat first | refine sN rfl ?_ | ((first|refine sA rfl ?_ ?_|refine s4 rfl ‹_› rfl ?_ ?_);first|exact tI|omega|(simp only[oZ] at *;omega)) | (refine s2 rfl ?_;intro _ _hb) | (refine s3 rfl ?_ ?_<;>intro hb<;>subst hb) | refine aS ?_ | refine reg (by kernel_rfl) ?_ | refine lexE ?_)
      (refine popO rfl ?_;refine popW ?_ rfl (by rfl);refine n_call [0] rfl rfl (l3Wrong_ok (TB := TB) b hb (r2) (by omega) u2 69 hu2 (by omega)) ⟨rfl, by decide, by decide⟩ rfl (by simp [EnvSub, StoreSub, look_cons, nm, nmo, E.ren, C.ren, C.renL, O.ren, Store.ren, killc, kill0, killL, kill, fillC, spliceC, eC, Function.comp_def, argsFrom, zC, hΓ, rawR_ren, cond_eq_ite, Nat.beq_eq]) ?_;rintro x0 σ1 nx1 ⟨r3, u3, hr3, hu3, rfl, rfl, rfl⟩ _)
      (repeat first | refine sN rfl ?_ | ((first|refine sA rfl ?_ ?_|refine s4 rfl ‹_› rfl ?_ ?_);first|exact tI|omega|(simp only[oZ] at *;omega)) | (refine s2 rfl ?_;intro _ _hb) | (refine s3 rfl ?_ ?_<;>intro hb<;>subst hb) | refine aS ?_ | refine reg (by kernel_rfl) ?_ | refine lexE ?_)
      refine regD (flX [(0, 13), (1, 14), (2, 1016), (3, 1)]) mixed (by kernel_rfl) (by kernel_rfl) ?_
      (repeat first | refine sN rfl ?_ | ((first|refine sA rfl ?_ ?_|refine s4 rfl ‹_› rfl ?_ ?_);first|exact tI|omega|(simp only[oZ] at *;omega)) | (refine s2 rfl ?_;intro _ _hb) | (refine s3 rfl ?_ ?_<;>intro hb<;>subst hb) | refine aS ?_ | refine reg (by kernel_rfl) ?_ | refine lexE ?_)
      (refine popO rfl ?_; refine popWK0 ?_ rfl ⟨rfl, rfl⟩; refine n_store rfl rfl rfl rfl (by rfl) rfl (Nat.le_of_ble_eq_true rfl) ?_; refine ⟨kept1 4 rfl rfl, ?_⟩)
      (repeat first | refine sN rfl ?_ | ((first|refine sA rfl ?_ ?_|refine s4 rfl ‹_› rfl ?_ ?_);first|exact tI|omega|(simp only[oZ] at *;omega)) | (refine s2 rfl ?_;intro _ _hb) | (refine s3 rfl ?_ ?_<;>intro hb<;>subst hb) | refine aS ?_ | refine reg (by kernel_rfl) ?_ | refine lexE ?_)
      exact AWp.ret ⟨_, rfl, [0], eAA (u3, a5), [(0, rdO b (r3))], ⟨by intro i hi; match i with | 0 => rfl, by decide⟩, rfl, by (repeat' (first | exact trivial | rfl | refine And.intro ?_ ?_)) <;> (simp [EnvSub, StoreSub, look_cons, nm, nmo, E.ren, C.ren, C.renL, O.ren, Store.ren, killc, kill0, killL, kill, fillC, spliceC, eC, Function.comp_def, argsFrom, zC, hΓ, rawR_ren, cond_eq_ite, Nat.beq_eq, spliceC, eC] <;> rfl), (u3, a5), r3, rfl, rfl, rfl⟩
    (repeat first | refine sN rfl ?_ | ((first|refine sA rfl ?_ ?_|refine s4 rfl ‹_› rfl ?_ ?_);first|exact tI|omega|(simp only[oZ] at *;omega)) | (refine s2 rfl ?_;intro _ _hb) | (refine s3 rfl ?_ ?_<;>intro hb<;>subst hb) | refine aS ?_ | refine reg (by kernel_rfl) ?_ | refine lexE ?_)
    (refine aC rfl ?_ ?_<;>intro hb<;>cases hb)
    · (repeat first | refine sN rfl ?_ | ((first|refine sA rfl ?_ ?_|refine s4 rfl ‹_› rfl ?_ ?_);first|exact tI|omega|(simp only[oZ] at *;omega)) | (refine s2 rfl ?_;intro _ _hb) | (refine s3 rfl ?_ ?_<;>intro hb<;>subst hb) | refine aS ?_ | refine reg (by kernel_rfl) ?_ | refine lexE ?_)
      (refine popO rfl ?_;refine popW ?_ rfl (by rfl);refine n_call [0] rfl rfl (l3Wrong_ok (TB := TB) b hb (q + 1) (by omega) a5 43 ha5 (by omega)) ⟨rfl, by decide, by decide⟩ rfl (by simp [EnvSub, StoreSub, look_cons, nm, nmo, E.ren, C.ren, C.renL, O.ren, Store.ren, killc, kill0, killL, kill, fillC, spliceC, eC, Function.comp_def, argsFrom, zC, hΓ, rawR_ren, cond_eq_ite, Nat.beq_eq]) ?_;rintro x0 σ1 nx1 ⟨r1, u1, hr1, hu1, rfl, rfl, rfl⟩ _)
      (repeat first | refine sN rfl ?_ | ((first|refine sA rfl ?_ ?_|refine s4 rfl ‹_› rfl ?_ ?_);first|exact tI|omega|(simp only[oZ] at *;omega)) | (refine s2 rfl ?_;intro _ _hb) | (refine s3 rfl ?_ ?_<;>intro hb<;>subst hb) | refine aS ?_ | refine reg (by kernel_rfl) ?_ | refine lexE ?_)
      (refine popO rfl ?_;refine popW ?_ rfl (by rfl);refine n_call [0] rfl rfl (l3Wrong_ok (TB := TB) b hb (r1) (by omega) u1 57 hu1 (by omega)) ⟨rfl, by decide, by decide⟩ rfl (by simp [EnvSub, StoreSub, look_cons, nm, nmo, E.ren, C.ren, C.renL, O.ren, Store.ren, killc, kill0, killL, kill, fillC, spliceC, eC, Function.comp_def, argsFrom, zC, hΓ, rawR_ren, cond_eq_ite, Nat.beq_eq]) ?_;rintro x0 σ1 nx1 ⟨r2, u2, hr2, hu2, rfl, rfl, rfl⟩ _)
      (repeat first | refine sN rfl ?_ | ((first|refine sA rfl ?_ ?_|refine s4 rfl ‹_› rfl ?_ ?_);first|exact tI|omega|(simp only[oZ] at *;omega)) | (refine s2 rfl ?_;intro _ _hb) | (refine s3 rfl ?_ ?_<;>intro hb<;>subst hb) | refine aS ?_ | refine reg (by kernel_rfl) ?_ | refine lexE ?_)
      (refine popO rfl ?_;refine popW ?_ rfl (by rfl);refine n_call [0] rfl rfl (l3Wrong_ok (TB := TB) b hb (r2) (by omega) u2 71 hu2 (by omega)) ⟨rfl, by decide, by decide⟩ rfl (by simp [EnvSub, StoreSub, look_cons, nm, nmo, E.ren, C.ren, C.renL, O.ren, Store.ren, killc, kill0, killL, kill, fillC, spliceC, eC, Function.comp_def, argsFrom, zC, hΓ, rawR_ren, cond_eq_ite, Nat.beq_eq]) ?_;rintro x0 σ1 nx1 ⟨r3, u3, hr3, hu3, rfl, rfl, rfl⟩ _)
      (repeat first | refine sN rfl ?_ | ((first|refine sA rfl ?_ ?_|refine s4 rfl ‹_› rfl ?_ ?_);first|exact tI|omega|(simp only[oZ] at *;omega)) | (refine s2 rfl ?_;intro _ _hb) | (refine s3 rfl ?_ ?_<;>intro hb<;>subst hb) | refine aS ?_ | refine reg (by kernel_rfl) ?_ | refine lexE ?_)
      refine regD (flX [(0, 13), (1, 14), (2, 1016), (3, 1)]) mixed (by kernel_rfl) (by kernel_rfl) ?_
      (repeat first | refine sN rfl ?_ | ((first|refine sA rfl ?_ ?_|refine s4 rfl ‹_› rfl ?_ ?_);first|exact tI|omega|(simp only[oZ] at *;omega)) | (refine s2 rfl ?_;intro _ _hb) | (refine s3 rfl ?_ ?_<;>intro hb<;>subst hb) | refine aS ?_ | refine reg (by kernel_rfl) ?_ | refine lexE ?_)
      (refine popO rfl ?_; refine popWK0 ?_ rfl ⟨rfl, rfl⟩; refine n_store rfl rfl rfl rfl (by rfl) rfl (Nat.le_of_ble_eq_true rfl) ?_; refine ⟨kept1 4 rfl rfl, ?_⟩)
      (repeat first | refine sN rfl ?_ | ((first|refine sA rfl ?_ ?_|refine s4 rfl ‹_› rfl ?_ ?_);first|exact tI|omega|(simp only[oZ] at *;omega)) | (refine s2 rfl ?_;intro _ _hb) | (refine s3 rfl ?_ ?_<;>intro hb<;>subst hb) | refine aS ?_ | refine reg (by kernel_rfl) ?_ | refine lexE ?_)
      exact AWp.ret ⟨_, rfl, [0], eAA (a0, u3), [(0, rdO b (r3))], ⟨by intro i hi; match i with | 0 => rfl, by decide⟩, rfl, by (repeat' (first | exact trivial | rfl | refine And.intro ?_ ?_)) <;> (simp [EnvSub, StoreSub, look_cons, nm, nmo, E.ren, C.ren, C.renL, O.ren, Store.ren, killc, kill0, killL, kill, fillC, spliceC, eC, Function.comp_def, argsFrom, zC, hΓ, rawR_ren, cond_eq_ite, Nat.beq_eq, spliceC, eC] <;> rfl), (a0, u3), r3, rfl, rfl, rfl⟩
    (repeat first | refine sN rfl ?_ | ((first|refine sA rfl ?_ ?_|refine s4 rfl ‹_› rfl ?_ ?_);first|exact tI|omega|(simp only[oZ] at *;omega)) | (refine s2 rfl ?_;intro _ _hb) | (refine s3 rfl ?_ ?_<;>intro hb<;>subst hb) | refine aS ?_ | refine reg (by kernel_rfl) ?_ | refine lexE ?_)
    (refine aC rfl ?_ ?_<;>intro hb<;>cases hb)
    · (repeat first | refine sN rfl ?_ | ((first|refine sA rfl ?_ ?_|refine s4 rfl ‹_› rfl ?_ ?_);first|exact tI|omega|(simp only[oZ] at *;omega)) | (refine s2 rfl ?_;intro _ _hb) | (refine s3 rfl ?_ ?_<;>intro hb<;>subst hb) | refine aS ?_ | refine reg (by kernel_rfl) ?_ | refine lexE ?_)
      (refine popO rfl ?_;refine popW ?_ rfl (by rfl);refine n_call [0] rfl rfl (l3Draw_ok (TB := TB) b hb (q + 1) (by omega)) ⟨rfl, by decide, by decide⟩ rfl (by simp [EnvSub, StoreSub, look_cons, nm, nmo, E.ren, C.ren, C.renL, O.ren, Store.ren, killc, kill0, killL, kill, fillC, spliceC, eC, Function.comp_def, argsFrom, zC, hΓ, rawR_ren, cond_eq_ite, Nat.beq_eq]) ?_;rintro x0 σ1 nx1 ⟨r1, u1, hr1, hu1, rfl, rfl, rfl⟩ _)
      (repeat first | refine sN rfl ?_ | ((first|refine sA rfl ?_ ?_|refine s4 rfl ‹_› rfl ?_ ?_);first|exact tI|omega|(simp only[oZ] at *;omega)) | (refine s2 rfl ?_;intro _ _hb) | (refine s3 rfl ?_ ?_<;>intro hb<;>subst hb) | refine aS ?_ | refine reg (by kernel_rfl) ?_ | refine lexE ?_)
      refine regD (flX [(0, 13), (1, 14), (2, 1016), (3, 1)]) mixed (by kernel_rfl) (by kernel_rfl) ?_
      (repeat first | refine sN rfl ?_ | ((first|refine sA rfl ?_ ?_|refine s4 rfl ‹_› rfl ?_ ?_);first|exact tI|omega|(simp only[oZ] at *;omega)) | (refine s2 rfl ?_;intro _ _hb) | (refine s3 rfl ?_ ?_<;>intro hb<;>subst hb) | refine aS ?_ | refine reg (by kernel_rfl) ?_ | refine lexE ?_)
      (refine popO rfl ?_; refine popWK0 ?_ rfl ⟨rfl, rfl⟩; refine n_store rfl rfl rfl rfl (by rfl) rfl (Nat.le_of_ble_eq_true rfl) ?_; refine ⟨kept1 4 rfl rfl, ?_⟩)
      (repeat first | refine sN rfl ?_ | ((first|refine sA rfl ?_ ?_|refine s4 rfl ‹_› rfl ?_ ?_);first|exact tI|omega|(simp only[oZ] at *;omega)) | (refine s2 rfl ?_;intro _ _hb) | (refine s3 rfl ?_ ?_<;>intro hb<;>subst hb) | refine aS ?_ | refine reg (by kernel_rfl) ?_ | refine lexE ?_)
      exact AWp.ret ⟨_, rfl, [0], eAA (a0, u1), [(0, rdO b (r1))], ⟨by intro i hi; match i with | 0 => rfl, by decide⟩, rfl, by (repeat' (first | exact trivial | rfl | refine And.intro ?_ ?_)) <;> (simp [EnvSub, StoreSub, look_cons, nm, nmo, E.ren, C.ren, C.renL, O.ren, Store.ren, killc, kill0, killL, kill, fillC, spliceC, eC, Function.comp_def, argsFrom, zC, hΓ, rawR_ren, cond_eq_ite, Nat.beq_eq, spliceC, eC] <;> rfl), (a0, u1), r1, rfl, rfl, rfl⟩
    (repeat first | refine sN rfl ?_ | ((first|refine sA rfl ?_ ?_|refine s4 rfl ‹_› rfl ?_ ?_);first|exact tI|omega|(simp only[oZ] at *;omega)) | (refine s2 rfl ?_;intro _ _hb) | (refine s3 rfl ?_ ?_<;>intro hb<;>subst hb) | refine aS ?_ | refine reg (by kernel_rfl) ?_ | refine lexE ?_)
    (refine aC rfl ?_ ?_<;>intro hb<;>cases hb)
    · (repeat first | refine sN rfl ?_ | ((first|refine sA rfl ?_ ?_|refine s4 rfl ‹_› rfl ?_ ?_);first|exact tI|omega|(simp only[oZ] at *;omega)) | (refine s2 rfl ?_;intro _ _hb) | (refine s3 rfl ?_ ?_<;>intro hb<;>subst hb) | refine aS ?_ | refine reg (by kernel_rfl) ?_ | refine lexE ?_)
      (refine popO rfl ?_;refine popW ?_ rfl (by rfl);refine n_call [0] rfl rfl (l3Big_ok (TB := TB) b hb (q + 1) (by omega)) ⟨rfl, by decide, by decide⟩ rfl (by simp [EnvSub, StoreSub, look_cons, nm, nmo, E.ren, C.ren, C.renL, O.ren, Store.ren, killc, kill0, killL, kill, fillC, spliceC, eC, Function.comp_def, argsFrom, zC, hΓ, rawR_ren, cond_eq_ite, Nat.beq_eq]) ?_;rintro x0 σ1 nx1 ⟨r1, u1, hr1, hu1, rfl, rfl, rfl⟩ _)
      (repeat first | refine sN rfl ?_ | ((first|refine sA rfl ?_ ?_|refine s4 rfl ‹_› rfl ?_ ?_);first|exact tI|omega|(simp only[oZ] at *;omega)) | (refine s2 rfl ?_;intro _ _hb) | (refine s3 rfl ?_ ?_<;>intro hb<;>subst hb) | refine aS ?_ | refine reg (by kernel_rfl) ?_ | refine lexE ?_)
      (refine popO rfl ?_;refine popW ?_ rfl (by rfl);refine n_call [0] rfl rfl (l4Change_ok (TB := TB) b hb r1 (by omega) u1 12 hu1 (by omega)) ⟨rfl, by decide, by decide⟩ rfl (by simp [EnvSub, StoreSub, look_cons, nm, nmo, E.ren, C.ren, C.renL, O.ren, Store.ren, killc, kill0, killL, kill, fillC, spliceC, eC, Function.comp_def, argsFrom, zC, hΓ, rawR_ren, cond_eq_ite, Nat.beq_eq]) ?_;rintro x0 σ1 nx1 ⟨r2, u2, hr2, ⟨_, hu2⟩, rfl, rfl, rfl⟩ _)
      (repeat first | refine sN rfl ?_ | ((first|refine sA rfl ?_ ?_|refine s4 rfl ‹_› rfl ?_ ?_);first|exact tI|omega|(simp only[oZ] at *;omega)) | (refine s2 rfl ?_;intro _ _hb) | (refine s3 rfl ?_ ?_<;>intro hb<;>subst hb) | refine aS ?_ | refine reg (by kernel_rfl) ?_ | refine lexE ?_)
      refine regD (flX [(0, 13), (1, 14), (2, 1016), (3, 1)]) mixed (by kernel_rfl) (by kernel_rfl) ?_
      (repeat first | refine sN rfl ?_ | ((first|refine sA rfl ?_ ?_|refine s4 rfl ‹_› rfl ?_ ?_);first|exact tI|omega|(simp only[oZ] at *;omega)) | (refine s2 rfl ?_;intro _ _hb) | (refine s3 rfl ?_ ?_<;>intro hb<;>subst hb) | refine aS ?_ | refine reg (by kernel_rfl) ?_ | refine lexE ?_)
      (refine popO rfl ?_; refine popWK0 ?_ rfl ⟨rfl, rfl⟩; refine n_store rfl rfl rfl rfl (by rfl) rfl (Nat.le_of_ble_eq_true rfl) ?_; refine ⟨kept1 4 rfl rfl, ?_⟩)
      (repeat first | refine sN rfl ?_ | ((first|refine sA rfl ?_ ?_|refine s4 rfl ‹_› rfl ?_ ?_);first|exact tI|omega|(simp only[oZ] at *;omega)) | (refine s2 rfl ?_;intro _ _hb) | (refine s3 rfl ?_ ?_<;>intro hb<;>subst hb) | refine aS ?_ | refine reg (by kernel_rfl) ?_ | refine lexE ?_)
      exact AWp.ret ⟨_, rfl, [0], eAA (u1, u2), [(0, rdO b (r2))], ⟨by intro i hi; match i with | 0 => rfl, by decide⟩, rfl, by (repeat' (first | exact trivial | rfl | refine And.intro ?_ ?_)) <;> (simp [EnvSub, StoreSub, look_cons, nm, nmo, E.ren, C.ren, C.renL, O.ren, Store.ren, killc, kill0, killL, kill, fillC, spliceC, eC, Function.comp_def, argsFrom, zC, hΓ, rawR_ren, cond_eq_ite, Nat.beq_eq, spliceC, eC] <;> rfl), (u1, u2), r2, rfl, rfl, rfl⟩
    refine AWp.skip ?_
    (repeat first | refine sN rfl ?_ | ((first|refine sA rfl ?_ ?_|refine s4 rfl ‹_› rfl ?_ ?_);first|exact tI|omega|(simp only[oZ] at *;omega)) | (refine s2 rfl ?_;intro _ _hb) | (refine s3 rfl ?_ ?_<;>intro hb<;>subst hb) | refine aS ?_ | refine reg (by kernel_rfl) ?_ | refine lexE ?_)
    refine regD (flX [(0, 13), (1, 14), (2, 1016), (3, 1)]) mixed (by kernel_rfl) (by kernel_rfl) ?_
    (repeat first | refine sN rfl ?_ | ((first|refine sA rfl ?_ ?_|refine s4 rfl ‹_› rfl ?_ ?_);first|exact tI|omega|(simp only[oZ] at *;omega)) | (refine s2 rfl ?_;intro _ _hb) | (refine s3 rfl ?_ ?_<;>intro hb<;>subst hb) | refine aS ?_ | refine reg (by kernel_rfl) ?_ | refine lexE ?_)
    (refine popO rfl ?_; refine popWK0 ?_ rfl ⟨rfl, rfl⟩; refine n_store rfl rfl rfl rfl (by rfl) rfl (Nat.le_of_ble_eq_true rfl) ?_; refine ⟨kept1 4 rfl rfl, ?_⟩)
    (repeat first | refine sN rfl ?_ | ((first|refine sA rfl ?_ ?_|refine s4 rfl ‹_› rfl ?_ ?_);first|exact tI|omega|(simp only[oZ] at *;omega)) | (refine s2 rfl ?_;intro _ _hb) | (refine s3 rfl ?_ ?_<;>intro hb<;>subst hb) | refine aS ?_ | refine reg (by kernel_rfl) ?_ | refine lexE ?_)
    exact AWp.ret ⟨_, rfl, [0], eAA (a0, a5), [(0, rdO b (q + 1))], ⟨by intro i hi; match i with | 0 => rfl, by decide⟩, rfl, by (repeat' (first | exact trivial | rfl | refine And.intro ?_ ?_)) <;> (simp [EnvSub, StoreSub, look_cons, nm, nmo, E.ren, C.ren, C.renL, O.ren, Store.ren, killc, kill0, killL, kill, fillC, spliceC, eC, Function.comp_def, argsFrom, zC, hΓ, rawR_ren, cond_eq_ite, Nat.beq_eq, spliceC, eC] <;> rfl), (a0, a5), q + 1, rfl, rfl, rfl⟩
  (repeat first | refine sN rfl ?_ | ((first|refine sA rfl ?_ ?_|refine s4 rfl ‹_› rfl ?_ ?_);first|exact tI|omega|(simp only[oZ] at *;omega)) | (refine s2 rfl ?_;intro _ _hb) | (refine s3 rfl ?_ ?_<;>intro hb<;>subst hb) | refine aS ?_ | refine reg (by kernel_rfl) ?_ | refine lexE ?_)
  (refine aC rfl ?_ ?_<;>intro hb<;>cases hb)
  · (repeat first | refine sN rfl ?_ | ((first|refine sA rfl ?_ ?_|refine s4 rfl ‹_› rfl ?_ ?_);first|exact tI|omega|(simp only[oZ] at *;omega)) | (refine s2 rfl ?_;intro _ _hb) | (refine s3 rfl ?_ ?_<;>intro hb<;>subst hb) | refine aS ?_ | refine reg (by kernel_rfl) ?_ | refine lexE ?_)
    (refine popO rfl ?_;refine popW ?_ rfl (by rfl);refine n_call [0] rfl rfl (l4Change_ok (TB := TB) b hb (p3 + 1) (by omega) a0 41 ha0 (by omega)) ⟨rfl, by decide, by decide⟩ rfl (by simp [EnvSub, StoreSub, look_cons, nm, nmo, E.ren, C.ren, C.renL, O.ren, Store.ren, killc, kill0, killL, kill, fillC, spliceC, eC, Function.comp_def, argsFrom, zC, hΓ, rawR_ren, cond_eq_ite, Nat.beq_eq]) ?_;rintro x0 σ1 nx1 ⟨q, a5, hq, ⟨_, ha5⟩, rfl, rfl, rfl⟩ _)
    (repeat first | refine sN rfl ?_ | ((first|refine sA rfl ?_ ?_|refine s4 rfl ‹_› rfl ?_ ?_);first|exact tI|omega|(simp only[oZ] at *;omega)) | (refine s2 rfl ?_;intro _ _hb) | (refine s3 rfl ?_ ?_<;>intro hb<;>subst hb))
    refine lexE ?_
    refine AWp.namesV [] [] rfl rfl [(0, .o (.ptr 0 2 0 0)), (2, .o (.ptr 1 3 0 0)), (3, .o (.ptr 2 3 0 0)), (4, .o (.ptr 3 3 0 0)), (5, .o (.ptr 4 3 0 0))] [(0, rdO b (q)), (1, .cells 26 3 [[.d (iD 0), .d (.l []), .d (.l [])]]), (2, .cells 26 3 [[.d (iD 0), .d (.l []), .d (.l [])]]), (3, .cells 26 3 [auRowC a0]), (4, .cells 26 3 [auRowC a5])] [0, 1, 2, 3, 4] (by first | (simp [hΓ]; done) | (rw [hΓ]; decide)) (by (repeat' (first | exact trivial | rfl | refine And.intro ?_ ?_)) <;> (simp [EnvSub, StoreSub, look_cons, nm, nmo, E.ren, C.ren, C.renL, O.ren, Store.ren, killc, kill0, killL, kill, fillC, spliceC, eC, Function.comp_def, argsFrom, zC, hΓ, rawR_ren, cond_eq_ite, Nat.beq_eq, spliceC, eC] <;> rfl)) ?_; (try dsimp only [List.cons_append, List.nil_append])
    have ha5 : ABd 43 a5 := ha5.mono (by omega)
    have hx41 : ABd 41 a0 := ha0
    obtain ⟨d, d1, d2, hd⟩ := pick_ok (TB := TB) b hb (q) 20 (by omega)
    (repeat first | refine sN rfl ?_ | ((first|refine sA rfl ?_ ?_|refine s4 rfl ‹_› rfl ?_ ?_);first|exact tI|omega|(simp only[oZ] at *;omega)) | (refine s2 rfl ?_;intro _ _hb) | (refine s3 rfl ?_ ?_<;>intro hb<;>subst hb) | refine aS ?_ | refine reg (by kernel_rfl) ?_ | refine lexE ?_)
    (refine popO rfl ?_;refine popW ?_ rfl (by rfl);refine n_call [0] rfl rfl (hd) ⟨rfl, by decide, by decide⟩ rfl (by simp [EnvSub, StoreSub, look_cons, nm, nmo, E.ren, C.ren, C.renL, O.ren, Store.ren, killc, kill0, killL, kill, fillC, spliceC, eC, Function.comp_def, argsFrom, zC, hΓ, rawR_ren, cond_eq_ite, Nat.beq_eq]) ?_;rintro x0 σ1 nx1 ⟨rfl, rfl, rfl⟩ _)
    (repeat first | refine sN rfl ?_ | ((first|refine sA rfl ?_ ?_|refine s4 rfl ‹_› rfl ?_ ?_);first|exact tI|omega|(simp only[oZ] at *;omega)) | (refine s2 rfl ?_;intro _ _hb) | (refine s3 rfl ?_ ?_<;>intro hb<;>subst hb))
    refine lexE ?_
    refine AWp.namesV [27] [] rfl rfl [(0, .o (.ptr 0 2 0 0)), (2, .o (.ptr 1 3 0 0)), (3, .o (.ptr 2 3 0 0)), (4, .o (.ptr 3 3 0 0)), (5, .o (.ptr 4 3 0 0))] [(0, rdO b (q + 1)), (1, .cells 26 3 [[.d (iD 0), .d (.l []), .d (.l [])]]), (2, .cells 26 3 [[.d (iD 0), .d (.l []), .d (.l [])]]), (3, .cells 26 3 [auRowC a0]), (4, .cells 26 3 [auRowC a5])] [0, 1, 2, 3, 4] (by first | (simp [hΓ]; done) | (rw [hΓ]; decide)) (by (repeat' (first | exact trivial | rfl | refine And.intro ?_ ?_)) <;> (simp [EnvSub, StoreSub, look_cons, nm, nmo, E.ren, C.ren, C.renL, O.ren, Store.ren, killc, kill0, killL, kill, fillC, spliceC, eC, Function.comp_def, argsFrom, zC, hΓ, rawR_ren, cond_eq_ite, Nat.beq_eq, spliceC, eC] <;> rfl)) ?_; (try dsimp only [List.cons_append, List.nil_append])
    refine AWp.block ?_
    (repeat first | refine sN rfl ?_ | ((first|refine sA rfl ?_ ?_|refine s4 rfl ‹_› rfl ?_ ?_);first|exact tI|omega|(simp only[oZ] at *;omega)) | (refine s2 rfl ?_;intro _ _hb) | (refine s3 rfl ?_ ?_<;>intro hb<;>subst hb) | refine aS ?_ | refine reg (by kernel_rfl) ?_ | refine lexE ?_)
    (refine aC rfl ?_ ?_<;>intro hb<;>cases hb)
    · (repeat first | refine sN rfl ?_ | ((first|refine sA rfl ?_ ?_|refine s4 rfl ‹_› rfl ?_ ?_);first|exact tI|omega|(simp only[oZ] at *;omega)) | (refine s2 rfl ?_;intro _ _hb) | (refine s3 rfl ?_ ?_<;>intro hb<;>subst hb) | refine aS ?_ | refine reg (by kernel_rfl) ?_ | refine lexE ?_)
      (refine popO rfl ?_;refine popW ?_ rfl (by rfl);refine n_call [0] rfl rfl (l3Wrong_ok (TB := TB) b hb (q + 1) (by omega) a0 41 ha0 (by omega)) ⟨rfl, by decide, by decide⟩ rfl (by simp [EnvSub, StoreSub, look_cons, nm, nmo, E.ren, C.ren, C.renL, O.ren, Store.ren, killc, kill0, killL, kill, fillC, spliceC, eC, Function.comp_def, argsFrom, zC, hΓ, rawR_ren, cond_eq_ite, Nat.beq_eq]) ?_;rintro x0 σ1 nx1 ⟨r1, u1, hr1, hu1, rfl, rfl, rfl⟩ _)
      (repeat first | refine sN rfl ?_ | ((first|refine sA rfl ?_ ?_|refine s4 rfl ‹_› rfl ?_ ?_);first|exact tI|omega|(simp only[oZ] at *;omega)) | (refine s2 rfl ?_;intro _ _hb) | (refine s3 rfl ?_ ?_<;>intro hb<;>subst hb) | refine aS ?_ | refine reg (by kernel_rfl) ?_ | refine lexE ?_)
      (refine popO rfl ?_;refine popW ?_ rfl (by rfl);refine n_call [0] rfl rfl (l3Wrong_ok (TB := TB) b hb (r1) (by omega) u1 55 hu1 (by omega)) ⟨rfl, by decide, by decide⟩ rfl (by simp [EnvSub, StoreSub, look_cons, nm, nmo, E.ren, C.ren, C.renL, O.ren, Store.ren, killc, kill0, killL, kill, fillC, spliceC, eC, Function.comp_def, argsFrom, zC, hΓ, rawR_ren, cond_eq_ite, Nat.beq_eq]) ?_;rintro x0 σ1 nx1 ⟨r2, u2, hr2, hu2, rfl, rfl, rfl⟩ _)
      (repeat first | refine sN rfl ?_ | ((first|refine sA rfl ?_ ?_|refine s4 rfl ‹_› rfl ?_ ?_);first|exact tI|omega|(simp only[oZ] at *;omega)) | (refine s2 rfl ?_;intro _ _hb) | (refine s3 rfl ?_ ?_<;>intro hb<;>subst hb) | refine aS ?_ | refine reg (by kernel_rfl) ?_ | refine lexE ?_)
      (refine popO rfl ?_;refine popW ?_ rfl (by rfl);refine n_call [0] rfl rfl (l3Wrong_ok (TB := TB) b hb (r2) (by omega) u2 69 hu2 (by omega)) ⟨rfl, by decide, by decide⟩ rfl (by simp [EnvSub, StoreSub, look_cons, nm, nmo, E.ren, C.ren, C.renL, O.ren, Store.ren, killc, kill0, killL, kill, fillC, spliceC, eC, Function.comp_def, argsFrom, zC, hΓ, rawR_ren, cond_eq_ite, Nat.beq_eq]) ?_;rintro x0 σ1 nx1 ⟨r3, u3, hr3, hu3, rfl, rfl, rfl⟩ _)
      (repeat first | refine sN rfl ?_ | ((first|refine sA rfl ?_ ?_|refine s4 rfl ‹_› rfl ?_ ?_);first|exact tI|omega|(simp only[oZ] at *;omega)) | (refine s2 rfl ?_;intro _ _hb) | (refine s3 rfl ?_ ?_<;>intro hb<;>subst hb) | refine aS ?_ | refine reg (by kernel_rfl) ?_ | refine lexE ?_)
      refine regD (flX [(0, 13), (1, 14), (2, 1016), (3, 1)]) mixed (by kernel_rfl) (by kernel_rfl) ?_
      (repeat first | refine sN rfl ?_ | ((first|refine sA rfl ?_ ?_|refine s4 rfl ‹_› rfl ?_ ?_);first|exact tI|omega|(simp only[oZ] at *;omega)) | (refine s2 rfl ?_;intro _ _hb) | (refine s3 rfl ?_ ?_<;>intro hb<;>subst hb) | refine aS ?_ | refine reg (by kernel_rfl) ?_ | refine lexE ?_)
      (refine popO rfl ?_; refine popWK0 ?_ rfl ⟨rfl, rfl⟩; refine n_store rfl rfl rfl rfl (by rfl) rfl (Nat.le_of_ble_eq_true rfl) ?_; refine ⟨kept1 4 rfl rfl, ?_⟩)
      (repeat first | refine sN rfl ?_ | ((first|refine sA rfl ?_ ?_|refine s4 rfl ‹_› rfl ?_ ?_);first|exact tI|omega|(simp only[oZ] at *;omega)) | (refine s2 rfl ?_;intro _ _hb) | (refine s3 rfl ?_ ?_<;>intro hb<;>subst hb) | refine aS ?_ | refine reg (by kernel_rfl) ?_ | refine lexE ?_)
      exact AWp.ret ⟨_, rfl, [0], eAA (u3, a5), [(0, rdO b (r3))], ⟨by intro i hi; match i with | 0 => rfl, by decide⟩, rfl, by (repeat' (first | exact trivial | rfl | refine And.intro ?_ ?_)) <;> (simp [EnvSub, StoreSub, look_cons, nm, nmo, E.ren, C.ren, C.renL, O.ren, Store.ren, killc, kill0, killL, kill, fillC, spliceC, eC, Function.comp_def, argsFrom, zC, hΓ, rawR_ren, cond_eq_ite, Nat.beq_eq, spliceC, eC] <;> rfl), (u3, a5), r3, rfl, rfl, rfl⟩
    (repeat first | refine sN rfl ?_ | ((first|refine sA rfl ?_ ?_|refine s4 rfl ‹_› rfl ?_ ?_);first|exact tI|omega|(simp only[oZ] at *;omega)) | (refine s2 rfl ?_;intro _ _hb) | (refine s3 rfl ?_ ?_<;>intro hb<;>subst hb) | refine aS ?_ | refine reg (by kernel_rfl) ?_ | refine lexE ?_)
    (refine aC rfl ?_ ?_<;>intro hb<;>cases hb)
    · (repeat first | refine sN rfl ?_ | ((first|refine sA rfl ?_ ?_|refine s4 rfl ‹_› rfl ?_ ?_);first|exact tI|omega|(simp only[oZ] at *;omega)) | (refine s2 rfl ?_;intro _ _hb) | (refine s3 rfl ?_ ?_<;>intro hb<;>subst hb) | refine aS ?_ | refine reg (by kernel_rfl) ?_ | refine lexE ?_)
      (refine popO rfl ?_;refine popW ?_ rfl (by rfl);refine n_call [0] rfl rfl (l3Wrong_ok (TB := TB) b hb (q + 1) (by omega) a5 43 ha5 (by omega)) ⟨rfl, by decide, by decide⟩ rfl (by simp [EnvSub, StoreSub, look_cons, nm, nmo, E.ren, C.ren, C.renL, O.ren, Store.ren, killc, kill0, killL, kill, fillC, spliceC, eC, Function.comp_def, argsFrom, zC, hΓ, rawR_ren, cond_eq_ite, Nat.beq_eq]) ?_;rintro x0 σ1 nx1 ⟨r1, u1, hr1, hu1, rfl, rfl, rfl⟩ _)
      (repeat first | refine sN rfl ?_ | ((first|refine sA rfl ?_ ?_|refine s4 rfl ‹_› rfl ?_ ?_);first|exact tI|omega|(simp only[oZ] at *;omega)) | (refine s2 rfl ?_;intro _ _hb) | (refine s3 rfl ?_ ?_<;>intro hb<;>subst hb) | refine aS ?_ | refine reg (by kernel_rfl) ?_ | refine lexE ?_)
      (refine popO rfl ?_;refine popW ?_ rfl (by rfl);refine n_call [0] rfl rfl (l3Wrong_ok (TB := TB) b hb (r1) (by omega) u1 57 hu1 (by omega)) ⟨rfl, by decide, by decide⟩ rfl (by simp [EnvSub, StoreSub, look_cons, nm, nmo, E.ren, C.ren, C.renL, O.ren, Store.ren, killc, kill0, killL, kill, fillC, spliceC, eC, Function.comp_def, argsFrom, zC, hΓ, rawR_ren, cond_eq_ite, Nat.beq_eq]) ?_;rintro x0 σ1 nx1 ⟨r2, u2, hr2, hu2, rfl, rfl, rfl⟩ _)
      (repeat first | refine sN rfl ?_ | ((first|refine sA rfl ?_ ?_|refine s4 rfl ‹_› rfl ?_ ?_);first|exact tI|omega|(simp only[oZ] at *;omega)) | (refine s2 rfl ?_;intro _ _hb) | (refine s3 rfl ?_ ?_<;>intro hb<;>subst hb) | refine aS ?_ | refine reg (by kernel_rfl) ?_ | refine lexE ?_)
      (refine popO rfl ?_;refine popW ?_ rfl (by rfl);refine n_call [0] rfl rfl (l3Wrong_ok (TB := TB) b hb (r2) (by omega) u2 71 hu2 (by omega)) ⟨rfl, by decide, by decide⟩ rfl (by simp [EnvSub, StoreSub, look_cons, nm, nmo, E.ren, C.ren, C.renL, O.ren, Store.ren, killc, kill0, killL, kill, fillC, spliceC, eC, Function.comp_def, argsFrom, zC, hΓ, rawR_ren, cond_eq_ite, Nat.beq_eq]) ?_;rintro x0 σ1 nx1 ⟨r3, u3, hr3, hu3, rfl, rfl, rfl⟩ _)
      (repeat first | refine sN rfl ?_ | ((first|refine sA rfl ?_ ?_|refine s4 rfl ‹_› rfl ?_ ?_);first|exact tI|omega|(simp only[oZ] at *;omega)) | (refine s2 rfl ?_;intro _ _hb) | (refine s3 rfl ?_ ?_<;>intro hb<;>subst hb) | refine aS ?_ | refine reg (by kernel_rfl) ?_ | refine lexE ?_)
      refine regD (flX [(0, 13), (1, 14), (2, 1016), (3, 1)]) mixed (by kernel_rfl) (by kernel_rfl) ?_
      (repeat first | refine sN rfl ?_ | ((first|refine sA rfl ?_ ?_|refine s4 rfl ‹_› rfl ?_ ?_);first|exact tI|omega|(simp only[oZ] at *;omega)) | (refine s2 rfl ?_;intro _ _hb) | (refine s3 rfl ?_ ?_<;>intro hb<;>subst hb) | refine aS ?_ | refine reg (by kernel_rfl) ?_ | refine lexE ?_)
      (refine popO rfl ?_; refine popWK0 ?_ rfl ⟨rfl, rfl⟩; refine n_store rfl rfl rfl rfl (by rfl) rfl (Nat.le_of_ble_eq_true rfl) ?_; refine ⟨kept1 4 rfl rfl, ?_⟩)
      (repeat first | refine sN rfl ?_ | ((first|refine sA rfl ?_ ?_|refine s4 rfl ‹_› rfl ?_ ?_);first|exact tI|omega|(simp only[oZ] at *;omega)) | (refine s2 rfl ?_;intro _ _hb) | (refine s3 rfl ?_ ?_<;>intro hb<;>subst hb) | refine aS ?_ | refine reg (by kernel_rfl) ?_ | refine lexE ?_)
      exact AWp.ret ⟨_, rfl, [0], eAA (a0, u3), [(0, rdO b (r3))], ⟨by intro i hi; match i with | 0 => rfl, by decide⟩, rfl, by (repeat' (first | exact trivial | rfl | refine And.intro ?_ ?_)) <;> (simp [EnvSub, StoreSub, look_cons, nm, nmo, E.ren, C.ren, C.renL, O.ren, Store.ren, killc, kill0, killL, kill, fillC, spliceC, eC, Function.comp_def, argsFrom, zC, hΓ, rawR_ren, cond_eq_ite, Nat.beq_eq, spliceC, eC] <;> rfl), (a0, u3), r3, rfl, rfl, rfl⟩
    (repeat first | refine sN rfl ?_ | ((first|refine sA rfl ?_ ?_|refine s4 rfl ‹_› rfl ?_ ?_);first|exact tI|omega|(simp only[oZ] at *;omega)) | (refine s2 rfl ?_;intro _ _hb) | (refine s3 rfl ?_ ?_<;>intro hb<;>subst hb) | refine aS ?_ | refine reg (by kernel_rfl) ?_ | refine lexE ?_)
    (refine aC rfl ?_ ?_<;>intro hb<;>cases hb)
    · (repeat first | refine sN rfl ?_ | ((first|refine sA rfl ?_ ?_|refine s4 rfl ‹_› rfl ?_ ?_);first|exact tI|omega|(simp only[oZ] at *;omega)) | (refine s2 rfl ?_;intro _ _hb) | (refine s3 rfl ?_ ?_<;>intro hb<;>subst hb) | refine aS ?_ | refine reg (by kernel_rfl) ?_ | refine lexE ?_)
      (refine popO rfl ?_;refine popW ?_ rfl (by rfl);refine n_call [0] rfl rfl (l3Draw_ok (TB := TB) b hb (q + 1) (by omega)) ⟨rfl, by decide, by decide⟩ rfl (by simp [EnvSub, StoreSub, look_cons, nm, nmo, E.ren, C.ren, C.renL, O.ren, Store.ren, killc, kill0, killL, kill, fillC, spliceC, eC, Function.comp_def, argsFrom, zC, hΓ, rawR_ren, cond_eq_ite, Nat.beq_eq]) ?_;rintro x0 σ1 nx1 ⟨r1, u1, hr1, hu1, rfl, rfl, rfl⟩ _)
      (repeat first | refine sN rfl ?_ | ((first|refine sA rfl ?_ ?_|refine s4 rfl ‹_› rfl ?_ ?_);first|exact tI|omega|(simp only[oZ] at *;omega)) | (refine s2 rfl ?_;intro _ _hb) | (refine s3 rfl ?_ ?_<;>intro hb<;>subst hb) | refine aS ?_ | refine reg (by kernel_rfl) ?_ | refine lexE ?_)
      refine regD (flX [(0, 13), (1, 14), (2, 1016), (3, 1)]) mixed (by kernel_rfl) (by kernel_rfl) ?_
      (repeat first | refine sN rfl ?_ | ((first|refine sA rfl ?_ ?_|refine s4 rfl ‹_› rfl ?_ ?_);first|exact tI|omega|(simp only[oZ] at *;omega)) | (refine s2 rfl ?_;intro _ _hb) | (refine s3 rfl ?_ ?_<;>intro hb<;>subst hb) | refine aS ?_ | refine reg (by kernel_rfl) ?_ | refine lexE ?_)
      (refine popO rfl ?_; refine popWK0 ?_ rfl ⟨rfl, rfl⟩; refine n_store rfl rfl rfl rfl (by rfl) rfl (Nat.le_of_ble_eq_true rfl) ?_; refine ⟨kept1 4 rfl rfl, ?_⟩)
      (repeat first | refine sN rfl ?_ | ((first|refine sA rfl ?_ ?_|refine s4 rfl ‹_› rfl ?_ ?_);first|exact tI|omega|(simp only[oZ] at *;omega)) | (refine s2 rfl ?_;intro _ _hb) | (refine s3 rfl ?_ ?_<;>intro hb<;>subst hb) | refine aS ?_ | refine reg (by kernel_rfl) ?_ | refine lexE ?_)
      exact AWp.ret ⟨_, rfl, [0], eAA (a0, u1), [(0, rdO b (r1))], ⟨by intro i hi; match i with | 0 => rfl, by decide⟩, rfl, by (repeat' (first | exact trivial | rfl | refine And.intro ?_ ?_)) <;> (simp [EnvSub, StoreSub, look_cons, nm, nmo, E.ren, C.ren, C.renL, O.ren, Store.ren, killc, kill0, killL, kill, fillC, spliceC, eC, Function.comp_def, argsFrom, zC, hΓ, rawR_ren, cond_eq_ite, Nat.beq_eq, spliceC, eC] <;> rfl), (a0, u1), r1, rfl, rfl, rfl⟩
    (repeat first | refine sN rfl ?_ | ((first|refine sA rfl ?_ ?_|refine s4 rfl ‹_› rfl ?_ ?_);first|exact tI|omega|(simp only[oZ] at *;omega)) | (refine s2 rfl ?_;intro _ _hb) | (refine s3 rfl ?_ ?_<;>intro hb<;>subst hb) | refine aS ?_ | refine reg (by kernel_rfl) ?_ | refine lexE ?_)
    (refine aC rfl ?_ ?_<;>intro hb<;>cases hb)
    · (repeat first | refine sN rfl ?_ | ((first|refine sA rfl ?_ ?_|refine s4 rfl ‹_› rfl ?_ ?_);first|exact tI|omega|(simp only[oZ] at *;omega)) | (refine s2 rfl ?_;intro _ _hb) | (refine s3 rfl ?_ ?_<;>intro hb<;>subst hb) | refine aS ?_ | refine reg (by kernel_rfl) ?_ | refine lexE ?_)
      (refine popO rfl ?_;refine popW ?_ rfl (by rfl);refine n_call [0] rfl rfl (l3Big_ok (TB := TB) b hb (q + 1) (by omega)) ⟨rfl, by decide, by decide⟩ rfl (by simp [EnvSub, StoreSub, look_cons, nm, nmo, E.ren, C.ren, C.renL, O.ren, Store.ren, killc, kill0, killL, kill, fillC, spliceC, eC, Function.comp_def, argsFrom, zC, hΓ, rawR_ren, cond_eq_ite, Nat.beq_eq]) ?_;rintro x0 σ1 nx1 ⟨r1, u1, hr1, hu1, rfl, rfl, rfl⟩ _)
      (repeat first | refine sN rfl ?_ | ((first|refine sA rfl ?_ ?_|refine s4 rfl ‹_› rfl ?_ ?_);first|exact tI|omega|(simp only[oZ] at *;omega)) | (refine s2 rfl ?_;intro _ _hb) | (refine s3 rfl ?_ ?_<;>intro hb<;>subst hb) | refine aS ?_ | refine reg (by kernel_rfl) ?_ | refine lexE ?_)
      (refine popO rfl ?_;refine popW ?_ rfl (by rfl);refine n_call [0] rfl rfl (l4Change_ok (TB := TB) b hb r1 (by omega) u1 12 hu1 (by omega)) ⟨rfl, by decide, by decide⟩ rfl (by simp [EnvSub, StoreSub, look_cons, nm, nmo, E.ren, C.ren, C.renL, O.ren, Store.ren, killc, kill0, killL, kill, fillC, spliceC, eC, Function.comp_def, argsFrom, zC, hΓ, rawR_ren, cond_eq_ite, Nat.beq_eq]) ?_;rintro x0 σ1 nx1 ⟨r2, u2, hr2, ⟨_, hu2⟩, rfl, rfl, rfl⟩ _)
      (repeat first | refine sN rfl ?_ | ((first|refine sA rfl ?_ ?_|refine s4 rfl ‹_› rfl ?_ ?_);first|exact tI|omega|(simp only[oZ] at *;omega)) | (refine s2 rfl ?_;intro _ _hb) | (refine s3 rfl ?_ ?_<;>intro hb<;>subst hb) | refine aS ?_ | refine reg (by kernel_rfl) ?_ | refine lexE ?_)
      refine regD (flX [(0, 13), (1, 14), (2, 1016), (3, 1)]) mixed (by kernel_rfl) (by kernel_rfl) ?_
      (repeat first | refine sN rfl ?_ | ((first|refine sA rfl ?_ ?_|refine s4 rfl ‹_› rfl ?_ ?_);first|exact tI|omega|(simp only[oZ] at *;omega)) | (refine s2 rfl ?_;intro _ _hb) | (refine s3 rfl ?_ ?_<;>intro hb<;>subst hb) | refine aS ?_ | refine reg (by kernel_rfl) ?_ | refine lexE ?_)
      (refine popO rfl ?_; refine popWK0 ?_ rfl ⟨rfl, rfl⟩; refine n_store rfl rfl rfl rfl (by rfl) rfl (Nat.le_of_ble_eq_true rfl) ?_; refine ⟨kept1 4 rfl rfl, ?_⟩)
      (repeat first | refine sN rfl ?_ | ((first|refine sA rfl ?_ ?_|refine s4 rfl ‹_› rfl ?_ ?_);first|exact tI|omega|(simp only[oZ] at *;omega)) | (refine s2 rfl ?_;intro _ _hb) | (refine s3 rfl ?_ ?_<;>intro hb<;>subst hb) | refine aS ?_ | refine reg (by kernel_rfl) ?_ | refine lexE ?_)
      exact AWp.ret ⟨_, rfl, [0], eAA (u1, u2), [(0, rdO b (r2))], ⟨by intro i hi; match i with | 0 => rfl, by decide⟩, rfl, by (repeat' (first | exact trivial | rfl | refine And.intro ?_ ?_)) <;> (simp [EnvSub, StoreSub, look_cons, nm, nmo, E.ren, C.ren, C.renL, O.ren, Store.ren, killc, kill0, killL, kill, fillC, spliceC, eC, Function.comp_def, argsFrom, zC, hΓ, rawR_ren, cond_eq_ite, Nat.beq_eq, spliceC, eC] <;> rfl), (u1, u2), r2, rfl, rfl, rfl⟩
    refine AWp.skip ?_
    (repeat first | refine sN rfl ?_ | ((first|refine sA rfl ?_ ?_|refine s4 rfl ‹_› rfl ?_ ?_);first|exact tI|omega|(simp only[oZ] at *;omega)) | (refine s2 rfl ?_;intro _ _hb) | (refine s3 rfl ?_ ?_<;>intro hb<;>subst hb) | refine aS ?_ | refine reg (by kernel_rfl) ?_ | refine lexE ?_)
    refine regD (flX [(0, 13), (1, 14), (2, 1016), (3, 1)]) mixed (by kernel_rfl) (by kernel_rfl) ?_
    (repeat first | refine sN rfl ?_ | ((first|refine sA rfl ?_ ?_|refine s4 rfl ‹_› rfl ?_ ?_);first|exact tI|omega|(simp only[oZ] at *;omega)) | (refine s2 rfl ?_;intro _ _hb) | (refine s3 rfl ?_ ?_<;>intro hb<;>subst hb) | refine aS ?_ | refine reg (by kernel_rfl) ?_ | refine lexE ?_)
    (refine popO rfl ?_; refine popWK0 ?_ rfl ⟨rfl, rfl⟩; refine n_store rfl rfl rfl rfl (by rfl) rfl (Nat.le_of_ble_eq_true rfl) ?_; refine ⟨kept1 4 rfl rfl, ?_⟩)
    (repeat first | refine sN rfl ?_ | ((first|refine sA rfl ?_ ?_|refine s4 rfl ‹_› rfl ?_ ?_);first|exact tI|omega|(simp only[oZ] at *;omega)) | (refine s2 rfl ?_;intro _ _hb) | (refine s3 rfl ?_ ?_<;>intro hb<;>subst hb) | refine aS ?_ | refine reg (by kernel_rfl) ?_ | refine lexE ?_)
    exact AWp.ret ⟨_, rfl, [0], eAA (a0, a5), [(0, rdO b (q + 1))], ⟨by intro i hi; match i with | 0 => rfl, by decide⟩, rfl, by (repeat' (first | exact trivial | rfl | refine And.intro ?_ ?_)) <;> (simp [EnvSub, StoreSub, look_cons, nm, nmo, E.ren, C.ren, C.renL, O.ren, Store.ren, killc, kill0, killL, kill, fillC, spliceC, eC, Function.comp_def, argsFrom, zC, hΓ, rawR_ren, cond_eq_ite, Nat.beq_eq, spliceC, eC] <;> rfl), (a0, a5), q + 1, rfl, rfl, rfl⟩
  refine AWp.skip ?_
  have hx41 : ABd 41 a0 := ha0
  obtain ⟨d, d1, d2, hd⟩ := pick_ok (TB := TB) b hb (p3 + 1) 20 (by omega)
  (repeat first | refine sN rfl ?_ | ((first|refine sA rfl ?_ ?_|refine s4 rfl ‹_› rfl ?_ ?_);first|exact tI|omega|(simp only[oZ] at *;omega)) | (refine s2 rfl ?_;intro _ _hb) | (refine s3 rfl ?_ ?_<;>intro hb<;>subst hb) | refine aS ?_ | refine reg (by kernel_rfl) ?_ | refine lexE ?_)
  (refine popO rfl ?_;refine popW ?_ rfl (by rfl);refine n_call [0] rfl rfl (hd) ⟨rfl, by decide, by decide⟩ rfl (by simp [EnvSub, StoreSub, look_cons, nm, nmo, E.ren, C.ren, C.renL, O.ren, Store.ren, killc, kill0, killL, kill, fillC, spliceC, eC, Function.comp_def, argsFrom, zC, hΓ, rawR_ren, cond_eq_ite, Nat.beq_eq]) ?_;rintro x0 σ1 nx1 ⟨rfl, rfl, rfl⟩ _)
  (repeat first | refine sN rfl ?_ | ((first|refine sA rfl ?_ ?_|refine s4 rfl ‹_› rfl ?_ ?_);first|exact tI|omega|(simp only[oZ] at *;omega)) | (refine s2 rfl ?_;intro _ _hb) | (refine s3 rfl ?_ ?_<;>intro hb<;>subst hb))
  refine lexE ?_
  refine AWp.namesV [27] [] rfl rfl [(0, .o (.ptr 0 2 0 0)), (2, .o (.ptr 1 3 0 0)), (3, .o (.ptr 2 3 0 0)), (4, .o (.ptr 3 3 0 0)), (5, .o (.ptr 4 3 0 0))] [(0, rdO b (p3 + 1 + 1)), (1, .cells 26 3 [[.d (iD 0), .d (.l []), .d (.l [])]]), (2, .cells 26 3 [[.d (iD 0), .d (.l []), .d (.l [])]]), (3, .cells 26 3 [auRowC a0]), (4, .cells 26 3 [auRowC a2])] [0, 1, 2, 3, 4] (by first | (simp [hΓ]; done) | (rw [hΓ]; decide)) (by (repeat' (first | exact trivial | rfl | refine And.intro ?_ ?_)) <;> (simp [EnvSub, StoreSub, look_cons, nm, nmo, E.ren, C.ren, C.renL, O.ren, Store.ren, killc, kill0, killL, kill, fillC, spliceC, eC, Function.comp_def, argsFrom, zC, hΓ, rawR_ren, cond_eq_ite, Nat.beq_eq, spliceC, eC] <;> rfl)) ?_; (try dsimp only [List.cons_append, List.nil_append])
  refine AWp.block ?_
  (repeat first | refine sN rfl ?_ | ((first|refine sA rfl ?_ ?_|refine s4 rfl ‹_› rfl ?_ ?_);first|exact tI|omega|(simp only[oZ] at *;omega)) | (refine s2 rfl ?_;intro _ _hb) | (refine s3 rfl ?_ ?_<;>intro hb<;>subst hb) | refine aS ?_ | refine reg (by kernel_rfl) ?_ | refine lexE ?_)
  (refine aC rfl ?_ ?_<;>intro hb<;>cases hb)
  · (repeat first | refine sN rfl ?_ | ((first|refine sA rfl ?_ ?_|refine s4 rfl ‹_› rfl ?_ ?_);first|exact tI|omega|(simp only[oZ] at *;omega)) | (refine s2 rfl ?_;intro _ _hb) | (refine s3 rfl ?_ ?_<;>intro hb<;>subst hb) | refine aS ?_ | refine reg (by kernel_rfl) ?_ | refine lexE ?_)
    (refine popO rfl ?_;refine popW ?_ rfl (by rfl);refine n_call [0] rfl rfl (l3Wrong_ok (TB := TB) b hb (p3 + 1 + 1) (by omega) a0 41 ha0 (by omega)) ⟨rfl, by decide, by decide⟩ rfl (by simp [EnvSub, StoreSub, look_cons, nm, nmo, E.ren, C.ren, C.renL, O.ren, Store.ren, killc, kill0, killL, kill, fillC, spliceC, eC, Function.comp_def, argsFrom, zC, hΓ, rawR_ren, cond_eq_ite, Nat.beq_eq]) ?_;rintro x0 σ1 nx1 ⟨r1, u1, hr1, hu1, rfl, rfl, rfl⟩ _)
    (repeat first | refine sN rfl ?_ | ((first|refine sA rfl ?_ ?_|refine s4 rfl ‹_› rfl ?_ ?_);first|exact tI|omega|(simp only[oZ] at *;omega)) | (refine s2 rfl ?_;intro _ _hb) | (refine s3 rfl ?_ ?_<;>intro hb<;>subst hb) | refine aS ?_ | refine reg (by kernel_rfl) ?_ | refine lexE ?_)
    (refine popO rfl ?_;refine popW ?_ rfl (by rfl);refine n_call [0] rfl rfl (l3Wrong_ok (TB := TB) b hb (r1) (by omega) u1 55 hu1 (by omega)) ⟨rfl, by decide, by decide⟩ rfl (by simp [EnvSub, StoreSub, look_cons, nm, nmo, E.ren, C.ren, C.renL, O.ren, Store.ren, killc, kill0, killL, kill, fillC, spliceC, eC, Function.comp_def, argsFrom, zC, hΓ, rawR_ren, cond_eq_ite, Nat.beq_eq]) ?_;rintro x0 σ1 nx1 ⟨r2, u2, hr2, hu2, rfl, rfl, rfl⟩ _)
    (repeat first | refine sN rfl ?_ | ((first|refine sA rfl ?_ ?_|refine s4 rfl ‹_› rfl ?_ ?_);first|exact tI|omega|(simp only[oZ] at *;omega)) | (refine s2 rfl ?_;intro _ _hb) | (refine s3 rfl ?_ ?_<;>intro hb<;>subst hb) | refine aS ?_ | refine reg (by kernel_rfl) ?_ | refine lexE ?_)
    (refine popO rfl ?_;refine popW ?_ rfl (by rfl);refine n_call [0] rfl rfl (l3Wrong_ok (TB := TB) b hb (r2) (by omega) u2 69 hu2 (by omega)) ⟨rfl, by decide, by decide⟩ rfl (by simp [EnvSub, StoreSub, look_cons, nm, nmo, E.ren, C.ren, C.renL, O.ren, Store.ren, killc, kill0, killL, kill, fillC, spliceC, eC, Function.comp_def, argsFrom, zC, hΓ, rawR_ren, cond_eq_ite, Nat.beq_eq]) ?_;rintro x0 σ1 nx1 ⟨r3, u3, hr3, hu3, rfl, rfl, rfl⟩ _)
    (repeat first | refine sN rfl ?_ | ((first|refine sA rfl ?_ ?_|refine s4 rfl ‹_› rfl ?_ ?_);first|exact tI|omega|(simp only[oZ] at *;omega)) | (refine s2 rfl ?_;intro _ _hb) | (refine s3 rfl ?_ ?_<;>intro hb<;>subst hb) | refine aS ?_ | refine reg (by kernel_rfl) ?_ | refine lexE ?_)
    refine regD (flX [(0, 13), (1, 14), (2, 1016), (3, 1)]) mixed (by kernel_rfl) (by kernel_rfl) ?_
    (repeat first | refine sN rfl ?_ | ((first|refine sA rfl ?_ ?_|refine s4 rfl ‹_› rfl ?_ ?_);first|exact tI|omega|(simp only[oZ] at *;omega)) | (refine s2 rfl ?_;intro _ _hb) | (refine s3 rfl ?_ ?_<;>intro hb<;>subst hb) | refine aS ?_ | refine reg (by kernel_rfl) ?_ | refine lexE ?_)
    (refine popO rfl ?_; refine popWK0 ?_ rfl ⟨rfl, rfl⟩; refine n_store rfl rfl rfl rfl (by rfl) rfl (Nat.le_of_ble_eq_true rfl) ?_; refine ⟨kept1 4 rfl rfl, ?_⟩)
    (repeat first | refine sN rfl ?_ | ((first|refine sA rfl ?_ ?_|refine s4 rfl ‹_› rfl ?_ ?_);first|exact tI|omega|(simp only[oZ] at *;omega)) | (refine s2 rfl ?_;intro _ _hb) | (refine s3 rfl ?_ ?_<;>intro hb<;>subst hb) | refine aS ?_ | refine reg (by kernel_rfl) ?_ | refine lexE ?_)
    exact AWp.ret ⟨_, rfl, [0], eAA (u3, a2), [(0, rdO b (r3))], ⟨by intro i hi; match i with | 0 => rfl, by decide⟩, rfl, by (repeat' (first | exact trivial | rfl | refine And.intro ?_ ?_)) <;> (simp [EnvSub, StoreSub, look_cons, nm, nmo, E.ren, C.ren, C.renL, O.ren, Store.ren, killc, kill0, killL, kill, fillC, spliceC, eC, Function.comp_def, argsFrom, zC, hΓ, rawR_ren, cond_eq_ite, Nat.beq_eq, spliceC, eC] <;> rfl), (u3, a2), r3, rfl, rfl, rfl⟩
  (repeat first | refine sN rfl ?_ | ((first|refine sA rfl ?_ ?_|refine s4 rfl ‹_› rfl ?_ ?_);first|exact tI|omega|(simp only[oZ] at *;omega)) | (refine s2 rfl ?_;intro _ _hb) | (refine s3 rfl ?_ ?_<;>intro hb<;>subst hb) | refine aS ?_ | refine reg (by kernel_rfl) ?_ | refine lexE ?_)
  (refine aC rfl ?_ ?_<;>intro hb<;>cases hb)
  · (repeat first | refine sN rfl ?_ | ((first|refine sA rfl ?_ ?_|refine s4 rfl ‹_› rfl ?_ ?_);first|exact tI|omega|(simp only[oZ] at *;omega)) | (refine s2 rfl ?_;intro _ _hb) | (refine s3 rfl ?_ ?_<;>intro hb<;>subst hb) | refine aS ?_ | refine reg (by kernel_rfl) ?_ | refine lexE ?_)
    (refine popO rfl ?_;refine popW ?_ rfl (by rfl);refine n_call [0] rfl rfl (l3Wrong_ok (TB := TB) b hb (p3 + 1 + 1) (by omega) a2 43 ha2 (by omega)) ⟨rfl, by decide, by decide⟩ rfl (by simp [EnvSub, StoreSub, look_cons, nm, nmo, E.ren, C.ren, C.renL, O.ren, Store.ren, killc, kill0, killL, kill, fillC, spliceC, eC, Function.comp_def, argsFrom, zC, hΓ, rawR_ren, cond_eq_ite, Nat.beq_eq]) ?_;rintro x0 σ1 nx1 ⟨r1, u1, hr1, hu1, rfl, rfl, rfl⟩ _)
    (repeat first | refine sN rfl ?_ | ((first|refine sA rfl ?_ ?_|refine s4 rfl ‹_› rfl ?_ ?_);first|exact tI|omega|(simp only[oZ] at *;omega)) | (refine s2 rfl ?_;intro _ _hb) | (refine s3 rfl ?_ ?_<;>intro hb<;>subst hb) | refine aS ?_ | refine reg (by kernel_rfl) ?_ | refine lexE ?_)
    (refine popO rfl ?_;refine popW ?_ rfl (by rfl);refine n_call [0] rfl rfl (l3Wrong_ok (TB := TB) b hb (r1) (by omega) u1 57 hu1 (by omega)) ⟨rfl, by decide, by decide⟩ rfl (by simp [EnvSub, StoreSub, look_cons, nm, nmo, E.ren, C.ren, C.renL, O.ren, Store.ren, killc, kill0, killL, kill, fillC, spliceC, eC, Function.comp_def, argsFrom, zC, hΓ, rawR_ren, cond_eq_ite, Nat.beq_eq]) ?_;rintro x0 σ1 nx1 ⟨r2, u2, hr2, hu2, rfl, rfl, rfl⟩ _)
    (repeat first | refine sN rfl ?_ | ((first|refine sA rfl ?_ ?_|refine s4 rfl ‹_› rfl ?_ ?_);first|exact tI|omega|(simp only[oZ] at *;omega)) | (refine s2 rfl ?_;intro _ _hb) | (refine s3 rfl ?_ ?_<;>intro hb<;>subst hb) | refine aS ?_ | refine reg (by kernel_rfl) ?_ | refine lexE ?_)
    (refine popO rfl ?_;refine popW ?_ rfl (by rfl);refine n_call [0] rfl rfl (l3Wrong_ok (TB := TB) b hb (r2) (by omega) u2 71 hu2 (by omega)) ⟨rfl, by decide, by decide⟩ rfl (by simp [EnvSub, StoreSub, look_cons, nm, nmo, E.ren, C.ren, C.renL, O.ren, Store.ren, killc, kill0, killL, kill, fillC, spliceC, eC, Function.comp_def, argsFrom, zC, hΓ, rawR_ren, cond_eq_ite, Nat.beq_eq]) ?_;rintro x0 σ1 nx1 ⟨r3, u3, hr3, hu3, rfl, rfl, rfl⟩ _)
    (repeat first | refine sN rfl ?_ | ((first|refine sA rfl ?_ ?_|refine s4 rfl ‹_› rfl ?_ ?_);first|exact tI|omega|(simp only[oZ] at *;omega)) | (refine s2 rfl ?_;intro _ _hb) | (refine s3 rfl ?_ ?_<;>intro hb<;>subst hb) | refine aS ?_ | refine reg (by kernel_rfl) ?_ | refine lexE ?_)
    refine regD (flX [(0, 13), (1, 14), (2, 1016), (3, 1)]) mixed (by kernel_rfl) (by kernel_rfl) ?_
    (repeat first | refine sN rfl ?_ | ((first|refine sA rfl ?_ ?_|refine s4 rfl ‹_› rfl ?_ ?_);first|exact tI|omega|(simp only[oZ] at *;omega)) | (refine s2 rfl ?_;intro _ _hb) | (refine s3 rfl ?_ ?_<;>intro hb<;>subst hb) | refine aS ?_ | refine reg (by kernel_rfl) ?_ | refine lexE ?_)
    (refine popO rfl ?_; refine popWK0 ?_ rfl ⟨rfl, rfl⟩; refine n_store rfl rfl rfl rfl (by rfl) rfl (Nat.le_of_ble_eq_true rfl) ?_; refine ⟨kept1 4 rfl rfl, ?_⟩)
    (repeat first | refine sN rfl ?_ | ((first|refine sA rfl ?_ ?_|refine s4 rfl ‹_› rfl ?_ ?_);first|exact tI|omega|(simp only[oZ] at *;omega)) | (refine s2 rfl ?_;intro _ _hb) | (refine s3 rfl ?_ ?_<;>intro hb<;>subst hb) | refine aS ?_ | refine reg (by kernel_rfl) ?_ | refine lexE ?_)
    exact AWp.ret ⟨_, rfl, [0], eAA (a0, u3), [(0, rdO b (r3))], ⟨by intro i hi; match i with | 0 => rfl, by decide⟩, rfl, by (repeat' (first | exact trivial | rfl | refine And.intro ?_ ?_)) <;> (simp [EnvSub, StoreSub, look_cons, nm, nmo, E.ren, C.ren, C.renL, O.ren, Store.ren, killc, kill0, killL, kill, fillC, spliceC, eC, Function.comp_def, argsFrom, zC, hΓ, rawR_ren, cond_eq_ite, Nat.beq_eq, spliceC, eC] <;> rfl), (a0, u3), r3, rfl, rfl, rfl⟩
  (repeat first | refine sN rfl ?_ | ((first|refine sA rfl ?_ ?_|refine s4 rfl ‹_› rfl ?_ ?_);first|exact tI|omega|(simp only[oZ] at *;omega)) | (refine s2 rfl ?_;intro _ _hb) | (refine s3 rfl ?_ ?_<;>intro hb<;>subst hb) | refine aS ?_ | refine reg (by kernel_rfl) ?_ | refine lexE ?_)
  (refine aC rfl ?_ ?_<;>intro hb<;>cases hb)
  · (repeat first | refine sN rfl ?_ | ((first|refine sA rfl ?_ ?_|refine s4 rfl ‹_› rfl ?_ ?_);first|exact tI|omega|(simp only[oZ] at *;omega)) | (refine s2 rfl ?_;intro _ _hb) | (refine s3 rfl ?_ ?_<;>intro hb<;>subst hb) | refine aS ?_ | refine reg (by kernel_rfl) ?_ | refine lexE ?_)
    (refine popO rfl ?_;refine popW ?_ rfl (by rfl);refine n_call [0] rfl rfl (l3Draw_ok (TB := TB) b hb (p3 + 1 + 1) (by omega)) ⟨rfl, by decide, by decide⟩ rfl (by simp [EnvSub, StoreSub, look_cons, nm, nmo, E.ren, C.ren, C.renL, O.ren, Store.ren, killc, kill0, killL, kill, fillC, spliceC, eC, Function.comp_def, argsFrom, zC, hΓ, rawR_ren, cond_eq_ite, Nat.beq_eq]) ?_;rintro x0 σ1 nx1 ⟨r1, u1, hr1, hu1, rfl, rfl, rfl⟩ _)
    (repeat first | refine sN rfl ?_ | ((first|refine sA rfl ?_ ?_|refine s4 rfl ‹_› rfl ?_ ?_);first|exact tI|omega|(simp only[oZ] at *;omega)) | (refine s2 rfl ?_;intro _ _hb) | (refine s3 rfl ?_ ?_<;>intro hb<;>subst hb) | refine aS ?_ | refine reg (by kernel_rfl) ?_ | refine lexE ?_)
    refine regD (flX [(0, 13), (1, 14), (2, 1016), (3, 1)]) mixed (by kernel_rfl) (by kernel_rfl) ?_
    (repeat first | refine sN rfl ?_ | ((first|refine sA rfl ?_ ?_|refine s4 rfl ‹_› rfl ?_ ?_);first|exact tI|omega|(simp only[oZ] at *;omega)) | (refine s2 rfl ?_;intro _ _hb) | (refine s3 rfl ?_ ?_<;>intro hb<;>subst hb) | refine aS ?_ | refine reg (by kernel_rfl) ?_ | refine lexE ?_)
    (refine popO rfl ?_; refine popWK0 ?_ rfl ⟨rfl, rfl⟩; refine n_store rfl rfl rfl rfl (by rfl) rfl (Nat.le_of_ble_eq_true rfl) ?_; refine ⟨kept1 4 rfl rfl, ?_⟩)
    (repeat first | refine sN rfl ?_ | ((first|refine sA rfl ?_ ?_|refine s4 rfl ‹_› rfl ?_ ?_);first|exact tI|omega|(simp only[oZ] at *;omega)) | (refine s2 rfl ?_;intro _ _hb) | (refine s3 rfl ?_ ?_<;>intro hb<;>subst hb) | refine aS ?_ | refine reg (by kernel_rfl) ?_ | refine lexE ?_)
    exact AWp.ret ⟨_, rfl, [0], eAA (a0, u1), [(0, rdO b (r1))], ⟨by intro i hi; match i with | 0 => rfl, by decide⟩, rfl, by (repeat' (first | exact trivial | rfl | refine And.intro ?_ ?_)) <;> (simp [EnvSub, StoreSub, look_cons, nm, nmo, E.ren, C.ren, C.renL, O.ren, Store.ren, killc, kill0, killL, kill, fillC, spliceC, eC, Function.comp_def, argsFrom, zC, hΓ, rawR_ren, cond_eq_ite, Nat.beq_eq, spliceC, eC] <;> rfl), (a0, u1), r1, rfl, rfl, rfl⟩
  (repeat first | refine sN rfl ?_ | ((first|refine sA rfl ?_ ?_|refine s4 rfl ‹_› rfl ?_ ?_);first|exact tI|omega|(simp only[oZ] at *;omega)) | (refine s2 rfl ?_;intro _ _hb) | (refine s3 rfl ?_ ?_<;>intro hb<;>subst hb) | refine aS ?_ | refine reg (by kernel_rfl) ?_ | refine lexE ?_)
  (refine aC rfl ?_ ?_<;>intro hb<;>cases hb)
  · (repeat first | refine sN rfl ?_ | ((first|refine sA rfl ?_ ?_|refine s4 rfl ‹_› rfl ?_ ?_);first|exact tI|omega|(simp only[oZ] at *;omega)) | (refine s2 rfl ?_;intro _ _hb) | (refine s3 rfl ?_ ?_<;>intro hb<;>subst hb) | refine aS ?_ | refine reg (by kernel_rfl) ?_ | refine lexE ?_)
    (refine popO rfl ?_;refine popW ?_ rfl (by rfl);refine n_call [0] rfl rfl (l3Big_ok (TB := TB) b hb (p3 + 1 + 1) (by omega)) ⟨rfl, by decide, by decide⟩ rfl (by simp [EnvSub, StoreSub, look_cons, nm, nmo, E.ren, C.ren, C.renL, O.ren, Store.ren, killc, kill0, killL, kill, fillC, spliceC, eC, Function.comp_def, argsFrom, zC, hΓ, rawR_ren, cond_eq_ite, Nat.beq_eq]) ?_;rintro x0 σ1 nx1 ⟨r1, u1, hr1, hu1, rfl, rfl, rfl⟩ _)
    (repeat first | refine sN rfl ?_ | ((first|refine sA rfl ?_ ?_|refine s4 rfl ‹_› rfl ?_ ?_);first|exact tI|omega|(simp only[oZ] at *;omega)) | (refine s2 rfl ?_;intro _ _hb) | (refine s3 rfl ?_ ?_<;>intro hb<;>subst hb) | refine aS ?_ | refine reg (by kernel_rfl) ?_ | refine lexE ?_)
    (refine popO rfl ?_;refine popW ?_ rfl (by rfl);refine n_call [0] rfl rfl (l4Change_ok (TB := TB) b hb r1 (by omega) u1 12 hu1 (by omega)) ⟨rfl, by decide, by decide⟩ rfl (by simp [EnvSub, StoreSub, look_cons, nm, nmo, E.ren, C.ren, C.renL, O.ren, Store.ren, killc, kill0, killL, kill, fillC, spliceC, eC, Function.comp_def, argsFrom, zC, hΓ, rawR_ren, cond_eq_ite, Nat.beq_eq]) ?_;rintro x0 σ1 nx1 ⟨r2, u2, hr2, ⟨_, hu2⟩, rfl, rfl, rfl⟩ _)
    (repeat first | refine sN rfl ?_ | ((first|refine sA rfl ?_ ?_|refine s4 rfl ‹_› rfl ?_ ?_);first|exact tI|omega|(simp only[oZ] at *;omega)) | (refine s2 rfl ?_;intro _ _hb) | (refine s3 rfl ?_ ?_<;>intro hb<;>subst hb) | refine aS ?_ | refine reg (by kernel_rfl) ?_ | refine lexE ?_)
    refine regD (flX [(0, 13), (1, 14), (2, 1016), (3, 1)]) mixed (by kernel_rfl) (by kernel_rfl) ?_
    (repeat first | refine sN rfl ?_ | ((first|refine sA rfl ?_ ?_|refine s4 rfl ‹_› rfl ?_ ?_);first|exact tI|omega|(simp only[oZ] at *;omega)) | (refine s2 rfl ?_;intro _ _hb) | (refine s3 rfl ?_ ?_<;>intro hb<;>subst hb) | refine aS ?_ | refine reg (by kernel_rfl) ?_ | refine lexE ?_)
    (refine popO rfl ?_; refine popWK0 ?_ rfl ⟨rfl, rfl⟩; refine n_store rfl rfl rfl rfl (by rfl) rfl (Nat.le_of_ble_eq_true rfl) ?_; refine ⟨kept1 4 rfl rfl, ?_⟩)
    (repeat first | refine sN rfl ?_ | ((first|refine sA rfl ?_ ?_|refine s4 rfl ‹_› rfl ?_ ?_);first|exact tI|omega|(simp only[oZ] at *;omega)) | (refine s2 rfl ?_;intro _ _hb) | (refine s3 rfl ?_ ?_<;>intro hb<;>subst hb) | refine aS ?_ | refine reg (by kernel_rfl) ?_ | refine lexE ?_)
    exact AWp.ret ⟨_, rfl, [0], eAA (u1, u2), [(0, rdO b (r2))], ⟨by intro i hi; match i with | 0 => rfl, by decide⟩, rfl, by (repeat' (first | exact trivial | rfl | refine And.intro ?_ ?_)) <;> (simp [EnvSub, StoreSub, look_cons, nm, nmo, E.ren, C.ren, C.renL, O.ren, Store.ren, killc, kill0, killL, kill, fillC, spliceC, eC, Function.comp_def, argsFrom, zC, hΓ, rawR_ren, cond_eq_ite, Nat.beq_eq, spliceC, eC] <;> rfl), (u1, u2), r2, rfl, rfl, rfl⟩
  refine AWp.skip ?_
  (repeat first | refine sN rfl ?_ | ((first|refine sA rfl ?_ ?_|refine s4 rfl ‹_› rfl ?_ ?_);first|exact tI|omega|(simp only[oZ] at *;omega)) | (refine s2 rfl ?_;intro _ _hb) | (refine s3 rfl ?_ ?_<;>intro hb<;>subst hb) | refine aS ?_ | refine reg (by kernel_rfl) ?_ | refine lexE ?_)
  refine regD (flX [(0, 13), (1, 14), (2, 1016), (3, 1)]) mixed (by kernel_rfl) (by kernel_rfl) ?_
  (repeat first | refine sN rfl ?_ | ((first|refine sA rfl ?_ ?_|refine s4 rfl ‹_› rfl ?_ ?_);first|exact tI|omega|(simp only[oZ] at *;omega)) | (refine s2 rfl ?_;intro _ _hb) | (refine s3 rfl ?_ ?_<;>intro hb<;>subst hb) | refine aS ?_ | refine reg (by kernel_rfl) ?_ | refine lexE ?_)
  (refine popO rfl ?_; refine popWK0 ?_ rfl ⟨rfl, rfl⟩; refine n_store rfl rfl rfl rfl (by rfl) rfl (Nat.le_of_ble_eq_true rfl) ?_; refine ⟨kept1 4 rfl rfl, ?_⟩)
  (repeat first | refine sN rfl ?_ | ((first|refine sA rfl ?_ ?_|refine s4 rfl ‹_› rfl ?_ ?_);first|exact tI|omega|(simp only[oZ] at *;omega)) | (refine s2 rfl ?_;intro _ _hb) | (refine s3 rfl ?_ ?_<;>intro hb<;>subst hb) | refine aS ?_ | refine reg (by kernel_rfl) ?_ | refine lexE ?_)
  exact AWp.ret ⟨_, rfl, [0], eAA (a0, a2), [(0, rdO b (p3 + 1 + 1))], ⟨by intro i hi; match i with | 0 => rfl, by decide⟩, rfl, by (repeat' (first | exact trivial | rfl | refine And.intro ?_ ?_)) <;> (simp [EnvSub, StoreSub, look_cons, nm, nmo, E.ren, C.ren, C.renL, O.ren, Store.ren, killc, kill0, killL, kill, fillC, spliceC, eC, Function.comp_def, argsFrom, zC, hΓ, rawR_ren, cond_eq_ite, Nat.beq_eq, spliceC, eC] <;> rfl), (a0, a2), p3 + 1 + 1, rfl, rfl, rfl⟩
end Go.Am
/-
  What SameLanguage is asked about, drawn: walked.
-/
namespace Go.Am
open Go Go.Proofs
set_option maxHeartbeats 1000000
attribute [local irreducible] QOp AOp Lex LexO AWp Spec
variable {TB : List (Nat × Obj)}

theorem DrawSameLanguage_ok (b : List UInt8) (hb : b.length ≤ 9223372036854775807) : Spec Tryz.prog TB 7 [] 0 [.o (.d (uList b))] (AnyPost (fun _ : Aut × Aut => True) eAA) := by
  obtain ⟨b', hb', ho⟩ := l19Open_ok (TB := TB) b hb
  have hp := l4Pair_ok (TB := TB) b' hb'
  refine SpecK.toSpec (SpecK.ren (SpecK.ofG (Nat.le_refl _) Tryz.func7 rfl (by kernel_rfl) (Nat.le_of_ble_eq_true rfl) ?_));intro Γ hΓ
  (repeat first | refine sN rfl ?_ | ((first|refine sA rfl ?_ ?_|refine s4 rfl ‹_› rfl ?_ ?_);first|exact tI|omega|(simp only[oZ] at *;omega)) | (refine s2 rfl ?_;intro _ _hb) | (refine s3 rfl ?_ ?_<;>intro hb<;>subst hb) | refine aS ?_ | refine reg (by kernel_rfl) ?_ | refine lexE ?_)
  (refine popO rfl ?_;refine popW ?_ rfl (by rfl);refine n_callK [] rfl rfl 0 (ho) (by decide) ⟨rfl, by decide, by decide⟩ rfl (by simp [EnvSub, StoreSub, look_cons, nm, nmo, E.ren, C.ren, C.renL, O.ren, Store.ren, killc, kill0, killL, kill, fillC, spliceC, eC, Function.comp_def, argsFrom, zC, hΓ, rawR_ren, cond_eq_ite, Nat.beq_eq]) ?_;rintro x0 σ1 nx1 ⟨rfl, rfl, rfl⟩ _)
  (repeat first | refine sN rfl ?_ | ((first|refine sA rfl ?_ ?_|refine s4 rfl ‹_› rfl ?_ ?_);first|exact tI|omega|(simp only[oZ] at *;omega)) | (refine s2 rfl ?_;intro _ _hb) | (refine s3 rfl ?_ ?_<;>intro hb<;>subst hb) | refine aS ?_ | refine reg (by kernel_rfl) ?_ | refine lexE ?_)
  (refine popO rfl ?_;refine popW ?_ rfl (by rfl);refine n_call [2] rfl rfl (hp) ⟨rfl, by decide, by decide⟩ rfl (by simp [EnvSub, StoreSub, look_cons, nm, nmo, E.ren, C.ren, C.renL, O.ren, Store.ren, killc, kill0, killL, kill, fillC, spliceC, eC, Function.comp_def, argsFrom, zC, hΓ, rawR_ren, cond_eq_ite, Nat.beq_eq]) ?_;rintro x0 σ1 nx1 ⟨r, q, rfl, rfl, rfl⟩ _)
  (repeat first | refine sN rfl ?_ | ((first|refine sA rfl ?_ ?_|refine s4 rfl ‹_› rfl ?_ ?_);first|exact tI|omega|(simp only[oZ] at *;omega)) | (refine s2 rfl ?_;intro _ _hb) | (refine s3 rfl ?_ ?_<;>intro hb<;>subst hb) | refine aS ?_ | refine reg (by kernel_rfl) ?_ | refine lexE ?_)
  exact AWp.ret ⟨_, rfl, [], eAA r, [], ⟨fun i hi => absurd hi (Nat.not_lt_zero i), List.nodup_nil⟩, rfl, trivial, r, trivial, rfl, rfl, rfl⟩
end Go.Am
/-
  The program's checks.
-/
namespace Go.Am
open Go Go.Proofs
set_option maxHeartbeats 1000000
attribute [local irreducible] QOp AOp Lex LexO AWp Spec
variable {TB : List (Nat × Obj)}

end Go.Am
/-
  Sizes, copies and comparisons of the law's arguments.
-/
namespace Go.Am
open Go Go.Proofs
set_option maxHeartbeats 1000000
attribute [local irreducible] QOp AOp Lex LexO AWp Spec
variable {TB : List (Nat × Obj)}

end Go.Am
/-
  Copies and comparisons of the law's arguments.
-/
namespace Go.Am
open Go Go.Proofs
set_option maxHeartbeats 1000000
attribute [local irreducible] QOp AOp Lex LexO AWp Spec
variable {TB : List (Nat × Obj)}

end Go.Am
/-
  Comparisons; the law.
-/
namespace Go.Am
open Go Go.Proofs
set_option maxHeartbeats 1000000
attribute [local irreducible] QOp AOp Lex LexO AWp Spec
variable {TB : List (Nat × Obj)}

end Go.Am
/-
  Marks of words.
-/
namespace Go.Am
open Go Go.Proofs
set_option maxHeartbeats 1000000
attribute [local irreducible] QOp AOp Lex LexO AWp Spec
variable {TB : List (Nat × Obj)}

abbrev taRow (t : Tab) : List D := [tList t.rows, tList t.cols]
abbrev eTab (t : Tab) : E := .a [.d (tList t.rows), .d (tList t.cols)]
abbrev eOra (al : Int) (c : C) : E := .a [.d (iD al), c]
mutual
theorem ren_pur : ∀ (c : C), c.pur = true → ∀ r, c.ren r = c
  | .d x, _, r => rfl
  | .fn g cap, h, r => by
    simp only [C.pur] at h
    simp only [C.ren, renL_pur cap h r]
  | .arr .., h, _ => by cases h
  | .ptr .., h, _ => by cases h
  | .mp .., h, _ => by cases h
theorem renL_pur : ∀ (l : List C), C.purL l = true → ∀ r, C.renL r l = l
  | [], _, r => rfl
  | c :: l, h, r => by
    simp only [C.purL, Bool.and_eq_true] at h
    simp only [C.renL, ren_pur c h.1 r, renL_pur l h.2 r]
end
/-- A function value that answers for words. -/
structure AskV (P : Program) (TB : List (Nat × Obj)) (c : C) (L : W → Bool) (ok : W → Prop) : Prop where
  pur : c.pur = true
  ask : ∀ {Γ : Ctx} {d : Option Tmp} {ty : TypeId} {pos : String} {af : Array Edge} {g : Option (Nat × Bool)} {f : Env} {σ : Store} {nx : Nat} {x a : Operand} {tys : Array TypeId} {w : W},
    ev f x = some (.o c) → ev f a = some (eT w) → ok w → QOp P TB Γ ⟨d, .call ⟨.value x, #[a], tys⟩, ty, pos, af, g⟩ f σ nx (eB (L w))
theorem AskV.of {P : Program} {g : FuncId} {cap : List C} {L : W → Bool} {ok : W → Prop} (hc : C.purL cap = true) (h : ∀ w, ok w → Pure P TB g ([eT w] ++ cap.map .o) (eB (L w))) : AskV P TB (.fn g cap) L ok :=
  ⟨hc, fun hx ha hw => q_call (es := [eT _]) hx (by simp [evs, ha]) (by simp [E.pur, C.pur, hc]) (h _ hw) rfl⟩
/-- The marks so far: the first k told, then one byte each. -/
def mkH (L : W → Bool) (cols : List W) (w : W) (k : Nat) (i : Nat) : UInt8 := if i < k then mkB (L (w ++ cols.getD i [])) else 0
theorem marks_rows (L : W → Bool) (cols : List W) (w : W) : (rowsF cols.length fun i => byC (mkH L cols w cols.length i)) = (marks L cols w).map byC := by
  apply List.ext_getElem?
  intro i
  by_cases h : i < cols.length
  · rw [rowsF_get h]
    simp [marks, mkH, h]
  · rw [List.getElem?_eq_none (by simp [rowsF]; omega), List.getElem?_eq_none (by simp [marks]; omega)]
theorem byC0 : byC 0 = [C.d (D.v (Value.int IntKind.u8 0))] := rfl
theorem mkH_0 (L : W → Bool) (cols : List W) (w : W) (n : Nat) : (rowsF n fun i => byC (mkH L cols w 0 i)) = List.replicate n (byC 0) := by
  apply List.ext_getElem?
  intro i
  by_cases h : i < n
  · rw [rowsF_get h]; simp [mkH, h]
  · rw [List.getElem?_eq_none (by simp [rowsF]; omega), List.getElem?_eq_none (by simp; omega)]
theorem mkH_step {L : W → Bool} {cols : List W} {w x : W} {k : Nat} (hx : cols[k]? = some x) : (rowsF cols.length fun i => byC (if i = k then mkB (L (w ++ x)) else mkH L cols w k i)) = rowsF cols.length fun i => byC (mkH L cols w (k + 1) i) := by
  refine rowsF_congr fun i _ => ?_
  congr 1
  unfold mkH
  by_cases h : i = k
  · subst h
    rw [if_pos rfl, if_pos (by omega)]
    simp [hx]
  · rw [if_neg h]
    by_cases h2 : i < k
    · rw [if_pos h2, if_pos (by omega)]
    · rw [if_neg h2, if_neg (by omega)]
theorem marks_ok {c : C} {L : W → Bool} {ok : W → Prop} (hc : AskV Tryz.prog TB c L ok) (al : Int) (t : Tab) (w : W) (hl : t.cols.length ≤ 1048576) (hk : ∀ x ∈ t.cols, ok (w ++ x)) (hb : ∀ x ∈ t.cols, w.length + x.length ≤ 1048576) :
    Pure Tryz.prog TB 94 [eOra al c, eTab t, eT w] (eT (marks L t.cols w)) := by
  have hr := ren_pur c hc.pur
  refine eN Tryz.func94 rfl (by kernel_rfl) rfl ?_;intro Γ hΓ
  (repeat first | refine sN rfl ?_ | ((first|refine sM rfl ?_ ?_|refine s4 rfl ‹_› rfl ?_ ?_);first|exact tI|omega|(simp only[oZ] at *;omega)) | (refine s2 rfl ?_;intro _ _hb) | (refine s3 rfl ?_ ?_<;>intro hb<;>subst hb) | refine aS ?_ | refine reg (by kernel_rfl) ?_ | refine lexE ?_ | refine rD (by kernel_rfl) (by kernel_rfl) ?_)
  (refine popO rfl ?_; refine popW ?_ rfl (by rfl); refine n_box rfl rfl ?_)
  (refine popO rfl ?_; refine popS (fun _ _ => q_boxI rfl rfl rfl) rfl ?_)
  (repeat first | refine sN rfl ?_ | ((first|refine sM rfl ?_ ?_|refine s4 rfl ‹_› rfl ?_ ?_);first|exact tI|omega|(simp only[oZ] at *;omega)) | (refine s2 rfl ?_;intro _ _hb) | (refine s3 rfl ?_ ?_<;>intro hb<;>subst hb) | refine aS ?_ | refine reg (by kernel_rfl) ?_ | refine lexE ?_ | refine rD (by kernel_rfl) (by kernel_rfl) ?_)
  (refine popO rfl ?_; refine popW ?_ rfl (by rfl); refine n_make rfl rfl (by rfl) (by rfl) (Nat.le_of_ble_eq_true rfl) (by omega) (by omega) (by omega) ?_)
  (repeat first | refine sN rfl ?_ | ((first|refine sM rfl ?_ ?_|refine s4 rfl ‹_› rfl ?_ ?_);first|exact tI|omega|(simp only[oZ] at *;omega)) | (refine s2 rfl ?_;intro _ _hb) | (refine s3 rfl ?_ ?_<;>intro hb<;>subst hb) | refine aS ?_ | refine reg (by kernel_rfl) ?_ | refine lexE ?_ | refine rD (by kernel_rfl) (by kernel_rfl) ?_)
  refine AWp.block ?_
  refine AWp.loopL (α := {k : Nat // k ≤ t.cols.length}) (fun ⟨k, hkl⟩ => [(2, eT w), (3, .o (.ptr 0 2 0 0)), (7, .o (.arr 1 1 0 t.cols.length)), (15, .o (.d (tList t.cols))), (16, eI .i64 t.cols.length), (17, eI .i64 k)]) (fun ⟨k, hkl⟩ => [(1, .cells 5 1 (rowsF t.cols.length fun i => byC (mkH L t.cols w k i))), (0, .cells 88 2 [[.d (iD al), c]])]) 2 (fun ⟨k, hkl⟩ => t.cols.length - k) (⟨0, by omega⟩) [0, 1] (by first | (simp [hΓ]; done) | (rw [hΓ]; decide)) (by (repeat' (first | exact trivial | rfl | refine And.intro ?_ ?_)) <;> simp [EnvSub, StoreSub, look_cons, nm, E.ren, C.ren, C.renL, O.ren, killc, kill0, Function.comp_def, argsFrom, zC, hΓ, ren_by, hr, mkH_0, eC, renL_byC, byC0]) ?_; rintro ⟨k, hkl⟩; (try dsimp only)
  (repeat first | refine sN rfl ?_ | ((first|refine sM rfl ?_ ?_|refine s4 rfl ‹_› rfl ?_ ?_);first|exact tI|omega|(simp only[oZ] at *;omega)) | (refine s2 rfl ?_;intro _ _hb) | (refine s3 rfl ?_ ?_<;>intro hb<;>subst hb) | refine aS ?_ | refine reg (by kernel_rfl) ?_ | refine lexE ?_ | refine rD (by kernel_rfl) (by kernel_rfl) ?_)
  (refine aC rfl ?_ ?_<;>intro hb<;>cases hb)
  · have hlt : k < t.cols.length := by first | omega | (simp only [oZ] at *; omega)
    obtain ⟨x, hx⟩ := get_some (l := t.cols) (k := k) hlt
    have hx' := get_map (g := tRow) hx
    have hxm := List.mem_of_getElem? hx
    have hxb := hb x hxm
    have hok := hk x hxm
    have hg := getA_by (H := mkH L t.cols w k) (q := k) (n := t.cols.length) hlt
    have hs1 : (rowsF t.cols.length fun i => byC (mkH L t.cols w k i)).set (0 + ((k : Nat) : Int).toNat) (spliceC (byC (mkH L t.cols w k k)) 0 (eC (eI .u8 45))) = rowsF t.cols.length fun i => byC (if i = k then 45 else mkH L t.cols w k i) := setA_by (c := 45)
    have hg2 := getA_by (H := fun i => if i = k then 45 else mkH L t.cols w k i) (q := k) (n := t.cols.length) hlt
    rw [← hs1] at hg2
    have hs2 : (rowsF t.cols.length fun i => byC (if i = k then 45 else mkH L t.cols w k i)).set (0 + ((k : Nat) : Int).toNat) (spliceC (byC (if k = k then 45 else mkH L t.cols w k k)) 0 (eC (eI .u8 43))) = rowsF t.cols.length fun i => byC (if i = k then 43 else mkH L t.cols w k i) := by
      refine (setA_by (H := fun i => if i = k then 45 else mkH L t.cols w k i) (c := 43)).trans ?_
      refine rowsF_congr fun i _ => ?_
      by_cases h : i = k <;> simp [h]
    have hst := mkH_step (L := L) (w := w) hx
    refine AWp.skip ?_
    refine AWp.seq (AWp.block ?_)
    (repeat first | refine sN rfl ?_ | ((first|refine sM rfl ?_ ?_|refine s4 rfl ‹_› rfl ?_ ?_);first|exact tI|omega|(simp only[oZ] at *;omega)) | (refine s2 rfl ?_;intro _ _hb) | (refine popO rfl ?_;refine gA rfl ?_;first | (refine gB (fun _ _ => hc.ask rfl rfl hok) ?_; intro _ _hb)) | (refine s3 rfl ?_ ?_<;>intro hb<;>subst hb) | refine aS ?_ | refine reg (by kernel_rfl) ?_ | refine lexE ?_ | refine rD (by kernel_rfl) (by kernel_rfl) ?_)
    (refine aC rfl ?_ ?_<;>intro hb<;>cases hb)
    · (repeat first | refine sN rfl ?_ | ((first|refine sM rfl ?_ ?_|refine s4 rfl ‹_› rfl ?_ ?_);first|exact tI|omega|(simp only[oZ] at *;omega)) | (refine s2 rfl ?_;intro _ _hb) | (refine s3 rfl ?_ ?_<;>intro hb<;>subst hb) | refine aS ?_ | refine reg (by kernel_rfl) ?_ | refine lexE ?_ | refine rD (by kernel_rfl) (by kernel_rfl) ?_)
      refine ⟨⟨k + 1, by first | omega | (simp only [oZ] at *; omega)⟩, by dsimp only; (first | omega | (simp only [oZ] at *; omega)), [0, 1], ?_⟩
      rw [hs1, hs2]
      rw [_hb] at hst
      have e43 : mkB true = 43 := rfl
      have e45 : mkB false = 45 := rfl
      simp only [e43, e45] at hst
      simp [EnvSub, StoreSub, look_cons, nm, E.ren, C.ren, C.renL, O.ren, killc, kill0, Function.comp_def, argsFrom, zC, hΓ, ren_by, hr, hst]
    · refine AWp.skip ?_
      (repeat first | refine sN rfl ?_ | ((first|refine sM rfl ?_ ?_|refine s4 rfl ‹_› rfl ?_ ?_);first|exact tI|omega|(simp only[oZ] at *;omega)) | (refine s2 rfl ?_;intro _ _hb) | (refine s3 rfl ?_ ?_<;>intro hb<;>subst hb) | refine aS ?_ | refine reg (by kernel_rfl) ?_ | refine lexE ?_ | refine rD (by kernel_rfl) (by kernel_rfl) ?_)
      refine ⟨⟨k + 1, by first | omega | (simp only [oZ] at *; omega)⟩, by dsimp only; (first | omega | (simp only [oZ] at *; omega)), [0, 1], ?_⟩
      rw [hs1]
      rw [_hb] at hst
      have e43 : mkB true = 43 := rfl
      have e45 : mkB false = 45 := rfl
      simp only [e43, e45] at hst
      simp [EnvSub, StoreSub, look_cons, nm, E.ren, C.ren, C.renL, O.ren, killc, kill0, Function.comp_def, argsFrom, zC, hΓ, ren_by, hr, hst]
  · obtain rfl : k = t.cols.length := by first | omega | (simp only [oZ] at *; omega)
    rw [marks_rows]
    refine AWp.exit ?_
    (repeat first | refine sN rfl ?_ | ((first|refine sM rfl ?_ ?_|refine s4 rfl ‹_› rfl ?_ ?_);first|exact tI|omega|(simp only[oZ] at *;omega)) | (refine s2 rfl ?_;intro _ _hb) | (refine popO rfl ?_;refine gA rfl ?_;first | refine gQ (q_textA (marks L t.cols w) rfl rfl (by simp [marks]) (by rw [List.drop_zero, List.take_of_length_le (by simp [marks])])) (by rfl) ?_) | (refine s3 rfl ?_ ?_<;>intro hb<;>subst hb) | refine aS ?_ | refine reg (by kernel_rfl) ?_ | refine lexE ?_ | refine rD (by kernel_rfl) (by kernel_rfl) ?_)
    refine AWp.ret ⟨_, rfl, rfl⟩
end Go.Am
/-
  The numbers of rows; the first word by which a table is open.
-/
namespace Go.Am
open Go Go.Proofs
set_option maxHeartbeats 1000000
attribute [local irreducible] QOp AOp Lex LexO AWp Spec
variable {TB : List (Nat × Obj)}

/-- The first row with some marks, of the first k rows. -/
def numsTo (L : W → Bool) (t : Tab) : Nat → List (W × Int)
  | 0 => []
  | k + 1 => if (findT (numsTo L t k) (marks L t.cols (t.rows.getD k []))).isSome then numsTo L t k else numsTo L t k ++ [(marks L t.cols (t.rows.getD k []), (k : Int))]
/-- What a table owes to the oracle. -/
structure AskOk (ok : W → Prop) (t : Tab) : Prop where
  ok : ∀ w ∈ t.rows, ∀ x ∈ t.cols, ok (w ++ x)
  rb : ∀ w ∈ t.rows, w.length ≤ 65536
  cb : ∀ x ∈ t.cols, x.length ≤ 65536
  rl : t.rows.length ≤ 4096
  cl : t.cols.length ≤ 4096
theorem rowNumbers_ok {c : C} {L : W → Bool} {ok : W → Prop} (hc : AskV Tryz.prog TB c L ok) (al : Int) (t : Tab) (ht : AskOk ok t) :
    Spec Tryz.prog TB 93 [] 0 [eOra al c, eTab t] (fun x σ nx => x = .o (.mp 0) ∧ nx = 1 ∧ σ = [(0, .mp (mapT (numsTo L t t.rows.length)))]) := by
  have hr := ren_pur c hc.pur
  have hrl := ht.rl
  refine eN Tryz.func93 rfl (by kernel_rfl) rfl ?_;intro Γ hΓ
  (repeat first | refine sN rfl ?_ | ((first|refine sM rfl ?_ ?_|refine s4 rfl ‹_› rfl ?_ ?_);first|exact tI|omega|(simp only[oZ] at *;omega)) | (refine s2 rfl ?_;intro _ _hb) | (refine s3 rfl ?_ ?_<;>intro hb<;>subst hb) | refine aS ?_ | refine reg (by kernel_rfl) ?_ | refine lexE ?_ | refine rD (by kernel_rfl) (by kernel_rfl) ?_)
  (refine popO rfl ?_; refine popW ?_ rfl (by rfl); refine n_box rfl rfl ?_)
  (refine popO rfl ?_; refine popS (fun _ _ => q_boxI rfl rfl rfl) rfl ?_)
  (repeat first | refine sN rfl ?_ | ((first|refine sM rfl ?_ ?_|refine s4 rfl ‹_› rfl ?_ ?_);first|exact tI|omega|(simp only[oZ] at *;omega)) | (refine s2 rfl ?_;intro _ _hb) | (refine s3 rfl ?_ ?_<;>intro hb<;>subst hb) | refine aS ?_ | refine reg (by kernel_rfl) ?_ | refine lexE ?_ | refine rD (by kernel_rfl) (by kernel_rfl) ?_)
  (refine popO rfl ?_; refine popW ?_ rfl (by rfl); refine n_makeMap ?_)
  (repeat first | refine sN rfl ?_ | ((first|refine sM rfl ?_ ?_|refine s4 rfl ‹_› rfl ?_ ?_);first|exact tI|omega|(simp only[oZ] at *;omega)) | (refine s2 rfl ?_;intro _ _hb) | (refine s3 rfl ?_ ?_<;>intro hb<;>subst hb) | refine aS ?_ | refine reg (by kernel_rfl) ?_ | refine lexE ?_ | refine rD (by kernel_rfl) (by kernel_rfl) ?_)
  refine AWp.block ?_
  refine AWp.loopL (α := {k : Nat // k ≤ t.rows.length}) (fun ⟨k, hkl⟩ => [(2, .o (.ptr 0 2 0 0)), (3, .o (.ip (taRow t))), (5, .o (.mp 1)), (13, .o (.d (tList t.rows))), (14, eI .i64 t.rows.length), (15, eI .i64 k)]) (fun ⟨k, hkl⟩ => [(1, .mp (mapT (numsTo L t k))), (0, .cells 88 2 [[.d (iD al), c]])]) 2 (fun ⟨k, hkl⟩ => t.rows.length - k) (⟨0, by omega⟩) [0, 1] (by first | (simp [hΓ]; done) | (rw [hΓ]; decide)) (by (repeat' (first | exact trivial | rfl | refine And.intro ?_ ?_)) <;> simp [EnvSub, StoreSub, look_cons, nm, E.ren, C.ren, C.renL, O.ren, killc, kill0, Function.comp_def, argsFrom, zC, hΓ, hr, eC, numsTo, mapT]) ?_; rintro ⟨k, hkl⟩; (try dsimp only)
  (repeat first | refine sN rfl ?_ | ((first|refine sM rfl ?_ ?_|refine s4 rfl ‹_› rfl ?_ ?_);first|exact tI|omega|(simp only[oZ] at *;omega)) | (refine s2 rfl ?_;intro _ _hb) | (refine s3 rfl ?_ ?_<;>intro hb<;>subst hb) | refine aS ?_ | refine reg (by kernel_rfl) ?_ | refine lexE ?_ | refine rD (by kernel_rfl) (by kernel_rfl) ?_)
  (refine aC rfl ?_ ?_<;>intro hb<;>cases hb)
  · have hlt : k < t.rows.length := by first | omega | (simp only [oZ] at *; omega)
    obtain ⟨x, hx⟩ := get_some (l := t.rows) (k := k) hlt
    have hx' := get_map (g := tRow) hx
    have hxm := List.mem_of_getElem? hx
    have hxb := ht.rb x hxm
    have hm := marks_ok hc al t x (by have := ht.cl; omega) (ht.ok x hxm) (fun y hy => by have := ht.cb y hy; omega)
    have hgd : t.rows.getD k [] = x := by simp [hx]
    have hstep : numsTo L t (k + 1) = if (findT (numsTo L t k) (marks L t.cols x)).isSome then numsTo L t k else numsTo L t k ++ [(marks L t.cols x, (k : Int))] := by
      rw [numsTo, hgd]
    refine AWp.skip ?_
    refine AWp.seq (AWp.block ?_)
    (repeat first | refine sN rfl ?_ | ((first|refine sM rfl ?_ ?_|refine s4 rfl ‹_› rfl ?_ ?_);first|exact tI|omega|(simp only[oZ] at *;omega)) | (refine s2 rfl ?_;intro _ _hb) | (refine popO rfl ?_;refine gA rfl ?_;first | refine gS (fun _ _ => q_call rfl rfl (by simp [E.pur, C.purL, C.pur, hc.pur]) hm rfl) ?_ | refine gQ (q_look rfl rfl rfl) (by rfl) ?_) | (refine s3 rfl ?_ ?_<;>intro hb<;>subst hb) | refine aS ?_ | refine reg (by kernel_rfl) ?_ | refine lexE ?_ | refine rD (by kernel_rfl) (by kernel_rfl) ?_)
    (refine aC rfl ?_ ?_<;>intro hb<;>cases hb)
    · have hn : findT (numsTo L t k) (marks L t.cols x) = none := by simpa using _hb
      rw [hn] at hstep
      (repeat first | refine sN rfl ?_ | ((first|refine sM rfl ?_ ?_|refine s4 rfl ‹_› rfl ?_ ?_);first|exact tI|omega|(simp only[oZ] at *;omega)) | (refine s2 rfl ?_;intro _ _hb) | (refine s3 rfl ?_ ?_<;>intro hb<;>subst hb) | refine aS ?_ | refine reg (by kernel_rfl) ?_ | refine lexE ?_ | refine rD (by kernel_rfl) (by kernel_rfl) ?_)
      (refine popO rfl ?_; refine popW0 ?_ rfl (by rfl); refine n_put rfl rfl rfl rfl hn ?_)
      (repeat first | refine sN rfl ?_ | ((first|refine sM rfl ?_ ?_|refine s4 rfl ‹_› rfl ?_ ?_);first|exact tI|omega|(simp only[oZ] at *;omega)) | (refine s2 rfl ?_;intro _ _hb) | (refine s3 rfl ?_ ?_<;>intro hb<;>subst hb) | refine aS ?_ | refine reg (by kernel_rfl) ?_ | refine lexE ?_ | refine rD (by kernel_rfl) (by kernel_rfl) ?_)
      refine ⟨⟨k + 1, by first | omega | (simp only [oZ] at *; omega)⟩, by dsimp only; (first | omega | (simp only [oZ] at *; omega)), [0, 1], ?_⟩
      simp [EnvSub, StoreSub, look_cons, nm, E.ren, C.ren, C.renL, O.ren, killc, kill0, Function.comp_def, argsFrom, zC, hΓ, hr, hstep]
    · have hn : (findT (numsTo L t k) (marks L t.cols x)).isSome = true := by simpa using _hb
      rw [if_pos hn] at hstep
      refine AWp.skip ?_
      (repeat first | refine sN rfl ?_ | ((first|refine sM rfl ?_ ?_|refine s4 rfl ‹_› rfl ?_ ?_);first|exact tI|omega|(simp only[oZ] at *;omega)) | (refine s2 rfl ?_;intro _ _hb) | (refine s3 rfl ?_ ?_<;>intro hb<;>subst hb) | refine aS ?_ | refine reg (by kernel_rfl) ?_ | refine lexE ?_ | refine rD (by kernel_rfl) (by kernel_rfl) ?_)
      refine ⟨⟨k + 1, by first | omega | (simp only [oZ] at *; omega)⟩, by dsimp only; (first | omega | (simp only [oZ] at *; omega)), [0, 1], ?_⟩
      simp [EnvSub, StoreSub, look_cons, nm, E.ren, C.ren, C.renL, O.ren, killc, kill0, Function.comp_def, argsFrom, zC, hΓ, hr, hstep]
  · obtain rfl : k = t.rows.length := by first | omega | (simp only [oZ] at *; omega)
    refine AWp.exit ?_
    (repeat first | refine sN rfl ?_ | ((first|refine sM rfl ?_ ?_|refine s4 rfl ‹_› rfl ?_ ?_);first|exact tI|omega|(simp only[oZ] at *;omega)) | (refine s2 rfl ?_;intro _ _hb) | (refine s3 rfl ?_ ?_<;>intro hb<;>subst hb) | refine aS ?_ | refine reg (by kernel_rfl) ?_ | refine lexE ?_ | refine rD (by kernel_rfl) (by kernel_rfl) ?_)
    refine AWp.names [1] [(4, .o (.mp 0))] [(0, .mp (mapT (numsTo L t t.rows.length)))] (by intro i hi; rw [hΓ] at hi; omega) (by simp) (by simp [EnvSub, StoreSub, look_cons, nm, E.ren, C.ren, C.renL, O.ren, killc, kill0, Function.comp_def, argsFrom, zC, hΓ]) (by simp [EnvSub, StoreSub, look_cons, nm, E.ren, C.ren, C.renL, O.ren, killc, kill0, Function.comp_def, argsFrom, zC, hΓ]) ?_
    refine AWp.ret ⟨_, rfl, rfl, rfl, rfl⟩
end Go.Am
