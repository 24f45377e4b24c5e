/-
  Plain laws (numbers and lists) for the statement RectShifts: no program in sight.
-/
import Derived.Test.YtloojhnohofonaaAllx0
import Derived.Test.YtloojhnohofonaaAllx15
import Derived.Test.YtloojhnohofonaaAllx9
import Derived.Test.YtloojhnohofonaaAllx90
import Derived.Test.YtloojhnohofonaaPureTrn
namespace Go.Proofs.Ytloojhnohofonaa.Pure
open Go.RowKit Go.Proofs.YtloojhnohofonaaW.PrintWords Go.Proofs.YtloojhnohofonaaW.PrintMore Go.Proofs.Ytloojhnohofonaa.All
set_option linter.unusedVariables false
set_option linter.unusedSimpArgs false
theorem mvd_in {n d : Int} (h : -16384 ≤ n + d) (h' : n + d ≤ 16384) : mvd n d = n + d := by
  have m5 := mn_spec 16384 (n + d)
  have m6 := mx_spec (-16384) (mn 16384 (n + d))
  unfold mvd
  omega
theorem trn_in {a b c d x y : Int} (h : NE a b c d) (v : VA (a + x) (b + y) (c + x) (d + y)) : trn a b c d x y = (a + x, b + y, c + x, d + y) ∧ NE (a + x) (b + y) (c + x) (d + y) := by
  have hn : NE (a + x) (b + y) (c + x) (d + y) := by unfold NE at *; unfold VA at v; omega
  refine ⟨?_, hn⟩
  unfold VA at v
  unfold trn can
  rw [if_pos h, mvd_in (by omega) (by omega), mvd_in (by omega) (by omega), mvd_in (by omega) (by omega), mvd_in (by omega) (by omega), if_pos hn]
theorem isc_shift {a b c d a' b' c' d' x y : Int} (h : NE a b c d) (h' : NE a' b' c' d') (v : VA (a + x) (b + y) (c + x) (d + y)) (v' : VA (a' + x) (b' + y) (c' + x) (d' + y)) :
    isc (a + x) (b + y) (c + x) (d + y) (a' + x) (b' + y) (c' + x) (d' + y) = trn (isc a b c d a' b' c' d').1 (isc a b c d a' b' c' d').2.1 (isc a b c d a' b' c' d').2.2.1 (isc a b c d a' b' c' d').2.2.2 x y := by
  have hn := (trn_in h v).2
  have hn' := (trn_in h' v').2
  have e1 : mx (a + x) (a' + x) = mx a a' + x := by have := mx_spec (a + x) (a' + x); have := mx_spec a a'; omega
  have e2 : mx (b + y) (b' + y) = mx b b' + y := by have := mx_spec (b + y) (b' + y); have := mx_spec b b'; omega
  have e3 : mn (c + x) (c' + x) = mn c c' + x := by have := mn_spec (c + x) (c' + x); have := mn_spec c c'; omega
  have e4 : mn (d + y) (d' + y) = mn d d' + y := by have := mn_spec (d + y) (d' + y); have := mn_spec d d'; omega
  have m1 := mx_spec a a'
  have m2 := mx_spec b b'
  have m3 := mn_spec c c'
  have m4 := mn_spec d d'
  have i1 : isc (a + x) (b + y) (c + x) (d + y) (a' + x) (b' + y) (c' + x) (d' + y) = can (mx a a' + x) (mx b b' + y) (mn c c' + x) (mn d d' + y) := by
    unfold isc
    rw [if_pos ⟨hn, hn'⟩, e1, e2, e3, e4]
  have i2 : isc a b c d a' b' c' d' = can (mx a a') (mx b b') (mn c c') (mn d d') := if_pos ⟨h, h'⟩
  rw [i1, i2]
  have v2 : VA (mx a a' + x) (mx b b' + y) (mn c c' + x) (mn d d' + y) := by unfold VA at *; omega
  by_cases hi : NE (mx a a') (mx b b') (mn c c') (mn d d')
  · obtain ⟨t1, t2⟩ := trn_in hi v2
    have c1 : can (mx a a') (mx b b') (mn c c') (mn d d') = (mx a a', mx b b', mn c c', mn d d') := if_pos hi
    rw [c1]
    simp only
    rw [t1]
    exact if_pos t2
  · have c1 : can (mx a a') (mx b b') (mn c c') (mn d d') = (0, 0, 0, 0) := if_neg hi
    rw [c1]
    simp only
    have z : trn 0 0 0 0 x y = (0, 0, 0, 0) := if_neg not_ne0
    rw [z]
    refine if_neg ?_
    unfold NE VA at *
    omega
theorem RectShifts (x0 : S23) (x1 : S23) (x2 : S30) (ok0 : ((Lit.int .i64 x0.f0).wf = true) ∧ ((Lit.int .i64 x0.f1).wf = true) ∧ ((Lit.int .i64 x0.f2).wf = true) ∧ ((Lit.int .i64 x0.f3).wf = true)) (ok1 : ((Lit.int .i64 x1.f0).wf = true) ∧ ((Lit.int .i64 x1.f1).wf = true) ∧ ((Lit.int .i64 x1.f2).wf = true) ∧ ((Lit.int .i64 x1.f3).wf = true)) (ok2 : ((Lit.int .i64 x2.f0).wf = true) ∧ ((Lit.int .i64 x2.f1).wf = true)) :
    ∃ k, compositorlaw04_RectShifts.f k x0.f0 x0.f1 x0.f2 x0.f3 x1.f0 x1.f1 x1.f2 x1.f3 x2.f0 x2.f1 = some true := by
  obtain ⟨K, hK⟩ := example_holds
  refine ⟨K + 1, ?_⟩
  obtain ⟨a, b, c, d⟩ := x0
  obtain ⟨a', b', c', d'⟩ := x1
  obtain ⟨x, y⟩ := x2
  simp only [compositorlaw04_RectShifts.f, empty_eq, Option.bind_some, decide_eq_true_eq]
  have far : compositorlaw04_RectShifts.j0 (K + 1) x y true a b c d a' b' c' d' = some true := by
    rw [compositorlaw04_RectShifts.j0]
    simp only [if_true, hK K (Nat.le_refl _), Option.bind_some]
  by_cases h : NE a b c d
  · by_cases h' : NE a' b' c' d'
    · simp only [h, h', not_true_eq_false, if_false, far]
      split
      · rfl
      · split
        · rfl
        · split
          · rfl
          · by_cases hy : y > 32768
            · simp only [hy, decide_true, far]
            · simp only [hy, decide_false]
              rw [compositorlaw04_RectShifts.j0]
              have m1 := mn_spec a a'
              have m2 := mn_spec b b'
              have m3 := mx_spec c c'
              have m4 := mx_spec d d'
              have u : uni a b c d a' b' c' d' = (mn a a', mn b b', mx c c', mx d d') := by unfold uni; rw [if_pos h, if_pos h']
              have w1 : wrap64 (mn a a' + x) = mn a a' + x := w64 (by unfold NE at *; omega) (by unfold NE at *; omega)
              have w2 : wrap64 (mn b b' + y) = mn b b' + y := w64 (by unfold NE at *; omega) (by unfold NE at *; omega)
              have w3 : wrap64 (mx c c' + x) = mx c c' + x := w64 (by unfold NE at *; omega) (by unfold NE at *; omega)
              have w4 : wrap64 (mx d d' + y) = mx d d' + y := w64 (by unfold NE at *; omega) (by unfold NE at *; omega)
              have w5 : wrap64 (-x) = -x := w64 (by omega) (by omega)
              have w6 : wrap64 (-y) = -y := w64 (by omega) (by omega)
              simp only [Bool.false_eq_true, if_false, uni_eq, u, w1, w2, w3, w4, w5, w6, compositorlaw04_box.f, valid_eq, Option.bind_some, decide_eq_true_eq]
              by_cases hv : VA (mn a a' + x) (mn b b' + y) (mx c c' + x) (mx d d' + y)
              · have v : VA (a + x) (b + y) (c + x) (d + y) := by unfold NE VA at *; omega
                have v' : VA (a' + x) (b' + y) (c' + x) (d' + y) := by unfold NE VA at *; omega
                obtain ⟨t1, n1⟩ := trn_in h v
                obtain ⟨t2, n2⟩ := trn_in h' v'
                have z1 : a + x + -x = a := by omega
                have z2 : b + y + -y = b := by omega
                have z3 : c + x + -x = c := by omega
                have z4 : d + y + -y = d := by omega
                have t3 : trn (a + x) (b + y) (c + x) (d + y) (-x) (-y) = (a, b, c, d) := by
                  rw [(trn_in n1 (by rw [z1, z2, z3, z4]; unfold NE VA at *; omega)).1, z1, z2, z3, z4]
                have e1 : c + x - (a + x) = c - a := by omega
                have e2 : d + y - (b + y) = d - b := by omega
                have a1 : ar (a + x) (b + y) (c + x) (d + y) = ar a b c d := by
                  unfold ar
                  rw [if_pos n1, if_pos h, e1, e2]
                simp only [hv, if_true, trn_eq, t1, t2, t3, Option.bind_some, beq_self_eq_true, Bool.and_self, area_eq, a1, isc_eq, isc_shift h h' v v', hK K (Nat.le_refl _)]
              · simp only [hv, if_false, hK K (Nat.le_refl _), Option.bind_some]
    · simp [h, h', far]
  · simp [h, far]

end Go.Proofs.Ytloojhnohofonaa.Pure
