/-
  Plain laws (numbers and lists) for the statement Cut: no program in sight.
-/
import Derived.Test.YtloojhnohofonaaAllx0
import Derived.Test.YtloojhnohofonaaAllx12
import Derived.Test.YtloojhnohofonaaPureBase
namespace Go.Proofs.Ytloojhnohofonaa.Pure
open Go.RowKit Go.Proofs.YtloojhnohofonaaW.PrintWords Go.Proofs.YtloojhnohofonaaW.PrintMore Go.Proofs.Ytloojhnohofonaa.All
set_option linter.unusedVariables false
set_option linter.unusedSimpArgs false
theorem em_eq (r : S23) : rect_Subtract.em r = decide (¬ NE r.f0 r.f1 r.f2 r.f3) := by
  unfold rect_Subtract.em
  rw [Bool.eq_iff_iff]
  simp only [Bool.or_eq_true, Bool.not_eq_true', Bool.and_eq_false_iff, decide_eq_true_eq, decide_eq_false_iff_not]
  unfold NE
  omega
theorem isc_cases (a b c d a' b' c' d' : Int) : ∃ i0 i1 i2 i3, isc a b c d a' b' c' d' = (i0, i1, i2, i3) ∧
    ((¬ NE i0 i1 i2 i3 ∧ i0 = 0 ∧ i1 = 0 ∧ i2 = 0 ∧ i3 = 0 ∧ (NE a b c d → NE a' b' c' d' → ¬ NE (mx a a') (mx b b') (mn c c') (mn d d'))) ∨
     (NE i0 i1 i2 i3 ∧ NE a b c d ∧ NE a' b' c' d' ∧ i0 = mx a a' ∧ i1 = mx b b' ∧ i2 = mn c c' ∧ i3 = mn d d')) := by
  unfold isc
  by_cases h : NE a b c d ∧ NE a' b' c' d'
  · rw [if_pos h]
    unfold can
    by_cases hn : NE (mx a a') (mx b b') (mn c c') (mn d d')
    · rw [if_pos hn]
      exact ⟨_, _, _, _, rfl, .inr ⟨hn, h.1, h.2, rfl, rfl, rfl, rfl⟩⟩
    · rw [if_neg hn]
      exact ⟨_, _, _, _, rfl, .inl ⟨not_ne0, rfl, rfl, rfl, rfl, fun _ _ => hn⟩⟩
  · rw [if_neg h]
    exact ⟨_, _, _, _, rfl, .inl ⟨not_ne0, rfl, rfl, rfl, rfl, fun h1 h2 => absurd ⟨h1, h2⟩ h⟩⟩
/-- What is left of a rectangle. -/
noncomputable def sub (a b c d a' b' c' d' : Int) : List S23 :=
  let i := isc a b c d a' b' c' d'
  if NE i.1 i.2.1 i.2.2.1 i.2.2.2 then rect_Subtract.kp (rect_Subtract.cut4 ⟨a, b, c, d⟩ ⟨i.1, i.2.1, i.2.2.1, i.2.2.2⟩) else if NE a b c d then [⟨a, b, c, d⟩] else []
theorem sub_eq (a b c d a' b' c' d' : Int) : rect_Subtract.f a b c d a' b' c' d' = some (sub a b c d a' b' c' d') := by
  simp only [rect_Subtract.f, isc_eq, Option.bind_some, sub]
  obtain ⟨i0, i1, i2, i3, e, h⟩ := isc_cases a b c d a' b' c' d'
  rw [e]
  rcases h with ⟨hn, rfl, rfl, rfl, rfl, _⟩ | ⟨hn, h1, h2, _⟩
  · simp only [beq_self_eq_true, Bool.and_self, if_true, em_eq, decide_eq_true_eq, hn, if_false]
    by_cases h : NE a b c d <;> simp [h]
  · have : ¬ ((i0 == 0 && (i1 == 0 && (i2 == 0 && i3 == 0))) = true) := by
      simp only [Bool.and_eq_true, beq_iff_eq]
      unfold NE at hn
      omega
    simp only [this, hn, if_true, if_false]
    rfl
theorem rd_drop {xs : List S23} {i : Nat} (h : i < xs.length) : xs.drop i = rd_T23 xs (i : Int) :: xs.drop (i + 1) := by
  rw [List.drop_eq_getElem_cons h]
  congr 1
  unfold rd_T23
  rw [Int.toNat_natCast, List.getD_eq_getElem?_getD, List.getElem?_eq_getElem h, Option.getD_some]
theorem kp_cons (r : S23) (l : List S23) : rect_Subtract.kp (r :: l) = if NE r.f0 r.f1 r.f2 r.f3 then r :: rect_Subtract.kp l else rect_Subtract.kp l := by
  unfold rect_Subtract.kp
  rw [List.filter_cons, em_eq]
  by_cases h : NE r.f0 r.f1 r.f2 r.f3 <;> simp [h]
theorem sub_le (a b c d a' b' c' d' : Int) : (sub a b c d a' b' c' d').length ≤ 4 := by
  unfold sub
  simp only
  split
  · exact Nat.le_trans (List.length_filter_le _ _) (Nat.le_refl 4)
  · split <;> simp

end Go.Proofs.Ytloojhnohofonaa.Pure
