/-
  Plain laws (numbers and lists) for the statement CutRef: no program in sight.
-/
import Derived.Test.YtloojhnohofonaaAllx0
import Derived.Test.YtloojhnohofonaaAllx10
import Derived.Test.YtloojhnohofonaaAllx12
import Derived.Test.YtloojhnohofonaaAllx21
import Derived.Test.YtloojhnohofonaaPureCut
import Derived.Test.YtloojhnohofonaaPureRef
namespace Go.Proofs.Ytloojhnohofonaa.Pure
open Go.RowKit Go.Proofs.YtloojhnohofonaaW.PrintWords Go.Proofs.YtloojhnohofonaaW.PrintMore Go.Proofs.Ytloojhnohofonaa.All
set_option linter.unusedVariables false
set_option linter.unusedSimpArgs false
theorem rsub_l0 : ∀ (n k : Nat) (xs acc : List S23) (i : Nat), i ≤ xs.length → xs.length - i = n → n < k → acc.length + n < 1000 → xs.length < 1000 →
    compositorref04_Subtract.l0 k xs acc (i : Int) = some (acc ++ rect_Subtract.kp (xs.drop i)) := by
  intro n
  induction n with
  | zero =>
    intro k xs acc i h0 h1 h2 h3 h4
    obtain ⟨j, rfl⟩ : ∃ j, k = j + 1 := ⟨k - 1, by omega⟩
    have e : i = xs.length := by omega
    rw [compositorref04_Subtract.l0, if_neg (by omega), e, List.drop_length]
    simp [rect_Subtract.kp]
  | succ n ih =>
    intro k xs acc i h0 h1 h2 h3 h4
    obtain ⟨j, rfl⟩ : ∃ j, k = j + 1 := ⟨k - 1, by omega⟩
    have hi : i < xs.length := by omega
    have w : wrap64 ((i : Int) + 1) = ((i + 1 : Nat) : Int) := by rw [w64 (by omega) (by omega)]; omega
    rw [compositorref04_Subtract.l0, if_pos (by omega), if_pos (by omega), rempty_eq, Option.bind_some, w, rd_drop hi, kp_cons]
    by_cases h : NE (rd_T23 xs (i : Int)).f0 (rd_T23 xs (i : Int)).f1 (rd_T23 xs (i : Int)).f2 (rd_T23 xs (i : Int)).f3
    · rw [if_neg (by simp [h]), if_pos (by omega), if_pos h]
      rw [ih j xs _ (i + 1) (by omega) (by omega) (by omega) (by simp; omega) h4, List.append_assoc]
      rfl
    · rw [if_pos (by simp [h]), if_neg h]
      exact ih j xs _ (i + 1) (by omega) (by omega) (by omega) (by omega) h4
theorem rsub_eq (a b c d a' b' c' d' : Int) (k : Nat) (hk : 5 ≤ k) : compositorref04_Subtract.f k a b c d a' b' c' d' = some (sub a b c d a' b' c' d') := by
  simp only [compositorref04_Subtract.f, risc_eq, rempty_eq, Option.bind_some, sub, decide_eq_true_eq]
  obtain ⟨i0, i1, i2, i3, e, h⟩ := isc_cases a b c d a' b' c' d'
  rw [e]
  rcases h with ⟨hn, rfl, rfl, rfl, rfl, _⟩ | ⟨hn, h1, h2, _⟩
  · by_cases h : NE a b c d <;> simp [h, hn]
  · simp only [h1, hn, not_true_eq_false, if_true, if_false]
    exact (rsub_l0 4 k _ [] 0 (by simp) rfl (by omega) (by simp) (by simp)).trans rfl
theorem same_l0 : ∀ (n k : Nat) (xs : List S23) (i : Nat), i ≤ xs.length → xs.length - i = n → n < k → xs.length < 1000 →
    compositorref04_Same.l0 k xs xs (i : Int) = some true := by
  intro n
  induction n with
  | zero =>
    intro k xs i h0 h1 h2 h4
    obtain ⟨j, rfl⟩ : ∃ j, k = j + 1 := ⟨k - 1, by omega⟩
    rw [compositorref04_Same.l0, if_neg (by omega)]
  | succ n ih =>
    intro k xs i h0 h1 h2 h4
    obtain ⟨j, rfl⟩ : ∃ j, k = j + 1 := ⟨k - 1, by omega⟩
    have w : wrap64 ((i : Int) + 1) = ((i + 1 : Nat) : Int) := by rw [w64 (by omega) (by omega)]; omega
    rw [compositorref04_Same.l0, if_pos (by omega), if_pos (by omega), if_pos (by omega), w, if_neg (by simp)]
    exact ih j xs (i + 1) (by omega) (by omega) (by omega) h4
theorem same_eq (xs : List S23) (k : Nat) (h : xs.length < 1000) (hk : xs.length < k) : compositorref04_Same.f k xs xs = some true := by
  rw [compositorref04_Same.f, if_pos rfl]
  exact same_l0 xs.length k xs 0 (by omega) (by omega) (by omega) h

end Go.Proofs.Ytloojhnohofonaa.Pure
