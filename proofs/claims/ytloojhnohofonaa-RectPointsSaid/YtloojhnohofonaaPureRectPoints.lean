/-
  Plain laws (numbers and lists) for the statement RectPoints: no program in sight.
-/
import Derived.Test.YtloojhnohofonaaAllx0
import Derived.Test.YtloojhnohofonaaAllx12
import Derived.Test.YtloojhnohofonaaAllx26
import Derived.Test.YtloojhnohofonaaAllx90
import Derived.Test.YtloojhnohofonaaPureHas
import Derived.Test.YtloojhnohofonaaPureWin
import Derived.Test.YtloojhnohofonaaPureCut
namespace Go.Proofs.Ytloojhnohofonaa.Pure
open Go.RowKit Go.Proofs.YtloojhnohofonaaW.PrintWords Go.Proofs.YtloojhnohofonaaW.PrintMore Go.Proofs.Ytloojhnohofonaa.All
set_option linter.unusedVariables false
set_option linter.unusedSimpArgs false
theorem has_isc (a b c d a' b' c' d' x y : Int) {i0 i1 i2 i3 : Int} (e : isc a b c d a' b' c' d' = (i0, i1, i2, i3)) : HAS i0 i1 i2 i3 x y ↔ HAS a b c d x y ∧ HAS a' b' c' d' x y := by
  obtain ⟨j0, j1, j2, j3, e', h⟩ := isc_cases a b c d a' b' c' d'
  obtain ⟨rfl, rfl, rfl, rfl⟩ : j0 = i0 ∧ j1 = i1 ∧ j2 = i2 ∧ j3 = i3 := by rw [e] at e'; simp_all
  have m1 := mx_spec a a'
  have m2 := mx_spec b b'
  have m3 := mn_spec c c'
  have m4 := mn_spec d d'
  rcases h with ⟨hn, rfl, rfl, rfl, rfl, h⟩ | ⟨hn, h1, h2, rfl, rfl, rfl, rfl⟩
  · constructor
    · intro h; exact absurd h.1 hn
    · rintro ⟨⟨h1, p⟩, ⟨h2, q⟩⟩
      refine absurd ?_ (h h1 h2)
      unfold NE at h1 h2 ⊢
      omega
  · constructor
    · rintro ⟨_, p⟩
      exact ⟨⟨h1, by omega⟩, ⟨h2, by omega⟩⟩
    · rintro ⟨⟨_, p⟩, ⟨_, q⟩⟩
      exact ⟨hn, by omega⟩
theorem has_uni (a b c d a' b' c' d' x y : Int) (h : HAS a b c d x y ∨ HAS a' b' c' d' x y) :
    HAS (uni a b c d a' b' c' d').1 (uni a b c d a' b' c' d').2.1 (uni a b c d a' b' c' d').2.2.1 (uni a b c d a' b' c' d').2.2.2 x y := by
  have m1 := mn_spec a a'
  have m2 := mn_spec b b'
  have m3 := mx_spec c c'
  have m4 := mx_spec d d'
  unfold uni can
  by_cases h1 : NE a b c d
  · by_cases h2 : NE a' b' c' d'
    · simp only [h1, h2, if_true]
      refine ⟨?_, ?_⟩
      · unfold NE at *; omega
      · rcases h with ⟨_, h⟩ | ⟨_, h⟩ <;> omega
    · simp only [h1, h2, if_true, if_false]
      rcases h with h | h
      · exact h
      · exact absurd h.1 h2
  · simp only [h1, if_false]
    rcases h with h | h
    · exact absurd h.1 h1
    · simp only [h.1, if_true]
      exact h
theorem win_has {a b c d a' b' c' d' x y : Int} (h : WIN a b c d a' b' c' d') (k : HAS a b c d x y) : HAS a' b' c' d' x y := by
  obtain ⟨h1, h2⟩ := h k.1
  obtain ⟨_, k⟩ := k
  exact ⟨h1, by omega⟩
/-- How many of them have the point. -/
noncomputable def cnt (x y : Int) : List S23 → Int
  | [] => 0
  | r :: l => (if HAS r.f0 r.f1 r.f2 r.f3 x y then 1 else 0) + cnt x y l
theorem cnt_kp (x y : Int) : ∀ l, cnt x y (rect_Subtract.kp l) = cnt x y l
  | [] => rfl
  | r :: l => by
    rw [kp_cons, cnt]
    by_cases h : NE r.f0 r.f1 r.f2 r.f3
    · rw [if_pos h, cnt, cnt_kp x y l]
    · rw [if_neg h, if_neg (fun k => h k.1), cnt_kp x y l]; omega
theorem cnt_range (x y : Int) : ∀ l, 0 ≤ cnt x y l ∧ cnt x y l ≤ l.length
  | [] => by simp [cnt]
  | r :: l => by
    have := cnt_range x y l
    rw [cnt]
    simp only [List.length_cons]
    split <;> omega
theorem cnt_sub (a b c d a' b' c' d' x y : Int) : cnt x y (sub a b c d a' b' c' d') = if HAS a b c d x y ∧ ¬ HAS a' b' c' d' x y then 1 else 0 := by
  obtain ⟨i0, i1, i2, i3, e, h⟩ := isc_cases a b c d a' b' c' d'
  have hi := has_isc a b c d a' b' c' d' x y e
  unfold sub
  rw [e]
  simp only
  rcases h with ⟨hn, -, -, -, -, h⟩ | ⟨hn, h1, h2, e0, e1, e2, e3⟩
  · rw [if_neg hn]
    have : ¬ (HAS a b c d x y ∧ HAS a' b' c' d' x y) := fun k => hn (hi.2 k).1
    by_cases h1 : NE a b c d
    · rw [if_pos h1]
      simp only [cnt]
      by_cases k : HAS a b c d x y
      · have k' : ¬ HAS a' b' c' d' x y := fun k' => this ⟨k, k'⟩
        simp [k, k']
      · simp [k]
    · rw [if_neg h1, if_neg (fun k => h1 k.1.1)]
      rfl
  · rw [if_pos hn, cnt_kp]
    have m1 := mx_spec a a'
    have m2 := mx_spec b b'
    have m3 := mn_spec c c'
    have m4 := mn_spec d d'
    have hb : HAS a b c d x y ∧ ¬ HAS a' b' c' d' x y ↔ HAS a b c d x y ∧ ¬ HAS i0 i1 i2 i3 x y := by
      rw [hi]; constructor
      · rintro ⟨p, q⟩; exact ⟨p, fun k => q k.2⟩
      · rintro ⟨p, q⟩; exact ⟨p, fun k => q ⟨p, k⟩⟩
    have g0 : HAS a b c d x y ↔ a ≤ x ∧ x < c ∧ b ≤ y ∧ y < d := ⟨fun k => k.2, fun k => ⟨h1, k⟩⟩
    have g5 : HAS i0 i1 i2 i3 x y ↔ i0 ≤ x ∧ x < i2 ∧ i1 ≤ y ∧ y < i3 := ⟨fun k => k.2, fun k => ⟨hn, k⟩⟩
    unfold NE at h1 hn
    have g1 : HAS a b c i1 x y ↔ a ≤ x ∧ x < c ∧ b ≤ y ∧ y < i1 := ⟨fun k => k.2, fun k => ⟨by unfold NE; omega, k⟩⟩
    have g2 : HAS a i3 c d x y ↔ a ≤ x ∧ x < c ∧ i3 ≤ y ∧ y < d := ⟨fun k => k.2, fun k => ⟨by unfold NE; omega, k⟩⟩
    have g3 : HAS a i1 i0 i3 x y ↔ a ≤ x ∧ x < i0 ∧ i1 ≤ y ∧ y < i3 := ⟨fun k => k.2, fun k => ⟨by unfold NE; omega, k⟩⟩
    have g4 : HAS i2 i1 c i3 x y ↔ i2 ≤ x ∧ x < c ∧ i1 ≤ y ∧ y < i3 := ⟨fun k => k.2, fun k => ⟨by unfold NE; omega, k⟩⟩
    simp only [rect_Subtract.cut4, cnt]
    simp only [hb]
    simp only [g0, g1, g2, g3, g4, g5]
    have q0 : a ≤ i0 ∧ i2 ≤ c ∧ b ≤ i1 ∧ i3 ≤ d ∧ i0 < i2 ∧ i1 < i3 := by omega
    clear hi hb g0 g1 g2 g3 g4 g5 h1 h2 hn m1 m2 m3 m4 e e0 e1 e2 e3
    have hx : x < a ∨ (a ≤ x ∧ x < i0) ∨ (i0 ≤ x ∧ x < i2) ∨ (i2 ≤ x ∧ x < c) ∨ c ≤ x := by omega
    have hy : y < b ∨ (b ≤ y ∧ y < i1) ∨ (i1 ≤ y ∧ y < i3) ∨ (i3 ≤ y ∧ y < d) ∨ d ≤ y := by omega
    rcases hx with hx | hx | hx | hx | hx <;> rcases hy with hy | hy | hy | hy | hy <;>
      first | (rw [if_pos (by omega), if_neg (by omega), if_neg (by omega), if_neg (by omega), if_pos (by omega)]; first | done | rfl | omega) | (rw [if_neg (by omega), if_pos (by omega), if_neg (by omega), if_neg (by omega), if_pos (by omega)]; first | done | rfl | omega) | (rw [if_neg (by omega), if_neg (by omega), if_pos (by omega), if_neg (by omega), if_pos (by omega)]; first | done | rfl | omega) | (rw [if_neg (by omega), if_neg (by omega), if_neg (by omega), if_pos (by omega), if_pos (by omega)]; first | done | rfl | omega) | (rw [if_neg (by omega), if_neg (by omega), if_neg (by omega), if_neg (by omega), if_neg (by omega)]; first | done | rfl | omega)
theorem points_loop (K : Nat) (x y a b c d a' b' c' d' want : Int) (p q : Bool)
    (fin : ∀ k n : _, K + 3 < k → n = want → (if p = true then (compositorlaw04_RectPoints.j1 k x y p q n 0 (!q) a b c d a' b' c' d') else (compositorlaw04_RectPoints.j1 k x y p q n 0 false a b c d a' b' c' d')) = some true) :
    ∀ (m k : Nat) (xs : List S23) (i : Nat) (n : Int), i ≤ xs.length → xs.length - i = m → K + 5 + m < k → xs.length ≤ 4 → 0 ≤ n → n ≤ i → n + cnt x y (xs.drop i) = want →
      compositorlaw04_RectPoints.l0 k x y p q n xs (i : Int) a b c d a' b' c' d' = some true := by
  intro m
  induction m with
  | zero =>
    intro k xs i n h0 h1 h2 h3 h4 h5 h6
    obtain ⟨j, rfl⟩ : ∃ j, k = j + 1 := ⟨k - 1, by omega⟩
    have e : i = xs.length := by omega
    rw [e, List.drop_length] at h6
    have f := fin j n (by omega) (by simpa [cnt] using h6)
    clear fin
    rw [compositorlaw04_RectPoints.l0]
    have c1 : ¬ (i : Int) < (xs.length : Int) := by omega
    simp only [c1, if_false]
    exact f
  | succ m ih =>
    intro k xs i n h0 h1 h2 h3 h4 h5 h6
    obtain ⟨j, rfl⟩ : ∃ j, k = j + 1 := ⟨k - 1, by omega⟩
    have hi : i < xs.length := by omega
    have w : wrap64 ((i : Int) + 1) = ((i + 1 : Nat) : Int) := by rw [w64 (by omega) (by omega)]; omega
    rw [compositorlaw04_RectPoints.l0]
    have c1 : (i : Int) < (xs.length : Int) := by omega
    have c2 : (0 : Int) ≤ (i : Int) := by omega
    have c3 : i + 1 ≤ xs.length := by omega
    have c4 : xs.length - (i + 1) = m := by omega
    have c5 : K + 5 + m < j := by omega
    have c6 : 0 ≤ n + 1 ∧ n + 1 ≤ ((i + 1 : Nat) : Int) ∧ n ≤ ((i + 1 : Nat) : Int) := by omega
    have w2 : wrap64 (n + 1) = n + 1 := w64 (by omega) (by omega)
    rw [rd_drop hi, cnt] at h6
    simp only [c1, c2, if_true, has_eq, Option.bind_some, w, decide_eq_true_eq]
    by_cases h : HAS (rd_T23 xs (i : Int)).f0 (rd_T23 xs (i : Int)).f1 (rd_T23 xs (i : Int)).f2 (rd_T23 xs (i : Int)).f3 x y
    · simp only [h, if_true] at h6 ⊢
      rw [w2]
      exact ih j xs (i + 1) (n + 1) c3 c4 c5 h3 c6.1 c6.2.1 (by rw [Int.add_assoc]; exact h6)
    · simp only [h, if_false, Int.zero_add] at h6 ⊢
      exact ih j xs (i + 1) n c3 c4 c5 h3 h4 c6.2.2 h6
theorem RectPoints (x0 : S23) (x1 : S23) (x2 : S30) (ok0 : ((Lit.int .i64 x0.f0).wf = true) ∧ ((Lit.int .i64 x0.f1).wf = true) ∧ ((Lit.int .i64 x0.f2).wf = true) ∧ ((Lit.int .i64 x0.f3).wf = true)) (ok1 : ((Lit.int .i64 x1.f0).wf = true) ∧ ((Lit.int .i64 x1.f1).wf = true) ∧ ((Lit.int .i64 x1.f2).wf = true) ∧ ((Lit.int .i64 x1.f3).wf = true)) (ok2 : ((Lit.int .i64 x2.f0).wf = true) ∧ ((Lit.int .i64 x2.f1).wf = true)) :
    ∃ k, compositorlaw04_RectPoints.f k x0.f0 x0.f1 x0.f2 x0.f3 x1.f0 x1.f1 x1.f2 x1.f3 x2.f0 x2.f1 = some true := by
  obtain ⟨K, hK⟩ := example_holds
  obtain ⟨a, b, c, d⟩ := x0
  obtain ⟨a', b', c', d'⟩ := x1
  obtain ⟨x, y⟩ := x2
  have hl := sub_le a b c d a' b' c' d'
  have hc := cnt_sub a b c d a' b' c' d' x y
  obtain ⟨i0, i1, i2, i3, ei, -⟩ := isc_cases a b c d a' b' c' d'
  have hi := has_isc a b c d a' b' c' d' x y ei
  have hu := has_uni a b c d a' b' c' d' x y
  have hw : WIN a b c d a' b' c' d' → HAS a b c d x y → HAS a' b' c' d' x y := win_has
  simp only
  -- the last one
  have j3 : ∀ k n : _, K < k → compositorlaw04_RectPoints.j3 k x y (decide (HAS a b c d x y)) (decide (HAS a' b' c' d' x y)) n n false a b c d a' b' c' d' = some true := by
    intro k n hk
    obtain ⟨j, rfl⟩ : ∃ j, k = j + 1 := ⟨k - 1, by omega⟩
    simp only [compositorlaw04_RectPoints.j3, Bool.false_eq_true, if_false, isc_eq, Option.bind_some, ei, has_eq, hK j (by omega), if_true]
    by_cases p : HAS a b c d x y <;> by_cases q : HAS a' b' c' d' x y <;> simp [hi, p, q]
  have j2 : ∀ k n : _, K + 1 < k → compositorlaw04_RectPoints.j2 k x y (decide (HAS a b c d x y)) (decide (HAS a' b' c' d' x y)) n n a b c d a' b' c' d' = some true := by
    intro k n hk
    obtain ⟨j, rfl⟩ : ∃ j, k = j + 1 := ⟨k - 1, by omega⟩
    have j3' := j3 j n (by omega)
    simp only [compositorlaw04_RectPoints.j2, uni_eq, Option.bind_some, has_eq, win_eq]
    by_cases p : HAS a b c d x y
    · by_cases q : HAS a' b' c' d' x y
      · simp only [p, q, decide_true, if_true, hu (.inl p), Bool.not_true] at j3' ⊢
        split <;> exact j3'
      · have : ¬ WIN a b c d a' b' c' d' := fun k => q (hw k p)
        simp only [p, q, decide_true, decide_false, if_true, hu (.inl p), this, Bool.false_eq_true, if_false] at j3' ⊢
        exact j3'
    · by_cases q : HAS a' b' c' d' x y
      · simp only [p, q, decide_true, decide_false, if_true, hu (.inr q), Bool.false_eq_true, if_false] at j3' ⊢
        split <;> exact j3'
      · simp only [p, q, decide_false, Bool.false_eq_true, if_false] at j3' ⊢
        split <;> exact j3'
  have fin : ∀ k n : _, K + 3 < k → n = (if HAS a b c d x y ∧ ¬ HAS a' b' c' d' x y then 1 else 0) → (if (decide (HAS a b c d x y)) = true then (compositorlaw04_RectPoints.j1 k x y (decide (HAS a b c d x y)) (decide (HAS a' b' c' d' x y)) n 0 (!(decide (HAS a' b' c' d' x y))) a b c d a' b' c' d') else (compositorlaw04_RectPoints.j1 k x y (decide (HAS a b c d x y)) (decide (HAS a' b' c' d' x y)) n 0 false a b c d a' b' c' d')) = some true := by
    intro k n hk hn
    obtain ⟨j, rfl⟩ : ∃ j, k = j + 1 := ⟨k - 1, by omega⟩
    have j2' := j2 j n (by omega)
    simp only [compositorlaw04_RectPoints.j1]
    by_cases p : HAS a b c d x y <;> by_cases q : HAS a' b' c' d' x y <;> simp only [p, q, decide_true, decide_false, Bool.not_true, Bool.not_false, if_true, if_false, Bool.false_eq_true, not_true_eq_false, not_false_eq_true, and_self, and_true, and_false, false_and] at j2' hn ⊢ <;> subst hn <;> exact j2'
  refine ⟨K + 11, ?_⟩
  simp only [compositorlaw04_RectPoints.f, has_eq, sub_eq, Option.bind_some]
  exact points_loop K x y a b c d a' b' c' d' _ _ _ fin (sub a b c d a' b' c' d').length (K + 11) (sub a b c d a' b' c' d') 0 0 (by omega) (by omega) (by omega) hl (by omega) (by omega) (by simpa using hc)

end Go.Proofs.Ytloojhnohofonaa.Pure
