/-
  Plain laws (numbers and lists) for the statement RectSubtract: no program in sight.
-/
import Derived.Test.YtloojhnohofonaaAllx0
import Derived.Test.YtloojhnohofonaaAllx12
import Derived.Test.YtloojhnohofonaaAllx13
import Derived.Test.YtloojhnohofonaaAllx23
import Derived.Test.YtloojhnohofonaaPureWin
import Derived.Test.YtloojhnohofonaaPureCut
namespace Go.Proofs.Ytloojhnohofonaa.Pure
open Go.RowKit Go.Proofs.YtloojhnohofonaaW.PrintWords Go.Proofs.YtloojhnohofonaaW.PrintMore Go.Proofs.Ytloojhnohofonaa.All
set_option linter.unusedVariables false
set_option linter.unusedSimpArgs false
/-- The area of a quadruple. -/
noncomputable def arT (t : Int × Int × Int × Int) : Int := ar t.1 t.2.1 t.2.2.1 t.2.2.2
theorem isc_zero {a b c d a' b' c' d' : Int} (h : ¬ NE (mx a a') (mx b b') (mn c c') (mn d d')) : arT (isc a b c d a' b' c' d') = 0 := by
  obtain ⟨i0, i1, i2, i3, e, hc⟩ := isc_cases a b c d a' b' c' d'
  rw [e]
  rcases hc with ⟨hn, -⟩ | ⟨hn, -, -, rfl, rfl, rfl, rfl⟩
  · exact if_neg hn
  · exact absurd hn h
/-- The areas' sum. -/
noncomputable def sm : List S23 → Int
  | [] => 0
  | r :: l => ar r.f0 r.f1 r.f2 r.f3 + sm l
theorem sm_kp : ∀ l, sm (rect_Subtract.kp l) = sm l
  | [] => rfl
  | r :: l => by
    rw [kp_cons, sm]
    by_cases h : NE r.f0 r.f1 r.f2 r.f3
    · rw [if_pos h, sm, sm_kp l]
    · have e : ar r.f0 r.f1 r.f2 r.f3 = 0 := if_neg h
      rw [if_neg h, e, sm_kp l, Int.zero_add]
theorem sm_nonneg : ∀ l, 0 ≤ sm l
  | [] => by simp [sm]
  | r :: l => by
    have := sm_nonneg l
    have := ar_le r.f0 r.f1 r.f2 r.f3
    rw [sm]; omega
theorem ar_prod {a b c d : Int} (v : VA a b c d) (h1 : a ≤ c) (h2 : b ≤ d) : ar a b c d = (c - a) * (d - b) := by
  by_cases h : NE a b c d
  · exact if_pos h
  · have e : ar a b c d = 0 := if_neg h
    rw [e]
    have : c = a ∨ d = b := by unfold NE at h; unfold VA at v; omega
    rcases this with rfl | rfl
    · rw [Int.sub_self, Int.zero_mul]
    · rw [Int.sub_self, Int.mul_zero]
theorem sm_sub (a b c d a' b' c' d' : Int) : sm (sub a b c d a' b' c' d') + arT (isc a b c d a' b' c' d') = ar a b c d := by
  obtain ⟨i0, i1, i2, i3, e, h⟩ := isc_cases a b c d a' b' c' d'
  unfold sub
  rw [e]
  simp only
  rcases h with ⟨hn, -⟩ | ⟨hn, h1, h2, e0, e1, e2, e3⟩
  · have z : arT (i0, i1, i2, i3) = 0 := if_neg hn
    rw [if_neg hn, z]
    by_cases h : NE a b c d
    · rw [if_pos h]
      simp only [sm, Int.add_zero]
    · have z' : ar a b c d = 0 := if_neg h
      rw [if_neg h, z']
      rfl
  · rw [if_pos hn, sm_kp]
    have m1 := mx_spec a a'
    have m2 := mx_spec b b'
    have m3 := mn_spec c c'
    have m4 := mn_spec d d'
    have z : arT (i0, i1, i2, i3) = (i2 - i0) * (i3 - i1) := if_pos hn
    have z' : ar a b c d = (c - a) * (d - b) := if_pos h1
    unfold NE at h1 hn
    have p1 : ar a b c i1 = (c - a) * (i1 - b) := ar_prod (by unfold VA; omega) (by omega) (by omega)
    have p2 : ar a i3 c d = (c - a) * (d - i3) := ar_prod (by unfold VA; omega) (by omega) (by omega)
    have p3 : ar a i1 i0 i3 = (i0 - a) * (i3 - i1) := ar_prod (by unfold VA; omega) (by omega) (by omega)
    have p4 : ar i2 i1 c i3 = (c - i2) * (i3 - i1) := ar_prod (by unfold VA; omega) (by omega) (by omega)
    simp only [rect_Subtract.cut4, sm, z, z', p1, p2, p3, p4, Int.sub_mul, Int.mul_sub]
    omega
/-- What each rectangle of the difference is. -/
def fits (a b c d a' b' c' d' : Int) (r : S23) : Prop := NE r.f0 r.f1 r.f2 r.f3 ∧ WIN r.f0 r.f1 r.f2 r.f3 a b c d ∧ arT (isc r.f0 r.f1 r.f2 r.f3 a' b' c' d') = 0
def apart (r s : S23) : Prop := arT (isc s.f0 s.f1 s.f2 s.f3 r.f0 r.f1 r.f2 r.f3) = 0
theorem fits_sub (a b c d a' b' c' d' : Int) : ∀ r ∈ sub a b c d a' b' c' d', fits a b c d a' b' c' d' r := by
  obtain ⟨i0, i1, i2, i3, e, h⟩ := isc_cases a b c d a' b' c' d'
  unfold sub
  rw [e]
  simp only
  intro r hr
  rcases h with ⟨hn, -⟩ | ⟨hn, h1, h2, e0, e1, e2, e3⟩
  · rw [if_neg hn] at hr
    by_cases h : NE a b c d
    · rw [if_pos h] at hr
      obtain rfl := List.mem_singleton.mp hr
      refine ⟨h, fun _ => ⟨h, by simp⟩, ?_⟩
      simp only
      rw [e]
      exact if_neg hn
    · rw [if_neg h] at hr
      cases hr
  · rw [if_pos hn] at hr
    unfold rect_Subtract.kp at hr
    obtain ⟨hr, hm⟩ := List.mem_filter.mp hr
    rw [em_eq] at hm
    have hne : NE r.f0 r.f1 r.f2 r.f3 := by simpa using hm
    have m1 := mx_spec a a'
    have m2 := mx_spec b b'
    have m3 := mn_spec c c'
    have m4 := mn_spec d d'
    have n1 := mx_spec r.f0 a'
    have n2 := mx_spec r.f1 b'
    have n3 := mn_spec r.f2 c'
    have n4 := mn_spec r.f3 d'
    refine ⟨hne, fun _ => ⟨h1, ?_⟩, isc_zero ?_⟩
    · simp only [rect_Subtract.cut4, List.mem_cons, List.not_mem_nil, or_false] at hr
      unfold NE at h1 hn
      rcases hr with rfl | rfl | rfl | rfl <;> simp only <;> omega
    · simp only [rect_Subtract.cut4, List.mem_cons, List.not_mem_nil, or_false] at hr
      unfold NE at h1 hn ⊢
      rcases hr with rfl | rfl | rfl | rfl <;> simp only at n1 n2 n3 n4 ⊢ <;> omega
theorem apart_of {r s : S23} (h : s.f2 ≤ r.f0 ∨ r.f2 ≤ s.f0 ∨ s.f3 ≤ r.f1 ∨ r.f3 ≤ s.f1) : apart r s := by
  refine isc_zero ?_
  have n1 := mx_spec s.f0 r.f0
  have n2 := mx_spec s.f1 r.f1
  have n3 := mn_spec s.f2 r.f2
  have n4 := mn_spec s.f3 r.f3
  unfold NE
  omega
theorem apart_sub (a b c d a' b' c' d' : Int) : (sub a b c d a' b' c' d').Pairwise apart := by
  obtain ⟨i0, i1, i2, i3, e, h⟩ := isc_cases a b c d a' b' c' d'
  unfold sub
  rw [e]
  simp only
  rcases h with ⟨hn, -⟩ | ⟨hn, h1, h2, e0, e1, e2, e3⟩
  · rw [if_neg hn]
    split <;> simp
  · rw [if_pos hn]
    refine List.Pairwise.filter _ ?_
    unfold NE at hn
    simp only [rect_Subtract.cut4, List.pairwise_cons, List.mem_cons, List.not_mem_nil, or_false, forall_eq_or_imp, forall_eq, false_imp_iff, implies_true, List.Pairwise.nil, and_true, false_implies]
    refine ⟨⟨apart_of ?_, apart_of ?_, apart_of ?_⟩, ⟨apart_of ?_, apart_of ?_⟩, apart_of ?_⟩ <;> simp only <;> omega
theorem rd_get {xs : List S23} {i : Nat} (h : i < xs.length) : rd_T23 xs (i : Int) = xs[i] := by
  unfold rd_T23
  rw [Int.toNat_natCast, List.getD_eq_getElem?_getD, List.getElem?_eq_getElem h, Option.getD_some]
theorem sub_inner (xs : List S23) (S a b c d a' b' c' d' : Int) (i : Nat) (hi : i < xs.length) (h4 : xs.length ≤ 4) (hp : xs.Pairwise apart) : ∀ (n r j : Nat), j ≤ i → i - j = n →
    compositorlaw04_RectSubtract.l1 (r + n + 1) xs S (i : Int) (j : Int) a b c d a' b' c' d' = compositorlaw04_RectSubtract.l0 r xs S (wrap64 ((i : Int) + 1)) a b c d a' b' c' d' := by
  intro n
  induction n with
  | zero =>
    intro r j h0 h1
    have c1 : ¬ (j : Int) < (i : Int) := by omega
    rw [compositorlaw04_RectSubtract.l1]
    simp only [c1, if_false]
  | succ n ih =>
    intro r j h0 h1
    have c1 : (j : Int) < (i : Int) := by omega
    have c2 : (0 : Int) ≤ (i : Int) := by omega
    have c3 : (i : Int) < (xs.length : Int) := by omega
    have c4 : (0 : Int) ≤ (j : Int) := by omega
    have c5 : (j : Int) < (xs.length : Int) := by omega
    have w : wrap64 ((j : Int) + 1) = ((j + 1 : Nat) : Int) := by rw [w64 (by omega) (by omega)]; omega
    have q : arT (isc (rd_T23 xs (i : Int)).f0 (rd_T23 xs (i : Int)).f1 (rd_T23 xs (i : Int)).f2 (rd_T23 xs (i : Int)).f3 (rd_T23 xs (j : Int)).f0 (rd_T23 xs (j : Int)).f1 (rd_T23 xs (j : Int)).f2 (rd_T23 xs (j : Int)).f3) = 0 := by
      rw [rd_get hi, rd_get (by omega)]
      exact List.pairwise_iff_getElem.mp hp j i (by omega) hi (by omega)
    unfold arT at q
    rw [compositorlaw04_RectSubtract.l1]
    simp only [c1, c2, c3, c4, c5, if_true, isc_eq, area_eq, Option.bind_some, q, w]
    exact ih r (j + 1) (by omega) (by omega)
theorem sub_loop (K : Nat) (hK : ∀ k, K ≤ k → compositorlaw04_exampleHolds.f k = some true) (xs : List S23) (a b c d a' b' c' d' : Int) (h4 : xs.length ≤ 4) (hp : xs.Pairwise apart) (hf : ∀ r ∈ xs, fits a b c d a' b' c' d' r) :
    ∀ (m k : Nat) (S : Int) (i : Nat), i ≤ xs.length → xs.length - i = m → K + 8 * m + 2 ≤ k → 0 ≤ S → S + sm (xs.drop i) = ar a b c d →
      compositorlaw04_RectSubtract.l0 k xs S (i : Int) a b c d a' b' c' d' = some true := by
  intro m
  induction m with
  | zero =>
    intro k S i h0 h1 h2 h3 h5
    obtain ⟨j, rfl⟩ : ∃ j, k = j + 1 := ⟨k - 1, by omega⟩
    have e : i = xs.length := by omega
    rw [e, List.drop_length, sm, Int.add_zero] at h5
    have c1 : ¬ (i : Int) < (xs.length : Int) := by omega
    rw [compositorlaw04_RectSubtract.l0]
    simp only [c1, if_false, area_eq, Option.bind_some, h5, if_true, hK j (by omega)]
  | succ m ih =>
    intro k S i h0 h1 h2 h3 h5
    have hi : i < xs.length := by omega
    obtain ⟨r, rfl⟩ : ∃ r, k = r + i + 1 + 1 + 1 := ⟨k - i - 3, by omega⟩
    have c1 : (i : Int) < (xs.length : Int) := by omega
    have c2 : (0 : Int) ≤ (i : Int) := by omega
    have w : wrap64 ((i : Int) + 1) = ((i + 1 : Nat) : Int) := by rw [w64 (by omega) (by omega)]; omega
    rw [rd_drop hi, sm] at h5
    have hm : rd_T23 xs (i : Int) ∈ xs := by rw [rd_get hi]; exact List.getElem_mem hi
    obtain ⟨f1, f2, f3⟩ := hf _ hm
    unfold arT at f3
    have a1 := ar_le (rd_T23 xs (i : Int)).f0 (rd_T23 xs (i : Int)).f1 (rd_T23 xs (i : Int)).f2 (rd_T23 xs (i : Int)).f3
    have a2 := ar_le a b c d
    have a3 := sm_nonneg (xs.drop (i + 1))
    generalize hA : ar (rd_T23 xs (i : Int)).f0 (rd_T23 xs (i : Int)).f1 (rd_T23 xs (i : Int)).f2 (rd_T23 xs (i : Int)).f3 = A at *
    have w2 : wrap64 (S + A) = S + A := w64 (by omega) (by omega)
    rw [compositorlaw04_RectSubtract.l0]
    simp only [c1, c2, if_true, area_eq, hA, w2, empty_eq, win_eq, isc_eq, Option.bind_some, f1, f2, f3, not_true_eq_false, decide_false, decide_true, Bool.false_eq_true, if_false, bne_self_eq_false]
    rw [compositorlaw04_RectSubtract.j1]
    simp only [Bool.false_eq_true, if_false]
    have q := sub_inner xs (S + A) a b c d a' b' c' d' i hi h4 hp i r 0 (by omega) (by omega)
    refine q.trans ?_
    rw [w]
    exact ih r (S + A) (i + 1) (by omega) (by omega) (by omega) (by omega) (by omega)
theorem RectSubtract (x0 : S23) (x1 : S23) (ok0 : ((Lit.int .i64 x0.f0).wf = true) ∧ ((Lit.int .i64 x0.f1).wf = true) ∧ ((Lit.int .i64 x0.f2).wf = true) ∧ ((Lit.int .i64 x0.f3).wf = true)) (ok1 : ((Lit.int .i64 x1.f0).wf = true) ∧ ((Lit.int .i64 x1.f1).wf = true) ∧ ((Lit.int .i64 x1.f2).wf = true) ∧ ((Lit.int .i64 x1.f3).wf = true)) :
    ∃ k, compositorlaw04_RectSubtract.f k x0.f0 x0.f1 x0.f2 x0.f3 x1.f0 x1.f1 x1.f2 x1.f3 = some true := by
  obtain ⟨K, hK⟩ := example_holds
  obtain ⟨a, b, c, d⟩ := x0
  obtain ⟨a', b', c', d'⟩ := x1
  have hl := sub_le a b c d a' b' c' d'
  have hs := sm_sub a b c d a' b' c' d'
  refine ⟨K + 34, ?_⟩
  have c1 : ¬ ((sub a b c d a' b' c' d').length : Int) > 4 := by omega
  simp only [compositorlaw04_RectSubtract.f, sub_eq, isc_eq, area_eq, Option.bind_some, c1, if_false]
  refine sub_loop K hK _ a b c d a' b' c' d' hl (apart_sub a b c d a' b' c' d') (fits_sub a b c d a' b' c' d') (sub a b c d a' b' c' d').length _ _ 0 (by omega) (by omega) (by omega) (ar_le _ _ _ _).1 ?_
  rw [List.drop_zero, Int.add_comm]
  exact hs

end Go.Proofs.Ytloojhnohofonaa.Pure
