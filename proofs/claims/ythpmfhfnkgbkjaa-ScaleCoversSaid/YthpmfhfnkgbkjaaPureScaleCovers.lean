/-
  Plain laws (numbers and lists) for the statement ScaleCovers: no program in sight.
-/
import Derived.Test.YthpmfhfnkgbkjaaAllx0
import Derived.Test.YthpmfhfnkgbkjaaAllx10
import Derived.Test.YthpmfhfnkgbkjaaAllx11
import Derived.Test.YthpmfhfnkgbkjaaAllx15
import Derived.Test.YthpmfhfnkgbkjaaAllx16
import Derived.Test.YthpmfhfnkgbkjaaAllx17
import Derived.Test.YthpmfhfnkgbkjaaAllx19
import Derived.Test.YthpmfhfnkgbkjaaAllx20
import Derived.Test.YthpmfhfnkgbkjaaAllx21
import Derived.Test.YthpmfhfnkgbkjaaAllx3
import Derived.Test.YthpmfhfnkgbkjaaAllx31
import Derived.Test.YthpmfhfnkgbkjaaAllx32
import Derived.Test.YthpmfhfnkgbkjaaAllx39
import Derived.Test.YthpmfhfnkgbkjaaAllx40
import Derived.Test.YthpmfhfnkgbkjaaAllx41
import Derived.Test.YthpmfhfnkgbkjaaAllx42
import Derived.Test.YthpmfhfnkgbkjaaAllx6
import Derived.Test.YthpmfhfnkgbkjaaAllx7
import Derived.Test.YthpmfhfnkgbkjaaAllx90
namespace Go.Proofs.Ythpmfhfnkgbkjaa.Pure
open Go.RowKit Go.Proofs.YthpmfhfnkgbkjaaW.PrintWords Go.Proofs.YthpmfhfnkgbkjaaW.PrintMore Go.Proofs.Ythpmfhfnkgbkjaa.All
set_option linter.unusedVariables false
set_option linter.unusedSimpArgs false
theorem i64 {x : Int} (h : (Lit.int .i64 x).wf = true) : -9223372036854775808 ≤ x ∧ x ≤ 9223372036854775807 := by
  simpa [Lit.wf, IntKind.min, IntKind.max, IntKind.signed, IntKind.bits] using h
theorem w64 {x : Int} (h : -9223372036854775808 ≤ x) (h' : x ≤ 9223372036854775807) : wrap64 x = x := by unfold wrap64; omega
/-- What holds with some fuel holds with more. -/
theorem fuel {α : Type} {f : Nat → Option α} (hm : ∀ k r, f k = some r → f (k + 1) = some r) {K : Nat} {r : α} (h : f K = some r) : ∀ k, K ≤ k → f k = some r := by
  intro k hk
  obtain ⟨j, rfl⟩ : ∃ j, k = K + j := ⟨k - K, by omega⟩
  clear hk
  induction j with
  | zero => exact h
  | succ j ih => exact hm _ _ ih
theorem example_holds : ∀ k, 200 ≤ k → compositorlaw10_exampleHolds.f k = some true :=
  fuel (f := fun k => compositorlaw10_exampleHolds.f k) (fun k r h => compositorlaw10_exampleHolds.mono k r h) (by decide +kernel)
theorem mx_spec (a b : Int) : a ≤ mx a b ∧ b ≤ mx a b ∧ (mx a b = a ∨ mx a b = b) := by unfold mx; split <;> omega
theorem mn_spec (a b : Int) : mn a b ≤ a ∧ mn a b ≤ b ∧ (mn a b = a ∨ mn a b = b) := by unfold mn; split <;> omega
/-- A valid pixel. -/
def PV (p : S43) : Prop := p.f0 ≤ p.f3 ∧ p.f1 ≤ p.f3 ∧ p.f2 ≤ p.f3
/-- A valid buffer. -/
def VB (W H : Int) (l : List S43) : Prop := (1 ≤ W ∧ W ≤ 256) ∧ (1 ≤ H ∧ H ≤ 256) ∧ (l.length : Int) = W * H ∧ ∀ p ∈ l, PV p
noncomputable instance (W H : Int) (l : List S43) : Decidable (VB W H l) := Classical.propDecidable _
def SZ (n : Int) : Prop := 1 ≤ n ∧ n ≤ 256
noncomputable instance (n : Int) : Decidable (SZ n) := Classical.propDecidable _
theorem ok_iff (p : S43) : buffer_Valid.ok p = true ↔ PV p := by
  have m0 := mn_spec p.f0 p.f3
  have m1 := mn_spec p.f1 p.f3
  have m2 := mn_spec p.f2 p.f3
  unfold buffer_Valid.ok PV
  simp only [Bool.and_eq_true, beq_iff_eq, and_true]
  omega
theorem bsize_eq (a : Int) : buffer_size.f a = some (decide (SZ a)) := by
  unfold buffer_size.f
  split <;> (refine congrArg some (Bool.eq_iff_iff.mpr ?_); simp only [decide_eq_true_eq, Bool.false_eq_true, false_iff]; unfold SZ; omega)
theorem size_eq (a : Int) : scale_size.f a = some (decide (SZ a)) := by
  unfold scale_size.f
  split <;> (refine congrArg some (Bool.eq_iff_iff.mpr ?_); simp only [decide_eq_true_eq, Bool.false_eq_true, false_iff]; unfold SZ; omega)
theorem sized_eq (a b : Int) : compositorref10_sized.f a b = some (decide (SZ a ∧ SZ b)) := by
  unfold compositorref10_sized.f
  repeat' split
  all_goals (refine congrArg some (Bool.eq_iff_iff.mpr ?_); simp only [decide_eq_true_eq, Bool.false_eq_true, false_iff]; unfold SZ; omega)
theorem prod_small {W H : Int} (hW : SZ W) (hH : SZ H) : wrap64 (W * H) = W * H ∧ 1 ≤ W * H ∧ W * H ≤ 65536 := by
  unfold SZ at hW hH
  have p1 := Int.mul_le_mul hW.2 hH.2 (by omega) (by omega : (0 : Int) ≤ 256)
  have p2 : 0 < W * H := Int.mul_pos (by omega) (by omega)
  refine ⟨?_, by omega, by omega⟩
  unfold wrap64; omega
theorem bvalid_eq (W H : Int) (l : List S43) : buffer_Valid.f W H l = some (decide (VB W H l)) := by
  simp only [buffer_Valid.f, bsize_eq, Option.bind_some, decide_eq_true_eq]
  by_cases hW : SZ W
  · by_cases hH : SZ H
    · have hp := prod_small hW hH
      rw [if_pos hW, if_pos hH, hp.1]
      by_cases hl : (l.length : Int) = W * H
      · rw [if_pos hl]
        refine congrArg some (Bool.eq_iff_iff.mpr ?_)
        rw [List.all_eq_true, decide_eq_true_eq]
        exact ⟨fun h => ⟨hW, hH, hl, fun p hp => (ok_iff p).mp (h p hp)⟩, fun h p hp => (ok_iff p).mpr (h.2.2.2 p hp)⟩
      · rw [if_neg hl, decide_eq_false (fun h => hl h.2.2.1)]
    · rw [if_pos hW, if_neg hH, decide_eq_false (fun h => hH h.2.1)]
  · rw [if_neg hW, decide_eq_false (fun h => hW h.1)]
theorem rd_at {l : List S43} {i : Nat} (h : i < l.length) : rd_T43 l (i : Int) = l[i] := by
  simp [rd_T43, List.getD_eq_getElem?_getD, List.getElem?_eq_getElem h]
theorem rvl (W H : Int) (l : List S43) (hl : l.length ≤ 65536) : ∀ d i, i + d = l.length → ∀ k, d + 1 ≤ k → ∀ b, (b = true ↔ ∀ p ∈ l.drop i, PV p) → compositorref10_Valid.l0 k i W H l = some b := by
  intro d
  induction d with
  | zero =>
    intro i hi k hk b hb
    obtain ⟨k, rfl⟩ : ∃ j, k = j + 1 := ⟨k - 1, by omega⟩
    rw [compositorref10_Valid.l0, if_neg (by omega)]
    have e : l.drop i = [] := List.drop_eq_nil_of_le (by omega)
    rw [e] at hb
    have : b = true := hb.mpr (fun p hp => by cases hp)
    rw [this]
  | succ d ih =>
    intro i hi k hk b hb
    obtain ⟨k, rfl⟩ : ∃ j, k = j + 1 := ⟨k - 1, by omega⟩
    have hlt : i < l.length := by omega
    rw [compositorref10_Valid.l0, if_pos (by omega), if_pos (by omega), rd_at hlt]
    have e : l.drop i = l[i] :: l.drop (i + 1) := List.drop_eq_getElem_cons hlt
    rw [e] at hb
    have ew : wrap64 ((i : Int) + 1) = ((i + 1 : Nat) : Int) := by unfold wrap64; omega
    rw [ew]
    have no : ¬ PV l[i] → some false = some b := fun hn => by
      cases b with
      | false => rfl
      | true => exact absurd (hb.mp rfl l[i] (List.mem_cons_self ..)) hn
    by_cases h0 : l[i].f0 > l[i].f3
    · rw [if_pos h0]; exact no (fun q => by unfold PV at q; omega)
    · rw [if_neg h0]
      by_cases h1 : l[i].f1 > l[i].f3
      · rw [if_pos h1]; exact no (fun q => by unfold PV at q; omega)
      · rw [if_neg h1]
        by_cases h2 : l[i].f2 > l[i].f3
        · rw [if_pos h2]; exact no (fun q => by unfold PV at q; omega)
        · rw [if_neg h2]
          refine ih (i + 1) (by omega) k (by omega) b (hb.trans ?_)
          have hp : PV l[i] := by unfold PV; omega
          constructor
          · intro h p hm; exact h p (List.mem_cons_of_mem _ hm)
          · intro h p hm
            rcases List.mem_cons.mp hm with rfl | hm
            · exact hp
            · exact h p hm
theorem rbvalid_eq (W H : Int) (l : List S43) (hl : l.length ≤ 600) : ∀ k, 700 ≤ k → compositorref10_Valid.f k W H l = some (decide (VB W H l)) := by
  intro k hk
  obtain ⟨k, rfl⟩ : ∃ j, k = j + 1 := ⟨k - 1, by omega⟩
  simp only [compositorref10_Valid.f, sized_eq, Option.bind_some, decide_eq_true_eq, compositorref10_Valid.j0, if_true]
  by_cases hs : SZ W ∧ SZ H
  · have hp := prod_small hs.1 hs.2
    rw [if_pos hs, hp.1]
    by_cases he : (l.length : Int) = W * H
    · have e : ((l.length : Int) != W * H) = false := by simpa using he
      rw [e, if_neg (by simp)]
      refine rvl W H l (by omega) l.length 0 (by omega) k (by omega) _ ?_
      rw [decide_eq_true_eq, List.drop_zero]
      exact ⟨fun h => h.2.2.2, fun h => ⟨hs.1, hs.2, he, h⟩⟩
    · have e : ((l.length : Int) != W * H) = true := by simpa using he
      rw [e, if_pos rfl, decide_eq_false (fun h => he h.2.2.1)]
  · rw [if_neg hs, decide_eq_false (fun h => hs ⟨h.1, h.2.1⟩)]
theorem same_l (W H : Int) (l : List S43) (hl : l.length ≤ 100000) : ∀ d i, i + d = l.length → ∀ k, d + 1 ≤ k → compositorref07_Same.l0 k i W H l W H l = some true := by
  intro d
  induction d with
  | zero =>
    intro i hi k hk
    obtain ⟨k, rfl⟩ : ∃ j, k = j + 1 := ⟨k - 1, by omega⟩
    rw [compositorref07_Same.l0, if_neg (by omega)]
  | succ d ih =>
    intro i hi k hk
    obtain ⟨k, rfl⟩ : ∃ j, k = j + 1 := ⟨k - 1, by omega⟩
    have ew : wrap64 ((i : Int) + 1) = ((i + 1 : Nat) : Int) := by unfold wrap64; omega
    rw [compositorref07_Same.l0, if_pos (by omega), if_pos (by omega), if_pos (by omega), ew]
    simp only [beq_self_eq_true, Bool.not_true, Bool.or_self, Bool.false_eq_true, if_false]
    exact ih (i + 1) (by omega) k (by omega)
/-- A buffer is the same as itself. -/
theorem same_refl (W H : Int) (l : List S43) (hl : l.length ≤ 100000) : ∀ k, l.length + 2 ≤ k → compositorlaw10_same.f k W H l W H l = some true := by
  intro k hk
  obtain ⟨k, rfl⟩ : ∃ j, k = j + 1 := ⟨k - 1, by omega⟩
  have h0 := same_l W H l hl l.length 0 (by omega) k (by omega)
  have h1 : compositorref07_Same.l0 k 0 W H l W H l = some true := h0
  simp only [compositorlaw10_same.f, compositorref07_Same.f, if_true, compositorref07_Same.j0, bne_self_eq_false, Bool.false_eq_true, if_false, h1, Option.bind_some]
/-- The error of a buffer and a size. -/
noncomputable def chk (W H : Int) (l : List S43) (n m : Int) : Int := if VB W H l then (if SZ n ∧ SZ m then 0 else 6) else 15
theorem check_eq (W H : Int) (l : List S43) (n m : Int) : scale_check.f W H l n m = some (chk W H l n m) := by
  simp only [scale_check.f, bvalid_eq, size_eq, Option.bind_some, decide_eq_true_eq, chk]
  by_cases h1 : VB W H l <;> by_cases h2 : SZ n <;> by_cases h3 : SZ m <;> simp [h1, h2, h3]
theorem chk0 {W H : Int} {l : List S43} {n m : Int} : chk W H l n m = 0 ↔ VB W H l ∧ SZ n ∧ SZ m := by
  unfold chk
  by_cases h1 : VB W H l <;> by_cases h2 : SZ n ∧ SZ m <;> simp [h1, h2]
/-- A rectangle with a pixel. -/
def NE (a b c d : Int) : Prop := -16384 ≤ a ∧ a ≤ 16384 ∧ -16384 ≤ b ∧ b ≤ 16384 ∧ -16384 ≤ c ∧ c ≤ 16384 ∧ -16384 ≤ d ∧ d ≤ 16384 ∧ a < c ∧ b < d
noncomputable instance (a b c d : Int) : Decidable (NE a b c d) := Classical.propDecidable _
def HAS (a b c d x y : Int) : Prop := NE a b c d ∧ a ≤ x ∧ x < c ∧ b ≤ y ∧ y < d
noncomputable instance (a b c d x y : Int) : Decidable (HAS a b c d x y) := Classical.propDecidable _
def WIN (a b c d a' b' c' d' : Int) : Prop := NE a b c d → NE a' b' c' d' ∧ a' ≤ a ∧ b' ≤ b ∧ c ≤ c' ∧ d ≤ d'
noncomputable instance (a b c d a' b' c' d' : Int) : Decidable (WIN a b c d a' b' c' d') := Classical.propDecidable _
def VA (a b c d : Int) : Prop := -16384 ≤ a ∧ a ≤ 16384 ∧ -16384 ≤ b ∧ b ≤ 16384 ∧ -16384 ≤ c ∧ c ≤ 16384 ∧ -16384 ≤ d ∧ d ≤ 16384
noncomputable instance (a b c d : Int) : Decidable (VA a b c d) := Classical.propDecidable _
theorem not_ne0 : ¬ NE 0 0 0 0 := by unfold NE; omega
theorem v1 (a : Int) : rect_valid.f a = some (decide (-16384 ≤ a ∧ a ≤ 16384)) := by
  unfold rect_valid.f; split <;> simp <;> omega
theorem rv1 (a : Int) : compositorref04_coordinate.f a = some (decide (-16384 ≤ a ∧ a ≤ 16384)) := by
  unfold compositorref04_coordinate.f; split <;> simp <;> omega
theorem valid_eq (a b c d : Int) : rect_Valid.f a b c d = some (decide (VA a b c d)) := by
  simp only [rect_Valid.f, v1, Option.bind_some, decide_eq_true_eq]
  repeat' split
  all_goals (refine congrArg some (Bool.eq_iff_iff.mpr ?_); simp only [decide_eq_true_eq, Bool.false_eq_true, iff_true, iff_false, false_iff, true_iff] at *; (try simp only [VA, NE, HAS, WIN] at *); first | omega | (constructor <;> (intro _; omega)) | (intro _; omega) | skip)
theorem rvalid_eq (a b c d : Int) : compositorref04_Valid.f a b c d = some (decide (VA a b c d)) := by
  simp only [compositorref04_Valid.f, rv1, Option.bind_some, decide_eq_true_eq]
  repeat' split
  all_goals (refine congrArg some (Bool.eq_iff_iff.mpr ?_); simp only [decide_eq_true_eq, Bool.false_eq_true, iff_true, iff_false, false_iff, true_iff] at *; (try simp only [VA, NE, HAS, WIN] at *); first | omega | (constructor <;> (intro _; omega)) | (intro _; omega) | skip)
theorem empty_eq (a b c d : Int) : rect_Empty.f a b c d = some (decide (¬ NE a b c d)) := by
  simp only [rect_Empty.f, valid_eq, Option.bind_some, decide_eq_true_eq]
  repeat' split
  all_goals (refine congrArg some (Bool.eq_iff_iff.mpr ?_); simp only [decide_eq_true_eq, Bool.false_eq_true, iff_true, iff_false, false_iff, true_iff] at *; (try simp only [VA, NE, HAS, WIN] at *); first | omega | (constructor <;> (intro _; omega)) | (intro _; omega) | skip)
theorem rempty_eq (a b c d : Int) : compositorref04_Empty.f a b c d = some (decide (¬ NE a b c d)) := by
  simp only [compositorref04_Empty.f, rvalid_eq, Option.bind_some, decide_eq_true_eq]
  repeat' split
  all_goals (refine congrArg some (Bool.eq_iff_iff.mpr ?_); simp only [decide_eq_true_eq, Bool.false_eq_true, iff_true, iff_false, false_iff, true_iff] at *; (try simp only [VA, NE, HAS, WIN] at *); first | omega | (constructor <;> (intro _; omega)) | (intro _; omega) | skip)
/-- The canonical form. -/
noncomputable def can (a b c d : Int) : Int × Int × Int × Int := if NE a b c d then (a, b, c, d) else (0, 0, 0, 0)
theorem can_eq (a b c d : Int) : rect_Canonical.f a b c d = some (can a b c d) := by
  simp only [rect_Canonical.f, empty_eq, Option.bind_some, decide_eq_true_eq, can]
  by_cases h : NE a b c d <;> simp [h]
theorem rcan_eq (a b c d : Int) : compositorref04_Canonical.f a b c d = some (can a b c d) := by
  simp only [compositorref04_Canonical.f, rempty_eq, Option.bind_some, decide_eq_true_eq, can]
  by_cases h : NE a b c d <;> simp [h]
/-- The common pixels. -/
noncomputable def isc (a b c d a' b' c' d' : Int) : Int × Int × Int × Int :=
  if NE a b c d ∧ NE a' b' c' d' then can (mx a a') (mx b b') (mn c c') (mn d d') else (0, 0, 0, 0)
/-- The number of pixels. -/
noncomputable def ar (a b c d : Int) : Int := if NE a b c d then (c - a) * (d - b) else 0
theorem ar_range {a b c d : Int} (h : NE a b c d) : 0 < (c - a) * (d - b) ∧ (c - a) * (d - b) ≤ 1073741824 := by
  unfold NE at h
  have p : 0 < (c - a) * (d - b) := Int.mul_pos (by omega) (by omega)
  have q : (c - a) * (d - b) ≤ 32768 * 32768 := Int.mul_le_mul (by omega) (by omega) (by omega) (by omega)
  omega
theorem ar_le (a b c d : Int) : 0 ≤ ar a b c d ∧ ar a b c d ≤ 1073741824 := by
  unfold ar
  split
  · rename_i h; have := ar_range h; omega
  · omega
theorem risc_eq (a b c d a' b' c' d' : Int) : compositorref04_Intersect.f a b c d a' b' c' d' = some (isc a b c d a' b' c' d') := by
  simp only [compositorref04_Intersect.f, rempty_eq, rcan_eq, Option.bind_some, decide_eq_true_eq, isc]
  by_cases h : NE a b c d <;> by_cases h' : NE a' b' c' d' <;> simp [h, h']
theorem rwin_eq (a b c d a' b' c' d' : Int) : compositorref04_Within.f a b c d a' b' c' d' = some (decide (WIN a b c d a' b' c' d')) := by
  simp only [compositorref04_Within.f, rempty_eq, Option.bind_some, decide_eq_true_eq]
  by_cases h : NE a b c d
  · by_cases h' : NE a' b' c' d'
    · simp only [h, h', not_true_eq_false, if_false, WIN, true_and, true_implies]
      repeat' split
      all_goals (refine congrArg some (Bool.eq_iff_iff.mpr ?_); simp only [decide_eq_true_eq, Bool.false_eq_true, iff_true, iff_false, false_iff, true_iff] at *; (try simp only [VA, NE, HAS, WIN] at *); first | omega | (constructor <;> (intro _; omega)) | (intro _; omega) | skip)
    · simp [h, h', WIN]
  · simp [h, WIN]
theorem rhas_eq (a b c d x y : Int) : compositorref04_Contains.f a b c d x y = some (decide (HAS a b c d x y)) := by
  simp only [compositorref04_Contains.f, rempty_eq, Option.bind_some, decide_eq_true_eq]
  by_cases h : NE a b c d
  · simp only [h, not_true_eq_false, if_false, HAS, true_and]
    repeat' split
    all_goals (refine congrArg some (Bool.eq_iff_iff.mpr ?_); simp only [decide_eq_true_eq, Bool.false_eq_true, iff_true, iff_false, false_iff, true_iff] at *; (try simp only [VA, NE, HAS, WIN] at *); first | omega | (constructor <;> (intro _; omega)) | (intro _; omega) | skip)
  · simp [h, HAS]
theorem isc_cases (a b c d a' b' c' d' : Int) : ∃ i0 i1 i2 i3, isc a b c d a' b' c' d' = (i0, i1, i2, i3) ∧
    ((¬ NE i0 i1 i2 i3 ∧ i0 = 0 ∧ i1 = 0 ∧ i2 = 0 ∧ i3 = 0 ∧ (NE a b c d → NE a' b' c' d' → ¬ NE (mx a a') (mx b b') (mn c c') (mn d d'))) ∨
     (NE i0 i1 i2 i3 ∧ NE a b c d ∧ NE a' b' c' d' ∧ i0 = mx a a' ∧ i1 = mx b b' ∧ i2 = mn c c' ∧ i3 = mn d d')) := by
  unfold isc
  by_cases h : NE a b c d ∧ NE a' b' c' d'
  · rw [if_pos h]
    unfold can
    by_cases hn : NE (mx a a') (mx b b') (mn c c') (mn d d')
    · rw [if_pos hn]
      exact ⟨_, _, _, _, rfl, .inr ⟨hn, h.1, h.2, rfl, rfl, rfl, rfl⟩⟩
    · rw [if_neg hn]
      exact ⟨_, _, _, _, rfl, .inl ⟨not_ne0, rfl, rfl, rfl, rfl, fun _ _ => hn⟩⟩
  · rw [if_neg h]
    exact ⟨_, _, _, _, rfl, .inl ⟨not_ne0, rfl, rfl, rfl, rfl, fun h1 h2 => absurd ⟨h1, h2⟩ h⟩⟩
theorem has_isc (a b c d a' b' c' d' x y : Int) {i0 i1 i2 i3 : Int} (e : isc a b c d a' b' c' d' = (i0, i1, i2, i3)) : HAS i0 i1 i2 i3 x y ↔ HAS a b c d x y ∧ HAS a' b' c' d' x y := by
  obtain ⟨j0, j1, j2, j3, e', h⟩ := isc_cases a b c d a' b' c' d'
  obtain ⟨rfl, rfl, rfl, rfl⟩ : j0 = i0 ∧ j1 = i1 ∧ j2 = i2 ∧ j3 = i3 := by rw [e] at e'; simp_all
  have m1 := mx_spec a a'
  have m2 := mx_spec b b'
  have m3 := mn_spec c c'
  have m4 := mn_spec d d'
  rcases h with ⟨hn, rfl, rfl, rfl, rfl, h⟩ | ⟨hn, h1, h2, rfl, rfl, rfl, rfl⟩
  · constructor
    · intro h; exact absurd h.1 hn
    · rintro ⟨⟨h1, p⟩, ⟨h2, q⟩⟩
      refine absurd ?_ (h h1 h2)
      unfold NE at h1 h2 ⊢
      omega
  · constructor
    · rintro ⟨_, p⟩
      exact ⟨⟨h1, by omega⟩, ⟨h2, by omega⟩⟩
    · rintro ⟨⟨_, p⟩, ⟨_, q⟩⟩
      exact ⟨hn, by omega⟩
theorem ediv_neg_of {a c : Int} (hc : 0 < c) (ha : a < 0) : a / c = if (-a) % c = 0 then -((-a) / c) else -((-a) / c) - 1 := by
  have h1 := Int.mul_ediv_add_emod (-a) c
  have h2 := Int.emod_nonneg (-a) (show c ≠ 0 by omega)
  have h3 := Int.emod_lt_of_pos (-a) hc
  generalize (-a) / c = q at *
  generalize (-a) % c = r at *
  split
  · rename_i hr
    have e : a = c * (-q) := by rw [Int.mul_neg]; omega
    rw [e, Int.mul_ediv_cancel_left _ (by omega)]
  · rename_i hr
    have e : a = (c - r) + c * (-q - 1) := by rw [Int.mul_sub, Int.mul_neg]; omega
    rw [e, Int.add_mul_ediv_left _ _ (by omega), Int.ediv_eq_zero_of_lt (by omega) (by omega)]
    omega
theorem ediv_bound {a c B : Int} (hc : 0 < c) (hB : 0 ≤ B) (h1 : -B ≤ a) (h2 : a ≤ B) : -B - 1 ≤ a / c ∧ a / c ≤ B := by
  have h3 := Int.mul_ediv_add_emod a c
  have h4 := Int.emod_nonneg a (show c ≠ 0 by omega)
  have h5 := Int.emod_lt_of_pos a hc
  generalize a / c = q at *
  generalize a % c = r at *
  constructor
  · apply Classical.byContradiction
    intro hq
    have : c * (q + 1) ≤ c * (-B - 1) := Int.mul_le_mul_of_nonneg_left (by omega) (by omega)
    have e1 : c * (q + 1) = c * q + c := by rw [Int.mul_add, Int.mul_one]
    have e2 : c * (-B - 1) ≤ -B - 1 := by
      have := Int.mul_le_mul_of_nonneg_right (show 1 ≤ c by omega) (show 0 ≤ B + 1 by omega)
      have e3 : c * (-B - 1) = -(c * (B + 1)) := by rw [← Int.mul_neg]; congr 1; omega
      omega
    omega
  · apply Classical.byContradiction
    intro hq
    have : 1 * q ≤ c * q := Int.mul_le_mul_of_nonneg_right (by omega) (by omega)
    omega
theorem floor_eq {a c : Int} (hc : 1 ≤ c) (h1 : -1000000000000 ≤ a) (h2 : a ≤ 1000000000000) : scale_floor.f a c = some (a / c) := by
  have hb := ediv_bound (a := a) (c := c) (B := 1000000000000) (by omega) (by omega) h1 h2
  unfold scale_floor.f
  rw [if_neg (by omega)]
  by_cases ha : 0 ≤ a
  · rw [Int.tmod_eq_emod_of_nonneg ha, Int.tdiv_eq_ediv_of_nonneg ha, if_neg (by have := Int.emod_nonneg a (show c ≠ 0 by omega); omega), w64 (by omega) (by omega)]
  · have he := ediv_neg_of (a := a) (c := c) (by omega) (by omega)
    have e1 : Int.tdiv a c = -((-a) / c) := by
      have : Int.tdiv (-(-a)) c = -(Int.tdiv (-a) c) := Int.neg_tdiv ..
      rw [Int.neg_neg] at this
      rw [this, Int.tdiv_eq_ediv_of_nonneg (by omega)]
    have e2 : Int.tmod a c = -((-a) % c) := by
      have : Int.tmod (-(-a)) c = -(Int.tmod (-a) c) := Int.neg_tmod ..
      rw [Int.neg_neg] at this
      rw [this, Int.tmod_eq_emod_of_nonneg (by omega)]
    have h4 := Int.emod_nonneg (-a) (show c ≠ 0 by omega)
    rw [e1, e2, he]
    by_cases hr : (-a) % c = 0
    · rw [if_pos hr] at he ⊢
      rw [if_neg (by omega), w64 (by omega) (by omega)]
    · rw [if_neg hr] at he ⊢
      rw [if_pos (by omega), w64 (x := -((-a) / c)) (by omega) (by omega), w64 (by omega) (by omega)]
def cla (n : Int) : Int := mn (mx n (-16384)) 16384
theorem clamp_eq (n : Int) : scale_clamp.f n = some (cla n) := rfl
/-- The mapped rectangle. -/
noncomputable def MP (a b c d fw fh tw th : Int) : Int × Int × Int × Int :=
  if NE a b c d ∧ SZ fw ∧ SZ fh ∧ SZ tw ∧ SZ th then can (cla ((a * tw) / fw)) (cla ((b * th) / fh)) (cla (-((-c * tw) / fw))) (cla (-((-d * th) / fh))) else (0, 0, 0, 0)
theorem mul_b {a t : Int} (h : -16384 ≤ a ∧ a ≤ 16384) (ht : SZ t) : wrap64 (a * t) = a * t ∧ -4194304 ≤ a * t ∧ a * t ≤ 4194304 := by
  unfold SZ at ht
  have h1 : a * t ≤ 16384 * t := Int.mul_le_mul_of_nonneg_right h.2 (by omega)
  have h2 : -16384 * t ≤ a * t := Int.mul_le_mul_of_nonneg_right h.1 (by omega)
  refine ⟨?_, by omega, by omega⟩
  unfold wrap64; omega
theorem MapRect_eq (a b c d fw fh tw th : Int) : ∀ k, 1 ≤ k → scale_MapRect.f k a b c d fw fh tw th = some (MP a b c d fw fh tw th) := by
  intro k hk
  obtain ⟨k, rfl⟩ : ∃ j, k = j + 1 := ⟨k - 1, by omega⟩
  have jt : ∀ x y z u a b c d, scale_MapRect.j0 (k + 1) x y z u true a b c d = some (0, 0, 0, 0) := fun _ _ _ _ _ _ _ _ => rfl
  simp only [scale_MapRect.f, empty_eq, size_eq, Option.bind_some, decide_eq_true_eq, jt]
  unfold MP
  by_cases hn : NE a b c d
  · by_cases h1 : SZ fw
    · by_cases h2 : SZ fh
      · by_cases h3 : SZ tw
        · by_cases h4 : SZ th
          · rw [if_neg (not_not_intro hn), if_pos h1, if_pos h2, if_pos h3, decide_eq_true h4, if_pos ⟨hn, h1, h2, h3, h4⟩]
            have hN := hn
            unfold NE at hN
            have p1 := mul_b (a := a) (by omega) h3
            have p2 := mul_b (a := b) (by omega) h4
            have p3 := mul_b (a := -c) (by omega) h3
            have p4 := mul_b (a := -d) (by omega) h4
            have g1 : 1 ≤ fw := h1.1
            have g2 : 1 ≤ fh := h2.1
            have c1 : wrap64 (-c) = -c := by unfold wrap64; omega
            have c2 : wrap64 (-d) = -d := by unfold wrap64; omega
            have b3 := ediv_bound (a := -c * tw) (c := fw) (B := 4194304) (by omega) (by omega) p3.2.1 p3.2.2
            have b4 := ediv_bound (a := -d * th) (c := fh) (B := 4194304) (by omega) (by omega) p4.2.1 p4.2.2
            have c3 : wrap64 (-(-c * tw / fw)) = -(-c * tw / fw) := by unfold wrap64; omega
            have c4 : wrap64 (-(-d * th / fh)) = -(-d * th / fh) := by unfold wrap64; omega
            simp only [scale_MapRect.j0, Bool.not_true, Bool.false_eq_true, if_false, c1, c2, p1.1, p2.1, p3.1, p4.1, floor_eq g1 (by omega : -1000000000000 ≤ a * tw) (by omega), floor_eq g2 (by omega : -1000000000000 ≤ b * th) (by omega), floor_eq g1 (by omega : -1000000000000 ≤ -c * tw) (by omega), floor_eq g2 (by omega : -1000000000000 ≤ -d * th) (by omega), Option.bind_some, clamp_eq, c3, c4, can_eq]
          · rw [if_neg (not_not_intro hn), if_pos h1, if_pos h2, if_pos h3, decide_eq_false h4, if_neg (fun q => h4 q.2.2.2.2)]
            exact jt ..
        · rw [if_neg (not_not_intro hn), if_pos h1, if_pos h2, if_neg h3, if_neg (fun q => h3 q.2.2.2.1)]
      · rw [if_neg (not_not_intro hn), if_pos h1, if_neg h2, if_neg (fun q => h2 q.2.2.1)]
    · rw [if_neg (not_not_intro hn), if_neg h1, if_neg (fun q => h1 q.2.1)]
  · rw [if_pos hn, if_neg (fun q => hn q.1)]
theorem ceil_iff {c x f : Int} (hf : 1 ≤ f) : x < -((-c) / f) ↔ x * f < c := by
  have h := Int.ediv_lt_iff_lt_mul (a := -c) (b := -x) (c := f) (by omega)
  have e : -x * f = -(x * f) := Int.neg_mul ..
  rw [e] at h
  omega
theorem floor_iff {a x f : Int} (hf : 1 ≤ f) : a / f ≤ x ↔ a < (x + 1) * f := by
  have h := Int.ediv_lt_iff_lt_mul (a := a) (b := x + 1) (c := f) (by omega)
  omega
/-- One axis of a mapped rectangle. -/
theorem axis {a c f t : Int} (hf : 1 ≤ f ∧ f ≤ 12) (ht : 1 ≤ t ∧ t ≤ 12) (h : 0 ≤ a ∧ a < c ∧ c ≤ f) :
    cla (a * t / f) = a * t / f ∧ cla (-((-c * t) / f)) = -((-c * t) / f) ∧ 0 ≤ a * t / f ∧ a * t / f < -((-c * t) / f) ∧ -((-c * t) / f) ≤ t ∧
    ∀ x, (a * t / f ≤ x ↔ a * t < (x + 1) * f) ∧ (x < -((-c * t) / f) ↔ x * f < c * t) := by
  have e0 : -c * t = -(c * t) := Int.neg_mul ..
  rw [e0]
  have p0 : 0 ≤ a * t := Int.mul_nonneg (by omega) (by omega)
  have q0 : 0 ≤ a * t / f := Int.ediv_nonneg p0 (by omega)
  have p1 : a * t < c * t := Int.mul_lt_mul_of_pos_right h.2.1 (by omega)
  have p2 : c * t ≤ f * t := Int.mul_le_mul_of_nonneg_right h.2.2 (by omega)
  have fl : ∀ x, a * t / f ≤ x ↔ a * t < (x + 1) * f := fun x => floor_iff (by omega)
  have ce : ∀ x, x < -((-(c * t)) / f) ↔ x * f < c * t := fun x => ceil_iff (by omega)
  have r1 : a * t / f < -((-(c * t)) / f) := by
    rw [ce]
    have h1 := Int.ediv_mul_le (a * t) (b := f) (by omega)
    omega
  have r2 : -((-(c * t)) / f) ≤ t := by
    apply Classical.byContradiction
    intro hn
    have h2 := (ce t).mp (by omega)
    have e1 : t * f = f * t := Int.mul_comm ..
    omega
  have cl : ∀ x : Int, -16384 ≤ x ∧ x ≤ 16384 → cla x = x := by
    intro x hx
    unfold cla
    have a1 := mx_spec x (-16384)
    have a2 := mn_spec (mx x (-16384)) 16384
    omega
  exact ⟨cl _ (by omega), cl _ (by omega), q0, r1, r2, fun x => ⟨fl x, ce x⟩⟩
/-- A rectangle within an image, and small sizes. -/
def RI (a b c d fw fh tw th : Int) : Prop := (1 ≤ fw ∧ fw ≤ 12) ∧ (1 ≤ fh ∧ fh ≤ 12) ∧ (1 ≤ tw ∧ tw ≤ 12) ∧ (1 ≤ th ∧ th ≤ 12) ∧ (0 ≤ a ∧ a < c ∧ c ≤ fw) ∧ (0 ≤ b ∧ b < d ∧ d ≤ fh)
theorem MP_in {a b c d fw fh tw th : Int} (h : RI a b c d fw fh tw th) : MP a b c d fw fh tw th = (a * tw / fw, b * th / fh, -((-c * tw) / fw), -((-d * th) / fh)) ∧ NE (a * tw / fw) (b * th / fh) (-((-c * tw) / fw)) (-((-d * th) / fh)) := by
  obtain ⟨h1, h2, h3, h4, h5, h6⟩ := h
  obtain ⟨x1, x2, x3, x4, x5, -⟩ := axis h1 h3 h5
  obtain ⟨y1, y2, y3, y4, y5, -⟩ := axis h2 h4 h6
  have hn : NE (a * tw / fw) (b * th / fh) (-((-c * tw) / fw)) (-((-d * th) / fh)) := by unfold NE; omega
  refine ⟨?_, hn⟩
  unfold MP
  rw [if_pos ⟨by unfold NE; omega, by unfold SZ; omega, by unfold SZ; omega, by unfold SZ; omega, by unfold SZ; omega⟩, x1, x2, y1, y2]
  unfold can
  rw [if_pos hn]
theorem sm {x f : Int} (hx : -20 ≤ x ∧ x ≤ 20) (hf : 0 ≤ f ∧ f ≤ 20) : wrap64 (x * f) = x * f := by
  have h1 : x * f ≤ 20 * f := Int.mul_le_mul_of_nonneg_right hx.2 hf.1
  have h2 : -20 * f ≤ x * f := Int.mul_le_mul_of_nonneg_right hx.1 hf.1
  unfold wrap64; omega
theorem cvr_l1 {a b c d fw fh tw th : Int} (h : RI a b c d fw fh tw th) {A B C D : Int}
    (hA : ∀ x, A ≤ x ↔ a * tw < (x + 1) * fw) (hC : ∀ x, x < C ↔ x * fw < c * tw) (hB : ∀ x, B ≤ x ↔ b * th < (x + 1) * fh) (hD : ∀ x, x < D ↔ x * fh < d * th) (hn : NE A B C D) {y : Int} (hy : 0 ≤ y ∧ y < th) :
    ∀ e : Nat, ∀ x : Int, 0 ≤ x → x + e = tw → ∀ k, compositorlaw10_ScaleCovers.l1 (k + e + 1) y x a b c d fw fh tw th A B C D = compositorlaw10_ScaleCovers.l0 k (y + 1) a b c d fw fh tw th A B C D := by
  obtain ⟨h1, h2, h3, h4, h5, h6⟩ := h
  intro e
  induction e with
  | zero =>
    intro x h0 hx k
    have ew : wrap64 (y + 1) = y + 1 := by unfold wrap64; omega
    rw [compositorlaw10_ScaleCovers.l1, if_neg (by omega), ew]
  | succ e ih =>
    intro x h0 hx k
    have hxt : x < tw := by omega
    have g := ih (x + 1) (by omega) (by omega) k
    have ew : wrap64 (x + 1) = x + 1 := by clear hA hC hB hD ih g; unfold wrap64; omega
    have ey : wrap64 (y + 1) = y + 1 := by clear hA hC hB hD ih g; unfold wrap64; omega
    have s1 := sm (x := x) (f := fw) (by omega) (by omega)
    have s2 := sm (x := c) (f := tw) (by omega) (by omega)
    have s3 := sm (x := x + 1) (f := fw) (by omega) (by omega)
    have s4 := sm (x := a) (f := tw) (by omega) (by omega)
    have s5 := sm (x := y) (f := fh) (by omega) (by omega)
    have s6 := sm (x := d) (f := th) (by omega) (by omega)
    have s7 := sm (x := y + 1) (f := fh) (by omega) (by omega)
    have s8 := sm (x := b) (f := th) (by omega) (by omega)
    have hd : k + (e + 1) + 1 = (k + e + 1) + 1 := by omega
    have hh : HAS A B C D x y ↔ (x * fw < c * tw ∧ a * tw < (x + 1) * fw ∧ y * fh < d * th ∧ b * th < (y + 1) * fh) := by
      unfold HAS
      rw [hA, hC, hB, hD]
      exact ⟨fun q => ⟨q.2.2.1, q.2.1, q.2.2.2.2, q.2.2.2.1⟩, fun q => ⟨hn, q.2.1, q.1, q.2.2.2, q.2.2.1⟩⟩
    rw [hd, compositorlaw10_ScaleCovers.l1, if_pos hxt, rhas_eq, ew, ey, s1, s2, s3, s4, s5, s6, s7, s8]
    simp only [Option.bind_some]
    have no : ¬ HAS A B C D x y → (if (decide (HAS A B C D x y) != false) = true then some false else compositorlaw10_ScaleCovers.l1 (k + e + 1) y (x + 1) a b c d fw fh tw th A B C D) = compositorlaw10_ScaleCovers.l0 k (y + 1) a b c d fw fh tw th A B C D := by
      intro q
      rw [decide_eq_false q, if_neg (by simp)]
      exact g
    by_cases c1 : x * fw < c * tw
    · rw [if_pos c1]
      by_cases c2 : (x + 1) * fw > a * tw
      · rw [if_pos c2]
        by_cases c3 : y * fh < d * th
        · rw [if_pos c3]
          have e1 : decide (HAS A B C D x y) = decide ((y + 1) * fh > b * th) := decide_eq_decide.mpr (hh.trans ⟨fun q => q.2.2.2, fun q => ⟨c1, c2, c3, q⟩⟩)
          rw [e1, bne_self_eq_false, if_neg (by simp)]
          exact g
        · rw [if_neg c3]
          exact no (fun q => c3 (hh.mp q).2.2.1)
      · rw [if_neg c2]
        exact no (fun q => c2 (hh.mp q).2.1)
    · rw [if_neg c1]
      exact no (fun q => c1 (hh.mp q).1)
theorem cvr_l0 {a b c d fw fh tw th : Int} (h : RI a b c d fw fh tw th) {A B C D : Int}
    (hA : ∀ x, A ≤ x ↔ a * tw < (x + 1) * fw) (hC : ∀ x, x < C ↔ x * fw < c * tw) (hB : ∀ x, B ≤ x ↔ b * th < (x + 1) * fh) (hD : ∀ x, x < D ↔ x * fh < d * th) (hn : NE A B C D) (hw : WIN A B C D 0 0 tw th) :
    ∀ e : Nat, ∀ y : Int, 0 ≤ y → y + e = th → ∀ k, 200 ≤ k → compositorlaw10_ScaleCovers.l0 (k + e * (tw.toNat + 2) + 1) y a b c d fw fh tw th A B C D = some true := by
  intro e
  induction e with
  | zero =>
    intro y h0 hy k hk
    rw [Nat.zero_mul, Nat.add_zero, compositorlaw10_ScaleCovers.l0, if_neg (by omega), rwin_eq, Option.bind_some, if_pos (decide_eq_true hw), example_holds k hk]
    rfl
  | succ e ih =>
    intro y h0 hy k hk
    have ht := h.2.2.1
    have e1 : k + (e + 1) * (tw.toNat + 2) + 1 = ((k + e * (tw.toNat + 2) + 1) + tw.toNat + 1) + 1 := by rw [Nat.succ_mul]; omega
    rw [e1, compositorlaw10_ScaleCovers.l0, if_pos (by omega)]
    have g := cvr_l1 h hA hC hB hD hn (y := y) (by omega) tw.toNat 0 (by omega) (by omega) (k + e * (tw.toNat + 2) + 1)
    exact g.trans (ih (y + 1) (by omega) (by omega) k hk)
theorem ScaleCovers (x0 : S34) (x1 : S34) (x2 : S36) (ok0 : ((Lit.int .i64 x0.f0).wf = true) ∧ ((Lit.int .i64 x0.f1).wf = true) ∧ ((Lit.int .i64 x0.f2).wf = true) ∧ ((Lit.int .i64 x0.f3).wf = true)) (ok1 : ((Lit.int .i64 x1.f0).wf = true) ∧ ((Lit.int .i64 x1.f1).wf = true) ∧ ((Lit.int .i64 x1.f2).wf = true) ∧ ((Lit.int .i64 x1.f3).wf = true)) (ok2 : ((Lit.int .i64 x2.f0).wf = true) ∧ ((Lit.int .i64 x2.f1).wf = true) ∧ ((Lit.int .i64 x2.f2).wf = true) ∧ ((Lit.int .i64 x2.f3).wf = true)) :
    ∃ k, compositorlaw10_ScaleCovers.f k x0.f0 x0.f1 x0.f2 x0.f3 x1.f0 x1.f1 x1.f2 x1.f3 x2.f0 x2.f1 x2.f2 x2.f3 = some true := by
  refine ⟨1001, ?_⟩
  clear ok0 ok1 ok2
  generalize x0.f0 = r0
  generalize x0.f1 = r1
  generalize x0.f2 = r2
  generalize x0.f3 = r3
  generalize x1.f0 = p0
  generalize x1.f1 = p1
  generalize x1.f2 = p2
  generalize x1.f3 = p3
  generalize x2.f0 = fw
  generalize x2.f1 = fh
  generalize x2.f2 = tw
  generalize x2.f3 = th
  have jt : compositorlaw10_ScaleCovers.j0 1001 true r0 r1 r2 r3 p0 p1 p2 p3 fw fh tw th = some true := by
    simp only [compositorlaw10_ScaleCovers.j0, if_true, example_holds 1000 (by omega), Option.bind_some]
  unfold compositorlaw10_ScaleCovers.f
  by_cases g1 : fw < 1
  · rw [if_pos g1]; exact jt
  rw [if_neg g1]
  by_cases g2 : fw > 12
  · rw [if_pos g2]; exact jt
  rw [if_neg g2]
  by_cases g3 : fh < 1
  · rw [if_pos g3]; exact jt
  rw [if_neg g3]
  by_cases g4 : fh > 12
  · rw [if_pos g4]; exact jt
  rw [if_neg g4]
  by_cases g5 : tw < 1
  · rw [if_pos g5]; exact jt
  rw [if_neg g5]
  by_cases g6 : tw > 12
  · rw [if_pos g6]; exact jt
  rw [if_neg g6]
  by_cases g7 : th < 1
  · rw [if_pos g7]; exact jt
  rw [if_neg g7]
  by_cases g8 : th > 12
  · rw [decide_eq_true g8]; exact jt
  rw [decide_eq_false g8]
  clear jt
  obtain ⟨a, b, c, d, e, hc⟩ := isc_cases r0 r1 r2 r3 0 0 fw fh
  simp only [compositorlaw10_ScaleCovers.j0, Bool.false_eq_true, if_false, risc_eq, e, rempty_eq, Option.bind_some, decide_eq_true_eq, MapRect_eq _ _ _ _ _ _ _ _ 1000 (by omega), rwin_eq]
  rcases hc with ⟨hn, -⟩ | ⟨hn, h1, h2, q0, q1, q2, q3⟩
  · rw [if_pos hn, example_holds 1000 (by omega)]
    rfl
  · rw [if_neg (not_not_intro hn)]
    have m1 := mx_spec r0 0
    have m2 := mx_spec r1 0
    have m3 := mn_spec r2 fw
    have m4 := mn_spec r3 fh
    have hN := hn
    unfold NE at hN
    have hr : RI a b c d fw fh tw th := ⟨by omega, by omega, by omega, by omega, by omega, by omega⟩
    obtain ⟨eM, nM⟩ := MP_in hr
    obtain ⟨-, -, x3, x4, x5, x6⟩ := axis hr.1 hr.2.2.1 hr.2.2.2.2.1
    obtain ⟨-, -, y3, y4, y5, y6⟩ := axis hr.2.1 hr.2.2.2.1 hr.2.2.2.2.2
    have hw1 : WIN (MP (isc a b c d p0 p1 p2 p3).1 (isc a b c d p0 p1 p2 p3).2.1 (isc a b c d p0 p1 p2 p3).2.2.1 (isc a b c d p0 p1 p2 p3).2.2.2 fw fh tw th).1 (MP (isc a b c d p0 p1 p2 p3).1 (isc a b c d p0 p1 p2 p3).2.1 (isc a b c d p0 p1 p2 p3).2.2.1 (isc a b c d p0 p1 p2 p3).2.2.2 fw fh tw th).2.1 (MP (isc a b c d p0 p1 p2 p3).1 (isc a b c d p0 p1 p2 p3).2.1 (isc a b c d p0 p1 p2 p3).2.2.1 (isc a b c d p0 p1 p2 p3).2.2.2 fw fh tw th).2.2.1 (MP (isc a b c d p0 p1 p2 p3).1 (isc a b c d p0 p1 p2 p3).2.1 (isc a b c d p0 p1 p2 p3).2.2.1 (isc a b c d p0 p1 p2 p3).2.2.2 fw fh tw th).2.2.2 (MP a b c d fw fh tw th).1 (MP a b c d fw fh tw th).2.1 (MP a b c d fw fh tw th).2.2.1 (MP a b c d fw fh tw th).2.2.2 := by
      obtain ⟨a', b', c', d', e', hc'⟩ := isc_cases a b c d p0 p1 p2 p3
      rw [e']
      rcases hc' with ⟨hn', rfl, rfl, rfl, rfl, -⟩ | ⟨hn', h1', h2', u0, u1, u2, u3⟩
      · have z : MP 0 0 0 0 fw fh tw th = (0, 0, 0, 0) := if_neg (fun q => not_ne0 q.1)
        rw [z]
        exact fun q => absurd q not_ne0
      · have n1 := mx_spec a p0
        have n2 := mx_spec b p1
        have n3 := mn_spec c p2
        have n4 := mn_spec d p3
        have hN' := hn'
        unfold NE at hN'
        have hr' : RI a' b' c' d' fw fh tw th := ⟨by omega, by omega, by omega, by omega, by omega, by omega⟩
        rw [(MP_in hr').1, eM]
        refine fun _ => ⟨nM, ?_, ?_, ?_, ?_⟩
        · exact Int.ediv_le_ediv (by omega) (Int.mul_le_mul_of_nonneg_right (by omega) (by omega))
        · exact Int.ediv_le_ediv (by omega) (Int.mul_le_mul_of_nonneg_right (by omega) (by omega))
        · exact Int.neg_le_neg (Int.ediv_le_ediv (by omega) (Int.mul_le_mul_of_nonneg_right (by omega) (by omega)))
        · exact Int.neg_le_neg (Int.ediv_le_ediv (by omega) (Int.mul_le_mul_of_nonneg_right (by omega) (by omega)))
    rw [if_pos hw1, eM]
    have hw2 : WIN (a * tw / fw) (b * th / fh) (-((-c * tw) / fw)) (-((-d * th) / fh)) 0 0 tw th := fun _ => ⟨by unfold NE; omega, x3, y3, x5, y5⟩
    have hk : (1000 : Nat) = (1000 - (th.toNat * (tw.toNat + 2) + 1)) + th.toNat * (tw.toNat + 2) + 1 := by
      have : th.toNat * (tw.toNat + 2) ≤ 12 * 14 := Nat.mul_le_mul (by omega) (by omega)
      omega
    rw [hk]
    exact cvr_l0 hr (fun x => (x6 x).1) (fun x => (x6 x).2) (fun x => (y6 x).1) (fun x => (y6 x).2) nM hw2 th.toNat 0 (by omega) (by omega) _ (by
      have : th.toNat * (tw.toNat + 2) ≤ 12 * 14 := Nat.mul_le_mul (by omega) (by omega)
      omega)

end Go.Proofs.Ythpmfhfnkgbkjaa.Pure
