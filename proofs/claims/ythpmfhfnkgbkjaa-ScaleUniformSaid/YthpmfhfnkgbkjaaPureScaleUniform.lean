/-
  Plain laws (numbers and lists) for the statement ScaleUniform: no program in sight.
-/
import Derived.Test.YthpmfhfnkgbkjaaAllx0
import Derived.Test.YthpmfhfnkgbkjaaAllx10
import Derived.Test.YthpmfhfnkgbkjaaAllx11
import Derived.Test.YthpmfhfnkgbkjaaAllx12
import Derived.Test.YthpmfhfnkgbkjaaAllx14
import Derived.Test.YthpmfhfnkgbkjaaAllx19
import Derived.Test.YthpmfhfnkgbkjaaAllx20
import Derived.Test.YthpmfhfnkgbkjaaAllx21
import Derived.Test.YthpmfhfnkgbkjaaAllx3
import Derived.Test.YthpmfhfnkgbkjaaAllx37
import Derived.Test.YthpmfhfnkgbkjaaAllx38
import Derived.Test.YthpmfhfnkgbkjaaAllx5
import Derived.Test.YthpmfhfnkgbkjaaAllx6
import Derived.Test.YthpmfhfnkgbkjaaAllx7
import Derived.Test.YthpmfhfnkgbkjaaAllx8
import Derived.Test.YthpmfhfnkgbkjaaAllx9
import Derived.Test.YthpmfhfnkgbkjaaAllx90
namespace Go.Proofs.Ythpmfhfnkgbkjaa.Pure
open Go.RowKit Go.Proofs.YthpmfhfnkgbkjaaW.PrintWords Go.Proofs.YthpmfhfnkgbkjaaW.PrintMore Go.Proofs.Ythpmfhfnkgbkjaa.All
set_option linter.unusedVariables false
set_option linter.unusedSimpArgs false
theorem i64 {x : Int} (h : (Lit.int .i64 x).wf = true) : -9223372036854775808 ≤ x ∧ x ≤ 9223372036854775807 := by
  simpa [Lit.wf, IntKind.min, IntKind.max, IntKind.signed, IntKind.bits] using h
theorem w64 {x : Int} (h : -9223372036854775808 ≤ x) (h' : x ≤ 9223372036854775807) : wrap64 x = x := by unfold wrap64; omega
/-- What holds with some fuel holds with more. -/
theorem fuel {α : Type} {f : Nat → Option α} (hm : ∀ k r, f k = some r → f (k + 1) = some r) {K : Nat} {r : α} (h : f K = some r) : ∀ k, K ≤ k → f k = some r := by
  intro k hk
  obtain ⟨j, rfl⟩ : ∃ j, k = K + j := ⟨k - K, by omega⟩
  clear hk
  induction j with
  | zero => exact h
  | succ j ih => exact hm _ _ ih
theorem example_holds : ∀ k, 200 ≤ k → compositorlaw10_exampleHolds.f k = some true :=
  fuel (f := fun k => compositorlaw10_exampleHolds.f k) (fun k r h => compositorlaw10_exampleHolds.mono k r h) (by decide +kernel)
theorem mx_spec (a b : Int) : a ≤ mx a b ∧ b ≤ mx a b ∧ (mx a b = a ∨ mx a b = b) := by unfold mx; split <;> omega
theorem mn_spec (a b : Int) : mn a b ≤ a ∧ mn a b ≤ b ∧ (mn a b = a ∨ mn a b = b) := by unfold mn; split <;> omega
/-- A valid pixel. -/
def PV (p : S43) : Prop := p.f0 ≤ p.f3 ∧ p.f1 ≤ p.f3 ∧ p.f2 ≤ p.f3
/-- A valid buffer. -/
def VB (W H : Int) (l : List S43) : Prop := (1 ≤ W ∧ W ≤ 256) ∧ (1 ≤ H ∧ H ≤ 256) ∧ (l.length : Int) = W * H ∧ ∀ p ∈ l, PV p
noncomputable instance (W H : Int) (l : List S43) : Decidable (VB W H l) := Classical.propDecidable _
def SZ (n : Int) : Prop := 1 ≤ n ∧ n ≤ 256
noncomputable instance (n : Int) : Decidable (SZ n) := Classical.propDecidable _
theorem ok_iff (p : S43) : buffer_Valid.ok p = true ↔ PV p := by
  have m0 := mn_spec p.f0 p.f3
  have m1 := mn_spec p.f1 p.f3
  have m2 := mn_spec p.f2 p.f3
  unfold buffer_Valid.ok PV
  simp only [Bool.and_eq_true, beq_iff_eq, and_true]
  omega
theorem bsize_eq (a : Int) : buffer_size.f a = some (decide (SZ a)) := by
  unfold buffer_size.f
  split <;> (refine congrArg some (Bool.eq_iff_iff.mpr ?_); simp only [decide_eq_true_eq, Bool.false_eq_true, false_iff]; unfold SZ; omega)
theorem size_eq (a : Int) : scale_size.f a = some (decide (SZ a)) := by
  unfold scale_size.f
  split <;> (refine congrArg some (Bool.eq_iff_iff.mpr ?_); simp only [decide_eq_true_eq, Bool.false_eq_true, false_iff]; unfold SZ; omega)
theorem sized_eq (a b : Int) : compositorref10_sized.f a b = some (decide (SZ a ∧ SZ b)) := by
  unfold compositorref10_sized.f
  repeat' split
  all_goals (refine congrArg some (Bool.eq_iff_iff.mpr ?_); simp only [decide_eq_true_eq, Bool.false_eq_true, false_iff]; unfold SZ; omega)
theorem prod_small {W H : Int} (hW : SZ W) (hH : SZ H) : wrap64 (W * H) = W * H ∧ 1 ≤ W * H ∧ W * H ≤ 65536 := by
  unfold SZ at hW hH
  have p1 := Int.mul_le_mul hW.2 hH.2 (by omega) (by omega : (0 : Int) ≤ 256)
  have p2 : 0 < W * H := Int.mul_pos (by omega) (by omega)
  refine ⟨?_, by omega, by omega⟩
  unfold wrap64; omega
theorem bvalid_eq (W H : Int) (l : List S43) : buffer_Valid.f W H l = some (decide (VB W H l)) := by
  simp only [buffer_Valid.f, bsize_eq, Option.bind_some, decide_eq_true_eq]
  by_cases hW : SZ W
  · by_cases hH : SZ H
    · have hp := prod_small hW hH
      rw [if_pos hW, if_pos hH, hp.1]
      by_cases hl : (l.length : Int) = W * H
      · rw [if_pos hl]
        refine congrArg some (Bool.eq_iff_iff.mpr ?_)
        rw [List.all_eq_true, decide_eq_true_eq]
        exact ⟨fun h => ⟨hW, hH, hl, fun p hp => (ok_iff p).mp (h p hp)⟩, fun h p hp => (ok_iff p).mpr (h.2.2.2 p hp)⟩
      · rw [if_neg hl, decide_eq_false (fun h => hl h.2.2.1)]
    · rw [if_pos hW, if_neg hH, decide_eq_false (fun h => hH h.2.1)]
  · rw [if_neg hW, decide_eq_false (fun h => hW h.1)]
theorem rd_at {l : List S43} {i : Nat} (h : i < l.length) : rd_T43 l (i : Int) = l[i] := by
  simp [rd_T43, List.getD_eq_getElem?_getD, List.getElem?_eq_getElem h]
theorem rvl (W H : Int) (l : List S43) (hl : l.length ≤ 65536) : ∀ d i, i + d = l.length → ∀ k, d + 1 ≤ k → ∀ b, (b = true ↔ ∀ p ∈ l.drop i, PV p) → compositorref10_Valid.l0 k i W H l = some b := by
  intro d
  induction d with
  | zero =>
    intro i hi k hk b hb
    obtain ⟨k, rfl⟩ : ∃ j, k = j + 1 := ⟨k - 1, by omega⟩
    rw [compositorref10_Valid.l0, if_neg (by omega)]
    have e : l.drop i = [] := List.drop_eq_nil_of_le (by omega)
    rw [e] at hb
    have : b = true := hb.mpr (fun p hp => by cases hp)
    rw [this]
  | succ d ih =>
    intro i hi k hk b hb
    obtain ⟨k, rfl⟩ : ∃ j, k = j + 1 := ⟨k - 1, by omega⟩
    have hlt : i < l.length := by omega
    rw [compositorref10_Valid.l0, if_pos (by omega), if_pos (by omega), rd_at hlt]
    have e : l.drop i = l[i] :: l.drop (i + 1) := List.drop_eq_getElem_cons hlt
    rw [e] at hb
    have ew : wrap64 ((i : Int) + 1) = ((i + 1 : Nat) : Int) := by unfold wrap64; omega
    rw [ew]
    have no : ¬ PV l[i] → some false = some b := fun hn => by
      cases b with
      | false => rfl
      | true => exact absurd (hb.mp rfl l[i] (List.mem_cons_self ..)) hn
    by_cases h0 : l[i].f0 > l[i].f3
    · rw [if_pos h0]; exact no (fun q => by unfold PV at q; omega)
    · rw [if_neg h0]
      by_cases h1 : l[i].f1 > l[i].f3
      · rw [if_pos h1]; exact no (fun q => by unfold PV at q; omega)
      · rw [if_neg h1]
        by_cases h2 : l[i].f2 > l[i].f3
        · rw [if_pos h2]; exact no (fun q => by unfold PV at q; omega)
        · rw [if_neg h2]
          refine ih (i + 1) (by omega) k (by omega) b (hb.trans ?_)
          have hp : PV l[i] := by unfold PV; omega
          constructor
          · intro h p hm; exact h p (List.mem_cons_of_mem _ hm)
          · intro h p hm
            rcases List.mem_cons.mp hm with rfl | hm
            · exact hp
            · exact h p hm
theorem rbvalid_eq (W H : Int) (l : List S43) (hl : l.length ≤ 600) : ∀ k, 700 ≤ k → compositorref10_Valid.f k W H l = some (decide (VB W H l)) := by
  intro k hk
  obtain ⟨k, rfl⟩ : ∃ j, k = j + 1 := ⟨k - 1, by omega⟩
  simp only [compositorref10_Valid.f, sized_eq, Option.bind_some, decide_eq_true_eq, compositorref10_Valid.j0, if_true]
  by_cases hs : SZ W ∧ SZ H
  · have hp := prod_small hs.1 hs.2
    rw [if_pos hs, hp.1]
    by_cases he : (l.length : Int) = W * H
    · have e : ((l.length : Int) != W * H) = false := by simpa using he
      rw [e, if_neg (by simp)]
      refine rvl W H l (by omega) l.length 0 (by omega) k (by omega) _ ?_
      rw [decide_eq_true_eq, List.drop_zero]
      exact ⟨fun h => h.2.2.2, fun h => ⟨hs.1, hs.2, he, h⟩⟩
    · have e : ((l.length : Int) != W * H) = true := by simpa using he
      rw [e, if_pos rfl, decide_eq_false (fun h => he h.2.2.1)]
  · rw [if_neg hs, decide_eq_false (fun h => hs ⟨h.1, h.2.1⟩)]
theorem same_l (W H : Int) (l : List S43) (hl : l.length ≤ 100000) : ∀ d i, i + d = l.length → ∀ k, d + 1 ≤ k → compositorref07_Same.l0 k i W H l W H l = some true := by
  intro d
  induction d with
  | zero =>
    intro i hi k hk
    obtain ⟨k, rfl⟩ : ∃ j, k = j + 1 := ⟨k - 1, by omega⟩
    rw [compositorref07_Same.l0, if_neg (by omega)]
  | succ d ih =>
    intro i hi k hk
    obtain ⟨k, rfl⟩ : ∃ j, k = j + 1 := ⟨k - 1, by omega⟩
    have ew : wrap64 ((i : Int) + 1) = ((i + 1 : Nat) : Int) := by unfold wrap64; omega
    rw [compositorref07_Same.l0, if_pos (by omega), if_pos (by omega), if_pos (by omega), ew]
    simp only [beq_self_eq_true, Bool.not_true, Bool.or_self, Bool.false_eq_true, if_false]
    exact ih (i + 1) (by omega) k (by omega)
/-- A buffer is the same as itself. -/
theorem same_refl (W H : Int) (l : List S43) (hl : l.length ≤ 100000) : ∀ k, l.length + 2 ≤ k → compositorlaw10_same.f k W H l W H l = some true := by
  intro k hk
  obtain ⟨k, rfl⟩ : ∃ j, k = j + 1 := ⟨k - 1, by omega⟩
  have h0 := same_l W H l hl l.length 0 (by omega) k (by omega)
  have h1 : compositorref07_Same.l0 k 0 W H l W H l = some true := h0
  simp only [compositorlaw10_same.f, compositorref07_Same.f, if_true, compositorref07_Same.j0, bne_self_eq_false, Bool.false_eq_true, if_false, h1, Option.bind_some]
/-- The error of a buffer and a size. -/
noncomputable def chk (W H : Int) (l : List S43) (n m : Int) : Int := if VB W H l then (if SZ n ∧ SZ m then 0 else 6) else 15
theorem check_eq (W H : Int) (l : List S43) (n m : Int) : scale_check.f W H l n m = some (chk W H l n m) := by
  simp only [scale_check.f, bvalid_eq, size_eq, Option.bind_some, decide_eq_true_eq, chk]
  by_cases h1 : VB W H l <;> by_cases h2 : SZ n <;> by_cases h3 : SZ m <;> simp [h1, h2, h3]
theorem chk0 {W H : Int} {l : List S43} {n m : Int} : chk W H l n m = 0 ↔ VB W H l ∧ SZ n ∧ SZ m := by
  unfold chk
  by_cases h1 : VB W H l <;> by_cases h2 : SZ n ∧ SZ m <;> simp [h1, h2]
/-- The loops of the reference build the same list. -/
theorem near_px {W H : Int} {l : List S43} {n m : Nat} {x y : Nat} (hv : VB W H l) (hn : 1 ≤ n ∧ n ≤ 256) (hm : 1 ≤ m ∧ m ≤ 256) (hx : x < n) (hy : y < m) :
    wrap64 (2 * (m : Int)) ≠ 0 ∧ wrap64 (2 * (n : Int)) ≠ 0 ∧
    wrap64 (wrap64 (wrap64 (Int.tdiv (wrap64 (wrap64 (wrap64 (2 * (y : Int)) + 1) * H)) (wrap64 (2 * (m : Int)))) * W) + wrap64 (Int.tdiv (wrap64 (wrap64 (wrap64 (2 * (x : Int)) + 1) * W)) (wrap64 (2 * (n : Int))))) = ((2 * (y : Int) + 1) * H / (2 * m)) * W + (2 * (x : Int) + 1) * W / (2 * n) ∧
    0 ≤ ((2 * (y : Int) + 1) * H / (2 * m)) * W + (2 * (x : Int) + 1) * W / (2 * n) ∧ ((2 * (y : Int) + 1) * H / (2 * m)) * W + (2 * (x : Int) + 1) * W / (2 * n) < l.length := by
  obtain ⟨hW, hH, hl, -⟩ := hv
  have q1 := scale_Nearest.quo (x := x) (n := n) (W := W) (by omega) (by omega) (by omega) hW
  have q2 := scale_Nearest.quo (x := y) (n := m) (W := H) (by omega) (by omega) (by omega) hH
  rw [q1.1, q2.1]
  generalize (2 * (x : Int) + 1) * W / (2 * n) = X at *
  generalize (2 * (y : Int) + 1) * H / (2 * m) = Y at *
  obtain ⟨q, hq, hql⟩ := scale_Box.place (N := l.length) q2.2.1 q2.2.2 q1.2.1 q1.2.2 hW hH hl
  have hw := scale_Box.place_w q2.2.1 q2.2.2 q1.2.1 q1.2.2 hW hH
  refine ⟨?_, ?_, hw, by omega, by omega⟩
  · unfold wrap64; omega
  · unfold wrap64; omega
theorem eta43 (p : S43) : (⟨p.f0, p.f1, p.f2, p.f3⟩ : S43) = p := rfl
theorem bl_len (p : Int → Int → S43) (w n : Nat) : (scale_build.bl p w n).length = n := by unfold scale_build.bl; simp
/-- Nearest, in closed form. -/
noncomputable def NR (W H : Int) (l : List S43) (n m : Int) : Int × Int × List S43 × Int := if chk W H l n m = 0 then (n, m, scale_build.bl (scale_Nearest.px W H l n m) n.toNat (m.toNat * n.toNat), 0) else (0, 0, [], chk W H l n m)
theorem Nearest_eq (W H : Int) (l : List S43) (n m : Int) : scale_Nearest.f W H l n m = some (NR W H l n m) := by
  unfold scale_Nearest.f NR
  rw [check_eq, Option.bind_some]
  split <;> rfl
theorem lsmall_eq (a b : Int) (l : List S43) (n m : Int) : compositorlaw10_small.f a b l n m = some (decide ((l.length : Int) ≤ 150 ∧ (n ≤ 12 ∨ 256 < n) ∧ (m ≤ 12 ∨ 256 < m))) := by
  unfold compositorlaw10_small.f
  repeat' split
  all_goals (refine congrArg some (Bool.eq_iff_iff.mpr ?_); simp only [decide_eq_true_eq, Bool.false_eq_true, false_iff, true_iff]; omega)
def sumN (f : Nat → Int) : Nat → Int
  | 0 => 0
  | n + 1 => sumN f n + f n
theorem sumN_congr {f g : Nat → Int} : ∀ n, (∀ i, i < n → f i = g i) → sumN f n = sumN g n
  | 0, _ => rfl
  | n + 1, h => by rw [sumN, sumN, sumN_congr n (fun i hi => h i (by omega)), h n (by omega)]
theorem sumN_zero {f : Nat → Int} : ∀ n, (∀ i, i < n → f i = 0) → sumN f n = 0
  | 0, _ => rfl
  | n + 1, h => by rw [sumN, sumN_zero n (fun i hi => h i (by omega)), h n (by omega)]; rfl
theorem sumN_mul (c : Int) (f : Nat → Int) : ∀ n, sumN (fun i => c * f i) n = c * sumN f n
  | 0 => by simp [sumN]
  | n + 1 => by rw [sumN, sumN, sumN_mul c f n, Int.mul_add]
theorem sumN_tail {f : Nat → Int} {i n : Nat} (h : i ≤ n) (hz : ∀ k, i ≤ k → k < n → f k = 0) : sumN f n = sumN f i := by
  obtain ⟨d, rfl⟩ : ∃ d, n = i + d := ⟨n - i, by omega⟩
  clear h
  induction d with
  | zero => rfl
  | succ d ih =>
    show sumN f (i + d) + f (i + d) = _
    rw [ih (fun k h1 h2 => hz k h1 (by omega)), hz (i + d) (by omega) (by omega), Int.add_zero]
theorem sumN_le {f g : Nat → Int} : ∀ n, (∀ i, i < n → f i ≤ g i) → sumN f n ≤ sumN g n
  | 0, _ => Int.le_refl _
  | n + 1, h => by
    rw [sumN, sumN]
    have := sumN_le n (fun i hi => h i (by omega))
    have := h n (by omega)
    omega
theorem sumN_bound {f : Nat → Int} {B : Int} : ∀ n : Nat, (∀ i, i < n → 0 ≤ f i ∧ f i ≤ B) → 0 ≤ sumN f n ∧ sumN f n ≤ n * B
  | 0, _ => by simp [sumN]
  | n + 1, h => by
    have h1 := sumN_bound n (fun i hi => h i (by omega))
    have h2 := h n (by omega)
    have e : ((n + 1 : Nat) : Int) * B = n * B + B := by rw [Int.natCast_add, Int.add_mul]; simp
    rw [sumN, e]
    omega
/-- The part of a pixel that another one covers. -/
def cw (i x m n : Int) : Int := mx (mn ((i + 1) * n) ((x + 1) * m) - mx (i * n) (x * m)) 0
theorem mul_small {a b : Int} (h1 : 0 ≤ a ∧ a ≤ 256) (h2 : 0 ≤ b ∧ b ≤ 256) : wrap64 (a * b) = a * b ∧ 0 ≤ a * b ∧ a * b ≤ 65536 := by
  have p1 := Int.mul_nonneg h1.1 h2.1
  have p2 : a * b ≤ 256 * 256 := Int.mul_le_mul h1.2 h2.2 h2.1 (by omega)
  refine ⟨?_, p1, by omega⟩
  unfold wrap64; omega
theorem cw_bound {i x m n : Int} (hn : 0 ≤ n ∧ n ≤ 256) : 0 ≤ cw i x m n ∧ cw i x m n ≤ 256 := by
  unfold cw
  have a1 := mx_spec (mn ((i + 1) * n) ((x + 1) * m) - mx (i * n) (x * m)) 0
  have a2 := mn_spec ((i + 1) * n) ((x + 1) * m)
  have a3 := mx_spec (i * n) (x * m)
  have e : (i + 1) * n = i * n + n := by rw [Int.add_mul, Int.one_mul]
  omega
theorem wt_eq {i x m n : Int} (hi : 0 ≤ i ∧ i < m) (hm : m ≤ 256) (hx : 0 ≤ x ∧ x < n) (hn : n ≤ 256) : scale_Box.wt i x m n = cw i x m n := by
  have e1 : wrap64 (i + 1) = i + 1 := by unfold wrap64; omega
  have e2 : wrap64 (x + 1) = x + 1 := by unfold wrap64; omega
  have p1 := mul_small (a := i + 1) (b := n) (by omega) (by omega)
  have p2 := mul_small (a := x + 1) (b := m) (by omega) (by omega)
  have p3 := mul_small (a := i) (b := n) (by omega) (by omega)
  have p4 := mul_small (a := x) (b := m) (by omega) (by omega)
  unfold scale_Box.wt cw
  rw [e1, e2, p1.1, p2.1, p3.1, p4.1]
  have a2 := mn_spec ((i + 1) * n) ((x + 1) * m)
  have a3 := mx_spec (i * n) (x * m)
  rw [w64 (by omega) (by omega)]
/-- The parts of a pixel add up to it. -/
theorem cw_sum {x m n : Nat} (hx : x < n) : sumN (fun i => cw i x m n) m = m := by
  have key : ∀ k : Nat, sumN (fun i => cw i x m n) k = mn (mx ((k : Int) * n) ((x : Int) * m)) (((x : Int) + 1) * m) - (x : Int) * m := by
    intro k
    have e2 : ((x : Int) + 1) * m = x * m + m := by rw [Int.add_mul, Int.one_mul]
    have p1 : 0 ≤ (x : Int) * m := Int.mul_nonneg (by omega) (by omega)
    induction k with
    | zero =>
      have e0 : ((0 : Nat) : Int) * n = 0 := by simp
      rw [e0]
      show (0 : Int) = _
      have a1 := mx_spec 0 ((x : Int) * m)
      have a2 := mn_spec (mx 0 ((x : Int) * m)) (((x : Int) + 1) * m)
      omega
    | succ k ih =>
      rw [sumN, ih]
      have e1 : ((k + 1 : Nat) : Int) * n = (k : Int) * n + n := by rw [Int.natCast_add, Int.add_mul]; simp
      have e3 : ((k : Int) + 1) * n = (k : Int) * n + n := by rw [Int.add_mul, Int.one_mul]
      unfold cw
      rw [e1, e3]
      have a1 := mx_spec ((k : Int) * n) ((x : Int) * m)
      have a2 := mn_spec (mx ((k : Int) * n) ((x : Int) * m)) (((x : Int) + 1) * m)
      have a3 := mx_spec ((k : Int) * n + n) ((x : Int) * m)
      have a4 := mn_spec (mx ((k : Int) * n + n) ((x : Int) * m)) (((x : Int) + 1) * m)
      have a5 := mn_spec ((k : Int) * n + n) (((x : Int) + 1) * m)
      have a6 := mx_spec (mn ((k : Int) * n + n) (((x : Int) + 1) * m) - mx ((k : Int) * n) ((x : Int) * m)) 0
      omega
  rw [key m]
  have e2 : ((x : Int) + 1) * m = x * m + m := by rw [Int.add_mul, Int.one_mul]
  have p2 : ((x : Int) + 1) * m ≤ n * m := Int.mul_le_mul_of_nonneg_right (by omega) (by omega)
  have p3 : (m : Int) * n = n * m := Int.mul_comm _ _
  have a1 := mx_spec ((m : Int) * n) ((x : Int) * m)
  have a2 := mn_spec (mx ((m : Int) * n) ((x : Int) * m)) (((x : Int) + 1) * m)
  omega
/-- What one pixel adds. -/
def tm (val : S43 → Int) (W H n m x y : Int) (l : List S43) (j i : Nat) : Int := cw i x W n * cw j y H m * val (rd_T43 l (j * W + i))
/-- The sum over all pixels. -/
def SM (val : S43 → Int) (W H : Nat) (n m x y : Int) (l : List S43) : Int := sumN (fun j => sumN (tm val W H n m x y l j) W) H
/-- A component of a pixel. -/
def U8 (val : S43 → Int) (l : List S43) : Prop := ∀ i, 0 ≤ val (rd_T43 l i) ∧ val (rd_T43 l i) ≤ 255
theorem tm_bound {val : S43 → Int} {W H n m x y : Int} {l : List S43} (hv : U8 val l) (hn : 0 ≤ n ∧ n ≤ 256) (hm : 0 ≤ m ∧ m ≤ 256) (j i : Nat) : 0 ≤ tm val W H n m x y l j i ∧ tm val W H n m x y l j i ≤ 16711680 := by
  unfold tm
  have h1 := cw_bound (i := i) (x := x) (m := W) hn
  have h2 := cw_bound (i := j) (x := y) (m := H) hm
  have h3 := hv (j * W + i)
  have p := mul_small h1 h2
  generalize cw i x W n * cw j y H m = k at *
  generalize val (rd_T43 l (j * W + i)) = v at *
  have q1 := Int.mul_nonneg p.2.1 h3.1
  have q2 : k * v ≤ 65536 * 255 := Int.mul_le_mul p.2.2 h3.2 h3.1 (by omega)
  exact ⟨q1, by omega⟩
theorem row_bound {val : S43 → Int} {W : Nat} {H n m x y : Int} {l : List S43} (hv : U8 val l) (hn : 0 ≤ n ∧ n ≤ 256) (hm : 0 ≤ m ∧ m ≤ 256) (hW : W ≤ 256) (j i : Nat) (hi : i ≤ W) :
    0 ≤ sumN (tm val W H n m x y l j) i ∧ sumN (tm val W H n m x y l j) i ≤ 4278190080 := by
  have h := sumN_bound (f := tm val W H n m x y l j) (B := 16711680) i (fun k _ => tm_bound hv hn hm j k)
  omega
theorem all_bound {val : S43 → Int} {W H : Nat} {n m x y : Int} {l : List S43} (hv : U8 val l) (hn : 0 ≤ n ∧ n ≤ 256) (hm : 0 ≤ m ∧ m ≤ 256) (hW : W ≤ 256) (hH : H ≤ 256) (j : Nat) (hj : j ≤ H) :
    0 ≤ sumN (fun j => sumN (tm val W H n m x y l j) W) j ∧ sumN (fun j => sumN (tm val W H n m x y l j) W) j ≤ 1095216660480 := by
  have h := sumN_bound (f := fun j => sumN (tm val W H n m x y l j) W) (B := 4278190080) j (fun k _ => row_bound hv hn hm hW k W (Nat.le_refl _))
  omega
/-- One step of a sum, in the program's words. -/
theorem st_eq {val : S43 → Int} {W H : Nat} {n m : Nat} {x y : Nat} {l : List S43} (hv : U8 val l) (hn : n ≤ 256) (hm : m ≤ 256) (hW : W ≤ 256) (hH : H ≤ 256) (hx : x < n) (hy : y < m) {j i : Nat} (hj : j < H) (hi : i < W) {s : Int} (hs : 0 ≤ s ∧ s ≤ 2000000000000) :
    wrap64 (s + wrap64 (wrap64 (cw i x W n * cw j y H m) * wrap64 (val (rd_T43 l (j * W + i))))) = s + tm val W H n m x y l j i := by
  have h1 := cw_bound (i := i) (x := x) (m := W) (n := n) (by omega)
  have h2 := cw_bound (i := j) (x := y) (m := H) (n := m) (by omega)
  have h3 := hv (j * W + i)
  have p := mul_small h1 h2
  have b := tm_bound (val := val) (W := W) (H := H) (n := n) (m := m) (x := x) (y := y) (l := l) hv (by omega) (by omega) j i
  have e1 : wrap64 (val (rd_T43 l (j * W + i))) = val (rd_T43 l (j * W + i)) := by unfold wrap64; omega
  have e2 : cw i x W n * cw j y H m * val (rd_T43 l (j * W + i)) = tm val W H n m x y l j i := rfl
  rw [p.1, e1, e2, w64 (x := tm val W H n m x y l j i) (by omega) (by omega), w64 (by omega) (by omega)]
/-- One component's row, and all rows. -/
def rowS (val : S43 → Int) (W n x kj j : Int) (l : List S43) : Nat → Int → Int → Int
  | 0, _, s => s
  | f + 1, i, s => if scale_Box.on i x W n then rowS val W n x kj j l f (i + 1) (wrap64 (s + wrap64 (wrap64 (scale_Box.wt i x W n * kj) * wrap64 (val (rd_T43 l (j * W + i)))))) else s
def allS (val : S43 → Int) (W H n m x y : Int) (l : List S43) : Nat → Int → Int → Int
  | 0, _, s => s
  | f + 1, j, s => if scale_Box.on j y H m then allS val W H n m x y l f (j + 1) (rowS val W n x (scale_Box.wt j y H m) j l (W - scale_Box.first x W n).toNat (scale_Box.first x W n) s) else s
theorem wrap_one (z : Int) : wrap64 (wrap64 z * wrap64 1) = wrap64 z := by
  have e : wrap64 1 = 1 := by unfold wrap64; omega
  rw [e, Int.mul_one]; unfold wrap64; omega
theorem row_c (W n x kj j : Int) (l : List S43) : ∀ f i a, (scale_Box.row W n x kj j l f i a) = ⟨rowS (·.f0) W n x kj j l f i a.s0, rowS (·.f1) W n x kj j l f i a.s1, rowS (·.f2) W n x kj j l f i a.s2, rowS (·.f3) W n x kj j l f i a.s3, rowS (fun _ => 1) W n x kj j l f i a.t⟩
  | 0, _, _ => rfl
  | f + 1, i, a => by
    simp only [scale_Box.row, rowS]
    by_cases h : scale_Box.on i x W n
    · simp only [h, if_true, row_c W n x kj j l f, scale_Box.step, wrap_one]
    · simp only [h, if_false]
theorem all_c (W H n m x y : Int) (l : List S43) : ∀ f j a, (scale_Box.all W H n m x y l f j a) = ⟨allS (·.f0) W H n m x y l f j a.s0, allS (·.f1) W H n m x y l f j a.s1, allS (·.f2) W H n m x y l f j a.s2, allS (·.f3) W H n m x y l f j a.s3, allS (fun _ => 1) W H n m x y l f j a.t⟩
  | 0, _, _ => rfl
  | f + 1, j, a => by
    simp only [scale_Box.all, allS]
    by_cases h : scale_Box.on j y H m
    · simp only [h, if_true, all_c W H n m x y l f, row_c]
    · simp only [h, if_false]
theorem on_iff {i x m n : Nat} (hm : m ≤ 256) (hn : n ≤ 256) (hi : i < m) (hx : x < n) : scale_Box.on i x m n ↔ (i : Int) * n < ((x : Int) + 1) * m := by
  unfold scale_Box.on
  have e2 : wrap64 ((x : Int) + 1) = x + 1 := by unfold wrap64; omega
  have p1 := mul_small (a := i) (b := n) (by omega) (by omega)
  have p2 := mul_small (a := (x : Int) + 1) (b := m) (by omega) (by omega)
  rw [e2, p1.1, p2.1]
  constructor
  · exact fun h => h.2
  · exact fun h => ⟨by omega, h⟩
/-- Behind the last covered pixel nothing is covered. -/
theorem cw_off {i x m n : Nat} (h : ¬ (i : Int) * n < ((x : Int) + 1) * m) {k : Nat} (hk : i ≤ k) : cw k x m n = 0 := by
  have h1 : (i : Int) * n ≤ k * n := Int.mul_le_mul_of_nonneg_right (by omega) (by omega)
  unfold cw
  have a2 := mn_spec (((k : Int) + 1) * n) (((x : Int) + 1) * m)
  have a3 := mx_spec ((k : Int) * n) ((x : Int) * m)
  have a1 := mx_spec (mn (((k : Int) + 1) * n) (((x : Int) + 1) * m) - mx ((k : Int) * n) ((x : Int) * m)) 0
  omega
theorem cw_before {x m n : Nat} (hn : 0 < n) {k : Nat} (hk : (k : Int) < scale_Box.first x m n) : cw k x m n = 0 := by
  unfold scale_Box.first at hk
  have h0 := Int.mul_ediv_add_emod ((x : Int) * m) n
  have h2 := Int.emod_nonneg ((x : Int) * m) (show (n : Int) ≠ 0 by omega)
  generalize (x : Int) * m / n = q at *
  have h1 : ((k : Int) + 1) * n ≤ q * n := Int.mul_le_mul_of_nonneg_right (by omega) (by omega)
  have e : (n : Int) * q = q * n := Int.mul_comm _ _
  unfold cw
  have a2 := mn_spec (((k : Int) + 1) * n) (((x : Int) + 1) * m)
  have a3 := mx_spec ((k : Int) * n) ((x : Int) * m)
  have a1 := mx_spec (mn (((k : Int) + 1) * n) (((x : Int) + 1) * m) - mx ((k : Int) * n) ((x : Int) * m)) 0
  omega
theorem rowS_eq {val : S43 → Int} {W H : Nat} {n m : Nat} {x y : Nat} {l : List S43} (hv : U8 val l) (hn : n ≤ 256) (hm : m ≤ 256) (hW : W ≤ 256) (hH : H ≤ 256) (hx : x < n) (hy : y < m) {j : Nat} (hj : j < H) :
    ∀ d i, i + d = W → ∀ s, 0 ≤ s → s + (sumN (tm val W H n m x y l j) W - sumN (tm val W H n m x y l j) i) ≤ 2000000000000 → rowS val W n x (scale_Box.wt j y H m) j l d i s = s + (sumN (tm val W H n m x y l j) W - sumN (tm val W H n m x y l j) i) := by
  intro d
  induction d with
  | zero =>
    intro i hi s _ _
    obtain rfl : i = W := by omega
    show s = _
    omega
  | succ d ih =>
    intro i hi s hs hb
    have hiW : i < W := by omega
    have b1 := row_bound (val := val) (H := H) (n := n) (m := m) (x := x) (y := y) (l := l) hv (by omega) (by omega) hW j
    have hstep : sumN (tm val W H n m x y l j) (i + 1) = sumN (tm val W H n m x y l j) i + tm val W H n m x y l j i := rfl
    have bt := tm_bound (val := val) (W := W) (H := H) (n := n) (m := m) (x := x) (y := y) (l := l) hv (by omega) (by omega) j i
    have hmono : sumN (tm val W H n m x y l j) (i + 1) ≤ sumN (tm val W H n m x y l j) W := by
      obtain ⟨e, rfl⟩ : ∃ e, W = i + 1 + e := ⟨W - (i + 1), by omega⟩
      clear ih hi hb b1 hstep bt
      suffices hh : ∀ e : Nat, ∀ W' : Nat, sumN (tm val W' H n m x y l j) (i + 1) ≤ sumN (tm val W' H n m x y l j) (i + 1 + e) from hh e _
      intro e W'
      induction e with
      | zero => exact Int.le_refl _
      | succ e ihe =>
        have := tm_bound (val := val) (W := W') (H := H) (n := n) (m := m) (x := x) (y := y) (l := l) hv (by omega) (by omega) j (i + 1 + e)
        show _ ≤ sumN (tm val W' H n m x y l j) (i + 1 + e) + tm val W' H n m x y l j (i + 1 + e)
        omega
    have on := on_iff (i := i) (x := x) hW hn hiW hx
    rw [rowS]
    by_cases ho : scale_Box.on i x W n
    · rw [if_pos ho, wt_eq (i := i) (x := x) (m := W) (n := n) (by omega) (by omega) (by omega) (by omega), wt_eq (i := j) (x := y) (m := H) (n := m) (by omega) (by omega) (by omega) (by omega)]
      rw [st_eq hv hn hm hW hH hx hy hj hiW (by omega)]
      have h := ih (i + 1) (by omega) (s + tm val W H n m x y l j i) (by omega) (by omega)
      rw [wt_eq (i := j) (x := y) (m := H) (n := m) (by omega) (by omega) (by omega) (by omega)] at h
      have e : ((i + 1 : Nat) : Int) = (i : Int) + 1 := by omega
      rw [e] at h
      rw [h]
      omega
    · rw [if_neg ho]
      have hz : sumN (tm val W H n m x y l j) W = sumN (tm val W H n m x y l j) i := sumN_tail (by omega) (fun k h1 h2 => by
        unfold tm
        rw [cw_off (fun q => ho (on.mpr q)) h1, Int.zero_mul, Int.zero_mul])
      rw [hz]; omega
theorem sumN_mono {f : Nat → Int} (h : ∀ i, 0 ≤ f i) {i n : Nat} (hi : i ≤ n) : sumN f i ≤ sumN f n := by
  obtain ⟨d, rfl⟩ : ∃ d, n = i + d := ⟨n - i, by omega⟩
  clear hi
  induction d with
  | zero => exact Int.le_refl _
  | succ d ih =>
    have := h (i + d)
    show _ ≤ sumN f (i + d) + f (i + d)
    omega
theorem first_le {x m n : Nat} (hn : n ≤ 256) (hm : 1 ≤ m ∧ m ≤ 256) (hx : x < n) : ∃ q : Nat, scale_Box.first x m n = q ∧ q < m := by
  have h := scale_Box.quo (x := x) (n := n) (W := m) (by omega) (by omega) (by omega) (by omega)
  exact ⟨(scale_Box.first x m n).toNat, by omega, by omega⟩
theorem rowS_full {val : S43 → Int} {W H : Nat} {n m : Nat} {x y : Nat} {l : List S43} (hv : U8 val l) (hn : n ≤ 256) (hm : m ≤ 256) (hW : 1 ≤ W ∧ W ≤ 256) (hH : H ≤ 256) (hx : x < n) (hy : y < m) {j : Nat} (hj : j < H) {s : Int} (h0 : 0 ≤ s) (hs : s ≤ 1100000000000) :
    rowS val W n x (scale_Box.wt j y H m) j l (W - scale_Box.first x W n).toNat (scale_Box.first x W n) s = s + sumN (tm val W H n m x y l j) W := by
  obtain ⟨q, hq, hqW⟩ := first_le hn hW hx
  have b1 := row_bound (val := val) (H := H) (n := n) (m := m) (x := x) (y := y) (l := l) hv (by omega) (by omega) hW.2 j W (Nat.le_refl _)
  have hz : sumN (tm val W H n m x y l j) q = 0 := sumN_zero q (fun k hk => by
    unfold tm
    rw [cw_before (by omega) (by rw [hq]; omega), Int.zero_mul, Int.zero_mul])
  have e : ((W : Int) - (q : Int)).toNat = W - q := by omega
  rw [hq, e, rowS_eq hv hn hm hW.2 hH hx hy hj (W - q) q (by omega) s h0 (by omega), hz]
  omega
theorem allS_eq {val : S43 → Int} {W H : Nat} {n m : Nat} {x y : Nat} {l : List S43} (hv : U8 val l) (hn : n ≤ 256) (hm : m ≤ 256) (hW : 1 ≤ W ∧ W ≤ 256) (hH : H ≤ 256) (hx : x < n) (hy : y < m) :
    ∀ d j, j + d = H → allS val W H n m x y l d j (sumN (fun j => sumN (tm val W H n m x y l j) W) j) = SM val W H n m x y l := by
  intro d
  induction d with
  | zero =>
    intro j hj
    obtain rfl : j = H := by omega
    rfl
  | succ d ih =>
    intro j hj
    have hjH : j < H := by omega
    have b := all_bound (val := val) (W := W) (H := H) (n := n) (m := m) (x := x) (y := y) (l := l) hv (by omega) (by omega) hW.2 hH j (by omega)
    have on := on_iff (i := j) (x := y) hH hm hjH hy
    rw [allS]
    by_cases ho : scale_Box.on j y H m
    · rw [if_pos ho, rowS_full hv hn hm hW hH hx hy hjH b.1 (by omega)]
      have h := ih (j + 1) (by omega)
      have e : ((j + 1 : Nat) : Int) = (j : Int) + 1 := by omega
      rw [e] at h
      exact h
    · rw [if_neg ho]
      refine (sumN_tail (by omega) (fun k h1 h2 => ?_)).symm
      refine sumN_zero W (fun i _ => ?_)
      unfold tm
      rw [cw_off (fun q => ho (on.mpr q)) h1, Int.mul_zero, Int.zero_mul]
theorem allS_full {val : S43 → Int} {W H : Nat} {n m : Nat} {x y : Nat} {l : List S43} (hv : U8 val l) (hn : n ≤ 256) (hm : m ≤ 256) (hW : 1 ≤ W ∧ W ≤ 256) (hH : 1 ≤ H ∧ H ≤ 256) (hx : x < n) (hy : y < m) :
    allS val W H n m x y l (H - scale_Box.first y H m).toNat (scale_Box.first y H m) 0 = SM val W H n m x y l := by
  obtain ⟨q, hq, hqH⟩ := first_le hm hH hy
  have hz : sumN (fun j => sumN (tm val W H n m x y l j) W) q = 0 := sumN_zero q (fun k hk => sumN_zero W (fun i _ => by
    unfold tm
    rw [show cw k y H m = 0 from cw_before (by omega) (by rw [hq]; omega), Int.mul_zero, Int.zero_mul]))
  have e : ((H : Int) - (q : Int)).toNat = H - q := by omega
  have h := allS_eq hv hn hm hW hH.2 hx hy (H - q) q (by omega)
  rw [hz] at h
  rw [hq, e, h]
/-- All weights together. -/
theorem SM_one {W H : Nat} {n m : Nat} {x y : Nat} {l : List S43} (hx : x < n) (hy : y < m) : SM (fun _ => 1) W H n m x y l = (W : Int) * H := by
  have h1 : ∀ j, sumN (tm (fun _ => 1) W H n m x y l j) W = (W : Int) * cw j y H m := by
    intro j
    have : sumN (tm (fun _ => 1) W H n m x y l j) W = sumN (fun i => cw j y H m * cw i x W n) W := sumN_congr W (fun i _ => by
      unfold tm
      rw [Int.mul_one, Int.mul_comm])
    rw [this, sumN_mul, cw_sum hx, Int.mul_comm]
  unfold SM
  rw [sumN_congr H (fun j _ => h1 j), sumN_mul, cw_sum hy]
theorem SM_le {val : S43 → Int} {W H : Nat} {n m : Nat} {x y : Nat} {l : List S43} {lo hi : Int} (hn : n ≤ 256) (hm : m ≤ 256) (hx : x < n) (hy : y < m)
    (h : ∀ j i : Nat, j < H → i < W → lo ≤ val (rd_T43 l ((j : Int) * W + i)) ∧ val (rd_T43 l ((j : Int) * W + i)) ≤ hi) : lo * ((W : Int) * H) ≤ SM val W H n m x y l ∧ SM val W H n m x y l ≤ hi * ((W : Int) * H) := by
  have hT := SM_one (W := W) (H := H) (l := l) hx hy
  have key : ∀ c : Int, SM (fun _ => c) W H n m x y l = c * ((W : Int) * H) := by
    intro c
    rw [← hT]
    unfold SM
    rw [← sumN_mul]
    refine sumN_congr H (fun j _ => ?_)
    rw [← sumN_mul]
    refine sumN_congr W (fun i _ => ?_)
    unfold tm
    rw [Int.mul_one, Int.mul_comm]
  have nn : ∀ j i : Nat, 0 ≤ cw i x W n * cw j y H m := fun j i => Int.mul_nonneg (cw_bound (by omega)).1 (cw_bound (by omega)).1
  constructor
  · rw [← key lo]
    exact sumN_le H (fun j hj => sumN_le W (fun i hi' => Int.mul_le_mul_of_nonneg_left (h j i hj hi').1 (nn j i)))
  · rw [← key hi]
    exact sumN_le H (fun j hj => sumN_le W (fun i hi' => Int.mul_le_mul_of_nonneg_left (h j i hj hi').2 (nn j i)))
/-- The rounded mean. -/
def av (s t : Int) : Int := (2 * s + t) / (2 * t)
theorem av_bound {s t lo hi : Int} (ht : 0 < t) (h1 : lo * t ≤ s) (h2 : s ≤ hi * t) : lo ≤ av s t ∧ av s t ≤ hi := by
  unfold av
  constructor
  · apply Int.le_ediv_of_mul_le (by omega)
    have e : lo * (2 * t) = 2 * (lo * t) := by grind
    omega
  · have : (2 * s + t) / (2 * t) < hi + 1 := by
      apply Int.ediv_lt_of_lt_mul (by omega)
      have e : (hi + 1) * (2 * t) = 2 * (hi * t) + 2 * t := by grind
      omega
    omega
theorem prog_av {s t : Int} (ht : 1 ≤ t ∧ t ≤ 65536) (h1 : 0 ≤ s) (h2 : s ≤ 255 * t) : scale_Box.av s t % 256 = av s t ∧ wrap64 (2 * t) = 2 * t := by
  have hb := av_bound (s := s) (t := t) (lo := 0) (hi := 255) (by omega) (by omega) h2
  have e1 : wrap64 (2 * t) = 2 * t := by unfold wrap64; omega
  have e2 : wrap64 (wrap64 (2 * s) + t) = 2 * s + t := by unfold wrap64; omega
  refine ⟨?_, e1⟩
  unfold scale_Box.av
  rw [e1, e2, Int.tdiv_eq_ediv_of_nonneg (by omega)]
  have e3 : (2 * s + t) / (2 * t) = av s t := rfl
  rw [e3, w64 (by omega) (by omega)]
  omega
/-- All components of a buffer's pixels are bytes. -/
def B8 (l : List S43) : Prop := ∀ p ∈ l, ((Lit.int .u8 p.f0).wf = true) ∧ ((Lit.int .u8 p.f1).wf = true) ∧ ((Lit.int .u8 p.f2).wf = true) ∧ ((Lit.int .u8 p.f3).wf = true)
theorem u8 {x : Int} (h : (Lit.int .u8 x).wf = true) : 0 ≤ x ∧ x ≤ 255 := by
  simpa [Lit.wf, IntKind.min, IntKind.max, IntKind.signed, IntKind.bits] using h
theorem rd_cases (l : List S43) (i : Int) : rd_T43 l i ∈ l ∨ rd_T43 l i = z43 := by
  unfold rd_T43
  by_cases h : i.toNat < l.length
  · left; rw [List.getD_eq_getElem?_getD, List.getElem?_eq_getElem h]; exact List.getElem_mem h
  · right; rw [List.getD_eq_getElem?_getD, List.getElem?_eq_none (by omega)]; rfl
theorem b8_u {l : List S43} (h : B8 l) : U8 (·.f0) l ∧ U8 (·.f1) l ∧ U8 (·.f2) l ∧ U8 (·.f3) l ∧ U8 (fun _ => 1) l := by
  refine ⟨?_, ?_, ?_, ?_, fun i => by show (0 : Int) ≤ 1 ∧ (1 : Int) ≤ 255; omega⟩ <;> intro i <;> rcases rd_cases l i with hi | hi
  · exact u8 (h _ hi).1
  · rw [hi]; decide
  · exact u8 (h _ hi).2.1
  · rw [hi]; decide
  · exact u8 (h _ hi).2.2.1
  · rw [hi]; decide
  · exact u8 (h _ hi).2.2.2
  · rw [hi]; decide
/-- Box's pixel, in closed form. -/
def bxp (W H : Nat) (l : List S43) (n m x y : Int) : S43 := ⟨av (SM (·.f0) W H n m x y l) ((W : Int) * H), av (SM (·.f1) W H n m x y l) ((W : Int) * H), av (SM (·.f2) W H n m x y l) ((W : Int) * H), av (SM (·.f3) W H n m x y l) ((W : Int) * H)⟩
theorem u8_le {val : S43 → Int} {l : List S43} (h : U8 val l) (W : Nat) : ∀ j i : Nat, 0 ≤ val (rd_T43 l ((j : Int) * W + i)) ∧ val (rd_T43 l ((j : Int) * W + i)) ≤ 255 := fun _ _ => h _
theorem wh_b {W H : Nat} (hW : 1 ≤ W ∧ W ≤ 256) (hH : 1 ≤ H ∧ H ≤ 256) : 1 ≤ (W : Int) * H ∧ (W : Int) * H ≤ 65536 := by
  have h1 := Nat.mul_le_mul hW.2 hH.2
  have h2 := Nat.mul_le_mul hW.1 hH.1
  have e : ((W * H : Nat) : Int) = (W : Int) * H := Int.natCast_mul W H
  omega
theorem acc_eq {W H : Nat} {n m : Nat} {x y : Nat} {l : List S43} (hb : B8 l) (hn : n ≤ 256) (hm : m ≤ 256) (hW : 1 ≤ W ∧ W ≤ 256) (hH : 1 ≤ H ∧ H ≤ 256) (hx : x < n) (hy : y < m) :
    scale_Box.acc W H n m x y l = ⟨SM (·.f0) W H n m x y l, SM (·.f1) W H n m x y l, SM (·.f2) W H n m x y l, SM (·.f3) W H n m x y l, (W : Int) * H⟩ := by
  obtain ⟨u0, u1, u2, u3, u4⟩ := b8_u hb
  unfold scale_Box.acc
  rw [all_c, allS_full u0 hn hm hW hH hx hy, allS_full u1 hn hm hW hH hx hy, allS_full u2 hn hm hW hH hx hy, allS_full u3 hn hm hW hH hx hy, allS_full u4 hn hm hW hH hx hy, SM_one hx hy]
theorem px_eq {W H : Nat} {n m : Nat} {x y : Nat} {l : List S43} (hb : B8 l) (hn : n ≤ 256) (hm : m ≤ 256) (hW : 1 ≤ W ∧ W ≤ 256) (hH : 1 ≤ H ∧ H ≤ 256) (hx : x < n) (hy : y < m) :
    scale_Box.px W H l n m x y = bxp W H l n m x y ∧ (wrap64 (2 * (scale_Box.acc W H n m x y l).t) != 0) = true := by
  obtain ⟨u0, u1, u2, u3, u4⟩ := b8_u hb
  have ht := wh_b hW hH
  have s0 := SM_le (val := (·.f0)) (lo := 0) (hi := 255) (W := W) (H := H) (l := l) hn hm hx hy (fun j i _ _ => u0 _)
  have s1 := SM_le (val := (·.f1)) (lo := 0) (hi := 255) (W := W) (H := H) (l := l) hn hm hx hy (fun j i _ _ => u1 _)
  have s2 := SM_le (val := (·.f2)) (lo := 0) (hi := 255) (W := W) (H := H) (l := l) hn hm hx hy (fun j i _ _ => u2 _)
  have s3 := SM_le (val := (·.f3)) (lo := 0) (hi := 255) (W := W) (H := H) (l := l) hn hm hx hy (fun j i _ _ => u3 _)
  unfold scale_Box.px bxp
  rw [acc_eq hb hn hm hW hH hx hy]
  rw [(prog_av ht (by omega) s0.2).1, (prog_av ht (by omega) s1.2).1, (prog_av ht (by omega) s2.2).1, (prog_av ht (by omega) s3.2).1]
  refine ⟨rfl, ?_⟩
  rw [(prog_av ht (by omega) s0.2).2, bne_iff_ne]
  omega
/-- Box, in closed form. -/
noncomputable def BX (W H : Int) (l : List S43) (n m : Int) : Int × Int × List S43 × Int := if chk W H l n m = 0 then (n, m, scale_build.bl (bxp W.toNat H.toNat l n m) n.toNat (m.toNat * n.toNat), 0) else (0, 0, [], chk W H l n m)
theorem bl_congr {p q : Int → Int → S43} {n m : Nat} (h : ∀ x y : Nat, x < n → y < m → p x y = q x y) : scale_build.bl p n (m * n) = scale_build.bl q n (m * n) := by
  unfold scale_build.bl
  refine List.map_congr_left (fun k hk => ?_)
  have hk := List.mem_range.mp hk
  have hn : 0 < n := by
    rcases Nat.eq_zero_or_pos n with rfl | h
    · rw [Nat.mul_zero] at hk; omega
    · exact h
  exact h _ _ (Nat.mod_lt _ hn) ((Nat.div_lt_iff_lt_mul hn).mpr hk)
theorem Box_eq (W H : Int) (l : List S43) (n m : Int) (hb : B8 l) : scale_Box.f W H l n m = some (BX W H l n m) := by
  unfold scale_Box.f BX
  rw [check_eq, Option.bind_some]
  by_cases h : chk W H l n m = 0
  · obtain ⟨hv, hn, hm⟩ := chk0.mp h
    obtain ⟨hW, hH, hl, -⟩ := hv
    unfold SZ at hn hm
    obtain ⟨n, rfl⟩ : ∃ a : Nat, n = a := ⟨n.toNat, by omega⟩
    obtain ⟨m, rfl⟩ : ∃ a : Nat, m = a := ⟨m.toNat, by omega⟩
    obtain ⟨W, rfl⟩ : ∃ a : Nat, W = a := ⟨W.toNat, by omega⟩
    obtain ⟨H, rfl⟩ : ∃ a : Nat, H = a := ⟨H.toNat, by omega⟩
    simp only [Int.toNat_natCast]
    have hok : scale_Box.ok W H n m l = true := by
      unfold scale_Box.ok
      refine List.all_eq_true.mpr (fun x hx => List.all_eq_true.mpr (fun y hy => ?_))
      have hx := List.mem_range.mp hx
      have hy := List.mem_range.mp hy
      exact (px_eq hb (by omega) (by omega) (by omega) (by omega) (by omega) (by omega)).2
    rw [if_pos h, if_pos h, if_pos hok]
    rw [bl_congr (fun x y hx hy => (px_eq (W := W) (H := H) (n := n) (m := m) hb (by omega) (by omega) (by omega) (by omega) hx hy).1)]
  · rw [if_neg h, if_neg h]
/-- Enlarge, in closed form. -/
noncomputable def EN (W H : Int) (l : List S43) (k : Int) : Int × Int × List S43 × Int :=
  if VB W H l then (if k < 1 then (0, 0, [], 2) else if W * k ≤ 256 ∧ H * k ≤ 256 then (W * k, H * k, scale_build.bl (scale_Enlarge.px W l k) (W * k).toNat ((H * k).toNat * (W * k).toNat), 0) else (0, 0, [], 5)) else (0, 0, [], 15)
/-- Shrink, in closed form. -/
noncomputable def SH (W H : Int) (l : List S43) (k : Int) : Int × Int × List S43 × Int :=
  if VB W H l then (if k < 1 then (0, 0, [], 2) else if Int.tmod W k = 0 ∧ Int.tmod H k = 0 then BX W H l (wrap64 (Int.tdiv W k)) (wrap64 (Int.tdiv H k)) else (0, 0, [], 2)) else (0, 0, [], 15)
theorem vb_len {W H : Int} {l : List S43} (hv : VB W H l) : H.toNat * W.toNat = l.length := by
  obtain ⟨hW, hH, hl, -⟩ := hv
  obtain ⟨W, rfl⟩ : ∃ a : Nat, W = a := ⟨W.toNat, by omega⟩
  obtain ⟨H, rfl⟩ : ∃ a : Nat, H = a := ⟨H.toNat, by omega⟩
  have : ((l.length : Nat) : Int) = ((W * H : Nat) : Int) := by rw [hl, Int.natCast_mul]
  simp only [Int.toNat_natCast]
  rw [Nat.mul_comm]; omega
theorem bl_get (p : Int → Int → S43) (n N : Nat) {k : Nat} (h : k < N) : rd_T43 (scale_build.bl p n N) (k : Int) = p ((k % n : Nat) : Int) ((k / n : Nat) : Int) := by
  rw [rd_at (by rw [bl_len]; exact h)]
  simp [scale_build.bl]
theorem idx_lt {x y n m : Nat} (hx : x < n) (hy : y < m) : y * n + x < m * n := by
  have h : (y + 1) * n ≤ m * n := Nat.mul_le_mul_right n (by omega)
  rw [Nat.succ_mul] at h
  omega
/-- The enlarged pixels. -/
def EL (W H k : Nat) (l : List S43) : List S43 := scale_build.bl (scale_Enlarge.px W l k) (W * k) (H * k * (W * k))
/-- A whole factor, and sizes within the limits. -/
def FK (W H k : Nat) (l : List S43) : Prop := 1 ≤ W ∧ 1 ≤ H ∧ 1 ≤ k ∧ W * k ≤ 256 ∧ H * k ≤ 256 ∧ l.length = H * W
/-- Each component lies between those of two pixels. -/
def BDp (lo hi p : S43) : Prop := lo.f0 ≤ p.f0 ∧ p.f0 ≤ hi.f0 ∧ lo.f1 ≤ p.f1 ∧ p.f1 ≤ hi.f1 ∧ lo.f2 ≤ p.f2 ∧ p.f2 ≤ hi.f2 ∧ lo.f3 ≤ p.f3 ∧ p.f3 ≤ hi.f3
theorem between_eq {lo hi p : S43} (h : BDp lo hi p) : compositorlaw10_between.f p.f0 p.f1 p.f2 p.f3 lo.f0 lo.f1 lo.f2 lo.f3 hi.f0 hi.f1 hi.f2 hi.f3 = some true := by
  obtain ⟨h0, h1, h2, h3, h4, h5, h6, h7⟩ := h
  unfold compositorlaw10_between.f
  rw [if_pos h0, if_pos h1, if_pos h2, if_pos h3, if_pos h4, if_pos h5, if_pos h6, decide_eq_true h7]
theorem un_l1 {n m N : Nat} {lo hi : S43} {X Y : List S43} (hN : wrap64 ((n : Int) * m) = N) (hN2 : N ≤ 1000) (hX : X.length = N) (hY : Y.length = N) (bX : ∀ i : Nat, i < N → BDp lo hi (rd_T43 X i)) (bY : ∀ i : Nat, i < N → BDp lo hi (rd_T43 Y i)) :
    ∀ d i : Nat, i + d = N → ∀ k, 200 ≤ k → compositorlaw10_ScaleUniform.l1 (k + d + 1) n m i lo.f0 lo.f1 lo.f2 lo.f3 hi.f0 hi.f1 hi.f2 hi.f3 n m X n m Y = some true := by
  intro d
  induction d with
  | zero =>
    intro i hi' k hk
    rw [compositorlaw10_ScaleUniform.l1, hN, if_neg (by omega), example_holds k hk]
    rfl
  | succ d ih =>
    intro i hi' k hk
    have ew : wrap64 ((i : Int) + 1) = ((i + 1 : Nat) : Int) := by clear hN bX bY ih; unfold wrap64; omega
    have hd : k + (d + 1) + 1 = (k + d + 1) + 1 := by omega
    rw [hd, compositorlaw10_ScaleUniform.l1, hN, if_pos (by omega), if_pos (by omega), if_pos (by omega), between_eq (bX i (by omega)), Option.bind_some, if_pos rfl, if_pos (by omega), between_eq (bY i (by omega)), Option.bind_some, if_pos rfl, ew]
    exact ih (i + 1) (by omega) k hk
theorem SM_mono {v w : S43 → Int} {W H : Nat} {n m : Nat} {x y : Nat} {l : List S43} (hn : n ≤ 256) (hm : m ≤ 256) (h : ∀ i, v (rd_T43 l i) ≤ w (rd_T43 l i)) : SM v W H n m x y l ≤ SM w W H n m x y l :=
  sumN_le H (fun j _ => sumN_le W (fun i _ => Int.mul_le_mul_of_nonneg_left (h _) (Int.mul_nonneg (cw_bound (by omega)).1 (cw_bound (by omega)).1)))
theorem av_mono {s u t : Int} (ht : 0 < t) (h : s ≤ u) : av s t ≤ av u t := Int.ediv_le_ediv (by omega) (by omega)
theorem pv_rd {l : List S43} (h : ∀ p ∈ l, PV p) (i : Int) : PV (rd_T43 l i) := by
  rcases rd_cases l i with hi | hi
  · exact h _ hi
  · rw [hi]; unfold PV z43; decide
theorem bl_all {p : Int → Int → S43} {n m : Nat} {Q : S43 → Prop} (h : ∀ x y : Nat, x < n → y < m → Q (p x y)) : (∀ q ∈ scale_build.bl p n (m * n), Q q) ∧ ∀ i : Nat, i < m * n → Q (rd_T43 (scale_build.bl p n (m * n)) i) := by
  have key : ∀ k, k < m * n → Q (p ((k % n : Nat) : Int) ((k / n : Nat) : Int)) := fun k hk => by
    have hn : 0 < n := by
      rcases Nat.eq_zero_or_pos n with rfl | h
      · rw [Nat.mul_zero] at hk; omega
      · exact h
    exact h _ _ (Nat.mod_lt _ hn) ((Nat.div_lt_iff_lt_mul hn).mpr hk)
  constructor
  · intro q hq
    unfold scale_build.bl at hq
    obtain ⟨k, hk, rfl⟩ := List.mem_map.mp hq
    exact key k (List.mem_range.mp hk)
  · intro i hi
    rw [bl_get p n _ hi]
    exact key i hi
theorem vb_bl {p : Int → Int → S43} {n m : Nat} (hn : 1 ≤ n ∧ n ≤ 256) (hm : 1 ≤ m ∧ m ≤ 256) (h : ∀ x y : Nat, x < n → y < m → PV (p x y)) : VB n m (scale_build.bl p n (m * n)) :=
  ⟨by omega, by omega, by rw [bl_len, Int.natCast_mul, Int.mul_comm], (bl_all h).1⟩
theorem near_pv {W H : Int} {l : List S43} (hv : VB W H l) (n m x y : Int) : PV (scale_Nearest.px W H l n m x y) := pv_rd hv.2.2.2 _
theorem box_pv {W H : Nat} {l : List S43} (hv : VB W H l) {n m x y : Nat} (hn : n ≤ 256) (hm : m ≤ 256) : PV (bxp W H l n m x y) := by
  have ht := wh_b (W := W) (H := H) (by have := hv.1; omega) (by have := hv.2.1; omega)
  have q := pv_rd hv.2.2.2
  exact ⟨av_mono (by omega) (SM_mono hn hm (fun i => (q i).1)), av_mono (by omega) (SM_mono hn hm (fun i => (q i).2.1)), av_mono (by omega) (SM_mono hn hm (fun i => (q i).2.2))⟩
theorem near_bd {W H : Nat} {l : List S43} (hv : VB W H l) {n m x y : Nat} (hn : 1 ≤ n ∧ n ≤ 256) (hm : 1 ≤ m ∧ m ≤ 256) (hx : x < n) (hy : y < m) {lo hi : S43} (h : ∀ j : Nat, j < l.length → BDp lo hi (rd_T43 l j)) : BDp lo hi (scale_Nearest.px W H l n m x y) := by
  obtain ⟨-, -, -, h0, h1⟩ := near_px hv hn hm hx hy
  unfold scale_Nearest.px
  generalize (2 * (y : Int) + 1) * H / (2 * m) * W + (2 * (x : Int) + 1) * W / (2 * n) = i at *
  obtain ⟨j, rfl⟩ : ∃ j : Nat, i = j := ⟨i.toNat, by omega⟩
  exact h j (by omega)
theorem box_bd {W H : Nat} {l : List S43} (hv : VB W H l) {n m x y : Nat} (hn : n ≤ 256) (hm : m ≤ 256) (hx : x < n) (hy : y < m) {lo hi : S43} (h : ∀ j : Nat, j < l.length → BDp lo hi (rd_T43 l j)) : BDp lo hi (bxp W H l n m x y) := by
  have ht := wh_b (W := W) (H := H) (by have := hv.1; omega) (by have := hv.2.1; omega)
  have hl := vb_len hv
  simp only [Int.toNat_natCast] at hl
  have q : ∀ j i : Nat, j < H → i < W → BDp lo hi (rd_T43 l ((j : Int) * W + i)) := by
    intro j i hj hi'
    have e : (j : Int) * W + i = ((j * W + i : Nat) : Int) := by rw [Int.natCast_add, Int.natCast_mul]
    have := idx_lt hi' hj
    rw [e]
    exact h _ (by omega)
  have s0 := SM_le (val := (·.f0)) (lo := lo.f0) (hi := hi.f0) (W := W) (H := H) (l := l) hn hm hx hy (fun j i a b => ⟨(q j i a b).1, (q j i a b).2.1⟩)
  have s1 := SM_le (val := (·.f1)) (lo := lo.f1) (hi := hi.f1) (W := W) (H := H) (l := l) hn hm hx hy (fun j i a b => ⟨(q j i a b).2.2.1, (q j i a b).2.2.2.1⟩)
  have s2 := SM_le (val := (·.f2)) (lo := lo.f2) (hi := hi.f2) (W := W) (H := H) (l := l) hn hm hx hy (fun j i a b => ⟨(q j i a b).2.2.2.2.1, (q j i a b).2.2.2.2.2.1⟩)
  have s3 := SM_le (val := (·.f3)) (lo := lo.f3) (hi := hi.f3) (W := W) (H := H) (l := l) hn hm hx hy (fun j i a b => ⟨(q j i a b).2.2.2.2.2.2.1, (q j i a b).2.2.2.2.2.2.2⟩)
  have b0 := av_bound (show 0 < (W : Int) * H by omega) s0.1 s0.2
  have b1 := av_bound (show 0 < (W : Int) * H by omega) s1.1 s1.2
  have b2 := av_bound (show 0 < (W : Int) * H by omega) s2.1 s2.2
  have b3 := av_bound (show 0 < (W : Int) * H by omega) s3.1 s3.2
  exact ⟨b0.1, b0.2, b1.1, b1.2, b2.1, b2.2, b3.1, b3.2⟩
theorem un_end {W H n m : Nat} {l : List S43} (hv : VB W H l) (hn : 1 ≤ n ∧ n ≤ 12) (hm : 1 ≤ m ∧ m ≤ 12) {lo hi : S43} (h : ∀ j : Nat, j < l.length → BDp lo hi (rd_T43 l j)) (k : Nat) (hk : 2000 ≤ k) :
    compositorlaw10_ScaleUniform.j2 k n m ((m : Int) != m) lo.f0 lo.f1 lo.f2 lo.f3 hi.f0 hi.f1 hi.f2 hi.f3 n m (scale_build.bl (scale_Nearest.px W H l n m) n (m * n)) n m (scale_build.bl (bxp W H l n m) n (m * n)) = some true := by
  have hN : m * n ≤ 144 := Nat.mul_le_mul hm.2 hn.2
  obtain ⟨j, rfl⟩ : ∃ j, k = (j + (m * n) + 1) + 1 := ⟨k - (m * n) - 2, by omega⟩
  have hw : wrap64 ((n : Int) * m) = ((m * n : Nat) : Int) := by
    rw [Int.natCast_mul, Int.mul_comm]
    have e : ((m * n : Nat) : Int) = (m : Int) * n := Int.natCast_mul m n
    unfold wrap64
    omega
  rw [compositorlaw10_ScaleUniform.j2, bne_self_eq_false, if_neg (by simp)]
  exact un_l1 hw (by omega) (bl_len ..) (bl_len ..) (bl_all (fun x y hx hy => near_bd hv (by omega) (by omega) hx hy h)).2 (bl_all (fun x y hx hy => box_bd hv (by omega) (by omega) hx hy h)).2 (m * n) 0 (by omega) j (by omega)
theorem un_l0 {W H n m : Nat} {l : List S43} (hb : B8 l) (hl : l.length ≤ 150) (hv : VB W H l) (hn : 1 ≤ n ∧ n ≤ 12) (hm : 1 ≤ m ∧ m ≤ 12) :
    ∀ d i : Nat, i + d = l.length → ∀ lo hi : S43, (∀ j : Nat, j < i → BDp lo hi (rd_T43 l j)) → ∀ k, 2000 ≤ k → compositorlaw10_ScaleUniform.l0 (k + d + 1) n m i W H l lo.f0 lo.f1 lo.f2 lo.f3 hi.f0 hi.f1 hi.f2 hi.f3 = some true := by
  intro d
  induction d with
  | zero =>
    intro i hi' lo hi h k hk
    obtain rfl : i = l.length := by omega
    have c0 : chk W H l n m = 0 := chk0.mpr ⟨hv, by unfold SZ; omega, by unfold SZ; omega⟩
    have eN : NR W H l n m = ((n : Int), (m : Int), scale_build.bl (scale_Nearest.px W H l n m) n (m * n), 0) := by
      unfold NR; rw [if_pos c0]; simp only [Int.toNat_natCast]
    have eB : BX W H l n m = ((n : Int), (m : Int), scale_build.bl (bxp W H l n m) n (m * n), 0) := by
      unfold BX; rw [if_pos c0]; simp only [Int.toNat_natCast]
    have hN : m * n ≤ 144 := Nat.mul_le_mul hm.2 hn.2
    have vN := vb_bl (p := scale_Nearest.px W H l n m) (n := n) (m := m) (by omega) (by omega) (fun x y _ _ => near_pv hv n m x y)
    have vB := vb_bl (p := bxp W H l n m) (n := n) (m := m) (by omega) (by omega) (fun x y _ _ => box_pv hv (by omega) (by omega))
    have r1 := rbvalid_eq n m (scale_build.bl (scale_Nearest.px W H l n m) n (m * n)) (by rw [bl_len]; omega) k (by omega)
    have r2 := rbvalid_eq n m (scale_build.bl (bxp W H l n m) n (m * n)) (by rw [bl_len]; omega) k (by omega)
    rw [decide_eq_true vN] at r1
    rw [decide_eq_true vB] at r2
    rw [Nat.add_zero, compositorlaw10_ScaleUniform.l0, if_neg (by omega), Nearest_eq, Box_eq _ _ _ _ _ hb, eN, eB]
    simp only [Option.bind_some, if_true, r1, r2]
    exact un_end hv hn hm h k hk
  | succ d ih =>
    intro i hi' lo hi h k hk
    have ew : wrap64 ((i : Int) + 1) = ((i + 1 : Nat) : Int) := by clear ih h; unfold wrap64; omega
    have hd : k + (d + 1) + 1 = (k + d + 1) + 1 := by omega
    rw [hd, compositorlaw10_ScaleUniform.l0, if_pos (by omega), if_pos (by omega), ew]
    refine ih (i + 1) (by omega) ⟨mn lo.f0 (rd_T43 l i).f0, mn lo.f1 (rd_T43 l i).f1, mn lo.f2 (rd_T43 l i).f2, mn lo.f3 (rd_T43 l i).f3⟩ ⟨mx hi.f0 (rd_T43 l i).f0, mx hi.f1 (rd_T43 l i).f1, mx hi.f2 (rd_T43 l i).f2, mx hi.f3 (rd_T43 l i).f3⟩ ?_ k hk
    intro j hj
    have a0 := mn_spec lo.f0 (rd_T43 l i).f0
    have a1 := mn_spec lo.f1 (rd_T43 l i).f1
    have a2 := mn_spec lo.f2 (rd_T43 l i).f2
    have a3 := mn_spec lo.f3 (rd_T43 l i).f3
    have b0 := mx_spec hi.f0 (rd_T43 l i).f0
    have b1 := mx_spec hi.f1 (rd_T43 l i).f1
    have b2 := mx_spec hi.f2 (rd_T43 l i).f2
    have b3 := mx_spec hi.f3 (rd_T43 l i).f3
    by_cases hji : j = i
    · subst hji
      exact ⟨a0.2.1, b0.2.1, a1.2.1, b1.2.1, a2.2.1, b2.2.1, a3.2.1, b3.2.1⟩
    · obtain ⟨h0, h1, h2, h3, h4, h5, h6, h7⟩ := h j (by omega)
      exact ⟨Int.le_trans a0.1 h0, Int.le_trans h1 b0.1, Int.le_trans a1.1 h2, Int.le_trans h3 b1.1, Int.le_trans a2.1 h4, Int.le_trans h5 b2.1, Int.le_trans a3.1 h6, Int.le_trans h7 b3.1⟩
theorem ScaleUniform (x0 : S24) (x1 : Int) (x2 : Int) (ok0 : ((Lit.int .i64 x0.f0).wf = true) ∧ ((Lit.int .i64 x0.f1).wf = true) ∧ (x0.f2.length * 4 ≤ 140737488351232 ∧ x0.f2.length ≤ 9223372036854775807 ∧ ∀ y22 ∈ x0.f2, ((Lit.int .u8 y22.f0).wf = true) ∧ ((Lit.int .u8 y22.f1).wf = true) ∧ ((Lit.int .u8 y22.f2).wf = true) ∧ ((Lit.int .u8 y22.f3).wf = true))) (ok1 : (Lit.int .i64 x1).wf = true) (ok2 : (Lit.int .i64 x2).wf = true) :
    ∃ k, compositorlaw10_ScaleUniform.f k x0.f0 x0.f1 x0.f2 x1 x2 = some true := by
  refine ⟨4002 + x0.f2.length, ?_⟩
  have hb : B8 x0.f2 := ok0.2.2.2.2
  clear ok0 ok1 ok2
  generalize x0.f0 = W at *
  generalize x0.f1 = H at *
  generalize x0.f2 = l at *
  have hK : 4002 + l.length = (4000 + l.length + 1) + 1 := by omega
  have jt : compositorlaw10_ScaleUniform.j0 (4002 + l.length) x1 x2 true W H l = some true := by
    rw [hK, compositorlaw10_ScaleUniform.j0, if_pos rfl, example_holds _ (by omega)]
    rfl
  simp only [compositorlaw10_ScaleUniform.f, lsmall_eq, Option.bind_some, decide_eq_true_eq]
  by_cases hs : (l.length : Int) ≤ 150 ∧ (x1 ≤ 12 ∨ 256 < x1) ∧ (x2 ≤ 12 ∨ 256 < x2)
  · rw [if_pos hs, rbvalid_eq W H l (by omega) (4002 + l.length) (by omega), Option.bind_some]
    by_cases hv : VB W H l
    · rw [if_pos (decide_eq_true hv)]
      by_cases h1 : x1 < 1
      · rw [if_pos h1]; exact jt
      rw [if_neg h1]
      by_cases h2 : x1 > 12
      · rw [if_pos h2]; exact jt
      rw [if_neg h2]
      by_cases h3 : x2 < 1
      · rw [if_pos h3]; exact jt
      rw [if_neg h3]
      by_cases h4 : x2 > 12
      · rw [decide_eq_true h4]; exact jt
      rw [decide_eq_false h4]
      have hW := hv.1
      have hH := hv.2.1
      obtain ⟨n, rfl⟩ : ∃ a : Nat, x1 = a := ⟨x1.toNat, by omega⟩
      obtain ⟨m, rfl⟩ : ∃ a : Nat, x2 = a := ⟨x2.toNat, by omega⟩
      obtain ⟨W, rfl⟩ : ∃ a : Nat, W = a := ⟨W.toNat, by omega⟩
      obtain ⟨H, rfl⟩ : ∃ a : Nat, H = a := ⟨H.toNat, by omega⟩
      have hlen := vb_len hv
      simp only [Int.toNat_natCast] at hlen
      have hpos : 0 < H * W := Nat.mul_pos (by omega) (by omega)
      rw [hK, compositorlaw10_ScaleUniform.j0, if_neg (by simp), if_pos (by omega)]
      exact un_l0 hb (by omega) hv (by omega) (by omega) l.length 0 (by omega) (rd_T43 l 0) (rd_T43 l 0) (fun j hj => absurd hj (by omega)) 4000 (by omega)
    · rw [if_neg (by simpa using hv)]
      exact jt
  · rw [if_neg hs]
    exact jt

end Go.Proofs.Ythpmfhfnkgbkjaa.Pure
