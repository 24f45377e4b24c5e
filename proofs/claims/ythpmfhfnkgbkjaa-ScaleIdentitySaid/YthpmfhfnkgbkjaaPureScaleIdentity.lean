/-
  Plain laws (numbers and lists) for the statement ScaleIdentity: no program in sight.
-/
import Derived.Test.YthpmfhfnkgbkjaaAllx0
import Derived.Test.YthpmfhfnkgbkjaaAllx10
import Derived.Test.YthpmfhfnkgbkjaaAllx11
import Derived.Test.YthpmfhfnkgbkjaaAllx12
import Derived.Test.YthpmfhfnkgbkjaaAllx13
import Derived.Test.YthpmfhfnkgbkjaaAllx14
import Derived.Test.YthpmfhfnkgbkjaaAllx15
import Derived.Test.YthpmfhfnkgbkjaaAllx16
import Derived.Test.YthpmfhfnkgbkjaaAllx17
import Derived.Test.YthpmfhfnkgbkjaaAllx19
import Derived.Test.YthpmfhfnkgbkjaaAllx20
import Derived.Test.YthpmfhfnkgbkjaaAllx21
import Derived.Test.YthpmfhfnkgbkjaaAllx3
import Derived.Test.YthpmfhfnkgbkjaaAllx31
import Derived.Test.YthpmfhfnkgbkjaaAllx32
import Derived.Test.YthpmfhfnkgbkjaaAllx36
import Derived.Test.YthpmfhfnkgbkjaaAllx39
import Derived.Test.YthpmfhfnkgbkjaaAllx40
import Derived.Test.YthpmfhfnkgbkjaaAllx41
import Derived.Test.YthpmfhfnkgbkjaaAllx5
import Derived.Test.YthpmfhfnkgbkjaaAllx6
import Derived.Test.YthpmfhfnkgbkjaaAllx7
import Derived.Test.YthpmfhfnkgbkjaaAllx8
import Derived.Test.YthpmfhfnkgbkjaaAllx9
import Derived.Test.YthpmfhfnkgbkjaaAllx90
namespace Go.Proofs.Ythpmfhfnkgbkjaa.Pure
open Go.RowKit Go.Proofs.YthpmfhfnkgbkjaaW.PrintWords Go.Proofs.YthpmfhfnkgbkjaaW.PrintMore Go.Proofs.Ythpmfhfnkgbkjaa.All
set_option linter.unusedVariables false
set_option linter.unusedSimpArgs false
theorem i64 {x : Int} (h : (Lit.int .i64 x).wf = true) : -9223372036854775808 ≤ x ∧ x ≤ 9223372036854775807 := by
  simpa [Lit.wf, IntKind.min, IntKind.max, IntKind.signed, IntKind.bits] using h
theorem w64 {x : Int} (h : -9223372036854775808 ≤ x) (h' : x ≤ 9223372036854775807) : wrap64 x = x := by unfold wrap64; omega
/-- What holds with some fuel holds with more. -/
theorem fuel {α : Type} {f : Nat → Option α} (hm : ∀ k r, f k = some r → f (k + 1) = some r) {K : Nat} {r : α} (h : f K = some r) : ∀ k, K ≤ k → f k = some r := by
  intro k hk
  obtain ⟨j, rfl⟩ : ∃ j, k = K + j := ⟨k - K, by omega⟩
  clear hk
  induction j with
  | zero => exact h
  | succ j ih => exact hm _ _ ih
theorem example_holds : ∀ k, 200 ≤ k → compositorlaw10_exampleHolds.f k = some true :=
  fuel (f := fun k => compositorlaw10_exampleHolds.f k) (fun k r h => compositorlaw10_exampleHolds.mono k r h) (by decide +kernel)
theorem mx_spec (a b : Int) : a ≤ mx a b ∧ b ≤ mx a b ∧ (mx a b = a ∨ mx a b = b) := by unfold mx; split <;> omega
theorem mn_spec (a b : Int) : mn a b ≤ a ∧ mn a b ≤ b ∧ (mn a b = a ∨ mn a b = b) := by unfold mn; split <;> omega
/-- A valid pixel. -/
def PV (p : S43) : Prop := p.f0 ≤ p.f3 ∧ p.f1 ≤ p.f3 ∧ p.f2 ≤ p.f3
/-- A valid buffer. -/
def VB (W H : Int) (l : List S43) : Prop := (1 ≤ W ∧ W ≤ 256) ∧ (1 ≤ H ∧ H ≤ 256) ∧ (l.length : Int) = W * H ∧ ∀ p ∈ l, PV p
noncomputable instance (W H : Int) (l : List S43) : Decidable (VB W H l) := Classical.propDecidable _
def SZ (n : Int) : Prop := 1 ≤ n ∧ n ≤ 256
noncomputable instance (n : Int) : Decidable (SZ n) := Classical.propDecidable _
theorem ok_iff (p : S43) : buffer_Valid.ok p = true ↔ PV p := by
  have m0 := mn_spec p.f0 p.f3
  have m1 := mn_spec p.f1 p.f3
  have m2 := mn_spec p.f2 p.f3
  unfold buffer_Valid.ok PV
  simp only [Bool.and_eq_true, beq_iff_eq, and_true]
  omega
theorem bsize_eq (a : Int) : buffer_size.f a = some (decide (SZ a)) := by
  unfold buffer_size.f
  split <;> (refine congrArg some (Bool.eq_iff_iff.mpr ?_); simp only [decide_eq_true_eq, Bool.false_eq_true, false_iff]; unfold SZ; omega)
theorem size_eq (a : Int) : scale_size.f a = some (decide (SZ a)) := by
  unfold scale_size.f
  split <;> (refine congrArg some (Bool.eq_iff_iff.mpr ?_); simp only [decide_eq_true_eq, Bool.false_eq_true, false_iff]; unfold SZ; omega)
theorem sized_eq (a b : Int) : compositorref10_sized.f a b = some (decide (SZ a ∧ SZ b)) := by
  unfold compositorref10_sized.f
  repeat' split
  all_goals (refine congrArg some (Bool.eq_iff_iff.mpr ?_); simp only [decide_eq_true_eq, Bool.false_eq_true, false_iff]; unfold SZ; omega)
theorem prod_small {W H : Int} (hW : SZ W) (hH : SZ H) : wrap64 (W * H) = W * H ∧ 1 ≤ W * H ∧ W * H ≤ 65536 := by
  unfold SZ at hW hH
  have p1 := Int.mul_le_mul hW.2 hH.2 (by omega) (by omega : (0 : Int) ≤ 256)
  have p2 : 0 < W * H := Int.mul_pos (by omega) (by omega)
  refine ⟨?_, by omega, by omega⟩
  unfold wrap64; omega
theorem bvalid_eq (W H : Int) (l : List S43) : buffer_Valid.f W H l = some (decide (VB W H l)) := by
  simp only [buffer_Valid.f, bsize_eq, Option.bind_some, decide_eq_true_eq]
  by_cases hW : SZ W
  · by_cases hH : SZ H
    · have hp := prod_small hW hH
      rw [if_pos hW, if_pos hH, hp.1]
      by_cases hl : (l.length : Int) = W * H
      · rw [if_pos hl]
        refine congrArg some (Bool.eq_iff_iff.mpr ?_)
        rw [List.all_eq_true, decide_eq_true_eq]
        exact ⟨fun h => ⟨hW, hH, hl, fun p hp => (ok_iff p).mp (h p hp)⟩, fun h p hp => (ok_iff p).mpr (h.2.2.2 p hp)⟩
      · rw [if_neg hl, decide_eq_false (fun h => hl h.2.2.1)]
    · rw [if_pos hW, if_neg hH, decide_eq_false (fun h => hH h.2.1)]
  · rw [if_neg hW, decide_eq_false (fun h => hW h.1)]
theorem rd_at {l : List S43} {i : Nat} (h : i < l.length) : rd_T43 l (i : Int) = l[i] := by
  simp [rd_T43, List.getD_eq_getElem?_getD, List.getElem?_eq_getElem h]
theorem rvl (W H : Int) (l : List S43) (hl : l.length ≤ 65536) : ∀ d i, i + d = l.length → ∀ k, d + 1 ≤ k → ∀ b, (b = true ↔ ∀ p ∈ l.drop i, PV p) → compositorref10_Valid.l0 k i W H l = some b := by
  intro d
  induction d with
  | zero =>
    intro i hi k hk b hb
    obtain ⟨k, rfl⟩ : ∃ j, k = j + 1 := ⟨k - 1, by omega⟩
    rw [compositorref10_Valid.l0, if_neg (by omega)]
    have e : l.drop i = [] := List.drop_eq_nil_of_le (by omega)
    rw [e] at hb
    have : b = true := hb.mpr (fun p hp => by cases hp)
    rw [this]
  | succ d ih =>
    intro i hi k hk b hb
    obtain ⟨k, rfl⟩ : ∃ j, k = j + 1 := ⟨k - 1, by omega⟩
    have hlt : i < l.length := by omega
    rw [compositorref10_Valid.l0, if_pos (by omega), if_pos (by omega), rd_at hlt]
    have e : l.drop i = l[i] :: l.drop (i + 1) := List.drop_eq_getElem_cons hlt
    rw [e] at hb
    have ew : wrap64 ((i : Int) + 1) = ((i + 1 : Nat) : Int) := by unfold wrap64; omega
    rw [ew]
    have no : ¬ PV l[i] → some false = some b := fun hn => by
      cases b with
      | false => rfl
      | true => exact absurd (hb.mp rfl l[i] (List.mem_cons_self ..)) hn
    by_cases h0 : l[i].f0 > l[i].f3
    · rw [if_pos h0]; exact no (fun q => by unfold PV at q; omega)
    · rw [if_neg h0]
      by_cases h1 : l[i].f1 > l[i].f3
      · rw [if_pos h1]; exact no (fun q => by unfold PV at q; omega)
      · rw [if_neg h1]
        by_cases h2 : l[i].f2 > l[i].f3
        · rw [if_pos h2]; exact no (fun q => by unfold PV at q; omega)
        · rw [if_neg h2]
          refine ih (i + 1) (by omega) k (by omega) b (hb.trans ?_)
          have hp : PV l[i] := by unfold PV; omega
          constructor
          · intro h p hm; exact h p (List.mem_cons_of_mem _ hm)
          · intro h p hm
            rcases List.mem_cons.mp hm with rfl | hm
            · exact hp
            · exact h p hm
theorem rbvalid_eq (W H : Int) (l : List S43) (hl : l.length ≤ 600) : ∀ k, 700 ≤ k → compositorref10_Valid.f k W H l = some (decide (VB W H l)) := by
  intro k hk
  obtain ⟨k, rfl⟩ : ∃ j, k = j + 1 := ⟨k - 1, by omega⟩
  simp only [compositorref10_Valid.f, sized_eq, Option.bind_some, decide_eq_true_eq, compositorref10_Valid.j0, if_true]
  by_cases hs : SZ W ∧ SZ H
  · have hp := prod_small hs.1 hs.2
    rw [if_pos hs, hp.1]
    by_cases he : (l.length : Int) = W * H
    · have e : ((l.length : Int) != W * H) = false := by simpa using he
      rw [e, if_neg (by simp)]
      refine rvl W H l (by omega) l.length 0 (by omega) k (by omega) _ ?_
      rw [decide_eq_true_eq, List.drop_zero]
      exact ⟨fun h => h.2.2.2, fun h => ⟨hs.1, hs.2, he, h⟩⟩
    · have e : ((l.length : Int) != W * H) = true := by simpa using he
      rw [e, if_pos rfl, decide_eq_false (fun h => he h.2.2.1)]
  · rw [if_neg hs, decide_eq_false (fun h => hs ⟨h.1, h.2.1⟩)]
theorem same_l (W H : Int) (l : List S43) (hl : l.length ≤ 100000) : ∀ d i, i + d = l.length → ∀ k, d + 1 ≤ k → compositorref07_Same.l0 k i W H l W H l = some true := by
  intro d
  induction d with
  | zero =>
    intro i hi k hk
    obtain ⟨k, rfl⟩ : ∃ j, k = j + 1 := ⟨k - 1, by omega⟩
    rw [compositorref07_Same.l0, if_neg (by omega)]
  | succ d ih =>
    intro i hi k hk
    obtain ⟨k, rfl⟩ : ∃ j, k = j + 1 := ⟨k - 1, by omega⟩
    have ew : wrap64 ((i : Int) + 1) = ((i + 1 : Nat) : Int) := by unfold wrap64; omega
    rw [compositorref07_Same.l0, if_pos (by omega), if_pos (by omega), if_pos (by omega), ew]
    simp only [beq_self_eq_true, Bool.not_true, Bool.or_self, Bool.false_eq_true, if_false]
    exact ih (i + 1) (by omega) k (by omega)
/-- A buffer is the same as itself. -/
theorem same_refl (W H : Int) (l : List S43) (hl : l.length ≤ 100000) : ∀ k, l.length + 2 ≤ k → compositorlaw10_same.f k W H l W H l = some true := by
  intro k hk
  obtain ⟨k, rfl⟩ : ∃ j, k = j + 1 := ⟨k - 1, by omega⟩
  have h0 := same_l W H l hl l.length 0 (by omega) k (by omega)
  have h1 : compositorref07_Same.l0 k 0 W H l W H l = some true := h0
  simp only [compositorlaw10_same.f, compositorref07_Same.f, if_true, compositorref07_Same.j0, bne_self_eq_false, Bool.false_eq_true, if_false, h1, Option.bind_some]
/-- The error of a buffer and a size. -/
noncomputable def chk (W H : Int) (l : List S43) (n m : Int) : Int := if VB W H l then (if SZ n ∧ SZ m then 0 else 6) else 15
theorem check_eq (W H : Int) (l : List S43) (n m : Int) : scale_check.f W H l n m = some (chk W H l n m) := by
  simp only [scale_check.f, bvalid_eq, size_eq, Option.bind_some, decide_eq_true_eq, chk]
  by_cases h1 : VB W H l <;> by_cases h2 : SZ n <;> by_cases h3 : SZ m <;> simp [h1, h2, h3]
theorem chk0 {W H : Int} {l : List S43} {n m : Int} : chk W H l n m = 0 ↔ VB W H l ∧ SZ n ∧ SZ m := by
  unfold chk
  by_cases h1 : VB W H l <;> by_cases h2 : SZ n ∧ SZ m <;> simp [h1, h2]
/-- The loops of the reference build the same list. -/
theorem eta43 (p : S43) : (⟨p.f0, p.f1, p.f2, p.f3⟩ : S43) = p := rfl
theorem bl_len (p : Int → Int → S43) (w n : Nat) : (scale_build.bl p w n).length = n := by unfold scale_build.bl; simp
/-- Nearest, in closed form. -/
noncomputable def NR (W H : Int) (l : List S43) (n m : Int) : Int × Int × List S43 × Int := if chk W H l n m = 0 then (n, m, scale_build.bl (scale_Nearest.px W H l n m) n.toNat (m.toNat * n.toNat), 0) else (0, 0, [], chk W H l n m)
theorem Nearest_eq (W H : Int) (l : List S43) (n m : Int) : scale_Nearest.f W H l n m = some (NR W H l n m) := by
  unfold scale_Nearest.f NR
  rw [check_eq, Option.bind_some]
  split <;> rfl
theorem lsmall_eq (a b : Int) (l : List S43) (n m : Int) : compositorlaw10_small.f a b l n m = some (decide ((l.length : Int) ≤ 150 ∧ (n ≤ 12 ∨ 256 < n) ∧ (m ≤ 12 ∨ 256 < m))) := by
  unfold compositorlaw10_small.f
  repeat' split
  all_goals (refine congrArg some (Bool.eq_iff_iff.mpr ?_); simp only [decide_eq_true_eq, Bool.false_eq_true, false_iff, true_iff]; omega)
theorem same_self (p : Int × Int × List S43 × Int) (h : p.2.2.1.length ≤ 1500) (k : Nat) (hk : 2000 ≤ k) : compositorlaw10_same.f k p.1 p.2.1 p.2.2.1 p.1 p.2.1 p.2.2.1 = some true := same_refl _ _ _ (by omega) k (by omega)
theorem NR_len {W H : Int} {l : List S43} {n m : Int} (h1 : n ≤ 12 ∨ 256 < n) (h2 : m ≤ 12 ∨ 256 < m) : (NR W H l n m).2.2.1.length ≤ 144 := by
  unfold NR
  split
  · rename_i h
    obtain ⟨-, hn, hm⟩ := chk0.mp h
    unfold SZ at hn hm
    show (scale_build.bl _ _ _).length ≤ 144
    rw [bl_len]
    exact Nat.mul_le_mul (show m.toNat ≤ 12 by omega) (show n.toNat ≤ 12 by omega)
  · exact Nat.zero_le _
def sumN (f : Nat → Int) : Nat → Int
  | 0 => 0
  | n + 1 => sumN f n + f n
theorem sumN_congr {f g : Nat → Int} : ∀ n, (∀ i, i < n → f i = g i) → sumN f n = sumN g n
  | 0, _ => rfl
  | n + 1, h => by rw [sumN, sumN, sumN_congr n (fun i hi => h i (by omega)), h n (by omega)]
theorem sumN_zero {f : Nat → Int} : ∀ n, (∀ i, i < n → f i = 0) → sumN f n = 0
  | 0, _ => rfl
  | n + 1, h => by rw [sumN, sumN_zero n (fun i hi => h i (by omega)), h n (by omega)]; rfl
theorem sumN_mul (c : Int) (f : Nat → Int) : ∀ n, sumN (fun i => c * f i) n = c * sumN f n
  | 0 => by simp [sumN]
  | n + 1 => by rw [sumN, sumN, sumN_mul c f n, Int.mul_add]
theorem sumN_tail {f : Nat → Int} {i n : Nat} (h : i ≤ n) (hz : ∀ k, i ≤ k → k < n → f k = 0) : sumN f n = sumN f i := by
  obtain ⟨d, rfl⟩ : ∃ d, n = i + d := ⟨n - i, by omega⟩
  clear h
  induction d with
  | zero => rfl
  | succ d ih =>
    show sumN f (i + d) + f (i + d) = _
    rw [ih (fun k h1 h2 => hz k h1 (by omega)), hz (i + d) (by omega) (by omega), Int.add_zero]
theorem sumN_le {f g : Nat → Int} : ∀ n, (∀ i, i < n → f i ≤ g i) → sumN f n ≤ sumN g n
  | 0, _ => Int.le_refl _
  | n + 1, h => by
    rw [sumN, sumN]
    have := sumN_le n (fun i hi => h i (by omega))
    have := h n (by omega)
    omega
theorem sumN_bound {f : Nat → Int} {B : Int} : ∀ n : Nat, (∀ i, i < n → 0 ≤ f i ∧ f i ≤ B) → 0 ≤ sumN f n ∧ sumN f n ≤ n * B
  | 0, _ => by simp [sumN]
  | n + 1, h => by
    have h1 := sumN_bound n (fun i hi => h i (by omega))
    have h2 := h n (by omega)
    have e : ((n + 1 : Nat) : Int) * B = n * B + B := by rw [Int.natCast_add, Int.add_mul]; simp
    rw [sumN, e]
    omega
/-- The part of a pixel that another one covers. -/
def cw (i x m n : Int) : Int := mx (mn ((i + 1) * n) ((x + 1) * m) - mx (i * n) (x * m)) 0
theorem mul_small {a b : Int} (h1 : 0 ≤ a ∧ a ≤ 256) (h2 : 0 ≤ b ∧ b ≤ 256) : wrap64 (a * b) = a * b ∧ 0 ≤ a * b ∧ a * b ≤ 65536 := by
  have p1 := Int.mul_nonneg h1.1 h2.1
  have p2 : a * b ≤ 256 * 256 := Int.mul_le_mul h1.2 h2.2 h2.1 (by omega)
  refine ⟨?_, p1, by omega⟩
  unfold wrap64; omega
theorem cw_bound {i x m n : Int} (hn : 0 ≤ n ∧ n ≤ 256) : 0 ≤ cw i x m n ∧ cw i x m n ≤ 256 := by
  unfold cw
  have a1 := mx_spec (mn ((i + 1) * n) ((x + 1) * m) - mx (i * n) (x * m)) 0
  have a2 := mn_spec ((i + 1) * n) ((x + 1) * m)
  have a3 := mx_spec (i * n) (x * m)
  have e : (i + 1) * n = i * n + n := by rw [Int.add_mul, Int.one_mul]
  omega
theorem wt_eq {i x m n : Int} (hi : 0 ≤ i ∧ i < m) (hm : m ≤ 256) (hx : 0 ≤ x ∧ x < n) (hn : n ≤ 256) : scale_Box.wt i x m n = cw i x m n := by
  have e1 : wrap64 (i + 1) = i + 1 := by unfold wrap64; omega
  have e2 : wrap64 (x + 1) = x + 1 := by unfold wrap64; omega
  have p1 := mul_small (a := i + 1) (b := n) (by omega) (by omega)
  have p2 := mul_small (a := x + 1) (b := m) (by omega) (by omega)
  have p3 := mul_small (a := i) (b := n) (by omega) (by omega)
  have p4 := mul_small (a := x) (b := m) (by omega) (by omega)
  unfold scale_Box.wt cw
  rw [e1, e2, p1.1, p2.1, p3.1, p4.1]
  have a2 := mn_spec ((i + 1) * n) ((x + 1) * m)
  have a3 := mx_spec (i * n) (x * m)
  rw [w64 (by omega) (by omega)]
/-- The parts of a pixel add up to it. -/
theorem cw_sum {x m n : Nat} (hx : x < n) : sumN (fun i => cw i x m n) m = m := by
  have key : ∀ k : Nat, sumN (fun i => cw i x m n) k = mn (mx ((k : Int) * n) ((x : Int) * m)) (((x : Int) + 1) * m) - (x : Int) * m := by
    intro k
    have e2 : ((x : Int) + 1) * m = x * m + m := by rw [Int.add_mul, Int.one_mul]
    have p1 : 0 ≤ (x : Int) * m := Int.mul_nonneg (by omega) (by omega)
    induction k with
    | zero =>
      have e0 : ((0 : Nat) : Int) * n = 0 := by simp
      rw [e0]
      show (0 : Int) = _
      have a1 := mx_spec 0 ((x : Int) * m)
      have a2 := mn_spec (mx 0 ((x : Int) * m)) (((x : Int) + 1) * m)
      omega
    | succ k ih =>
      rw [sumN, ih]
      have e1 : ((k + 1 : Nat) : Int) * n = (k : Int) * n + n := by rw [Int.natCast_add, Int.add_mul]; simp
      have e3 : ((k : Int) + 1) * n = (k : Int) * n + n := by rw [Int.add_mul, Int.one_mul]
      unfold cw
      rw [e1, e3]
      have a1 := mx_spec ((k : Int) * n) ((x : Int) * m)
      have a2 := mn_spec (mx ((k : Int) * n) ((x : Int) * m)) (((x : Int) + 1) * m)
      have a3 := mx_spec ((k : Int) * n + n) ((x : Int) * m)
      have a4 := mn_spec (mx ((k : Int) * n + n) ((x : Int) * m)) (((x : Int) + 1) * m)
      have a5 := mn_spec ((k : Int) * n + n) (((x : Int) + 1) * m)
      have a6 := mx_spec (mn ((k : Int) * n + n) (((x : Int) + 1) * m) - mx ((k : Int) * n) ((x : Int) * m)) 0
      omega
  rw [key m]
  have e2 : ((x : Int) + 1) * m = x * m + m := by rw [Int.add_mul, Int.one_mul]
  have p2 : ((x : Int) + 1) * m ≤ n * m := Int.mul_le_mul_of_nonneg_right (by omega) (by omega)
  have p3 : (m : Int) * n = n * m := Int.mul_comm _ _
  have a1 := mx_spec ((m : Int) * n) ((x : Int) * m)
  have a2 := mn_spec (mx ((m : Int) * n) ((x : Int) * m)) (((x : Int) + 1) * m)
  omega
/-- What one pixel adds. -/
def tm (val : S43 → Int) (W H n m x y : Int) (l : List S43) (j i : Nat) : Int := cw i x W n * cw j y H m * val (rd_T43 l (j * W + i))
/-- The sum over all pixels. -/
def SM (val : S43 → Int) (W H : Nat) (n m x y : Int) (l : List S43) : Int := sumN (fun j => sumN (tm val W H n m x y l j) W) H
/-- A component of a pixel. -/
def U8 (val : S43 → Int) (l : List S43) : Prop := ∀ i, 0 ≤ val (rd_T43 l i) ∧ val (rd_T43 l i) ≤ 255
theorem tm_bound {val : S43 → Int} {W H n m x y : Int} {l : List S43} (hv : U8 val l) (hn : 0 ≤ n ∧ n ≤ 256) (hm : 0 ≤ m ∧ m ≤ 256) (j i : Nat) : 0 ≤ tm val W H n m x y l j i ∧ tm val W H n m x y l j i ≤ 16711680 := by
  unfold tm
  have h1 := cw_bound (i := i) (x := x) (m := W) hn
  have h2 := cw_bound (i := j) (x := y) (m := H) hm
  have h3 := hv (j * W + i)
  have p := mul_small h1 h2
  generalize cw i x W n * cw j y H m = k at *
  generalize val (rd_T43 l (j * W + i)) = v at *
  have q1 := Int.mul_nonneg p.2.1 h3.1
  have q2 : k * v ≤ 65536 * 255 := Int.mul_le_mul p.2.2 h3.2 h3.1 (by omega)
  exact ⟨q1, by omega⟩
theorem row_bound {val : S43 → Int} {W : Nat} {H n m x y : Int} {l : List S43} (hv : U8 val l) (hn : 0 ≤ n ∧ n ≤ 256) (hm : 0 ≤ m ∧ m ≤ 256) (hW : W ≤ 256) (j i : Nat) (hi : i ≤ W) :
    0 ≤ sumN (tm val W H n m x y l j) i ∧ sumN (tm val W H n m x y l j) i ≤ 4278190080 := by
  have h := sumN_bound (f := tm val W H n m x y l j) (B := 16711680) i (fun k _ => tm_bound hv hn hm j k)
  omega
theorem all_bound {val : S43 → Int} {W H : Nat} {n m x y : Int} {l : List S43} (hv : U8 val l) (hn : 0 ≤ n ∧ n ≤ 256) (hm : 0 ≤ m ∧ m ≤ 256) (hW : W ≤ 256) (hH : H ≤ 256) (j : Nat) (hj : j ≤ H) :
    0 ≤ sumN (fun j => sumN (tm val W H n m x y l j) W) j ∧ sumN (fun j => sumN (tm val W H n m x y l j) W) j ≤ 1095216660480 := by
  have h := sumN_bound (f := fun j => sumN (tm val W H n m x y l j) W) (B := 4278190080) j (fun k _ => row_bound hv hn hm hW k W (Nat.le_refl _))
  omega
/-- One step of a sum, in the program's words. -/
theorem st_eq {val : S43 → Int} {W H : Nat} {n m : Nat} {x y : Nat} {l : List S43} (hv : U8 val l) (hn : n ≤ 256) (hm : m ≤ 256) (hW : W ≤ 256) (hH : H ≤ 256) (hx : x < n) (hy : y < m) {j i : Nat} (hj : j < H) (hi : i < W) {s : Int} (hs : 0 ≤ s ∧ s ≤ 2000000000000) :
    wrap64 (s + wrap64 (wrap64 (cw i x W n * cw j y H m) * wrap64 (val (rd_T43 l (j * W + i))))) = s + tm val W H n m x y l j i := by
  have h1 := cw_bound (i := i) (x := x) (m := W) (n := n) (by omega)
  have h2 := cw_bound (i := j) (x := y) (m := H) (n := m) (by omega)
  have h3 := hv (j * W + i)
  have p := mul_small h1 h2
  have b := tm_bound (val := val) (W := W) (H := H) (n := n) (m := m) (x := x) (y := y) (l := l) hv (by omega) (by omega) j i
  have e1 : wrap64 (val (rd_T43 l (j * W + i))) = val (rd_T43 l (j * W + i)) := by unfold wrap64; omega
  have e2 : cw i x W n * cw j y H m * val (rd_T43 l (j * W + i)) = tm val W H n m x y l j i := rfl
  rw [p.1, e1, e2, w64 (x := tm val W H n m x y l j i) (by omega) (by omega), w64 (by omega) (by omega)]
/-- One component's row, and all rows. -/
def rowS (val : S43 → Int) (W n x kj j : Int) (l : List S43) : Nat → Int → Int → Int
  | 0, _, s => s
  | f + 1, i, s => if scale_Box.on i x W n then rowS val W n x kj j l f (i + 1) (wrap64 (s + wrap64 (wrap64 (scale_Box.wt i x W n * kj) * wrap64 (val (rd_T43 l (j * W + i)))))) else s
def allS (val : S43 → Int) (W H n m x y : Int) (l : List S43) : Nat → Int → Int → Int
  | 0, _, s => s
  | f + 1, j, s => if scale_Box.on j y H m then allS val W H n m x y l f (j + 1) (rowS val W n x (scale_Box.wt j y H m) j l (W - scale_Box.first x W n).toNat (scale_Box.first x W n) s) else s
theorem wrap_one (z : Int) : wrap64 (wrap64 z * wrap64 1) = wrap64 z := by
  have e : wrap64 1 = 1 := by unfold wrap64; omega
  rw [e, Int.mul_one]; unfold wrap64; omega
theorem row_c (W n x kj j : Int) (l : List S43) : ∀ f i a, (scale_Box.row W n x kj j l f i a) = ⟨rowS (·.f0) W n x kj j l f i a.s0, rowS (·.f1) W n x kj j l f i a.s1, rowS (·.f2) W n x kj j l f i a.s2, rowS (·.f3) W n x kj j l f i a.s3, rowS (fun _ => 1) W n x kj j l f i a.t⟩
  | 0, _, _ => rfl
  | f + 1, i, a => by
    simp only [scale_Box.row, rowS]
    by_cases h : scale_Box.on i x W n
    · simp only [h, if_true, row_c W n x kj j l f, scale_Box.step, wrap_one]
    · simp only [h, if_false]
theorem all_c (W H n m x y : Int) (l : List S43) : ∀ f j a, (scale_Box.all W H n m x y l f j a) = ⟨allS (·.f0) W H n m x y l f j a.s0, allS (·.f1) W H n m x y l f j a.s1, allS (·.f2) W H n m x y l f j a.s2, allS (·.f3) W H n m x y l f j a.s3, allS (fun _ => 1) W H n m x y l f j a.t⟩
  | 0, _, _ => rfl
  | f + 1, j, a => by
    simp only [scale_Box.all, allS]
    by_cases h : scale_Box.on j y H m
    · simp only [h, if_true, all_c W H n m x y l f, row_c]
    · simp only [h, if_false]
theorem on_iff {i x m n : Nat} (hm : m ≤ 256) (hn : n ≤ 256) (hi : i < m) (hx : x < n) : scale_Box.on i x m n ↔ (i : Int) * n < ((x : Int) + 1) * m := by
  unfold scale_Box.on
  have e2 : wrap64 ((x : Int) + 1) = x + 1 := by unfold wrap64; omega
  have p1 := mul_small (a := i) (b := n) (by omega) (by omega)
  have p2 := mul_small (a := (x : Int) + 1) (b := m) (by omega) (by omega)
  rw [e2, p1.1, p2.1]
  constructor
  · exact fun h => h.2
  · exact fun h => ⟨by omega, h⟩
/-- Behind the last covered pixel nothing is covered. -/
theorem cw_off {i x m n : Nat} (h : ¬ (i : Int) * n < ((x : Int) + 1) * m) {k : Nat} (hk : i ≤ k) : cw k x m n = 0 := by
  have h1 : (i : Int) * n ≤ k * n := Int.mul_le_mul_of_nonneg_right (by omega) (by omega)
  unfold cw
  have a2 := mn_spec (((k : Int) + 1) * n) (((x : Int) + 1) * m)
  have a3 := mx_spec ((k : Int) * n) ((x : Int) * m)
  have a1 := mx_spec (mn (((k : Int) + 1) * n) (((x : Int) + 1) * m) - mx ((k : Int) * n) ((x : Int) * m)) 0
  omega
theorem cw_before {x m n : Nat} (hn : 0 < n) {k : Nat} (hk : (k : Int) < scale_Box.first x m n) : cw k x m n = 0 := by
  unfold scale_Box.first at hk
  have h0 := Int.mul_ediv_add_emod ((x : Int) * m) n
  have h2 := Int.emod_nonneg ((x : Int) * m) (show (n : Int) ≠ 0 by omega)
  generalize (x : Int) * m / n = q at *
  have h1 : ((k : Int) + 1) * n ≤ q * n := Int.mul_le_mul_of_nonneg_right (by omega) (by omega)
  have e : (n : Int) * q = q * n := Int.mul_comm _ _
  unfold cw
  have a2 := mn_spec (((k : Int) + 1) * n) (((x : Int) + 1) * m)
  have a3 := mx_spec ((k : Int) * n) ((x : Int) * m)
  have a1 := mx_spec (mn (((k : Int) + 1) * n) (((x : Int) + 1) * m) - mx ((k : Int) * n) ((x : Int) * m)) 0
  omega
theorem rowS_eq {val : S43 → Int} {W H : Nat} {n m : Nat} {x y : Nat} {l : List S43} (hv : U8 val l) (hn : n ≤ 256) (hm : m ≤ 256) (hW : W ≤ 256) (hH : H ≤ 256) (hx : x < n) (hy : y < m) {j : Nat} (hj : j < H) :
    ∀ d i, i + d = W → ∀ s, 0 ≤ s → s + (sumN (tm val W H n m x y l j) W - sumN (tm val W H n m x y l j) i) ≤ 2000000000000 → rowS val W n x (scale_Box.wt j y H m) j l d i s = s + (sumN (tm val W H n m x y l j) W - sumN (tm val W H n m x y l j) i) := by
  intro d
  induction d with
  | zero =>
    intro i hi s _ _
    obtain rfl : i = W := by omega
    show s = _
    omega
  | succ d ih =>
    intro i hi s hs hb
    have hiW : i < W := by omega
    have b1 := row_bound (val := val) (H := H) (n := n) (m := m) (x := x) (y := y) (l := l) hv (by omega) (by omega) hW j
    have hstep : sumN (tm val W H n m x y l j) (i + 1) = sumN (tm val W H n m x y l j) i + tm val W H n m x y l j i := rfl
    have bt := tm_bound (val := val) (W := W) (H := H) (n := n) (m := m) (x := x) (y := y) (l := l) hv (by omega) (by omega) j i
    have hmono : sumN (tm val W H n m x y l j) (i + 1) ≤ sumN (tm val W H n m x y l j) W := by
      obtain ⟨e, rfl⟩ : ∃ e, W = i + 1 + e := ⟨W - (i + 1), by omega⟩
      clear ih hi hb b1 hstep bt
      suffices hh : ∀ e : Nat, ∀ W' : Nat, sumN (tm val W' H n m x y l j) (i + 1) ≤ sumN (tm val W' H n m x y l j) (i + 1 + e) from hh e _
      intro e W'
      induction e with
      | zero => exact Int.le_refl _
      | succ e ihe =>
        have := tm_bound (val := val) (W := W') (H := H) (n := n) (m := m) (x := x) (y := y) (l := l) hv (by omega) (by omega) j (i + 1 + e)
        show _ ≤ sumN (tm val W' H n m x y l j) (i + 1 + e) + tm val W' H n m x y l j (i + 1 + e)
        omega
    have on := on_iff (i := i) (x := x) hW hn hiW hx
    rw [rowS]
    by_cases ho : scale_Box.on i x W n
    · rw [if_pos ho, wt_eq (i := i) (x := x) (m := W) (n := n) (by omega) (by omega) (by omega) (by omega), wt_eq (i := j) (x := y) (m := H) (n := m) (by omega) (by omega) (by omega) (by omega)]
      rw [st_eq hv hn hm hW hH hx hy hj hiW (by omega)]
      have h := ih (i + 1) (by omega) (s + tm val W H n m x y l j i) (by omega) (by omega)
      rw [wt_eq (i := j) (x := y) (m := H) (n := m) (by omega) (by omega) (by omega) (by omega)] at h
      have e : ((i + 1 : Nat) : Int) = (i : Int) + 1 := by omega
      rw [e] at h
      rw [h]
      omega
    · rw [if_neg ho]
      have hz : sumN (tm val W H n m x y l j) W = sumN (tm val W H n m x y l j) i := sumN_tail (by omega) (fun k h1 h2 => by
        unfold tm
        rw [cw_off (fun q => ho (on.mpr q)) h1, Int.zero_mul, Int.zero_mul])
      rw [hz]; omega
theorem sumN_mono {f : Nat → Int} (h : ∀ i, 0 ≤ f i) {i n : Nat} (hi : i ≤ n) : sumN f i ≤ sumN f n := by
  obtain ⟨d, rfl⟩ : ∃ d, n = i + d := ⟨n - i, by omega⟩
  clear hi
  induction d with
  | zero => exact Int.le_refl _
  | succ d ih =>
    have := h (i + d)
    show _ ≤ sumN f (i + d) + f (i + d)
    omega
theorem first_le {x m n : Nat} (hn : n ≤ 256) (hm : 1 ≤ m ∧ m ≤ 256) (hx : x < n) : ∃ q : Nat, scale_Box.first x m n = q ∧ q < m := by
  have h := scale_Box.quo (x := x) (n := n) (W := m) (by omega) (by omega) (by omega) (by omega)
  exact ⟨(scale_Box.first x m n).toNat, by omega, by omega⟩
theorem rowS_full {val : S43 → Int} {W H : Nat} {n m : Nat} {x y : Nat} {l : List S43} (hv : U8 val l) (hn : n ≤ 256) (hm : m ≤ 256) (hW : 1 ≤ W ∧ W ≤ 256) (hH : H ≤ 256) (hx : x < n) (hy : y < m) {j : Nat} (hj : j < H) {s : Int} (h0 : 0 ≤ s) (hs : s ≤ 1100000000000) :
    rowS val W n x (scale_Box.wt j y H m) j l (W - scale_Box.first x W n).toNat (scale_Box.first x W n) s = s + sumN (tm val W H n m x y l j) W := by
  obtain ⟨q, hq, hqW⟩ := first_le hn hW hx
  have b1 := row_bound (val := val) (H := H) (n := n) (m := m) (x := x) (y := y) (l := l) hv (by omega) (by omega) hW.2 j W (Nat.le_refl _)
  have hz : sumN (tm val W H n m x y l j) q = 0 := sumN_zero q (fun k hk => by
    unfold tm
    rw [cw_before (by omega) (by rw [hq]; omega), Int.zero_mul, Int.zero_mul])
  have e : ((W : Int) - (q : Int)).toNat = W - q := by omega
  rw [hq, e, rowS_eq hv hn hm hW.2 hH hx hy hj (W - q) q (by omega) s h0 (by omega), hz]
  omega
theorem allS_eq {val : S43 → Int} {W H : Nat} {n m : Nat} {x y : Nat} {l : List S43} (hv : U8 val l) (hn : n ≤ 256) (hm : m ≤ 256) (hW : 1 ≤ W ∧ W ≤ 256) (hH : H ≤ 256) (hx : x < n) (hy : y < m) :
    ∀ d j, j + d = H → allS val W H n m x y l d j (sumN (fun j => sumN (tm val W H n m x y l j) W) j) = SM val W H n m x y l := by
  intro d
  induction d with
  | zero =>
    intro j hj
    obtain rfl : j = H := by omega
    rfl
  | succ d ih =>
    intro j hj
    have hjH : j < H := by omega
    have b := all_bound (val := val) (W := W) (H := H) (n := n) (m := m) (x := x) (y := y) (l := l) hv (by omega) (by omega) hW.2 hH j (by omega)
    have on := on_iff (i := j) (x := y) hH hm hjH hy
    rw [allS]
    by_cases ho : scale_Box.on j y H m
    · rw [if_pos ho, rowS_full hv hn hm hW hH hx hy hjH b.1 (by omega)]
      have h := ih (j + 1) (by omega)
      have e : ((j + 1 : Nat) : Int) = (j : Int) + 1 := by omega
      rw [e] at h
      exact h
    · rw [if_neg ho]
      refine (sumN_tail (by omega) (fun k h1 h2 => ?_)).symm
      refine sumN_zero W (fun i _ => ?_)
      unfold tm
      rw [cw_off (fun q => ho (on.mpr q)) h1, Int.mul_zero, Int.zero_mul]
theorem allS_full {val : S43 → Int} {W H : Nat} {n m : Nat} {x y : Nat} {l : List S43} (hv : U8 val l) (hn : n ≤ 256) (hm : m ≤ 256) (hW : 1 ≤ W ∧ W ≤ 256) (hH : 1 ≤ H ∧ H ≤ 256) (hx : x < n) (hy : y < m) :
    allS val W H n m x y l (H - scale_Box.first y H m).toNat (scale_Box.first y H m) 0 = SM val W H n m x y l := by
  obtain ⟨q, hq, hqH⟩ := first_le hm hH hy
  have hz : sumN (fun j => sumN (tm val W H n m x y l j) W) q = 0 := sumN_zero q (fun k hk => sumN_zero W (fun i _ => by
    unfold tm
    rw [show cw k y H m = 0 from cw_before (by omega) (by rw [hq]; omega), Int.mul_zero, Int.zero_mul]))
  have e : ((H : Int) - (q : Int)).toNat = H - q := by omega
  have h := allS_eq hv hn hm hW hH.2 hx hy (H - q) q (by omega)
  rw [hz] at h
  rw [hq, e, h]
/-- All weights together. -/
theorem SM_one {W H : Nat} {n m : Nat} {x y : Nat} {l : List S43} (hx : x < n) (hy : y < m) : SM (fun _ => 1) W H n m x y l = (W : Int) * H := by
  have h1 : ∀ j, sumN (tm (fun _ => 1) W H n m x y l j) W = (W : Int) * cw j y H m := by
    intro j
    have : sumN (tm (fun _ => 1) W H n m x y l j) W = sumN (fun i => cw j y H m * cw i x W n) W := sumN_congr W (fun i _ => by
      unfold tm
      rw [Int.mul_one, Int.mul_comm])
    rw [this, sumN_mul, cw_sum hx, Int.mul_comm]
  unfold SM
  rw [sumN_congr H (fun j _ => h1 j), sumN_mul, cw_sum hy]
theorem SM_le {val : S43 → Int} {W H : Nat} {n m : Nat} {x y : Nat} {l : List S43} {lo hi : Int} (hn : n ≤ 256) (hm : m ≤ 256) (hx : x < n) (hy : y < m)
    (h : ∀ j i : Nat, j < H → i < W → lo ≤ val (rd_T43 l ((j : Int) * W + i)) ∧ val (rd_T43 l ((j : Int) * W + i)) ≤ hi) : lo * ((W : Int) * H) ≤ SM val W H n m x y l ∧ SM val W H n m x y l ≤ hi * ((W : Int) * H) := by
  have hT := SM_one (W := W) (H := H) (l := l) hx hy
  have key : ∀ c : Int, SM (fun _ => c) W H n m x y l = c * ((W : Int) * H) := by
    intro c
    rw [← hT]
    unfold SM
    rw [← sumN_mul]
    refine sumN_congr H (fun j _ => ?_)
    rw [← sumN_mul]
    refine sumN_congr W (fun i _ => ?_)
    unfold tm
    rw [Int.mul_one, Int.mul_comm]
  have nn : ∀ j i : Nat, 0 ≤ cw i x W n * cw j y H m := fun j i => Int.mul_nonneg (cw_bound (by omega)).1 (cw_bound (by omega)).1
  constructor
  · rw [← key lo]
    exact sumN_le H (fun j hj => sumN_le W (fun i hi' => Int.mul_le_mul_of_nonneg_left (h j i hj hi').1 (nn j i)))
  · rw [← key hi]
    exact sumN_le H (fun j hj => sumN_le W (fun i hi' => Int.mul_le_mul_of_nonneg_left (h j i hj hi').2 (nn j i)))
/-- The rounded mean. -/
def av (s t : Int) : Int := (2 * s + t) / (2 * t)
theorem av_bound {s t lo hi : Int} (ht : 0 < t) (h1 : lo * t ≤ s) (h2 : s ≤ hi * t) : lo ≤ av s t ∧ av s t ≤ hi := by
  unfold av
  constructor
  · apply Int.le_ediv_of_mul_le (by omega)
    have e : lo * (2 * t) = 2 * (lo * t) := by grind
    omega
  · have : (2 * s + t) / (2 * t) < hi + 1 := by
      apply Int.ediv_lt_of_lt_mul (by omega)
      have e : (hi + 1) * (2 * t) = 2 * (hi * t) + 2 * t := by grind
      omega
    omega
theorem prog_av {s t : Int} (ht : 1 ≤ t ∧ t ≤ 65536) (h1 : 0 ≤ s) (h2 : s ≤ 255 * t) : scale_Box.av s t % 256 = av s t ∧ wrap64 (2 * t) = 2 * t := by
  have hb := av_bound (s := s) (t := t) (lo := 0) (hi := 255) (by omega) (by omega) h2
  have e1 : wrap64 (2 * t) = 2 * t := by unfold wrap64; omega
  have e2 : wrap64 (wrap64 (2 * s) + t) = 2 * s + t := by unfold wrap64; omega
  refine ⟨?_, e1⟩
  unfold scale_Box.av
  rw [e1, e2, Int.tdiv_eq_ediv_of_nonneg (by omega)]
  have e3 : (2 * s + t) / (2 * t) = av s t := rfl
  rw [e3, w64 (by omega) (by omega)]
  omega
/-- All components of a buffer's pixels are bytes. -/
def B8 (l : List S43) : Prop := ∀ p ∈ l, ((Lit.int .u8 p.f0).wf = true) ∧ ((Lit.int .u8 p.f1).wf = true) ∧ ((Lit.int .u8 p.f2).wf = true) ∧ ((Lit.int .u8 p.f3).wf = true)
theorem u8 {x : Int} (h : (Lit.int .u8 x).wf = true) : 0 ≤ x ∧ x ≤ 255 := by
  simpa [Lit.wf, IntKind.min, IntKind.max, IntKind.signed, IntKind.bits] using h
theorem rd_cases (l : List S43) (i : Int) : rd_T43 l i ∈ l ∨ rd_T43 l i = z43 := by
  unfold rd_T43
  by_cases h : i.toNat < l.length
  · left; rw [List.getD_eq_getElem?_getD, List.getElem?_eq_getElem h]; exact List.getElem_mem h
  · right; rw [List.getD_eq_getElem?_getD, List.getElem?_eq_none (by omega)]; rfl
theorem b8_u {l : List S43} (h : B8 l) : U8 (·.f0) l ∧ U8 (·.f1) l ∧ U8 (·.f2) l ∧ U8 (·.f3) l ∧ U8 (fun _ => 1) l := by
  refine ⟨?_, ?_, ?_, ?_, fun i => by show (0 : Int) ≤ 1 ∧ (1 : Int) ≤ 255; omega⟩ <;> intro i <;> rcases rd_cases l i with hi | hi
  · exact u8 (h _ hi).1
  · rw [hi]; decide
  · exact u8 (h _ hi).2.1
  · rw [hi]; decide
  · exact u8 (h _ hi).2.2.1
  · rw [hi]; decide
  · exact u8 (h _ hi).2.2.2
  · rw [hi]; decide
/-- Box's pixel, in closed form. -/
def bxp (W H : Nat) (l : List S43) (n m x y : Int) : S43 := ⟨av (SM (·.f0) W H n m x y l) ((W : Int) * H), av (SM (·.f1) W H n m x y l) ((W : Int) * H), av (SM (·.f2) W H n m x y l) ((W : Int) * H), av (SM (·.f3) W H n m x y l) ((W : Int) * H)⟩
theorem u8_le {val : S43 → Int} {l : List S43} (h : U8 val l) (W : Nat) : ∀ j i : Nat, 0 ≤ val (rd_T43 l ((j : Int) * W + i)) ∧ val (rd_T43 l ((j : Int) * W + i)) ≤ 255 := fun _ _ => h _
theorem wh_b {W H : Nat} (hW : 1 ≤ W ∧ W ≤ 256) (hH : 1 ≤ H ∧ H ≤ 256) : 1 ≤ (W : Int) * H ∧ (W : Int) * H ≤ 65536 := by
  have h1 := Nat.mul_le_mul hW.2 hH.2
  have h2 := Nat.mul_le_mul hW.1 hH.1
  have e : ((W * H : Nat) : Int) = (W : Int) * H := Int.natCast_mul W H
  omega
theorem acc_eq {W H : Nat} {n m : Nat} {x y : Nat} {l : List S43} (hb : B8 l) (hn : n ≤ 256) (hm : m ≤ 256) (hW : 1 ≤ W ∧ W ≤ 256) (hH : 1 ≤ H ∧ H ≤ 256) (hx : x < n) (hy : y < m) :
    scale_Box.acc W H n m x y l = ⟨SM (·.f0) W H n m x y l, SM (·.f1) W H n m x y l, SM (·.f2) W H n m x y l, SM (·.f3) W H n m x y l, (W : Int) * H⟩ := by
  obtain ⟨u0, u1, u2, u3, u4⟩ := b8_u hb
  unfold scale_Box.acc
  rw [all_c, allS_full u0 hn hm hW hH hx hy, allS_full u1 hn hm hW hH hx hy, allS_full u2 hn hm hW hH hx hy, allS_full u3 hn hm hW hH hx hy, allS_full u4 hn hm hW hH hx hy, SM_one hx hy]
theorem px_eq {W H : Nat} {n m : Nat} {x y : Nat} {l : List S43} (hb : B8 l) (hn : n ≤ 256) (hm : m ≤ 256) (hW : 1 ≤ W ∧ W ≤ 256) (hH : 1 ≤ H ∧ H ≤ 256) (hx : x < n) (hy : y < m) :
    scale_Box.px W H l n m x y = bxp W H l n m x y ∧ (wrap64 (2 * (scale_Box.acc W H n m x y l).t) != 0) = true := by
  obtain ⟨u0, u1, u2, u3, u4⟩ := b8_u hb
  have ht := wh_b hW hH
  have s0 := SM_le (val := (·.f0)) (lo := 0) (hi := 255) (W := W) (H := H) (l := l) hn hm hx hy (fun j i _ _ => u0 _)
  have s1 := SM_le (val := (·.f1)) (lo := 0) (hi := 255) (W := W) (H := H) (l := l) hn hm hx hy (fun j i _ _ => u1 _)
  have s2 := SM_le (val := (·.f2)) (lo := 0) (hi := 255) (W := W) (H := H) (l := l) hn hm hx hy (fun j i _ _ => u2 _)
  have s3 := SM_le (val := (·.f3)) (lo := 0) (hi := 255) (W := W) (H := H) (l := l) hn hm hx hy (fun j i _ _ => u3 _)
  unfold scale_Box.px bxp
  rw [acc_eq hb hn hm hW hH hx hy]
  rw [(prog_av ht (by omega) s0.2).1, (prog_av ht (by omega) s1.2).1, (prog_av ht (by omega) s2.2).1, (prog_av ht (by omega) s3.2).1]
  refine ⟨rfl, ?_⟩
  rw [(prog_av ht (by omega) s0.2).2, bne_iff_ne]
  omega
/-- Box, in closed form. -/
noncomputable def BX (W H : Int) (l : List S43) (n m : Int) : Int × Int × List S43 × Int := if chk W H l n m = 0 then (n, m, scale_build.bl (bxp W.toNat H.toNat l n m) n.toNat (m.toNat * n.toNat), 0) else (0, 0, [], chk W H l n m)
theorem bl_congr {p q : Int → Int → S43} {n m : Nat} (h : ∀ x y : Nat, x < n → y < m → p x y = q x y) : scale_build.bl p n (m * n) = scale_build.bl q n (m * n) := by
  unfold scale_build.bl
  refine List.map_congr_left (fun k hk => ?_)
  have hk := List.mem_range.mp hk
  have hn : 0 < n := by
    rcases Nat.eq_zero_or_pos n with rfl | h
    · rw [Nat.mul_zero] at hk; omega
    · exact h
  exact h _ _ (Nat.mod_lt _ hn) ((Nat.div_lt_iff_lt_mul hn).mpr hk)
theorem Box_eq (W H : Int) (l : List S43) (n m : Int) (hb : B8 l) : scale_Box.f W H l n m = some (BX W H l n m) := by
  unfold scale_Box.f BX
  rw [check_eq, Option.bind_some]
  by_cases h : chk W H l n m = 0
  · obtain ⟨hv, hn, hm⟩ := chk0.mp h
    obtain ⟨hW, hH, hl, -⟩ := hv
    unfold SZ at hn hm
    obtain ⟨n, rfl⟩ : ∃ a : Nat, n = a := ⟨n.toNat, by omega⟩
    obtain ⟨m, rfl⟩ : ∃ a : Nat, m = a := ⟨m.toNat, by omega⟩
    obtain ⟨W, rfl⟩ : ∃ a : Nat, W = a := ⟨W.toNat, by omega⟩
    obtain ⟨H, rfl⟩ : ∃ a : Nat, H = a := ⟨H.toNat, by omega⟩
    simp only [Int.toNat_natCast]
    have hok : scale_Box.ok W H n m l = true := by
      unfold scale_Box.ok
      refine List.all_eq_true.mpr (fun x hx => List.all_eq_true.mpr (fun y hy => ?_))
      have hx := List.mem_range.mp hx
      have hy := List.mem_range.mp hy
      exact (px_eq hb (by omega) (by omega) (by omega) (by omega) (by omega) (by omega)).2
    rw [if_pos h, if_pos h, if_pos hok]
    rw [bl_congr (fun x y hx hy => (px_eq (W := W) (H := H) (n := n) (m := m) hb (by omega) (by omega) (by omega) (by omega) hx hy).1)]
  · rw [if_neg h, if_neg h]
theorem BX_len {W H : Int} {l : List S43} {n m : Int} (h1 : n ≤ 12 ∨ 256 < n) (h2 : m ≤ 12 ∨ 256 < m) : (BX W H l n m).2.2.1.length ≤ 144 := by
  unfold BX
  split
  · rename_i h
    obtain ⟨-, hn, hm⟩ := chk0.mp h
    unfold SZ at hn hm
    show (scale_build.bl _ _ _).length ≤ 144
    rw [bl_len]
    exact Nat.mul_le_mul (show m.toNat ≤ 12 by omega) (show n.toNat ≤ 12 by omega)
  · exact Nat.zero_le _
/-- Enlarge, in closed form. -/
noncomputable def EN (W H : Int) (l : List S43) (k : Int) : Int × Int × List S43 × Int :=
  if VB W H l then (if k < 1 then (0, 0, [], 2) else if W * k ≤ 256 ∧ H * k ≤ 256 then (W * k, H * k, scale_build.bl (scale_Enlarge.px W l k) (W * k).toNat ((H * k).toNat * (W * k).toNat), 0) else (0, 0, [], 5)) else (0, 0, [], 15)
theorem enl_iff {W H k : Int} (hW : 1 ≤ W) (hH : 1 ≤ H) : ¬ k > 256 / mx W H ↔ W * k ≤ 256 ∧ H * k ≤ 256 ∨ k < 1 ∧ ¬ k > 256 / mx W H := by
  have hm := mx_spec W H
  generalize mx W H = M at *
  have h := Int.le_ediv_iff_mul_le (a := k) (b := 256) (c := M) (by omega)
  constructor
  · intro hk
    by_cases hk1 : k < 1
    · exact .inr ⟨hk1, hk⟩
    · left
      have h1 : k * M ≤ 256 := h.mp (by omega)
      have h2 : k * W ≤ k * M := Int.mul_le_mul_of_nonneg_left hm.1 (by omega)
      have h3 : k * H ≤ k * M := Int.mul_le_mul_of_nonneg_left hm.2.1 (by omega)
      rw [Int.mul_comm W, Int.mul_comm H]
      omega
  · rintro (⟨h1, h2⟩ | ⟨-, h1⟩)
    · rw [Int.mul_comm] at h1 h2
      have : k * M ≤ 256 := by rcases hm.2.2 with e | e <;> rw [e] <;> assumption
      have := h.mpr this
      omega
    · exact h1
theorem Enlarge_eq (W H : Int) (l : List S43) (k : Int) : scale_Enlarge.f W H l k = some (EN W H l k) := by
  unfold scale_Enlarge.f EN
  rw [bvalid_eq, Option.bind_some]
  by_cases hv : VB W H l
  · rw [if_pos (decide_eq_true hv), if_pos hv]
    by_cases hk : k < 1
    · rw [if_pos hk, if_pos hk]
    · rw [if_neg hk, if_neg hk]
      have h := enl_iff (W := W) (H := H) (k := k) hv.1.1 hv.2.1.1
      by_cases hc : W * k ≤ 256 ∧ H * k ≤ 256
      · rw [if_pos hc, if_neg (h.mpr (.inl hc))]
      · rw [if_neg hc, if_pos (Classical.byContradiction fun q => by rcases h.mp q with q | q; exact hc q; exact hk q.1)]
  · rw [if_neg (by simpa using hv), if_neg hv]
theorem ediv_lt {x k W : Nat} (hk : 1 ≤ k) (hx : x < W * k) : (x : Int) / k < W ∧ 0 ≤ (x : Int) / k := by
  have h : x / k < W := (Nat.div_lt_iff_lt_mul (by omega)).mpr hx
  have e : ((x / k : Nat) : Int) = (x : Int) / k := Int.natCast_ediv x k
  rw [← e]
  exact ⟨Int.ofNat_lt.mpr h, Int.natCast_nonneg _⟩
theorem EN_len {W H : Int} {l : List S43} {k : Int} : (EN W H l k).2.2.1.length ≤ 65536 := by
  unfold EN
  split
  · split
    · exact Nat.zero_le _
    · split
      · rename_i h
        show (scale_build.bl _ _ _).length ≤ 65536
        rw [bl_len]
        exact Nat.mul_le_mul (show (H * k).toNat ≤ 256 by omega) (show (W * k).toNat ≤ 256 by omega)
      · exact Nat.zero_le _
  · exact Nat.zero_le _
/-- Shrink, in closed form. -/
noncomputable def SH (W H : Int) (l : List S43) (k : Int) : Int × Int × List S43 × Int :=
  if VB W H l then (if k < 1 then (0, 0, [], 2) else if Int.tmod W k = 0 ∧ Int.tmod H k = 0 then BX W H l (wrap64 (Int.tdiv W k)) (wrap64 (Int.tdiv H k)) else (0, 0, [], 2)) else (0, 0, [], 15)
theorem Shrink_eq (W H : Int) (l : List S43) (k : Int) (hb : B8 l) : scale_Shrink.f W H l k = some (SH W H l k) := by
  unfold scale_Shrink.f SH
  rw [bvalid_eq, Option.bind_some, Box_eq _ _ _ _ _ hb]
  by_cases hv : VB W H l
  · rw [if_pos (decide_eq_true hv), if_pos hv]
    by_cases hk : k < 1
    · rw [if_pos hk, if_pos hk]
    · rw [if_neg hk, if_neg hk, if_neg (by omega)]
      by_cases h1 : Int.tmod W k = 0 <;> by_cases h2 : Int.tmod H k = 0 <;> simp [h1, h2]
  · rw [if_neg (by simpa using hv), if_neg hv]
theorem tdiv_le {a k : Int} (ha : 1 ≤ a ∧ a ≤ 256) (hk : 1 ≤ k) : 0 ≤ wrap64 (Int.tdiv a k) ∧ wrap64 (Int.tdiv a k) ≤ a := by
  rw [Int.tdiv_eq_ediv_of_nonneg (by omega)]
  have h1 : 0 ≤ a / k := Int.ediv_nonneg (by omega) (by omega)
  have h2 : a / k ≤ a := Int.ediv_le_self _ (by omega)
  rw [w64 (by omega) (by omega)]
  exact ⟨h1, h2⟩
theorem vb_len {W H : Int} {l : List S43} (hv : VB W H l) : H.toNat * W.toNat = l.length := by
  obtain ⟨hW, hH, hl, -⟩ := hv
  obtain ⟨W, rfl⟩ : ∃ a : Nat, W = a := ⟨W.toNat, by omega⟩
  obtain ⟨H, rfl⟩ : ∃ a : Nat, H = a := ⟨H.toNat, by omega⟩
  have : ((l.length : Nat) : Int) = ((W * H : Nat) : Int) := by rw [hl, Int.natCast_mul]
  simp only [Int.toNat_natCast]
  rw [Nat.mul_comm]; omega
theorem SH_len {W H : Int} {l : List S43} {k : Int} : (SH W H l k).2.2.1.length ≤ 65536 := by
  unfold SH BX
  split
  · split
    · exact Nat.zero_le _
    · split
      · split
        · rename_i h
          obtain ⟨-, hn, hm⟩ := chk0.mp h
          unfold SZ at hn hm
          show (scale_build.bl _ _ _).length ≤ 65536
          rw [bl_len]
          exact Nat.mul_le_mul (show (wrap64 (Int.tdiv H k)).toNat ≤ 256 by omega) (show (wrap64 (Int.tdiv W k)).toNat ≤ 256 by omega)
        · exact Nat.zero_le _
      · exact Nat.zero_le _
  · exact Nat.zero_le _
theorem SM_cst {W H : Nat} {n m : Nat} {x y : Nat} {l : List S43} (c : Int) (hx : x < n) (hy : y < m) : SM (fun _ => c) W H n m x y l = c * ((W : Int) * H) := by
  rw [← SM_one (W := W) (H := H) (l := l) hx hy]
  unfold SM
  rw [← sumN_mul]
  refine sumN_congr H (fun j _ => ?_)
  rw [← sumN_mul]
  refine sumN_congr W (fun i _ => ?_)
  unfold tm
  rw [Int.mul_one, Int.mul_comm]
theorem SM_const {val : S43 → Int} {W H : Nat} {n m : Nat} {x y : Nat} {l : List S43} {c : Int} (hx : x < n) (hy : y < m)
    (h : ∀ j i : Nat, j < H → i < W → cw i x W n ≠ 0 → cw j y H m ≠ 0 → val (rd_T43 l ((j : Int) * W + i)) = c) : SM val W H n m x y l = c * ((W : Int) * H) := by
  rw [← SM_cst (l := l) c hx hy]
  unfold SM
  refine sumN_congr H (fun j hj => sumN_congr W (fun i hi => ?_))
  unfold tm
  by_cases h1 : cw i x W n = 0
  · rw [h1, Int.zero_mul, Int.zero_mul, Int.zero_mul]
  · by_cases h2 : cw j y H m = 0
    · rw [h2, Int.mul_zero, Int.zero_mul, Int.zero_mul]
    · rw [h j i hj hi h1 h2]
theorem av_const {c t : Int} (ht : 0 < t) : av (c * t) t = c := by
  unfold av
  have e : 2 * (c * t) + t = t + 2 * t * c := by grind
  rw [e, Int.add_mul_ediv_left _ _ (by omega), Int.ediv_eq_zero_of_lt (by omega) (by omega)]
  omega
theorem bxp_const {W H : Nat} {n m : Nat} {x y : Nat} {l : List S43} {p : S43} (hW : 1 ≤ W) (hH : 1 ≤ H) (hx : x < n) (hy : y < m)
    (h : ∀ j i : Nat, j < H → i < W → cw i x W n ≠ 0 → cw j y H m ≠ 0 → rd_T43 l ((j : Int) * W + i) = p) : bxp W H l n m x y = p := by
  have ht : 0 < (W : Int) * H := Int.mul_pos (by omega) (by omega)
  unfold bxp
  rw [SM_const (val := (·.f0)) (c := p.f0) hx hy (fun j i a b c d => by rw [h j i a b c d]), SM_const (val := (·.f1)) (c := p.f1) hx hy (fun j i a b c d => by rw [h j i a b c d]), SM_const (val := (·.f2)) (c := p.f2) hx hy (fun j i a b c d => by rw [h j i a b c d]), SM_const (val := (·.f3)) (c := p.f3) hx hy (fun j i a b c d => by rw [h j i a b c d])]
  rw [av_const ht, av_const ht, av_const ht, av_const ht]
theorem cw_ne {i x m n : Nat} (h : cw i x m n ≠ 0) : i * n < (x + 1) * m ∧ x * m < (i + 1) * n := by
  have key : (i : Int) * n < ((x : Int) + 1) * m ∧ (x : Int) * m < ((i : Int) + 1) * n := by
    unfold cw at h
    have a2 := mn_spec (((i : Int) + 1) * n) (((x : Int) + 1) * m)
    have a3 := mx_spec ((i : Int) * n) ((x : Int) * m)
    have a1 := mx_spec (mn (((i : Int) + 1) * n) (((x : Int) + 1) * m) - mx ((i : Int) * n) ((x : Int) * m)) 0
    omega
  have e1 : ((i * n : Nat) : Int) = (i : Int) * n := Int.natCast_mul ..
  have e2 : (((x + 1) * m : Nat) : Int) = ((x : Int) + 1) * m := Int.natCast_mul ..
  have e3 : ((x * m : Nat) : Int) = (x : Int) * m := Int.natCast_mul ..
  have e4 : (((i + 1) * n : Nat) : Int) = ((i : Int) + 1) * n := Int.natCast_mul ..
  exact ⟨Int.ofNat_lt.mp (by rw [e1, e2]; exact key.1), Int.ofNat_lt.mp (by rw [e3, e4]; exact key.2)⟩
theorem cw_enl {i x W k : Nat} (hk : 1 ≤ k) (h : cw i x W ((W * k : Nat) : Int) ≠ 0) : i = x / k := by
  obtain ⟨h1, h2⟩ := cw_ne h
  have a1 : W * (i * k) < W * (x + 1) := by rw [Nat.mul_comm W (x + 1)]; calc W * (i * k) = i * (W * k) := by grind
    _ < _ := h1
  have a2 : W * x < W * ((i + 1) * k) := by rw [Nat.mul_comm W x]; calc x * W < (i + 1) * (W * k) := h2
    _ = _ := by grind
  have b1 := Nat.lt_of_mul_lt_mul_left a1
  have b2 := Nat.lt_of_mul_lt_mul_left a2
  exact (Nat.div_eq_of_lt_le (by omega) (by rw [Nat.succ_mul] at *; omega)).symm
theorem cw_shr {i x W k : Nat} (hk : 1 ≤ k) (h : cw i x ((W * k : Nat) : Int) W ≠ 0) : i / k = x := by
  obtain ⟨h1, h2⟩ := cw_ne h
  have a1 : W * i < W * ((x + 1) * k) := by rw [Nat.mul_comm W i]; calc i * W < (x + 1) * (W * k) := h1
    _ = _ := by grind
  have a2 : W * (x * k) < W * (i + 1) := by rw [Nat.mul_comm W (i + 1)]; calc W * (x * k) = x * (W * k) := by grind
    _ < _ := h2
  have b1 := Nat.lt_of_mul_lt_mul_left a1
  have b2 := Nat.lt_of_mul_lt_mul_left a2
  exact Nat.div_eq_of_lt_le (by omega) (by omega)
theorem bl_get (p : Int → Int → S43) (n N : Nat) {k : Nat} (h : k < N) : rd_T43 (scale_build.bl p n N) (k : Int) = p ((k % n : Nat) : Int) ((k / n : Nat) : Int) := by
  rw [rd_at (by rw [bl_len]; exact h)]
  simp [scale_build.bl]
theorem idx_lt {x y n m : Nat} (hx : x < n) (hy : y < m) : y * n + x < m * n := by
  have h : (y + 1) * n ≤ m * n := Nat.mul_le_mul_right n (by omega)
  rw [Nat.succ_mul] at h
  omega
theorem rd_bl (p : Int → Int → S43) {x y n m : Nat} (hx : x < n) (hy : y < m) : rd_T43 (scale_build.bl p n (m * n)) ((y : Int) * n + x) = p x y := by
  have e : (y : Int) * n + x = ((y * n + x : Nat) : Int) := by rw [Int.natCast_add, Int.natCast_mul]
  have e1 : (y * n + x) % n = x := by rw [Nat.add_comm, Nat.add_mul_mod_self_right, Nat.mod_eq_of_lt hx]
  have e2 : (y * n + x) / n = y := by rw [Nat.add_comm, Nat.add_mul_div_right _ _ (by omega), Nat.div_eq_of_lt hx]; omega
  rw [e, bl_get p n _ (idx_lt hx hy), e1, e2]
theorem bl_id {p : Int → Int → S43} {n m : Nat} {l : List S43} (hl : l.length = m * n) (h : ∀ x y : Nat, x < n → y < m → p x y = rd_T43 l ((y : Int) * n + x)) : scale_build.bl p n (m * n) = l := by
  refine List.ext_getElem (by rw [bl_len, hl]) (fun k h1 h2 => ?_)
  rw [bl_len] at h1
  have hn : 0 < n := by
    rcases Nat.eq_zero_or_pos n with rfl | h
    · rw [Nat.mul_zero] at h1; omega
    · exact h
  have q := h (k % n) (k / n) (Nat.mod_lt _ hn) ((Nat.div_lt_iff_lt_mul hn).mpr h1)
  have e : ((k / n : Nat) : Int) * n + ((k % n : Nat) : Int) = (k : Int) := by
    rw [← Int.natCast_mul, ← Int.natCast_add, Nat.mul_comm, Nat.div_add_mod]
  rw [e, rd_at h2] at q
  have g := bl_get p n (m * n) h1
  rw [rd_at (by rw [bl_len]; exact h1)] at g
  rw [g, q]
theorem near_idx (x W n : Nat) : (2 * (x : Int) + 1) * W / (2 * n) = (((2 * x + 1) * W / (2 * n) : Nat) : Int) := by
  rw [Int.natCast_ediv, Int.natCast_mul, Int.natCast_mul, Int.natCast_add, Int.natCast_mul]
  rfl
theorem half (x : Nat) {k : Nat} (hk : 1 ≤ k) : (2 * x + 1) / (2 * k) = x / k := by
  rw [← Nat.div_div_eq_div_mul]
  have : (2 * x + 1) / 2 = x := by omega
  rw [this]
theorem near_enl {x W k : Nat} (hW : 1 ≤ W) (hk : 1 ≤ k) : (2 * x + 1) * W / (2 * (W * k)) = x / k := by
  have e : 2 * (W * k) = 2 * k * W := by grind
  rw [e, Nat.mul_div_mul_right _ _ (by omega), half x hk]
theorem near_shr {x W k : Nat} (hW : 1 ≤ W) (hk : 1 ≤ k) (hx : x < W) : ((2 * x + 1) * (W * k) / (2 * W)) / k = x ∧ (2 * x + 1) * (W * k) / (2 * W) < W * k := by
  have e : (2 * x + 1) * (W * k) = (2 * (x * k) + k) * W := by grind
  rw [e, Nat.mul_div_mul_right _ _ (by omega)]
  have h1 : (2 * (x * k) + k) / 2 = x * k + k / 2 := by omega
  rw [h1]
  have h2 : (x + 1) * k ≤ W * k := Nat.mul_le_mul_right k (by omega)
  rw [Nat.succ_mul] at h2
  have h3 : k / 2 < k := by omega
  refine ⟨?_, by omega⟩
  rw [Nat.add_comm, Nat.add_mul_div_right _ _ (by omega), Nat.div_eq_of_lt h3]
  omega
/-- The enlarged pixels. -/
def EL (W H k : Nat) (l : List S43) : List S43 := scale_build.bl (scale_Enlarge.px W l k) (W * k) (H * k * (W * k))
theorem EL_len (W H k : Nat) (l : List S43) : (EL W H k l).length = H * k * (W * k) := bl_len ..
theorem EL_rd {W H k : Nat} {l : List S43} {i j : Nat} (hi : i < W * k) (hj : j < H * k) : rd_T43 (EL W H k l) ((j : Int) * ((W * k : Nat) : Int) + i) = rd_T43 l (((j / k : Nat) : Int) * W + ((i / k : Nat) : Int)) := by
  unfold EL
  rw [rd_bl _ hi hj]
  unfold scale_Enlarge.px
  rw [← Int.natCast_ediv, ← Int.natCast_ediv]
/-- A whole factor, and sizes within the limits. -/
def FK (W H k : Nat) (l : List S43) : Prop := 1 ≤ W ∧ 1 ≤ H ∧ 1 ≤ k ∧ W * k ≤ 256 ∧ H * k ≤ 256 ∧ l.length = H * W
theorem bx_enl {W H k : Nat} {l : List S43} (h : FK W H k l) : scale_build.bl (bxp W H l ((W * k : Nat) : Int) ((H * k : Nat) : Int)) (W * k) (H * k * (W * k)) = EL W H k l := by
  obtain ⟨hW, hH, hk, -, -, hl⟩ := h
  unfold EL
  refine bl_congr (fun x y hx hy => ?_)
  refine bxp_const hW hH hx hy (fun j i hj hi h1 h2 => ?_)
  rw [cw_enl hk h1, cw_enl hk h2]
  unfold scale_Enlarge.px
  rw [← Int.natCast_ediv, ← Int.natCast_ediv]
theorem bx_shr {W H k : Nat} {l : List S43} (h : FK W H k l) : scale_build.bl (bxp (W * k) (H * k) (EL W H k l) W H) W (H * W) = l := by
  obtain ⟨hW, hH, hk, -, -, hl⟩ := h
  refine bl_id hl (fun x y hx hy => ?_)
  refine bxp_const (Nat.mul_pos hW hk) (Nat.mul_pos hH hk) hx hy (fun j i hj hi h1 h2 => ?_)
  rw [EL_rd hi hj, cw_shr hk h1, cw_shr hk h2]
theorem nr_enl {W H k : Nat} {l : List S43} (h : FK W H k l) : scale_build.bl (scale_Nearest.px W H l ((W * k : Nat) : Int) ((H * k : Nat) : Int)) (W * k) (H * k * (W * k)) = EL W H k l := by
  obtain ⟨hW, hH, hk, -, -, hl⟩ := h
  unfold EL
  refine bl_congr (fun x y hx hy => ?_)
  unfold scale_Nearest.px scale_Enlarge.px
  rw [near_idx, near_idx, near_enl hW hk, near_enl hH hk, ← Int.natCast_ediv, ← Int.natCast_ediv]
theorem nr_shr {W H k : Nat} {l : List S43} (h : FK W H k l) : scale_build.bl (scale_Nearest.px ((W * k : Nat) : Int) ((H * k : Nat) : Int) (EL W H k l) W H) W (H * W) = l := by
  obtain ⟨hW, hH, hk, -, -, hl⟩ := h
  refine bl_id hl (fun x y hx hy => ?_)
  have a := near_shr hW hk hx
  have b := near_shr hH hk hy
  unfold scale_Nearest.px
  rw [near_idx, near_idx, EL_rd a.2 b.2, a.1, b.1]
theorem EL_one {W H : Nat} {l : List S43} (hl : l.length = H * W) : EL W H 1 l = l := by
  unfold EL
  simp only [Nat.mul_one]
  refine bl_id hl (fun x y hx hy => ?_)
  unfold scale_Enlarge.px
  simp
theorem bl_mem {p : Int → Int → S43} {n N : Nat} {q : S43} (h : q ∈ scale_build.bl p n N) : ∃ x y : Nat, q = p x y := by
  unfold scale_build.bl at h
  obtain ⟨k, -, rfl⟩ := List.mem_map.mp h
  exact ⟨_, _, rfl⟩
theorem EL_mem {W H k : Nat} {l : List S43} {q : S43} (h : q ∈ EL W H k l) : q ∈ l ∨ q = z43 := by
  obtain ⟨x, y, rfl⟩ := bl_mem h
  exact rd_cases l _
theorem vb_EL {W H k : Nat} {l : List S43} (h : FK W H k l) (hv : VB W H l) : VB ((W * k : Nat) : Int) ((H * k : Nat) : Int) (EL W H k l) := by
  obtain ⟨hW, hH, hk, h1, h2, hl⟩ := h
  have a := Nat.mul_pos hW hk
  have b := Nat.mul_pos hH hk
  refine ⟨by omega, by omega, ?_, fun p hp => ?_⟩
  · rw [EL_len, Nat.mul_comm (H * k), Int.natCast_mul]
  · rcases EL_mem hp with hp | rfl
    · exact hv.2.2.2 p hp
    · unfold PV z43; decide
theorem b8_EL {W H k : Nat} {l : List S43} (hb : B8 l) : B8 (EL W H k l) := by
  intro p hp
  rcases EL_mem hp with hp | rfl
  · exact hb p hp
  · decide
theorem fk_sz {W H k : Nat} {l : List S43} (h : FK W H k l) : SZ ((W * k : Nat) : Int) ∧ SZ ((H * k : Nat) : Int) ∧ SZ (W : Int) ∧ SZ (H : Int) := by
  obtain ⟨hW, hH, hk, h1, h2, hl⟩ := h
  have a := Nat.mul_pos hW hk
  have b := Nat.mul_pos hH hk
  have c := Nat.le_mul_of_pos_right W hk
  have d := Nat.le_mul_of_pos_right H hk
  unfold SZ
  omega
theorem EN_k {W H k : Nat} {l : List S43} (h : FK W H k l) (hv : VB W H l) : EN W H l k = (((W * k : Nat) : Int), ((H * k : Nat) : Int), EL W H k l, 0) := by
  obtain ⟨hW, hH, hk, h1, h2, hl⟩ := h
  unfold EN EL
  rw [if_pos hv, if_neg (by omega), ← Int.natCast_mul, ← Int.natCast_mul, if_pos (by omega)]
  simp only [Int.toNat_natCast]
theorem NR_enl {W H k : Nat} {l : List S43} (h : FK W H k l) (hv : VB W H l) : NR W H l ((W * k : Nat) : Int) ((H * k : Nat) : Int) = (((W * k : Nat) : Int), ((H * k : Nat) : Int), EL W H k l, 0) := by
  have z := fk_sz h
  unfold NR
  rw [if_pos (chk0.mpr ⟨hv, z.1, z.2.1⟩)]
  simp only [Int.toNat_natCast]
  rw [nr_enl h]
theorem BX_enl {W H k : Nat} {l : List S43} (h : FK W H k l) (hv : VB W H l) : BX W H l ((W * k : Nat) : Int) ((H * k : Nat) : Int) = (((W * k : Nat) : Int), ((H * k : Nat) : Int), EL W H k l, 0) := by
  have z := fk_sz h
  unfold BX
  rw [if_pos (chk0.mpr ⟨hv, z.1, z.2.1⟩)]
  simp only [Int.toNat_natCast]
  rw [bx_enl h]
theorem NR_shr {W H k : Nat} {l : List S43} (h : FK W H k l) (hv : VB W H l) : NR ((W * k : Nat) : Int) ((H * k : Nat) : Int) (EL W H k l) W H = ((W : Int), (H : Int), l, 0) := by
  have z := fk_sz h
  unfold NR
  rw [if_pos (chk0.mpr ⟨vb_EL h hv, z.2.2.1, z.2.2.2⟩)]
  simp only [Int.toNat_natCast]
  rw [nr_shr h]
theorem BX_shr {W H k : Nat} {l : List S43} (h : FK W H k l) (hv : VB W H l) : BX ((W * k : Nat) : Int) ((H * k : Nat) : Int) (EL W H k l) W H = ((W : Int), (H : Int), l, 0) := by
  have z := fk_sz h
  unfold BX
  rw [if_pos (chk0.mpr ⟨vb_EL h hv, z.2.2.1, z.2.2.2⟩)]
  simp only [Int.toNat_natCast]
  rw [bx_shr h]
theorem tdiv_k {W k : Nat} (hk : 1 ≤ k) (hW : W ≤ 256) : Int.tmod ((W * k : Nat) : Int) k = 0 ∧ wrap64 (Int.tdiv ((W * k : Nat) : Int) k) = W := by
  rw [Int.tmod_eq_emod_of_nonneg (by omega), Int.tdiv_eq_ediv_of_nonneg (by omega), ← Int.natCast_ediv, ← Int.natCast_emod, Nat.mul_mod_left, Nat.mul_div_cancel _ (by omega)]
  refine ⟨rfl, ?_⟩
  unfold wrap64; omega
theorem SH_k {W H k : Nat} {l : List S43} (h : FK W H k l) (hv : VB W H l) : SH ((W * k : Nat) : Int) ((H * k : Nat) : Int) (EL W H k l) k = ((W : Int), (H : Int), l, 0) := by
  have z := fk_sz h
  have hk := h.2.2.1
  have a := tdiv_k (W := W) hk (by have := z.2.2.1.2; omega)
  have b := tdiv_k (W := H) hk (by have := z.2.2.2.2; omega)
  unfold SH
  rw [if_pos (vb_EL h hv), if_neg (by omega), if_pos ⟨a.1, b.1⟩, a.2, b.2, BX_shr h hv]
theorem fk_one {W H : Nat} {l : List S43} (hv : VB W H l) : FK W H 1 l := by
  have e := vb_len hv
  simp only [Int.toNat_natCast] at e
  obtain ⟨hW, hH, -, -⟩ := hv
  exact ⟨by omega, by omega, by omega, by omega, by omega, e.symm⟩
theorem NR_id {W H : Nat} {l : List S43} (hv : VB W H l) : NR W H l W H = ((W : Int), (H : Int), l, 0) := by
  have h := NR_enl (fk_one hv) hv
  simp only [Nat.mul_one, EL_one (fk_one hv).2.2.2.2.2] at h
  exact h
theorem BX_id {W H : Nat} {l : List S43} (hv : VB W H l) : BX W H l W H = ((W : Int), (H : Int), l, 0) := by
  have h := BX_enl (fk_one hv) hv
  simp only [Nat.mul_one, EL_one (fk_one hv).2.2.2.2.2] at h
  exact h
theorem EN_id {W H : Nat} {l : List S43} (hv : VB W H l) : EN W H l 1 = ((W : Int), (H : Int), l, 0) := by
  have h := EN_k (fk_one hv) hv
  simp only [Nat.mul_one, EL_one (fk_one hv).2.2.2.2.2] at h
  exact h
theorem SH_id {W H : Nat} {l : List S43} (hv : VB W H l) : SH W H l 1 = ((W : Int), (H : Int), l, 0) := by
  have h := SH_k (fk_one hv) hv
  simp only [Nat.mul_one, EL_one (fk_one hv).2.2.2.2.2] at h
  exact h
/-- A rectangle with a pixel. -/
def NE (a b c d : Int) : Prop := -16384 ≤ a ∧ a ≤ 16384 ∧ -16384 ≤ b ∧ b ≤ 16384 ∧ -16384 ≤ c ∧ c ≤ 16384 ∧ -16384 ≤ d ∧ d ≤ 16384 ∧ a < c ∧ b < d
noncomputable instance (a b c d : Int) : Decidable (NE a b c d) := Classical.propDecidable _
def HAS (a b c d x y : Int) : Prop := NE a b c d ∧ a ≤ x ∧ x < c ∧ b ≤ y ∧ y < d
noncomputable instance (a b c d x y : Int) : Decidable (HAS a b c d x y) := Classical.propDecidable _
def WIN (a b c d a' b' c' d' : Int) : Prop := NE a b c d → NE a' b' c' d' ∧ a' ≤ a ∧ b' ≤ b ∧ c ≤ c' ∧ d ≤ d'
noncomputable instance (a b c d a' b' c' d' : Int) : Decidable (WIN a b c d a' b' c' d') := Classical.propDecidable _
def VA (a b c d : Int) : Prop := -16384 ≤ a ∧ a ≤ 16384 ∧ -16384 ≤ b ∧ b ≤ 16384 ∧ -16384 ≤ c ∧ c ≤ 16384 ∧ -16384 ≤ d ∧ d ≤ 16384
noncomputable instance (a b c d : Int) : Decidable (VA a b c d) := Classical.propDecidable _
theorem not_ne0 : ¬ NE 0 0 0 0 := by unfold NE; omega
theorem v1 (a : Int) : rect_valid.f a = some (decide (-16384 ≤ a ∧ a ≤ 16384)) := by
  unfold rect_valid.f; split <;> simp <;> omega
theorem rv1 (a : Int) : compositorref04_coordinate.f a = some (decide (-16384 ≤ a ∧ a ≤ 16384)) := by
  unfold compositorref04_coordinate.f; split <;> simp <;> omega
theorem valid_eq (a b c d : Int) : rect_Valid.f a b c d = some (decide (VA a b c d)) := by
  simp only [rect_Valid.f, v1, Option.bind_some, decide_eq_true_eq]
  repeat' split
  all_goals (refine congrArg some (Bool.eq_iff_iff.mpr ?_); simp only [decide_eq_true_eq, Bool.false_eq_true, iff_true, iff_false, false_iff, true_iff] at *; (try simp only [VA, NE, HAS, WIN] at *); first | omega | (constructor <;> (intro _; omega)) | (intro _; omega) | skip)
theorem rvalid_eq (a b c d : Int) : compositorref04_Valid.f a b c d = some (decide (VA a b c d)) := by
  simp only [compositorref04_Valid.f, rv1, Option.bind_some, decide_eq_true_eq]
  repeat' split
  all_goals (refine congrArg some (Bool.eq_iff_iff.mpr ?_); simp only [decide_eq_true_eq, Bool.false_eq_true, iff_true, iff_false, false_iff, true_iff] at *; (try simp only [VA, NE, HAS, WIN] at *); first | omega | (constructor <;> (intro _; omega)) | (intro _; omega) | skip)
theorem empty_eq (a b c d : Int) : rect_Empty.f a b c d = some (decide (¬ NE a b c d)) := by
  simp only [rect_Empty.f, valid_eq, Option.bind_some, decide_eq_true_eq]
  repeat' split
  all_goals (refine congrArg some (Bool.eq_iff_iff.mpr ?_); simp only [decide_eq_true_eq, Bool.false_eq_true, iff_true, iff_false, false_iff, true_iff] at *; (try simp only [VA, NE, HAS, WIN] at *); first | omega | (constructor <;> (intro _; omega)) | (intro _; omega) | skip)
theorem rempty_eq (a b c d : Int) : compositorref04_Empty.f a b c d = some (decide (¬ NE a b c d)) := by
  simp only [compositorref04_Empty.f, rvalid_eq, Option.bind_some, decide_eq_true_eq]
  repeat' split
  all_goals (refine congrArg some (Bool.eq_iff_iff.mpr ?_); simp only [decide_eq_true_eq, Bool.false_eq_true, iff_true, iff_false, false_iff, true_iff] at *; (try simp only [VA, NE, HAS, WIN] at *); first | omega | (constructor <;> (intro _; omega)) | (intro _; omega) | skip)
/-- The canonical form. -/
noncomputable def can (a b c d : Int) : Int × Int × Int × Int := if NE a b c d then (a, b, c, d) else (0, 0, 0, 0)
theorem can_eq (a b c d : Int) : rect_Canonical.f a b c d = some (can a b c d) := by
  simp only [rect_Canonical.f, empty_eq, Option.bind_some, decide_eq_true_eq, can]
  by_cases h : NE a b c d <;> simp [h]
theorem rcan_eq (a b c d : Int) : compositorref04_Canonical.f a b c d = some (can a b c d) := by
  simp only [compositorref04_Canonical.f, rempty_eq, Option.bind_some, decide_eq_true_eq, can]
  by_cases h : NE a b c d <;> simp [h]
/-- The common pixels. -/
noncomputable def isc (a b c d a' b' c' d' : Int) : Int × Int × Int × Int :=
  if NE a b c d ∧ NE a' b' c' d' then can (mx a a') (mx b b') (mn c c') (mn d d') else (0, 0, 0, 0)
/-- The number of pixels. -/
noncomputable def ar (a b c d : Int) : Int := if NE a b c d then (c - a) * (d - b) else 0
theorem ar_range {a b c d : Int} (h : NE a b c d) : 0 < (c - a) * (d - b) ∧ (c - a) * (d - b) ≤ 1073741824 := by
  unfold NE at h
  have p : 0 < (c - a) * (d - b) := Int.mul_pos (by omega) (by omega)
  have q : (c - a) * (d - b) ≤ 32768 * 32768 := Int.mul_le_mul (by omega) (by omega) (by omega) (by omega)
  omega
theorem ar_le (a b c d : Int) : 0 ≤ ar a b c d ∧ ar a b c d ≤ 1073741824 := by
  unfold ar
  split
  · rename_i h; have := ar_range h; omega
  · omega
theorem risc_eq (a b c d a' b' c' d' : Int) : compositorref04_Intersect.f a b c d a' b' c' d' = some (isc a b c d a' b' c' d') := by
  simp only [compositorref04_Intersect.f, rempty_eq, rcan_eq, Option.bind_some, decide_eq_true_eq, isc]
  by_cases h : NE a b c d <;> by_cases h' : NE a' b' c' d' <;> simp [h, h']
theorem rwin_eq (a b c d a' b' c' d' : Int) : compositorref04_Within.f a b c d a' b' c' d' = some (decide (WIN a b c d a' b' c' d')) := by
  simp only [compositorref04_Within.f, rempty_eq, Option.bind_some, decide_eq_true_eq]
  by_cases h : NE a b c d
  · by_cases h' : NE a' b' c' d'
    · simp only [h, h', not_true_eq_false, if_false, WIN, true_and, true_implies]
      repeat' split
      all_goals (refine congrArg some (Bool.eq_iff_iff.mpr ?_); simp only [decide_eq_true_eq, Bool.false_eq_true, iff_true, iff_false, false_iff, true_iff] at *; (try simp only [VA, NE, HAS, WIN] at *); first | omega | (constructor <;> (intro _; omega)) | (intro _; omega) | skip)
    · simp [h, h', WIN]
  · simp [h, WIN]
theorem rhas_eq (a b c d x y : Int) : compositorref04_Contains.f a b c d x y = some (decide (HAS a b c d x y)) := by
  simp only [compositorref04_Contains.f, rempty_eq, Option.bind_some, decide_eq_true_eq]
  by_cases h : NE a b c d
  · simp only [h, not_true_eq_false, if_false, HAS, true_and]
    repeat' split
    all_goals (refine congrArg some (Bool.eq_iff_iff.mpr ?_); simp only [decide_eq_true_eq, Bool.false_eq_true, iff_true, iff_false, false_iff, true_iff] at *; (try simp only [VA, NE, HAS, WIN] at *); first | omega | (constructor <;> (intro _; omega)) | (intro _; omega) | skip)
  · simp [h, HAS]
theorem isc_cases (a b c d a' b' c' d' : Int) : ∃ i0 i1 i2 i3, isc a b c d a' b' c' d' = (i0, i1, i2, i3) ∧
    ((¬ NE i0 i1 i2 i3 ∧ i0 = 0 ∧ i1 = 0 ∧ i2 = 0 ∧ i3 = 0 ∧ (NE a b c d → NE a' b' c' d' → ¬ NE (mx a a') (mx b b') (mn c c') (mn d d'))) ∨
     (NE i0 i1 i2 i3 ∧ NE a b c d ∧ NE a' b' c' d' ∧ i0 = mx a a' ∧ i1 = mx b b' ∧ i2 = mn c c' ∧ i3 = mn d d')) := by
  unfold isc
  by_cases h : NE a b c d ∧ NE a' b' c' d'
  · rw [if_pos h]
    unfold can
    by_cases hn : NE (mx a a') (mx b b') (mn c c') (mn d d')
    · rw [if_pos hn]
      exact ⟨_, _, _, _, rfl, .inr ⟨hn, h.1, h.2, rfl, rfl, rfl, rfl⟩⟩
    · rw [if_neg hn]
      exact ⟨_, _, _, _, rfl, .inl ⟨not_ne0, rfl, rfl, rfl, rfl, fun _ _ => hn⟩⟩
  · rw [if_neg h]
    exact ⟨_, _, _, _, rfl, .inl ⟨not_ne0, rfl, rfl, rfl, rfl, fun h1 h2 => absurd ⟨h1, h2⟩ h⟩⟩
theorem has_isc (a b c d a' b' c' d' x y : Int) {i0 i1 i2 i3 : Int} (e : isc a b c d a' b' c' d' = (i0, i1, i2, i3)) : HAS i0 i1 i2 i3 x y ↔ HAS a b c d x y ∧ HAS a' b' c' d' x y := by
  obtain ⟨j0, j1, j2, j3, e', h⟩ := isc_cases a b c d a' b' c' d'
  obtain ⟨rfl, rfl, rfl, rfl⟩ : j0 = i0 ∧ j1 = i1 ∧ j2 = i2 ∧ j3 = i3 := by rw [e] at e'; simp_all
  have m1 := mx_spec a a'
  have m2 := mx_spec b b'
  have m3 := mn_spec c c'
  have m4 := mn_spec d d'
  rcases h with ⟨hn, rfl, rfl, rfl, rfl, h⟩ | ⟨hn, h1, h2, rfl, rfl, rfl, rfl⟩
  · constructor
    · intro h; exact absurd h.1 hn
    · rintro ⟨⟨h1, p⟩, ⟨h2, q⟩⟩
      refine absurd ?_ (h h1 h2)
      unfold NE at h1 h2 ⊢
      omega
  · constructor
    · rintro ⟨_, p⟩
      exact ⟨⟨h1, by omega⟩, ⟨h2, by omega⟩⟩
    · rintro ⟨⟨_, p⟩, ⟨_, q⟩⟩
      exact ⟨hn, by omega⟩
theorem ediv_neg_of {a c : Int} (hc : 0 < c) (ha : a < 0) : a / c = if (-a) % c = 0 then -((-a) / c) else -((-a) / c) - 1 := by
  have h1 := Int.mul_ediv_add_emod (-a) c
  have h2 := Int.emod_nonneg (-a) (show c ≠ 0 by omega)
  have h3 := Int.emod_lt_of_pos (-a) hc
  generalize (-a) / c = q at *
  generalize (-a) % c = r at *
  split
  · rename_i hr
    have e : a = c * (-q) := by rw [Int.mul_neg]; omega
    rw [e, Int.mul_ediv_cancel_left _ (by omega)]
  · rename_i hr
    have e : a = (c - r) + c * (-q - 1) := by rw [Int.mul_sub, Int.mul_neg]; omega
    rw [e, Int.add_mul_ediv_left _ _ (by omega), Int.ediv_eq_zero_of_lt (by omega) (by omega)]
    omega
theorem ediv_bound {a c B : Int} (hc : 0 < c) (hB : 0 ≤ B) (h1 : -B ≤ a) (h2 : a ≤ B) : -B - 1 ≤ a / c ∧ a / c ≤ B := by
  have h3 := Int.mul_ediv_add_emod a c
  have h4 := Int.emod_nonneg a (show c ≠ 0 by omega)
  have h5 := Int.emod_lt_of_pos a hc
  generalize a / c = q at *
  generalize a % c = r at *
  constructor
  · apply Classical.byContradiction
    intro hq
    have : c * (q + 1) ≤ c * (-B - 1) := Int.mul_le_mul_of_nonneg_left (by omega) (by omega)
    have e1 : c * (q + 1) = c * q + c := by rw [Int.mul_add, Int.mul_one]
    have e2 : c * (-B - 1) ≤ -B - 1 := by
      have := Int.mul_le_mul_of_nonneg_right (show 1 ≤ c by omega) (show 0 ≤ B + 1 by omega)
      have e3 : c * (-B - 1) = -(c * (B + 1)) := by rw [← Int.mul_neg]; congr 1; omega
      omega
    omega
  · apply Classical.byContradiction
    intro hq
    have : 1 * q ≤ c * q := Int.mul_le_mul_of_nonneg_right (by omega) (by omega)
    omega
theorem floor_eq {a c : Int} (hc : 1 ≤ c) (h1 : -1000000000000 ≤ a) (h2 : a ≤ 1000000000000) : scale_floor.f a c = some (a / c) := by
  have hb := ediv_bound (a := a) (c := c) (B := 1000000000000) (by omega) (by omega) h1 h2
  unfold scale_floor.f
  rw [if_neg (by omega)]
  by_cases ha : 0 ≤ a
  · rw [Int.tmod_eq_emod_of_nonneg ha, Int.tdiv_eq_ediv_of_nonneg ha, if_neg (by have := Int.emod_nonneg a (show c ≠ 0 by omega); omega), w64 (by omega) (by omega)]
  · have he := ediv_neg_of (a := a) (c := c) (by omega) (by omega)
    have e1 : Int.tdiv a c = -((-a) / c) := by
      have : Int.tdiv (-(-a)) c = -(Int.tdiv (-a) c) := Int.neg_tdiv ..
      rw [Int.neg_neg] at this
      rw [this, Int.tdiv_eq_ediv_of_nonneg (by omega)]
    have e2 : Int.tmod a c = -((-a) % c) := by
      have : Int.tmod (-(-a)) c = -(Int.tmod (-a) c) := Int.neg_tmod ..
      rw [Int.neg_neg] at this
      rw [this, Int.tmod_eq_emod_of_nonneg (by omega)]
    have h4 := Int.emod_nonneg (-a) (show c ≠ 0 by omega)
    rw [e1, e2, he]
    by_cases hr : (-a) % c = 0
    · rw [if_pos hr] at he ⊢
      rw [if_neg (by omega), w64 (by omega) (by omega)]
    · rw [if_neg hr] at he ⊢
      rw [if_pos (by omega), w64 (x := -((-a) / c)) (by omega) (by omega), w64 (by omega) (by omega)]
def cla (n : Int) : Int := mn (mx n (-16384)) 16384
theorem clamp_eq (n : Int) : scale_clamp.f n = some (cla n) := rfl
/-- The mapped rectangle. -/
noncomputable def MP (a b c d fw fh tw th : Int) : Int × Int × Int × Int :=
  if NE a b c d ∧ SZ fw ∧ SZ fh ∧ SZ tw ∧ SZ th then can (cla ((a * tw) / fw)) (cla ((b * th) / fh)) (cla (-((-c * tw) / fw))) (cla (-((-d * th) / fh))) else (0, 0, 0, 0)
theorem mul_b {a t : Int} (h : -16384 ≤ a ∧ a ≤ 16384) (ht : SZ t) : wrap64 (a * t) = a * t ∧ -4194304 ≤ a * t ∧ a * t ≤ 4194304 := by
  unfold SZ at ht
  have h1 : a * t ≤ 16384 * t := Int.mul_le_mul_of_nonneg_right h.2 (by omega)
  have h2 : -16384 * t ≤ a * t := Int.mul_le_mul_of_nonneg_right h.1 (by omega)
  refine ⟨?_, by omega, by omega⟩
  unfold wrap64; omega
theorem MapRect_eq (a b c d fw fh tw th : Int) : ∀ k, 1 ≤ k → scale_MapRect.f k a b c d fw fh tw th = some (MP a b c d fw fh tw th) := by
  intro k hk
  obtain ⟨k, rfl⟩ : ∃ j, k = j + 1 := ⟨k - 1, by omega⟩
  have jt : ∀ x y z u a b c d, scale_MapRect.j0 (k + 1) x y z u true a b c d = some (0, 0, 0, 0) := fun _ _ _ _ _ _ _ _ => rfl
  simp only [scale_MapRect.f, empty_eq, size_eq, Option.bind_some, decide_eq_true_eq, jt]
  unfold MP
  by_cases hn : NE a b c d
  · by_cases h1 : SZ fw
    · by_cases h2 : SZ fh
      · by_cases h3 : SZ tw
        · by_cases h4 : SZ th
          · rw [if_neg (not_not_intro hn), if_pos h1, if_pos h2, if_pos h3, decide_eq_true h4, if_pos ⟨hn, h1, h2, h3, h4⟩]
            have hN := hn
            unfold NE at hN
            have p1 := mul_b (a := a) (by omega) h3
            have p2 := mul_b (a := b) (by omega) h4
            have p3 := mul_b (a := -c) (by omega) h3
            have p4 := mul_b (a := -d) (by omega) h4
            have g1 : 1 ≤ fw := h1.1
            have g2 : 1 ≤ fh := h2.1
            have c1 : wrap64 (-c) = -c := by unfold wrap64; omega
            have c2 : wrap64 (-d) = -d := by unfold wrap64; omega
            have b3 := ediv_bound (a := -c * tw) (c := fw) (B := 4194304) (by omega) (by omega) p3.2.1 p3.2.2
            have b4 := ediv_bound (a := -d * th) (c := fh) (B := 4194304) (by omega) (by omega) p4.2.1 p4.2.2
            have c3 : wrap64 (-(-c * tw / fw)) = -(-c * tw / fw) := by unfold wrap64; omega
            have c4 : wrap64 (-(-d * th / fh)) = -(-d * th / fh) := by unfold wrap64; omega
            simp only [scale_MapRect.j0, Bool.not_true, Bool.false_eq_true, if_false, c1, c2, p1.1, p2.1, p3.1, p4.1, floor_eq g1 (by omega : -1000000000000 ≤ a * tw) (by omega), floor_eq g2 (by omega : -1000000000000 ≤ b * th) (by omega), floor_eq g1 (by omega : -1000000000000 ≤ -c * tw) (by omega), floor_eq g2 (by omega : -1000000000000 ≤ -d * th) (by omega), Option.bind_some, clamp_eq, c3, c4, can_eq]
          · rw [if_neg (not_not_intro hn), if_pos h1, if_pos h2, if_pos h3, decide_eq_false h4, if_neg (fun q => h4 q.2.2.2.2)]
            exact jt ..
        · rw [if_neg (not_not_intro hn), if_pos h1, if_pos h2, if_neg h3, if_neg (fun q => h3 q.2.2.2.1)]
      · rw [if_neg (not_not_intro hn), if_pos h1, if_neg h2, if_neg (fun q => h2 q.2.2.1)]
    · rw [if_neg (not_not_intro hn), if_neg h1, if_neg (fun q => h1 q.2.1)]
  · rw [if_pos hn, if_neg (fun q => hn q.1)]
theorem MP_id {W H : Int} (hW : SZ W) (hH : SZ H) (a b c d : Int) : MP a b c d W H W H = can a b c d := by
  unfold MP
  by_cases h : NE a b c d
  · have hn := h
    have w1 : W ≠ 0 := by unfold SZ at hW; omega
    have h1 : H ≠ 0 := by unfold SZ at hH; omega
    rw [if_pos ⟨h, hW, hH, hW, hH⟩, Int.mul_ediv_cancel _ w1, Int.mul_ediv_cancel _ h1, Int.mul_ediv_cancel _ w1, Int.mul_ediv_cancel _ h1, Int.neg_neg, Int.neg_neg]
    unfold NE at hn
    have e : ∀ x : Int, -16384 ≤ x ∧ x ≤ 16384 → cla x = x := by
      intro x hx
      unfold cla
      have a1 := mx_spec x (-16384)
      have a2 := mn_spec (mx x (-16384)) 16384
      omega
    rw [e a (by omega), e b (by omega), e c (by omega), e d (by omega)]
  · rw [if_neg (fun q => h q.1)]
    unfold can
    rw [if_neg h]
theorem ScaleIdentity (x0 : S24) (x1 : S34) (ok0 : ((Lit.int .i64 x0.f0).wf = true) ∧ ((Lit.int .i64 x0.f1).wf = true) ∧ (x0.f2.length * 4 ≤ 140737488351232 ∧ x0.f2.length ≤ 9223372036854775807 ∧ ∀ y22 ∈ x0.f2, ((Lit.int .u8 y22.f0).wf = true) ∧ ((Lit.int .u8 y22.f1).wf = true) ∧ ((Lit.int .u8 y22.f2).wf = true) ∧ ((Lit.int .u8 y22.f3).wf = true))) (ok1 : ((Lit.int .i64 x1.f0).wf = true) ∧ ((Lit.int .i64 x1.f1).wf = true) ∧ ((Lit.int .i64 x1.f2).wf = true) ∧ ((Lit.int .i64 x1.f3).wf = true)) :
    ∃ k, compositorlaw10_ScaleIdentity.f k x0.f0 x0.f1 x0.f2 x1.f0 x1.f1 x1.f2 x1.f3 = some true := by
  refine ⟨3001, ?_⟩
  have hb : B8 x0.f2 := ok0.2.2.2.2
  clear ok0 ok1
  generalize x0.f0 = W at *
  generalize x0.f1 = H at *
  generalize x0.f2 = l at *
  have jt : compositorlaw10_ScaleIdentity.j0 3001 true W H l x1.f0 x1.f1 x1.f2 x1.f3 = some true := by
    simp only [compositorlaw10_ScaleIdentity.j0, if_true, example_holds 3000 (by omega), Option.bind_some]
  simp only [compositorlaw10_ScaleIdentity.f, lsmall_eq, Option.bind_some, decide_eq_true_eq]
  by_cases hs : (l.length : Int) ≤ 150 ∧ ((1 : Int) ≤ 12 ∨ 256 < (1 : Int)) ∧ ((1 : Int) ≤ 12 ∨ 256 < (1 : Int))
  · rw [if_pos hs, rbvalid_eq W H l (by omega) 3001 (by omega), Option.bind_some]
    by_cases hv : VB W H l
    · rw [decide_eq_true hv, Bool.not_true]
      have hW : SZ W := hv.1
      have hH : SZ H := hv.2.1
      have e := same_refl W H l (by omega) 3000 (by omega)
      have hN : NR W H l W H = (W, H, l, 0) ∧ BX W H l W H = (W, H, l, 0) ∧ SH W H l 1 = (W, H, l, 0) ∧ EN W H l 1 = (W, H, l, 0) := by
        unfold SZ at hW hH
        obtain ⟨W, rfl⟩ : ∃ a : Nat, W = a := ⟨W.toNat, by omega⟩
        obtain ⟨H, rfl⟩ : ∃ a : Nat, H = a := ⟨H.toNat, by omega⟩
        exact ⟨NR_id hv, BX_id hv, SH_id hv, EN_id hv⟩
      simp only [compositorlaw10_ScaleIdentity.j0, Bool.false_eq_true, if_false, Nearest_eq, Box_eq _ _ _ _ _ hb, Shrink_eq _ _ _ _ hb, Enlarge_eq, hN.1, hN.2.1, hN.2.2.1, hN.2.2.2, Option.bind_some, if_true, e, MapRect_eq _ _ _ _ _ _ _ _ 3000 (by omega), MP_id hW hH, rcan_eq, beq_self_eq_true, Bool.and_self, example_holds 3000 (by omega)]
    · rw [decide_eq_false hv, Bool.not_false]
      exact jt
  · rw [if_neg hs]
    exact jt

end Go.Proofs.Ythpmfhfnkgbkjaa.Pure
