/-
  Plain laws (numbers and lists) for the statement ScaleNearest: no program in sight.
-/
import Derived.Test.YthpmfhfnkgbkjaaAllx0
import Derived.Test.YthpmfhfnkgbkjaaAllx10
import Derived.Test.YthpmfhfnkgbkjaaAllx11
import Derived.Test.YthpmfhfnkgbkjaaAllx12
import Derived.Test.YthpmfhfnkgbkjaaAllx19
import Derived.Test.YthpmfhfnkgbkjaaAllx20
import Derived.Test.YthpmfhfnkgbkjaaAllx21
import Derived.Test.YthpmfhfnkgbkjaaAllx22
import Derived.Test.YthpmfhfnkgbkjaaAllx23
import Derived.Test.YthpmfhfnkgbkjaaAllx24
import Derived.Test.YthpmfhfnkgbkjaaAllx3
import Derived.Test.YthpmfhfnkgbkjaaAllx5
import Derived.Test.YthpmfhfnkgbkjaaAllx6
import Derived.Test.YthpmfhfnkgbkjaaAllx7
import Derived.Test.YthpmfhfnkgbkjaaAllx8
import Derived.Test.YthpmfhfnkgbkjaaAllx9
import Derived.Test.YthpmfhfnkgbkjaaAllx90
namespace Go.Proofs.Ythpmfhfnkgbkjaa.Pure
open Go.RowKit Go.Proofs.YthpmfhfnkgbkjaaW.PrintWords Go.Proofs.YthpmfhfnkgbkjaaW.PrintMore Go.Proofs.Ythpmfhfnkgbkjaa.All
set_option linter.unusedVariables false
set_option linter.unusedSimpArgs false
theorem i64 {x : Int} (h : (Lit.int .i64 x).wf = true) : -9223372036854775808 ≤ x ∧ x ≤ 9223372036854775807 := by
  simpa [Lit.wf, IntKind.min, IntKind.max, IntKind.signed, IntKind.bits] using h
theorem w64 {x : Int} (h : -9223372036854775808 ≤ x) (h' : x ≤ 9223372036854775807) : wrap64 x = x := by unfold wrap64; omega
/-- What holds with some fuel holds with more. -/
theorem fuel {α : Type} {f : Nat → Option α} (hm : ∀ k r, f k = some r → f (k + 1) = some r) {K : Nat} {r : α} (h : f K = some r) : ∀ k, K ≤ k → f k = some r := by
  intro k hk
  obtain ⟨j, rfl⟩ : ∃ j, k = K + j := ⟨k - K, by omega⟩
  clear hk
  induction j with
  | zero => exact h
  | succ j ih => exact hm _ _ ih
theorem example_holds : ∀ k, 200 ≤ k → compositorlaw10_exampleHolds.f k = some true :=
  fuel (f := fun k => compositorlaw10_exampleHolds.f k) (fun k r h => compositorlaw10_exampleHolds.mono k r h) (by decide +kernel)
theorem mx_spec (a b : Int) : a ≤ mx a b ∧ b ≤ mx a b ∧ (mx a b = a ∨ mx a b = b) := by unfold mx; split <;> omega
theorem mn_spec (a b : Int) : mn a b ≤ a ∧ mn a b ≤ b ∧ (mn a b = a ∨ mn a b = b) := by unfold mn; split <;> omega
/-- A valid pixel. -/
def PV (p : S43) : Prop := p.f0 ≤ p.f3 ∧ p.f1 ≤ p.f3 ∧ p.f2 ≤ p.f3
/-- A valid buffer. -/
def VB (W H : Int) (l : List S43) : Prop := (1 ≤ W ∧ W ≤ 256) ∧ (1 ≤ H ∧ H ≤ 256) ∧ (l.length : Int) = W * H ∧ ∀ p ∈ l, PV p
noncomputable instance (W H : Int) (l : List S43) : Decidable (VB W H l) := Classical.propDecidable _
def SZ (n : Int) : Prop := 1 ≤ n ∧ n ≤ 256
noncomputable instance (n : Int) : Decidable (SZ n) := Classical.propDecidable _
theorem ok_iff (p : S43) : buffer_Valid.ok p = true ↔ PV p := by
  have m0 := mn_spec p.f0 p.f3
  have m1 := mn_spec p.f1 p.f3
  have m2 := mn_spec p.f2 p.f3
  unfold buffer_Valid.ok PV
  simp only [Bool.and_eq_true, beq_iff_eq, and_true]
  omega
theorem bsize_eq (a : Int) : buffer_size.f a = some (decide (SZ a)) := by
  unfold buffer_size.f
  split <;> (refine congrArg some (Bool.eq_iff_iff.mpr ?_); simp only [decide_eq_true_eq, Bool.false_eq_true, false_iff]; unfold SZ; omega)
theorem size_eq (a : Int) : scale_size.f a = some (decide (SZ a)) := by
  unfold scale_size.f
  split <;> (refine congrArg some (Bool.eq_iff_iff.mpr ?_); simp only [decide_eq_true_eq, Bool.false_eq_true, false_iff]; unfold SZ; omega)
theorem sized_eq (a b : Int) : compositorref10_sized.f a b = some (decide (SZ a ∧ SZ b)) := by
  unfold compositorref10_sized.f
  repeat' split
  all_goals (refine congrArg some (Bool.eq_iff_iff.mpr ?_); simp only [decide_eq_true_eq, Bool.false_eq_true, false_iff]; unfold SZ; omega)
theorem prod_small {W H : Int} (hW : SZ W) (hH : SZ H) : wrap64 (W * H) = W * H ∧ 1 ≤ W * H ∧ W * H ≤ 65536 := by
  unfold SZ at hW hH
  have p1 := Int.mul_le_mul hW.2 hH.2 (by omega) (by omega : (0 : Int) ≤ 256)
  have p2 : 0 < W * H := Int.mul_pos (by omega) (by omega)
  refine ⟨?_, by omega, by omega⟩
  unfold wrap64; omega
theorem bvalid_eq (W H : Int) (l : List S43) : buffer_Valid.f W H l = some (decide (VB W H l)) := by
  simp only [buffer_Valid.f, bsize_eq, Option.bind_some, decide_eq_true_eq]
  by_cases hW : SZ W
  · by_cases hH : SZ H
    · have hp := prod_small hW hH
      rw [if_pos hW, if_pos hH, hp.1]
      by_cases hl : (l.length : Int) = W * H
      · rw [if_pos hl]
        refine congrArg some (Bool.eq_iff_iff.mpr ?_)
        rw [List.all_eq_true, decide_eq_true_eq]
        exact ⟨fun h => ⟨hW, hH, hl, fun p hp => (ok_iff p).mp (h p hp)⟩, fun h p hp => (ok_iff p).mpr (h.2.2.2 p hp)⟩
      · rw [if_neg hl, decide_eq_false (fun h => hl h.2.2.1)]
    · rw [if_pos hW, if_neg hH, decide_eq_false (fun h => hH h.2.1)]
  · rw [if_neg hW, decide_eq_false (fun h => hW h.1)]
theorem rd_at {l : List S43} {i : Nat} (h : i < l.length) : rd_T43 l (i : Int) = l[i] := by
  simp [rd_T43, List.getD_eq_getElem?_getD, List.getElem?_eq_getElem h]
theorem rvl (W H : Int) (l : List S43) (hl : l.length ≤ 65536) : ∀ d i, i + d = l.length → ∀ k, d + 1 ≤ k → ∀ b, (b = true ↔ ∀ p ∈ l.drop i, PV p) → compositorref10_Valid.l0 k i W H l = some b := by
  intro d
  induction d with
  | zero =>
    intro i hi k hk b hb
    obtain ⟨k, rfl⟩ : ∃ j, k = j + 1 := ⟨k - 1, by omega⟩
    rw [compositorref10_Valid.l0, if_neg (by omega)]
    have e : l.drop i = [] := List.drop_eq_nil_of_le (by omega)
    rw [e] at hb
    have : b = true := hb.mpr (fun p hp => by cases hp)
    rw [this]
  | succ d ih =>
    intro i hi k hk b hb
    obtain ⟨k, rfl⟩ : ∃ j, k = j + 1 := ⟨k - 1, by omega⟩
    have hlt : i < l.length := by omega
    rw [compositorref10_Valid.l0, if_pos (by omega), if_pos (by omega), rd_at hlt]
    have e : l.drop i = l[i] :: l.drop (i + 1) := List.drop_eq_getElem_cons hlt
    rw [e] at hb
    have ew : wrap64 ((i : Int) + 1) = ((i + 1 : Nat) : Int) := by unfold wrap64; omega
    rw [ew]
    have no : ¬ PV l[i] → some false = some b := fun hn => by
      cases b with
      | false => rfl
      | true => exact absurd (hb.mp rfl l[i] (List.mem_cons_self ..)) hn
    by_cases h0 : l[i].f0 > l[i].f3
    · rw [if_pos h0]; exact no (fun q => by unfold PV at q; omega)
    · rw [if_neg h0]
      by_cases h1 : l[i].f1 > l[i].f3
      · rw [if_pos h1]; exact no (fun q => by unfold PV at q; omega)
      · rw [if_neg h1]
        by_cases h2 : l[i].f2 > l[i].f3
        · rw [if_pos h2]; exact no (fun q => by unfold PV at q; omega)
        · rw [if_neg h2]
          refine ih (i + 1) (by omega) k (by omega) b (hb.trans ?_)
          have hp : PV l[i] := by unfold PV; omega
          constructor
          · intro h p hm; exact h p (List.mem_cons_of_mem _ hm)
          · intro h p hm
            rcases List.mem_cons.mp hm with rfl | hm
            · exact hp
            · exact h p hm
theorem rbvalid_eq (W H : Int) (l : List S43) (hl : l.length ≤ 600) : ∀ k, 700 ≤ k → compositorref10_Valid.f k W H l = some (decide (VB W H l)) := by
  intro k hk
  obtain ⟨k, rfl⟩ : ∃ j, k = j + 1 := ⟨k - 1, by omega⟩
  simp only [compositorref10_Valid.f, sized_eq, Option.bind_some, decide_eq_true_eq, compositorref10_Valid.j0, if_true]
  by_cases hs : SZ W ∧ SZ H
  · have hp := prod_small hs.1 hs.2
    rw [if_pos hs, hp.1]
    by_cases he : (l.length : Int) = W * H
    · have e : ((l.length : Int) != W * H) = false := by simpa using he
      rw [e, if_neg (by simp)]
      refine rvl W H l (by omega) l.length 0 (by omega) k (by omega) _ ?_
      rw [decide_eq_true_eq, List.drop_zero]
      exact ⟨fun h => h.2.2.2, fun h => ⟨hs.1, hs.2, he, h⟩⟩
    · have e : ((l.length : Int) != W * H) = true := by simpa using he
      rw [e, if_pos rfl, decide_eq_false (fun h => he h.2.2.1)]
  · rw [if_neg hs, decide_eq_false (fun h => hs ⟨h.1, h.2.1⟩)]
theorem same_l (W H : Int) (l : List S43) (hl : l.length ≤ 100000) : ∀ d i, i + d = l.length → ∀ k, d + 1 ≤ k → compositorref07_Same.l0 k i W H l W H l = some true := by
  intro d
  induction d with
  | zero =>
    intro i hi k hk
    obtain ⟨k, rfl⟩ : ∃ j, k = j + 1 := ⟨k - 1, by omega⟩
    rw [compositorref07_Same.l0, if_neg (by omega)]
  | succ d ih =>
    intro i hi k hk
    obtain ⟨k, rfl⟩ : ∃ j, k = j + 1 := ⟨k - 1, by omega⟩
    have ew : wrap64 ((i : Int) + 1) = ((i + 1 : Nat) : Int) := by unfold wrap64; omega
    rw [compositorref07_Same.l0, if_pos (by omega), if_pos (by omega), if_pos (by omega), ew]
    simp only [beq_self_eq_true, Bool.not_true, Bool.or_self, Bool.false_eq_true, if_false]
    exact ih (i + 1) (by omega) k (by omega)
/-- A buffer is the same as itself. -/
theorem same_refl (W H : Int) (l : List S43) (hl : l.length ≤ 100000) : ∀ k, l.length + 2 ≤ k → compositorlaw10_same.f k W H l W H l = some true := by
  intro k hk
  obtain ⟨k, rfl⟩ : ∃ j, k = j + 1 := ⟨k - 1, by omega⟩
  have h0 := same_l W H l hl l.length 0 (by omega) k (by omega)
  have h1 : compositorref07_Same.l0 k 0 W H l W H l = some true := h0
  simp only [compositorlaw10_same.f, compositorref07_Same.f, if_true, compositorref07_Same.j0, bne_self_eq_false, Bool.false_eq_true, if_false, h1, Option.bind_some]
/-- The error of a buffer and a size. -/
noncomputable def chk (W H : Int) (l : List S43) (n m : Int) : Int := if VB W H l then (if SZ n ∧ SZ m then 0 else 6) else 15
theorem check_eq (W H : Int) (l : List S43) (n m : Int) : scale_check.f W H l n m = some (chk W H l n m) := by
  simp only [scale_check.f, bvalid_eq, size_eq, Option.bind_some, decide_eq_true_eq, chk]
  by_cases h1 : VB W H l <;> by_cases h2 : SZ n <;> by_cases h3 : SZ m <;> simp [h1, h2, h3]
theorem rcheck_eq (W H : Int) (l : List S43) (n m : Int) (hl : l.length ≤ 600) : ∀ k, 700 ≤ k → compositorref10_check.f k W H l n m = some (chk W H l n m) := by
  intro k hk
  simp only [compositorref10_check.f, rbvalid_eq W H l hl k hk, sized_eq, Option.bind_some, decide_eq_true_eq, chk]
  by_cases h1 : VB W H l <;> by_cases h2 : SZ n <;> by_cases h3 : SZ m <;> simp [h1, h2, h3]
theorem chk0 {W H : Int} {l : List S43} {n m : Int} : chk W H l n m = 0 ↔ VB W H l ∧ SZ n ∧ SZ m := by
  unfold chk
  by_cases h1 : VB W H l <;> by_cases h2 : SZ n ∧ SZ m <;> simp [h1, h2]
/-- The loops of the reference build the same list. -/
theorem near_px {W H : Int} {l : List S43} {n m : Nat} {x y : Nat} (hv : VB W H l) (hn : 1 ≤ n ∧ n ≤ 256) (hm : 1 ≤ m ∧ m ≤ 256) (hx : x < n) (hy : y < m) :
    wrap64 (2 * (m : Int)) ≠ 0 ∧ wrap64 (2 * (n : Int)) ≠ 0 ∧
    wrap64 (wrap64 (wrap64 (Int.tdiv (wrap64 (wrap64 (wrap64 (2 * (y : Int)) + 1) * H)) (wrap64 (2 * (m : Int)))) * W) + wrap64 (Int.tdiv (wrap64 (wrap64 (wrap64 (2 * (x : Int)) + 1) * W)) (wrap64 (2 * (n : Int))))) = ((2 * (y : Int) + 1) * H / (2 * m)) * W + (2 * (x : Int) + 1) * W / (2 * n) ∧
    0 ≤ ((2 * (y : Int) + 1) * H / (2 * m)) * W + (2 * (x : Int) + 1) * W / (2 * n) ∧ ((2 * (y : Int) + 1) * H / (2 * m)) * W + (2 * (x : Int) + 1) * W / (2 * n) < l.length := by
  obtain ⟨hW, hH, hl, -⟩ := hv
  have q1 := scale_Nearest.quo (x := x) (n := n) (W := W) (by omega) (by omega) (by omega) hW
  have q2 := scale_Nearest.quo (x := y) (n := m) (W := H) (by omega) (by omega) (by omega) hH
  rw [q1.1, q2.1]
  generalize (2 * (x : Int) + 1) * W / (2 * n) = X at *
  generalize (2 * (y : Int) + 1) * H / (2 * m) = Y at *
  obtain ⟨q, hq, hql⟩ := scale_Box.place (N := l.length) q2.2.1 q2.2.2 q1.2.1 q1.2.2 hW hH hl
  have hw := scale_Box.place_w q2.2.1 q2.2.2 q1.2.1 q1.2.2 hW hH
  refine ⟨?_, ?_, hw, by omega, by omega⟩
  · unfold wrap64; omega
  · unfold wrap64; omega
theorem eta43 (p : S43) : (⟨p.f0, p.f1, p.f2, p.f3⟩ : S43) = p := rfl
theorem bl_len (p : Int → Int → S43) (w n : Nat) : (scale_build.bl p w n).length = n := by unfold scale_build.bl; simp
theorem near_l1 {W H : Int} {l : List S43} {n m : Nat} {y : Nat} (hv : VB W H l) (hn : 1 ≤ n ∧ n ≤ 256) (hm : 1 ≤ m ∧ m ≤ 256) (hy : y < m) : ∀ d x, x + d = n → ∀ k,
    compositorref10_Nearest.l1 (k + d + 1) n m y x W H l n m (scale_build.bl (scale_Nearest.px W H l n m) n (y * n + x)) = compositorref10_Nearest.l0 k n m ((y + 1 : Nat) : Int) W H l n m (scale_build.bl (scale_Nearest.px W H l n m) n ((y + 1) * n)) := by
  intro d
  induction d with
  | zero =>
    intro x hx k
    obtain rfl : x = n := by omega
    have ew : wrap64 ((y : Int) + 1) = ((y + 1 : Nat) : Int) := by unfold wrap64; omega
    rw [compositorref10_Nearest.l1, if_neg (by omega), ew, Nat.succ_mul]
  | succ d ih =>
    intro x hx k
    have hxn : x < n := by omega
    obtain ⟨z1, z2, e, h0, h1⟩ := near_px hv hn hm hxn hy
    have ew : wrap64 ((x : Int) + 1) = ((x + 1 : Nat) : Int) := by unfold wrap64; omega
    have hlen : y * n + x ≤ 256 * 256 + 256 := by have := Nat.mul_le_mul (show y ≤ 256 by omega) hn.2; omega
    have hd : k + (d + 1) + 1 = (k + d + 1) + 1 := by omega
    rw [hd, compositorref10_Nearest.l1, if_pos (by omega), if_neg z1, if_neg z2, e, if_pos h0, if_pos h1, if_pos (by rw [bl_len]; omega), ew, eta43]
    have hb := scale_build.bl_succ (scale_Nearest.px W H l n m) (w0 := n) (y := y) (x := x) hxn
    have hp : scale_Nearest.px W H l n m x y = rd_T43 l ((2 * (y : Int) + 1) * H / (2 * m) * W + (2 * (x : Int) + 1) * W / (2 * n)) := rfl
    rw [← hp, ← hb]
    exact ih (x + 1) (by omega) k
theorem near_l0 {W H : Int} {l : List S43} {n m : Nat} (hv : VB W H l) (hn : 1 ≤ n ∧ n ≤ 256) (hm : 1 ≤ m ∧ m ≤ 256) : ∀ d y, y + d = m → ∀ k,
    compositorref10_Nearest.l0 (k + d * (n + 2) + 1) n m y W H l n m (scale_build.bl (scale_Nearest.px W H l n m) n (y * n)) = some ((n : Int), (m : Int), scale_build.bl (scale_Nearest.px W H l n m) n (m * n), 0) := by
  intro d
  induction d with
  | zero =>
    intro y hy k
    obtain rfl : y = m := by omega
    rw [Nat.zero_mul, Nat.add_zero, compositorref10_Nearest.l0, if_neg (by omega)]
  | succ d ih =>
    intro y hy k
    have e1 : k + (d + 1) * (n + 2) + 1 = ((k + d * (n + 2) + 1) + n + 1) + 1 := by rw [Nat.succ_mul]; omega
    rw [e1, compositorref10_Nearest.l0, if_pos (by omega)]
    have h := near_l1 hv hn hm (y := y) (by omega) n 0 (by omega) (k + d * (n + 2) + 1)
    rw [Nat.add_zero] at h
    refine h.trans (ih (y + 1) (by omega) k)
/-- Nearest, in closed form. -/
noncomputable def NR (W H : Int) (l : List S43) (n m : Int) : Int × Int × List S43 × Int := if chk W H l n m = 0 then (n, m, scale_build.bl (scale_Nearest.px W H l n m) n.toNat (m.toNat * n.toNat), 0) else (0, 0, [], chk W H l n m)
theorem Nearest_eq (W H : Int) (l : List S43) (n m : Int) : scale_Nearest.f W H l n m = some (NR W H l n m) := by
  unfold scale_Nearest.f NR
  rw [check_eq, Option.bind_some]
  split <;> rfl
theorem rNearest_eq (W H : Int) (l : List S43) (n m : Int) (hl : l.length ≤ 600) (K : Nat) (hK : 700 ≤ K) (h2 : m.toNat * (n.toNat + 2) + 1 ≤ K) : compositorref10_Nearest.f K W H l n m = some (NR W H l n m) := by
  unfold compositorref10_Nearest.f NR
  rw [rcheck_eq W H l n m hl K hK, Option.bind_some]
  by_cases h : chk W H l n m = 0
  · rw [if_pos h, if_pos h]
    obtain ⟨hv, hn, hm⟩ := chk0.mp h
    unfold SZ at hn hm
    obtain ⟨n, rfl⟩ : ∃ a : Nat, n = a := ⟨n.toNat, by omega⟩
    obtain ⟨m, rfl⟩ : ∃ a : Nat, m = a := ⟨m.toNat, by omega⟩
    simp only [Int.toNat_natCast] at h2 ⊢
    obtain ⟨k, rfl⟩ : ∃ k, K = k + m * (n + 2) + 1 := ⟨K - (m * (n + 2) + 1), by omega⟩
    have h := near_l0 (W := W) (H := H) (l := l) (n := n) (m := m) hv (by omega) (by omega) m 0 (by omega) k
    rw [Nat.zero_mul] at h
    exact h
  · rw [if_neg h, if_neg h]
theorem lsmall_eq (a b : Int) (l : List S43) (n m : Int) : compositorlaw10_small.f a b l n m = some (decide ((l.length : Int) ≤ 150 ∧ (n ≤ 12 ∨ 256 < n) ∧ (m ≤ 12 ∨ 256 < m))) := by
  unfold compositorlaw10_small.f
  repeat' split
  all_goals (refine congrArg some (Bool.eq_iff_iff.mpr ?_); simp only [decide_eq_true_eq, Bool.false_eq_true, false_iff, true_iff]; omega)
theorem same_self (p : Int × Int × List S43 × Int) (h : p.2.2.1.length ≤ 1500) (k : Nat) (hk : 2000 ≤ k) : compositorlaw10_same.f k p.1 p.2.1 p.2.2.1 p.1 p.2.1 p.2.2.1 = some true := same_refl _ _ _ (by omega) k (by omega)
theorem NR_len {W H : Int} {l : List S43} {n m : Int} (h1 : n ≤ 12 ∨ 256 < n) (h2 : m ≤ 12 ∨ 256 < m) : (NR W H l n m).2.2.1.length ≤ 144 := by
  unfold NR
  split
  · rename_i h
    obtain ⟨-, hn, hm⟩ := chk0.mp h
    unfold SZ at hn hm
    show (scale_build.bl _ _ _).length ≤ 144
    rw [bl_len]
    exact Nat.mul_le_mul (show m.toNat ≤ 12 by omega) (show n.toNat ≤ 12 by omega)
  · exact Nat.zero_le _
theorem ScaleNearest (x0 : S24) (x1 : Int) (x2 : Int) (ok0 : ((Lit.int .i64 x0.f0).wf = true) ∧ ((Lit.int .i64 x0.f1).wf = true) ∧ (x0.f2.length * 4 ≤ 140737488351232 ∧ x0.f2.length ≤ 9223372036854775807 ∧ ∀ y22 ∈ x0.f2, ((Lit.int .u8 y22.f0).wf = true) ∧ ((Lit.int .u8 y22.f1).wf = true) ∧ ((Lit.int .u8 y22.f2).wf = true) ∧ ((Lit.int .u8 y22.f3).wf = true))) (ok1 : (Lit.int .i64 x1).wf = true) (ok2 : (Lit.int .i64 x2).wf = true) :
    ∃ k, compositorlaw10_ScaleNearest.f k x0.f0 x0.f1 x0.f2 x1 x2 = some true := by
  generalize hK : (max 2000 (x2.toNat * (x1.toNat + 2) + 1)) = K
  refine ⟨K, ?_⟩
  simp only [compositorlaw10_ScaleNearest.f, lsmall_eq, Option.bind_some, decide_eq_true_eq, example_holds K (by omega)]
  by_cases hs : (x0.f2.length : Int) ≤ 150 ∧ (x1 ≤ 12 ∨ 256 < x1) ∧ (x2 ≤ 12 ∨ 256 < x2)
  · have e := same_self (NR x0.f0 x0.f1 x0.f2 x1 x2) (Nat.le_trans (NR_len hs.2.1 hs.2.2) (by omega)) K (by omega)
    rw [if_pos hs]
    simp only [if_true, Nearest_eq, rNearest_eq x0.f0 x0.f1 x0.f2 x1 x2 (by omega) K (by omega) (by omega), Option.bind_some, e]
  · rw [if_neg hs]

end Go.Proofs.Ythpmfhfnkgbkjaa.Pure
