/-
  Plain laws (numbers and lists) for the statement BufferRuns: no program in sight.
-/
import Derived.Test.YtmockeaiccpogaaAllx0
import Derived.Test.YtmockeaiccpogaaAllx10
import Derived.Test.YtmockeaiccpogaaAllx11
import Derived.Test.YtmockeaiccpogaaAllx17
import Derived.Test.YtmockeaiccpogaaAllx18
import Derived.Test.YtmockeaiccpogaaAllx20
import Derived.Test.YtmockeaiccpogaaAllx21
import Derived.Test.YtmockeaiccpogaaAllx22
import Derived.Test.YtmockeaiccpogaaAllx23
import Derived.Test.YtmockeaiccpogaaAllx24
import Derived.Test.YtmockeaiccpogaaAllx25
import Derived.Test.YtmockeaiccpogaaAllx26
import Derived.Test.YtmockeaiccpogaaAllx27
import Derived.Test.YtmockeaiccpogaaAllx28
import Derived.Test.YtmockeaiccpogaaAllx29
import Derived.Test.YtmockeaiccpogaaAllx5
import Derived.Test.YtmockeaiccpogaaAllx8
import Derived.Test.YtmockeaiccpogaaAllx90
namespace Go.Proofs.Ytmockeaiccpogaa.Pure
open Go.RowKit Go.Proofs.YtmockeaiccpogaaW.PrintWords Go.Proofs.YtmockeaiccpogaaW.PrintMore Go.Proofs.Ytmockeaiccpogaa.All
set_option linter.unusedVariables false
set_option linter.unusedSimpArgs false
theorem i64 {x : Int} (h : (Lit.int .i64 x).wf = true) : -9223372036854775808 ≤ x ∧ x ≤ 9223372036854775807 := by
  simpa [Lit.wf, IntKind.min, IntKind.max, IntKind.signed, IntKind.bits] using h
theorem w64 {x : Int} (h : -9223372036854775808 ≤ x) (h' : x ≤ 9223372036854775807) : wrap64 x = x := by unfold wrap64; omega
theorem wnat {n : Nat} (h : n ≤ 1000000) : wrap64 ((n : Int) + 1) = ((n + 1 : Nat) : Int) := by unfold wrap64; omega
/-- What holds with some fuel holds with more. -/
theorem fuel {α : Type} {f : Nat → Option α} (hm : ∀ k r, f k = some r → f (k + 1) = some r) {K : Nat} {r : α} (h : f K = some r) : ∀ k, K ≤ k → f k = some r := by
  intro k hk
  obtain ⟨j, rfl⟩ : ∃ j, k = K + j := ⟨k - K, by omega⟩
  clear hk
  induction j with
  | zero => exact h
  | succ j ih => exact hm _ _ ih
theorem example_holds : ∀ k, 200 ≤ k → compositorlaw09_exampleHolds.f k = some true :=
  fuel (f := fun k => compositorlaw09_exampleHolds.f k) (fun k r h => compositorlaw09_exampleHolds.mono k r h) (by decide +kernel)
theorem mx_spec (a b : Int) : a ≤ mx a b ∧ b ≤ mx a b ∧ (mx a b = a ∨ mx a b = b) := by unfold mx; split <;> omega
theorem mn_spec (a b : Int) : mn a b ≤ a ∧ mn a b ≤ b ∧ (mn a b = a ∨ mn a b = b) := by unfold mn; split <;> omega
/-- A valid pixel. -/
def PV (p : S43) : Prop := p.f0 ≤ p.f3 ∧ p.f1 ≤ p.f3 ∧ p.f2 ≤ p.f3
/-- A valid buffer. -/
def VB (W H : Int) (l : List S43) : Prop := (1 ≤ W ∧ W ≤ 256) ∧ (1 ≤ H ∧ H ≤ 256) ∧ (l.length : Int) = W * H ∧ ∀ p ∈ l, PV p
noncomputable instance (W H : Int) (l : List S43) : Decidable (VB W H l) := Classical.propDecidable _
def SZ (n : Int) : Prop := 1 ≤ n ∧ n ≤ 256
noncomputable instance (n : Int) : Decidable (SZ n) := Classical.propDecidable _
theorem ok_iff (p : S43) : buffer_Valid.ok p = true ↔ PV p := by
  have m0 := mn_spec p.f0 p.f3
  have m1 := mn_spec p.f1 p.f3
  have m2 := mn_spec p.f2 p.f3
  unfold buffer_Valid.ok PV
  simp only [Bool.and_eq_true, beq_iff_eq, and_true]
  omega
theorem bsize_eq (a : Int) : buffer_size.f a = some (decide (SZ a)) := by
  unfold buffer_size.f
  split <;> (refine congrArg some (Bool.eq_iff_iff.mpr ?_); simp only [decide_eq_true_eq, Bool.false_eq_true, false_iff]; unfold SZ; omega)
theorem rsize_eq (a b : Int) : compositorref09_size.f a b = some (decide (SZ a ∧ SZ b)) := by
  unfold compositorref09_size.f
  repeat' split
  all_goals (refine congrArg some (Bool.eq_iff_iff.mpr ?_); simp only [decide_eq_true_eq, Bool.false_eq_true, false_iff]; unfold SZ; omega)
theorem prod_small {W H : Int} (hW : SZ W) (hH : SZ H) : wrap64 (W * H) = W * H ∧ 1 ≤ W * H ∧ W * H ≤ 65536 := by
  unfold SZ at hW hH
  have p1 := Int.mul_le_mul hW.2 hH.2 (by omega) (by omega : (0 : Int) ≤ 256)
  have p2 : 0 < W * H := Int.mul_pos (by omega) (by omega)
  refine ⟨?_, by omega, by omega⟩
  unfold wrap64; omega
theorem bvalid_eq (W H : Int) (l : List S43) : buffer_Valid.f W H l = some (decide (VB W H l)) := by
  simp only [buffer_Valid.f, bsize_eq, Option.bind_some, decide_eq_true_eq]
  by_cases hW : SZ W
  · by_cases hH : SZ H
    · have hp := prod_small hW hH
      rw [if_pos hW, if_pos hH, hp.1]
      by_cases hl : (l.length : Int) = W * H
      · rw [if_pos hl]
        refine congrArg some (Bool.eq_iff_iff.mpr ?_)
        rw [List.all_eq_true, decide_eq_true_eq]
        exact ⟨fun h => ⟨hW, hH, hl, fun p hp => (ok_iff p).mp (h p hp)⟩, fun h p hp => (ok_iff p).mpr (h.2.2.2 p hp)⟩
      · rw [if_neg hl, decide_eq_false (fun h => hl h.2.2.1)]
    · rw [if_pos hW, if_neg hH, decide_eq_false (fun h => hH h.2.1)]
  · rw [if_neg hW, decide_eq_false (fun h => hW h.1)]
theorem rd_at {l : List S43} {i : Nat} (h : i < l.length) : rd_T43 l (i : Int) = l[i] := by
  simp [rd_T43, List.getD_eq_getElem?_getD, List.getElem?_eq_getElem h]
theorem rpv (p : S43) : compositorref08_Valid.f p.f0 p.f1 p.f2 p.f3 = some (decide (p.f0 ≤ p.f3 ∧ p.f1 ≤ p.f3 ∧ p.f2 ≤ p.f3)) := by
  unfold compositorref08_Valid.f
  repeat' split
  all_goals (refine congrArg some (Bool.eq_iff_iff.mpr ?_); simp only [decide_eq_true_eq, Bool.false_eq_true, false_iff]; omega)
theorem rvl (W H : Int) (l : List S43) (hl : l.length ≤ 100000) : ∀ d i, i + d = l.length → ∀ k, d + 1 ≤ k → ∀ b, (b = true ↔ ∀ p ∈ l.drop i, PV p) → compositorref09_Valid.l0 k i W H l = some b := by
  intro d
  induction d with
  | zero =>
    intro i hi k hk b hb
    obtain ⟨k, rfl⟩ : ∃ j, k = j + 1 := ⟨k - 1, by omega⟩
    rw [compositorref09_Valid.l0, if_neg (by omega)]
    have e : l.drop i = [] := List.drop_eq_nil_of_le (by omega)
    rw [e] at hb
    have : b = true := hb.mpr (fun p hp => by cases hp)
    rw [this]
  | succ d ih =>
    intro i hi k hk b hb
    obtain ⟨k, rfl⟩ : ∃ j, k = j + 1 := ⟨k - 1, by omega⟩
    have hlt : i < l.length := by omega
    rw [compositorref09_Valid.l0, if_pos (by omega), if_pos (by omega), rd_at hlt, rpv, Option.bind_some]
    have e : l.drop i = l[i] :: l.drop (i + 1) := List.drop_eq_getElem_cons hlt
    rw [e] at hb
    have ew : wrap64 ((i : Int) + 1) = ((i + 1 : Nat) : Int) := wnat (by omega)
    rw [ew]
    simp only [decide_eq_true_eq]
    by_cases h0 : PV l[i]
    · rw [if_pos (show l[i].f0 ≤ l[i].f3 ∧ l[i].f1 ≤ l[i].f3 ∧ l[i].f2 ≤ l[i].f3 from h0)]
      refine ih (i + 1) (by omega) k (by omega) b (hb.trans ?_)
      constructor
      · intro h p hm; exact h p (List.mem_cons_of_mem _ hm)
      · intro h p hm
        rcases List.mem_cons.mp hm with rfl | hm
        · exact h0
        · exact h p hm
    · rw [if_neg (show ¬ (l[i].f0 ≤ l[i].f3 ∧ l[i].f1 ≤ l[i].f3 ∧ l[i].f2 ≤ l[i].f3) from h0)]
      cases b with
      | false => rfl
      | true => exact absurd (hb.mp rfl l[i] (List.mem_cons_self ..)) h0
theorem rvalid_eq (W H : Int) (l : List S43) (hl : l.length ≤ 100000) : ∀ k, l.length + 2 ≤ k → compositorref09_Valid.f k W H l = some (decide (VB W H l)) := by
  intro k hk
  obtain ⟨k, rfl⟩ : ∃ j, k = j + 1 := ⟨k - 1, by omega⟩
  simp only [compositorref09_Valid.f, rsize_eq, Option.bind_some, decide_eq_true_eq, compositorref09_Valid.j0, if_true]
  by_cases hs : SZ W ∧ SZ H
  · have hp := prod_small hs.1 hs.2
    rw [if_pos hs, hp.1]
    by_cases he : (l.length : Int) = W * H
    · have e : ((l.length : Int) != W * H) = false := by simpa using he
      rw [e, if_neg (by simp)]
      refine rvl W H l hl l.length 0 (by omega) k (by omega) _ ?_
      rw [decide_eq_true_eq, List.drop_zero]
      exact ⟨fun h => h.2.2.2, fun h => ⟨hs.1, hs.2, he, h⟩⟩
    · have e : ((l.length : Int) != W * H) = true := by simpa using he
      rw [e, if_pos rfl, decide_eq_false (fun h => he h.2.2.1)]
  · rw [if_neg hs, decide_eq_false (fun h => hs ⟨h.1, h.2.1⟩)]
theorem pne (a b : S43) : (!(a.f0 == b.f0) || (!(a.f1 == b.f1) || (!(a.f2 == b.f2) || (!(a.f3 == b.f3))))) = true ↔ a ≠ b := by
  obtain ⟨a0, a1, a2, a3⟩ := a
  obtain ⟨b0, b1, b2, b3⟩ := b
  simp only [Bool.or_eq_true, Bool.not_eq_true', beq_eq_false_iff_ne, ne_eq, S43.mk.injEq]
  omega
/-- Two buffers are one. -/
def EB (W H : Int) (l : List S43) (W' H' : Int) (l' : List S43) : Prop := W = W' ∧ H = H' ∧ l = l'
noncomputable instance (W H : Int) (l : List S43) (W' H' : Int) (l' : List S43) : Decidable (EB W H l W' H' l') := Classical.propDecidable _
theorem rel (W H : Int) (l : List S43) (W' H' : Int) (l' : List S43) (hl : l.length ≤ 100000) (he : l.length = l'.length) : ∀ d i, i + d = l.length → ∀ k, d + 1 ≤ k → ∀ b, (b = true ↔ l.drop i = l'.drop i) → compositorref09_Equal.l0 k i W H l W' H' l' = some b := by
  intro d
  induction d with
  | zero =>
    intro i hi k hk b hb
    obtain ⟨k, rfl⟩ : ∃ j, k = j + 1 := ⟨k - 1, by omega⟩
    rw [compositorref09_Equal.l0, if_neg (by omega)]
    have : b = true := hb.mpr (by rw [List.drop_eq_nil_of_le (by omega), List.drop_eq_nil_of_le (by omega)])
    rw [this]
  | succ d ih =>
    intro i hi k hk b hb
    obtain ⟨k, rfl⟩ : ∃ j, k = j + 1 := ⟨k - 1, by omega⟩
    have hlt : i < l.length := by omega
    have hlt' : i < l'.length := by omega
    rw [compositorref09_Equal.l0, if_pos (by omega), if_pos (by omega), if_pos (by omega), rd_at hlt, rd_at hlt', wnat (by omega)]
    rw [List.drop_eq_getElem_cons hlt, List.drop_eq_getElem_cons hlt'] at hb
    by_cases hp : l[i] = l'[i]
    · rw [if_neg (fun h => (pne _ _).mp h hp)]
      exact ih (i + 1) (by omega) k (by omega) b (hb.trans (by rw [List.cons.injEq]; exact ⟨fun h => h.2, fun h => ⟨hp, h⟩⟩))
    · rw [if_pos ((pne _ _).mpr hp)]
      cases b with
      | false => rfl
      | true => exact absurd (List.cons.inj (hb.mp rfl)).1 hp
theorem requal_eq (W H : Int) (l : List S43) (W' H' : Int) (l' : List S43) (hl : l.length ≤ 100000) : ∀ k, l.length + 2 ≤ k → compositorref09_Equal.f k W H l W' H' l' = some (decide (EB W H l W' H' l')) := by
  intro k hk
  obtain ⟨k, rfl⟩ : ∃ j, k = j + 1 := ⟨k - 1, by omega⟩
  simp only [compositorref09_Equal.f, compositorref09_Equal.j0, if_true]
  by_cases h1 : W = W'
  · by_cases h2 : H = H'
    · rw [if_pos h1, if_pos h2]
      by_cases h3 : (l.length : Int) = (l'.length : Int)
      · have e : ((l.length : Int) != (l'.length : Int)) = false := by simpa using h3
        rw [e, if_neg (by simp)]
        refine rel W H l W' H' l' hl (by omega) l.length 0 (by omega) k (by omega) _ ?_
        rw [decide_eq_true_eq, List.drop_zero, List.drop_zero]
        exact ⟨fun h => h.2.2, fun h => ⟨h1, h2, h⟩⟩
      · have e : ((l.length : Int) != (l'.length : Int)) = true := by simpa using h3
        rw [e, if_pos rfl, decide_eq_false (fun h => h3 (by rw [h.2.2]))]
    · rw [if_pos h1, if_neg h2, decide_eq_false (fun h => h2 h.2.1)]
  · rw [if_neg h1, decide_eq_false (fun h => h1 h.1)]
theorem requal_refl (W H : Int) (l : List S43) (hl : l.length ≤ 100000) (k : Nat) (hk : l.length + 2 ≤ k) : compositorref09_Equal.f k W H l W H l = some true := by
  rw [requal_eq W H l W H l hl k hk, decide_eq_true (show EB W H l W H l from ⟨rfl, rfl, rfl⟩)]
theorem small_eq (W H : Int) (l : List S43) : compositorlaw09_small.f W H l = some (decide ((l.length : Int) ≤ 400)) := rfl
theorem row_open (p : Nat → Bool) (w y : Nat) (l : List S47) (x : Nat) : (buffer_runs.row p w y l x).2 = (decide (0 < x) && p (y * w + x - 1)) := by
  cases x with
  | zero => rw [buffer_runs.row_zero]; rfl
  | succ x =>
    rw [buffer_runs.row_succ, buffer_runs.stp, show y * w + (x + 1) - 1 = y * w + x by omega]
    cases h : p (y * w + x) <;> simp
theorem row_len (p : Nat → Bool) (w y : Nat) (l : List S47) (x : Nat) : (buffer_runs.row p w y l x).1.length ≤ l.length + x ∧ ((buffer_runs.row p w y l x).2 = true → 0 < (buffer_runs.row p w y l x).1.length) := by
  induction x with
  | zero => rw [buffer_runs.row_zero]; exact ⟨Nat.le_refl _, fun h => by cases h⟩
  | succ x ih =>
    rw [buffer_runs.row_succ, buffer_runs.stp]
    cases h : p (y * w + x) with
    | false => simp only [Bool.false_eq_true, if_false]; exact ⟨by omega, fun h => by cases h⟩
    | true =>
      simp only [if_true, buffer_runs.upd_length]
      cases h2 : (buffer_runs.row p w y l x).2 with
      | true => simp only [if_true]; exact ⟨by omega, fun _ => ih.2 h2⟩
      | false => simp only [Bool.false_eq_true, if_false, List.length_append, List.length_cons, List.length_nil]; exact ⟨by omega, fun _ => by omega⟩
theorem all_len (p : Nat → Bool) (w : Nat) (y : Nat) : (buffer_runs.all p w y).length ≤ y * w := by
  induction y with
  | zero => simp [buffer_runs.all]
  | succ y ih =>
    rw [buffer_runs.all_succ, Nat.succ_mul]
    exact Nat.le_trans (row_len p w y _ w).1 (by omega)
theorem upd_snoc (l : List S47) (r : S47) (e : Int) : buffer_runs.upd (l ++ [r]) e = l ++ [⟨r.f0, r.f1, e, r.f3⟩] := by
  have h : (((l ++ [r]).length : Int) - 1).toNat = l.length := by simp
  have h2 : rd_T47 (l ++ [r]) (((l ++ [r]).length : Int) - 1) = r := by
    rw [rd_T47, h]
    simp
  rw [buffer_runs.upd, h2, h, List.set_append_right _ _ (Nat.le_refl _)]
  simp
theorem ridx {W H y x : Nat} (hW : W ≤ 256) (hH : H ≤ 256) (hy : y < H) (hx : x < W) : Aside0 (wrap64 (wrap64 ((y : Int) * (W : Int)) + (x : Int)) = ((y * W + x : Nat) : Int)) ∧ y * W + x < W * H ∧ W * H ≤ 65536 ∧ y * W + W ≤ W * H ∧ Aside0 (0 < x → wrap64 (((y * W + x : Nat) : Int) - 1) = ((y * W + x - 1 : Nat) : Int)) := by
  have m1 : (y + 1) * W ≤ H * W := Nat.mul_le_mul_right W hy
  have m2 : W * H ≤ 256 * 256 := Nat.mul_le_mul hW hH
  rw [Nat.mul_comm H W, Nat.succ_mul] at m1
  rw [← Int.natCast_mul]
  generalize y * W = q at *
  generalize W * H = r at *
  refine ⟨⟨?_⟩, by omega, by omega, by omega, ⟨fun h => ?_⟩⟩
  · rw [w64 (x := (q : Int)) (by omega) (by omega), w64 (by omega) (by omega)]; omega
  · rw [w64 (by omega) (by omega)]; omega
theorem rruns_l1 (p : Nat → Bool) (W H : Nat) (hW : W ≤ 256) (hH : H ≤ 256) (marked : List Bool) (hm : marked.length = W * H) (hp : ∀ i, i < W * H → rdOf false marked (i : Int) = p i) (y : Nat) (hy : y < H) (l : List S47) (hl : l.length ≤ y * W) (k : Nat) :
    ∀ d x, x + d = W → compositorref09_Runs.l1 (k + d + 1) W H marked (buffer_runs.row p W y l x).1 y x = compositorref09_Runs.l0 k W H marked (buffer_runs.row p W y l W).1 ((y + 1 : Nat) : Int) := by
  intro d
  induction d with
  | zero =>
    intro x hx
    obtain rfl : x = W := by omega
    rw [compositorref09_Runs.l1, if_neg (by omega), wnat (by omega)]
  | succ d ih =>
    intro x hx
    have ih' := Aside0.mk (ih (x + 1) (by omega))
    have hrow := buffer_runs.row_succ p W y l x
    have hopen := row_open p W y l x
    have hlen := row_len p W y l x
    have hpp := Aside0.mk hp
    clear hp ih
    obtain ⟨e1, n1, n2, n3, e3⟩ := ridx hW hH hy (show x < W by omega)
    have ex : Aside0 (wrap64 ((x : Int) + 1) = ((x + 1 : Nat) : Int)) := ⟨wnat (by omega)⟩
    have ey : Aside0 (wrap64 ((y : Int) + 1) = ((y + 1 : Nat) : Int)) := ⟨wnat (by omega)⟩
    rw [show k + (d + 1) + 1 = (k + d + 1) + 1 by omega, compositorref09_Runs.l1, e1.out, ex.out, if_pos (by omega)]
    rw [if_pos (show (0 : Int) ≤ ((y * W + x : Nat) : Int) by exact Int.natCast_nonneg _), if_pos (show ((y * W + x : Nat) : Int) < (marked.length : Int) by rw [hm]; exact Int.ofNat_lt.mpr n1), hpp.out _ n1]
    generalize hs : buffer_runs.row p W y l x = s at *
    obtain ⟨s1, s2⟩ := s
    simp only at hopen hlen hrow ⊢
    have ih2 := ih'.out
    rw [hrow, buffer_runs.stp] at ih2
    have ey2 : (y : Int) + 1 = ((y + 1 : Nat) : Int) := rfl
    have ex2 : (x : Int) + 1 = ((x + 1 : Nat) : Int) := rfl
    have hs1 : s1.length ≤ 70000 := by omega
    cases hq : p (y * W + x) with
    | false =>
      rw [hq] at ih2
      simp only [Bool.false_eq_true, if_false] at ih2 ⊢
      exact ih2
    | true =>
      rw [hq] at ih2
      simp only [if_true] at ih2 ⊢
      clear hs ih' hrow
      by_cases hx0 : 0 < x
      · rw [if_pos (show (x : Int) > 0 from Int.ofNat_lt.mpr hx0)]
        have n4 : y * W + x - 1 < W * H := Nat.lt_of_le_of_lt (Nat.sub_le _ _) n1
        rw [e3.out hx0, if_pos (show (0 : Int) ≤ ((y * W + x - 1 : Nat) : Int) from Int.natCast_nonneg _), if_pos (show ((y * W + x - 1 : Nat) : Int) < (marked.length : Int) by rw [hm]; exact Int.ofNat_lt.mpr n4), hpp.out _ n4]
        rw [decide_eq_true hx0, Bool.true_and] at hopen
        rw [← hopen]
        clear n1 n2 n3 n4 e3 e1 hpp hopen hq hm hl hy
        cases s2 with
        | true =>
          have hpos := hlen.2 rfl
          simp only [if_true] at ih2 ⊢
          have e4 : wrap64 ((s1.length : Int) - 1) = (s1.length : Int) - 1 := w64 (by omega) (by omega)
          rw [e4, if_pos (by omega), if_pos (by omega)]
          rw [ex2] at ih2
          exact ih2
        | false =>
          simp only [Bool.false_eq_true, if_false] at ih2 ⊢
          rw [upd_snoc] at ih2
          rw [if_pos (by omega), ey.out]
          rw [ey2, ex2] at ih2
          exact ih2
      · rw [if_neg (show ¬ (x : Int) > 0 by omega)]
        rw [decide_eq_false hx0, Bool.false_and] at hopen
        subst hopen
        simp only [Bool.false_eq_true, if_false] at ih2
        rw [upd_snoc] at ih2
        rw [if_pos (show s1.length < 4398046511104 by omega), ey.out]
        rw [ey2, ex2] at ih2
        exact ih2
theorem rruns_l0 (p : Nat → Bool) (W H : Nat) (hW : W ≤ 256) (hH : H ≤ 256) (marked : List Bool) (hm : marked.length = W * H) (hp : ∀ i, i < W * H → rdOf false marked (i : Int) = p i) :
    ∀ d y, y + d = H → ∀ k, d * (W + 2) + 1 ≤ k → compositorref09_Runs.l0 k W H marked (buffer_runs.all p W y) y = some (buffer_runs.all p W H) := by
  intro d
  induction d with
  | zero =>
    intro y hy k hk
    obtain ⟨k, rfl⟩ : ∃ j, k = j + 1 := ⟨k - 1, by omega⟩
    rw [compositorref09_Runs.l0, if_neg (by omega), show y = H by omega]
  | succ d ih =>
    intro y hy k hk
    rw [Nat.succ_mul] at hk
    obtain ⟨j, rfl⟩ : ∃ j, k = (j + W + 1) + 1 := ⟨k - W - 2, by omega⟩
    rw [compositorref09_Runs.l0, if_pos (by omega)]
    have q := rruns_l1 p W H hW hH marked hm hp y (by omega) (buffer_runs.all p W y) (all_len p W y) j W 0 (by omega)
    rw [buffer_runs.row_zero] at q
    rw [show ((0 : Nat) : Int) = 0 from rfl] at q
    rw [q, ← buffer_runs.all_succ]
    exact ih (y + 1) (by omega) j (by omega)
theorem rruns_eq (p : Nat → Bool) (W H : Nat) (hW : W ≤ 256) (hH : H ≤ 256) (marked : List Bool) (hm : marked.length = W * H) (hp : ∀ i, i < W * H → rdOf false marked (i : Int) = p i) (k : Nat) (hk : H * (W + 2) + 1 ≤ k) :
    compositorref09_Runs.f k W H marked = some (buffer_runs.all p W H) := by
  have q := rruns_l0 p W H hW hH marked hm hp H 0 (by omega) k hk
  exact q
/-- The runs, or the error that there are too many. -/
def RU (p : Nat → Bool) (W H : Nat) : List S47 × Int := if (buffer_runs.all p W H).length > 256 then ([], 5) else (buffer_runs.all p W H, 0)
theorem marks_rd (p : Nat → Bool) (n i : Nat) (h : i < n) : rdOf false ((List.range n).map p) (i : Int) = p i := by
  simp [rdOf, List.getD_eq_getElem?_getD, h]
theorem rdiff_l0 (W H : Nat) (a b : List S43) (hW : W ≤ 256) (hH : H ≤ 256) (ha : a.length = W * H) (hb : b.length = W * H) :
    ∀ d i, i + d = W * H → ∀ k, d + 2 + H * (W + 2) ≤ k → compositorref09_Diff.l0 k ((List.range i).map (buffer_Diff.mk a b)) i W H a W H b = some (RU (buffer_Diff.mk a b) W H) := by
  have m2 : W * H ≤ 256 * 256 := Nat.mul_le_mul hW hH
  intro d
  induction d with
  | zero =>
    intro i hi k hk
    obtain ⟨k, rfl⟩ : ∃ j, k = j + 1 := ⟨k - 1, by omega⟩
    obtain rfl : i = W * H := by omega
    rw [compositorref09_Diff.l0, if_neg (by omega)]
    rw [rruns_eq (buffer_Diff.mk a b) W H hW hH _ (by simp) (fun i hi => marks_rd _ _ _ hi) k (by omega), Option.bind_some, RU]
    by_cases hq : (buffer_runs.all (buffer_Diff.mk a b) W H).length > 256
    · rw [if_pos hq, if_pos (by omega)]
    · rw [if_neg hq, if_neg (by omega)]
  | succ d ih =>
    intro i hi k hk
    obtain ⟨k, rfl⟩ : ∃ j, k = j + 1 := ⟨k - 1, by omega⟩
    rw [compositorref09_Diff.l0, if_pos (by omega), if_pos (by omega), if_pos (by omega), if_pos (by simp; omega), wnat (by omega)]
    have q := ih (i + 1) (by omega) k (by omega)
    rw [List.range_succ, List.map_append] at q
    exact q
theorem ropaque_l0 (W H : Nat) (a : List S43) (hW : W ≤ 256) (hH : H ≤ 256) (ha : a.length = W * H) :
    ∀ d i, i + d = W * H → ∀ k, d + 2 + H * (W + 2) ≤ k → compositorref09_OpaqueRegion.l0 k ((List.range i).map (buffer_OpaqueRegion.mk a)) i W H a = some (RU (buffer_OpaqueRegion.mk a) W H) := by
  have m2 : W * H ≤ 256 * 256 := Nat.mul_le_mul hW hH
  intro d
  induction d with
  | zero =>
    intro i hi k hk
    obtain ⟨k, rfl⟩ : ∃ j, k = j + 1 := ⟨k - 1, by omega⟩
    obtain rfl : i = W * H := by omega
    rw [compositorref09_OpaqueRegion.l0, if_neg (by omega)]
    rw [rruns_eq (buffer_OpaqueRegion.mk a) W H hW hH _ (by simp) (fun i hi => marks_rd _ _ _ hi) k (by omega), Option.bind_some, RU]
    by_cases hq : (buffer_runs.all (buffer_OpaqueRegion.mk a) W H).length > 256
    · rw [if_pos hq, if_pos (by omega)]
    · rw [if_neg hq, if_neg (by omega)]
  | succ d ih =>
    intro i hi k hk
    obtain ⟨k, rfl⟩ : ∃ j, k = j + 1 := ⟨k - 1, by omega⟩
    rw [compositorref09_OpaqueRegion.l0, if_pos (by omega), if_pos (by omega), compositorref08_Opaque.f, Option.bind_some, if_pos (by simp; omega), wnat (by omega)]
    have q := ih (i + 1) (by omega) k (by omega)
    rw [List.range_succ, List.map_append] at q
    exact q
/-- What Diff answers. -/
noncomputable def DF (W H : Int) (a : List S43) (W' H' : Int) (b : List S43) : List S47 × Int := if VB W H a ∧ VB W' H' b then (if W = W' ∧ H = H' then RU (buffer_Diff.mk a b) W.toNat H.toNat else ([], 2)) else ([], 15)
theorem diff_eq (W H : Int) (a : List S43) (W' H' : Int) (b : List S43) : buffer_Diff.f W H a W' H' b = some (DF W H a W' H' b) := by
  simp only [buffer_Diff.f, bvalid_eq, Option.bind_some, decide_eq_true_eq, DF]
  by_cases h1 : VB W H a
  · rw [if_pos h1]
    by_cases h2 : VB W' H' b
    · rw [if_pos h2, if_pos (show VB W H a ∧ VB W' H' b from ⟨h1, h2⟩)]
      by_cases h3 : W = W' ∧ H = H'
      · rw [if_pos h3, if_pos h3, RU]
        by_cases hq : (buffer_runs.all (buffer_Diff.mk a b) W.toNat H.toNat).length > 256
        · rw [if_pos hq, if_pos hq, if_pos hq]
        · rw [if_neg hq, if_neg hq, if_neg hq]
      · rw [if_neg h3, if_neg h3]
    · rw [if_neg h2, if_neg (show ¬ (VB W H a ∧ VB W' H' b) from fun h => h2 h.2)]
  · rw [if_neg h1, if_neg (show ¬ (VB W H a ∧ VB W' H' b) from fun h => h1 h.1)]
theorem VB_nat {W H : Int} {a : List S43} (h : VB W H a) : ∃ w n : Nat, W = w ∧ H = n ∧ w ≤ 256 ∧ n ≤ 256 ∧ 1 ≤ w ∧ 1 ≤ n ∧ a.length = w * n := by
  obtain ⟨h1, h2, h3, _⟩ := h
  obtain ⟨w, rfl⟩ : ∃ w : Nat, W = w := ⟨W.toNat, by omega⟩
  obtain ⟨n, rfl⟩ : ∃ n : Nat, H = n := ⟨H.toNat, by omega⟩
  refine ⟨w, n, rfl, rfl, by omega, by omega, by omega, by omega, ?_⟩
  rw [← Int.natCast_mul] at h3
  exact Int.ofNat.inj h3
theorem rdiff_eq (W H : Int) (a : List S43) (W' H' : Int) (b : List S43) (ha : a.length ≤ 600) (hb : b.length ≤ 600) (k : Nat) (hk : 70000 ≤ k) : compositorref09_Diff.f k W H a W' H' b = some (DF W H a W' H' b) := by
  obtain ⟨k, rfl⟩ : ∃ j, k = j + 2 := ⟨k - 2, by omega⟩
  simp only [compositorref09_Diff.f, rvalid_eq W H a (by omega) (k + 2) (by omega), rvalid_eq W' H' b (by omega) (k + 2) (by omega), Option.bind_some, decide_eq_true_eq, DF, compositorref09_Diff.j0, compositorref09_Diff.j1, if_true]
  by_cases h1 : VB W H a
  · rw [if_pos h1]
    by_cases h2 : VB W' H' b
    · rw [if_neg (show ¬ (!decide (VB W' H' b)) = true by simp [h2]), if_pos (show VB W H a ∧ VB W' H' b from ⟨h1, h2⟩)]
      by_cases h3 : W = W'
      · rw [if_pos h3]
        by_cases h4 : H = H'
        · rw [if_neg (show ¬ (H != H') = true by simp [h4]), if_pos (show W = W' ∧ H = H' from ⟨h3, h4⟩)]
          subst h3 h4
          obtain ⟨w, n, rfl, rfl, hw, hn, _, _, hl⟩ := VB_nat h1
          have hl2 : b.length = w * n := by
            have := h2.2.2.1
            rw [← Int.natCast_mul] at this
            exact Int.ofNat.inj this
          have hm : n * (w + 2) ≤ 256 * 258 := Nat.mul_le_mul hn (by omega)
          exact rdiff_l0 w n a b hw hn hl hl2 (w * n) 0 (by omega) k (by omega)
        · rw [if_pos (show (H != H') = true by simp [h4]), if_neg (show ¬ (W = W' ∧ H = H') from fun h => h4 h.2)]
      · rw [if_neg h3, if_neg (show ¬ (W = W' ∧ H = H') from fun h => h3 h.1)]
    · rw [if_pos (show (!decide (VB W' H' b)) = true by simp [h2]), if_neg (show ¬ (VB W H a ∧ VB W' H' b) from fun h => h2 h.2)]
  · rw [if_neg h1, if_neg (show ¬ (VB W H a ∧ VB W' H' b) from fun h => h1 h.1)]
/-- What OpaqueRegion answers. -/
noncomputable def OP (W H : Int) (a : List S43) : List S47 × Int := if VB W H a then RU (buffer_OpaqueRegion.mk a) W.toNat H.toNat else ([], 15)
theorem opaque_eq (W H : Int) (a : List S43) : buffer_OpaqueRegion.f W H a = some (OP W H a) := by
  simp only [buffer_OpaqueRegion.f, bvalid_eq, Option.bind_some, decide_eq_true_eq, OP]
  by_cases h1 : VB W H a
  · rw [if_pos h1, if_pos h1, RU]
    by_cases hq : (buffer_runs.all (buffer_OpaqueRegion.mk a) W.toNat H.toNat).length > 256
    · rw [if_pos hq, if_pos hq, if_pos hq]
    · rw [if_neg hq, if_neg hq, if_neg hq]
  · rw [if_neg h1, if_neg h1]
theorem ropaque_eq (W H : Int) (a : List S43) (ha : a.length ≤ 600) (k : Nat) (hk : 70000 ≤ k) : compositorref09_OpaqueRegion.f k W H a = some (OP W H a) := by
  simp only [compositorref09_OpaqueRegion.f, rvalid_eq W H a (by omega) k (by omega), Option.bind_some, decide_eq_true_eq, OP]
  by_cases h1 : VB W H a
  · rw [if_pos h1, if_pos h1]
    obtain ⟨w, n, rfl, rfl, hw, hn, _, _, hl⟩ := VB_nat h1
    have hm : n * (w + 2) ≤ 256 * 258 := Nat.mul_le_mul hn (by omega)
    exact ropaque_l0 w n a hw hn hl (w * n) 0 (by omega) k (by omega)
  · rw [if_neg h1, if_neg h1]
theorem rects_l0 (l : List S47) (hl : l.length ≤ 1000) : ∀ d i, i + d = l.length → ∀ k, d + 1 ≤ k → compositorlaw09_rects.l0 k l l i = some true := by
  intro d
  induction d with
  | zero =>
    intro i hi k hk
    obtain ⟨k, rfl⟩ : ∃ j, k = j + 1 := ⟨k - 1, by omega⟩
    rw [compositorlaw09_rects.l0, if_neg (by omega)]
  | succ d ih =>
    intro i hi k hk
    obtain ⟨k, rfl⟩ : ∃ j, k = j + 1 := ⟨k - 1, by omega⟩
    rw [compositorlaw09_rects.l0, if_pos (by omega), if_pos (by omega), if_pos (by omega), wnat (by omega)]
    simp only [beq_self_eq_true, Bool.not_true, Bool.or_self, Bool.false_eq_true, if_false]
    exact ih (i + 1) (by omega) k (by omega)
theorem rects_refl (l : List S47) (hl : l.length ≤ 1000) (k : Nat) (hk : 1001 ≤ k) : compositorlaw09_rects.f k l l = some true := by
  rw [compositorlaw09_rects.f, if_pos rfl]
  exact rects_l0 l hl l.length 0 (by omega) k (by omega)
theorem RU_len (p : Nat → Bool) (W H : Nat) : (RU p W H).1.length ≤ 256 := by
  unfold RU
  split
  · simp
  · simp only; omega
theorem DF_len (W H : Int) (a : List S43) (W' H' : Int) (b : List S43) : (DF W H a W' H' b).1.length ≤ 256 := by
  unfold DF
  split
  · split
    · exact RU_len _ _ _
    · simp
  · simp
theorem OP_len (W H : Int) (a : List S43) : (OP W H a).1.length ≤ 256 := by
  unfold OP
  split
  · exact RU_len _ _ _
  · simp
theorem runslaw (W H : Int) (a : List S43) (W' H' : Int) (b : List S43) : compositorlaw09_BufferRuns.f 70003 W H a W' H' b = some true := by
  unfold compositorlaw09_BufferRuns.f
  by_cases h1 : (a.length : Int) > 600
  · rw [if_pos h1]
    simp only [compositorlaw09_BufferRuns.j0, if_true, example_holds 70002 (by omega), Option.bind_some]
  · rw [if_neg h1]
    by_cases h2 : (b.length : Int) > 600
    · rw [decide_eq_true h2]
      simp only [compositorlaw09_BufferRuns.j0, if_true, example_holds 70002 (by omega), Option.bind_some]
    · rw [decide_eq_false h2]
      simp only [compositorlaw09_BufferRuns.j0, Bool.false_eq_true, if_false, diff_eq, rdiff_eq W H a W' H' b (by omega) (by omega) 70002 (by omega), Option.bind_some, if_true, rects_refl _ (show (DF W H a W' H' b).1.length ≤ 1000 from Nat.le_trans (DF_len _ _ _ _ _ _) (by omega)) 70002 (by omega), Bool.not_true, compositorlaw09_BufferRuns.j1, opaque_eq, ropaque_eq W H a (by omega) 70001 (by omega), rects_refl _ (show (OP W H a).1.length ≤ 1000 from Nat.le_trans (OP_len _ _ _) (by omega)) 70001 (by omega), example_holds 70001 (by omega)]
theorem BufferRuns (x0 : S27) (x1 : S27) (ok0 : ((Lit.int .i64 x0.f0).wf = true) ∧ ((Lit.int .i64 x0.f1).wf = true) ∧ (x0.f2.length * 4 ≤ 140737488351232 ∧ x0.f2.length ≤ 9223372036854775807 ∧ ∀ y25 ∈ x0.f2, ((Lit.int .u8 y25.f0).wf = true) ∧ ((Lit.int .u8 y25.f1).wf = true) ∧ ((Lit.int .u8 y25.f2).wf = true) ∧ ((Lit.int .u8 y25.f3).wf = true))) (ok1 : ((Lit.int .i64 x1.f0).wf = true) ∧ ((Lit.int .i64 x1.f1).wf = true) ∧ (x1.f2.length * 4 ≤ 140737488351232 ∧ x1.f2.length ≤ 9223372036854775807 ∧ ∀ y25 ∈ x1.f2, ((Lit.int .u8 y25.f0).wf = true) ∧ ((Lit.int .u8 y25.f1).wf = true) ∧ ((Lit.int .u8 y25.f2).wf = true) ∧ ((Lit.int .u8 y25.f3).wf = true))) :
    ∃ k, compositorlaw09_BufferRuns.f k x0.f0 x0.f1 x0.f2 x1.f0 x1.f1 x1.f2 = some true := by
  exact ⟨70003, runslaw _ _ _ _ _ _⟩

end Go.Proofs.Ytmockeaiccpogaa.Pure
