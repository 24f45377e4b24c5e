-- Written by a program of this session, which runs the kit's print.py and puts in functions that this session typed. Not trusted: Lean checks it.
import Derived.Test.YthpmfhfnkgbkjaaHand
import Derived.Test.YthpmfhfnkgbkjaaAllx0
import Derived.Test.YthpmfhfnkgbkjaaAllx1
import Derived.Test.YthpmfhfnkgbkjaaAllx17
import Derived.Test.YthpmfhfnkgbkjaaAllx19
import Derived.Test.YthpmfhfnkgbkjaaAllx33
namespace Go.Proofs.Ythpmfhfnkgbkjaa.All
open Go.Proofs.YthpmfhfnkgbkjaaSq
open Go.RowKit Go.Proofs.YthpmfhfnkgbkjaaW.PrintWords Go.Proofs.YthpmfhfnkgbkjaaW.PrintLast Go.Proofs.YthpmfhfnkgbkjaaW.PrintMore
attribute [local go_sem] max2_int min2_int max_two min_two max_three min_three max_four min_four   -- for this text's walks alone
set_option linter.unusedVariables false
set_option linter.unusedSimpArgs false

attribute [local go_sem high] eqA34
/-! ### compositorlaw10_ScaleMaps: function 6 -/
abbrev zq6.q0 : Array Bool := #[false, false, false, false, false, false, false, false, false, false, false, false, false, false, false, false, false, false, false, false, false, false, false, false, false]
abbrev zq6.q1 : Array Bool := #[false, true, false, false, false, false, false, false, false, false, false, false, false, false, false, false, false, false, false, false, false, false, false, false, false]
abbrev zq6.q2 : Array Bool := #[false, true, false, true, false, false, false, false, false, false, false, false, false, false, false, false, false, false, false, false, false, false, false, false, false]
abbrev zq6.q3 : Array Bool := #[false, true, false, true, false, true, false, false, false, false, false, false, false, false, false, false, false, false, false, false, false, false, false, false, false]
abbrev zq6.q4 : Array Bool := #[false, true, false, true, false, true, false, true, false, false, false, false, false, false, false, false, false, false, false, false, false, false, false, false, false]
abbrev zq6.q5 : Array Bool := #[false, true, false, true, false, true, false, true, false, false, false, true, false, false, false, false, false, false, false, false, false, false, false, false, false]
abbrev zq6.q6 : Array Bool := #[false, true, false, true, false, true, false, true, false, false, false, true, false, true, false, false, false, false, false, false, false, false, false, false, false]
abbrev zq6.q7 : Array Bool := #[false, true, false, true, false, true, false, true, false, false, false, true, false, true, false, true, false, false, false, false, false, false, false, false, false]
abbrev zq6.q8 : Array Bool := #[false, true, false, true, false, true, false, true, false, false, false, true, false, true, false, true, false, true, false, false, false, false, false, false, false]
abbrev zq6.q9 : Array Bool := #[true, true, false, true, false, true, false, true, false, false, false, true, false, true, false, true, false, true, false, false, false, false, false, false, false]
abbrev zq6.q10 : Array Bool := #[true, true, true, true, false, true, false, true, false, false, false, true, false, true, false, true, false, true, false, false, false, false, false, false, false]
abbrev zq6.q11 : Array Bool := #[true, true, true, true, true, true, false, true, false, false, false, true, false, true, false, true, false, true, false, false, false, false, false, false, false]
abbrev zq6.q12 : Array Bool := #[true, true, true, true, true, true, true, true, false, false, false, true, false, true, false, true, false, true, false, false, false, false, false, false, false]
abbrev zq6.q13 : Array Bool := #[true, true, true, true, true, true, true, true, true, false, false, true, false, true, false, true, false, true, false, false, false, false, false, false, false]
abbrev zq6.q14 : Array Bool := #[true, true, true, true, true, true, true, true, true, false, true, true, false, true, false, true, false, true, false, false, false, false, false, false, false]
abbrev zq6.q15 : Array Bool := #[true, true, true, true, true, true, true, true, true, false, true, true, true, true, false, true, false, true, false, false, false, false, false, false, false]
abbrev zq6.q16 : Array Bool := #[true, true, true, true, true, true, true, true, true, false, true, true, true, true, true, true, false, true, false, false, false, false, false, false, false]
abbrev zq6.q17 : Array Bool := #[true, true, true, true, true, true, true, true, true, false, true, true, true, true, true, true, true, true, false, false, false, false, false, false, false]
abbrev zq6.q18 : Array Bool := #[true, true, true, true, true, true, true, true, true, false, true, true, true, true, true, true, true, true, true, false, false, false, false, false, false]
abbrev zq6.q19 : Array Bool := #[true, true, true, true, true, true, true, true, true, true, true, true, true, true, true, true, true, true, true, false, false, false, false, false, false]
abbrev zq6.q20 : Array Bool := #[true, true, true, true, true, true, true, true, true, true, true, true, true, true, true, true, true, true, true, true, false, false, false, false, false]
abbrev zq6.q21 : Array Bool := #[true, true, true, true, true, true, true, true, true, true, true, true, true, true, true, true, true, true, true, true, true, false, false, false, false]
abbrev zq6.q22 : Array Bool := #[true, true, true, true, true, true, true, true, true, true, true, true, true, true, true, true, true, true, true, true, true, true, false, false, false]
abbrev zq6.q23 : Array Bool := #[true, true, true, true, true, true, true, true, true, true, true, true, true, true, true, true, true, true, true, true, true, true, true, false, false]
abbrev zq6.q24 : Array Bool := #[true, true, true, true, true, true, true, true, true, true, true, true, true, true, true, true, true, true, true, true, true, true, true, true, false]
abbrev zq6.q25 : Array Bool := #[true, true, true, true, true, true, true, true, true, true, true, true, true, true, true, true, true, true, true, true, true, true, true, true, true]
def compositorlaw10_ScaleMaps.f (k : Nat) (a0_0 : Int) (a0_1 : Int) (a0_2 : Int) (a0_3 : Int) (a1_0 : Int) (a1_1 : Int) (a1_2 : Int) (a1_3 : Int) : Option (Bool) := (scale_MapRect.f k a0_0 a0_1 a0_2 a0_3 a1_0 a1_1 a1_2 a1_3).bind fun bt405 => ((compositorref10_MapRect.f k a0_0 a0_1 a0_2 a0_3 a1_0 a1_1 a1_2 a1_3).bind fun bt409 => (if (bt405.1 == bt409.1 && (bt405.2.1 == bt409.2.1 && (bt405.2.2.1 == bt409.2.2.1 && (bt405.2.2.2 == bt409.2.2.2)))) = true then ((compositorlaw10_exampleHolds.f k).bind fun t413 => (some t413)) else (some false)))
theorem compositorlaw10_ScaleMaps.mono : ∀ a0 a1 a2 a3 a4 a5 a6 a7 k, LeO (compositorlaw10_ScaleMaps.f k a0 a1 a2 a3 a4 a5 a6 a7) (compositorlaw10_ScaleMaps.f (k + 1) a0 a1 a2 a3 a4 a5 a6 a7) := by
 intro a0 a1 a2 a3 a4 a5 a6 a7 k
 unfold compositorlaw10_ScaleMaps.f
 repeat' first
   | (with_reducible exact compositorlaw10_exampleHolds.mono _)
   | (with_reducible exact compositorref10_MapRect.mono _ _ _ _ _ _ _ _ _)
   | (with_reducible exact scale_MapRect.mono _ _ _ _ _ _ _ _ _)
   | (with_reducible exact LeO.refl _)
   | (with_reducible exact LeO.none _)
   | (with_reducible refine LeO.ite ?_ ?_)
   | (with_reducible refine LeO.bind ?_ (fun _ => ?_))
   | exact compositorlaw10_exampleHolds.mono _
   | exact compositorref10_MapRect.mono _ _ _ _ _ _ _ _ _
   | exact scale_MapRect.mono _ _ _ _ _ _ _ _ _
   | exact LeO.none _
   | refine LeO.ite ?_ ?_
   | refine LeO.bind ?_ (fun _ => ?_)
def compositorlaw10_ScaleMaps.T1 : Bool × List (List Nat × List Nat) := (true, [([], []), ([], []), ([1], [1]), ([], []), ([3], [3]), ([], []), ([5], [5]), ([], []), ([7], [7]), ([0, 2, 4, 6, 8], [0, 2, 4, 6, 8]), ([], []), ([], []), ([11], [11]), ([], []), ([13], [13]), ([], []), ([15], [15]), ([], []), ([17], [17]), ([10, 12, 14, 16, 18, 9], [10, 12, 14, 16, 18]), ([9, 19], [9, 19]), ([20, 19], [20]), ([21, 21], [21]), ([21, 22], [21, 22]), ([23, 22, 0, 1, 2, 3, 4, 5, 6, 7, 8, 9, 10, 11, 12, 13, 14, 15, 16, 17, 18, 19, 20, 21, 22, 23], [23])])
def compositorlaw10_ScaleMaps.B1 : List Nat := [0, 0, 2, 0, 8, 0, 32, 0, 128, 511, 0, 0, 2048, 0, 8192, 0, 32768, 0, 131072, 524287, 1048575, 2097151, 4194303, 8388607, 16777215]
theorem compositorlaw10_ScaleMaps.tab1 : rtab .any (opsOf Try.f6 1) = compositorlaw10_ScaleMaps.T1 := by kernel_rfl
theorem compositorlaw10_ScaleMaps.bits1 : waitsOk compositorlaw10_ScaleMaps.T1.2 compositorlaw10_ScaleMaps.B1 = true := by kernel_rfl
set_option maxHeartbeats 8000000 in
set_option maxRecDepth 100000 in
theorem compositorlaw10_ScaleMaps.calls (k : Nat) (a0_0 : Int) (a0_1 : Int) (a0_2 : Int) (a0_3 : Int) (a1_0 : Int) (a1_1 : Int) (a1_2 : Int) (a1_3 : Int) (w : World) (h : compositorlaw10_ScaleMaps.f k a0_0 a0_1 a0_2 a0_3 a1_0 a1_1 a1_2 a1_3 = some true) :
  Calls Try.prog 6 #[.agg #[.int .i64 a0_0, .int .i64 a0_1, .int .i64 a0_2, .int .i64 a0_3], .agg #[.int .i64 a1_0, .int .i64 a1_1, .int .i64 a1_2, .int .i64 a1_3]] w fun e w' => e = .returned (.bool true) ∧ Below w.heap.size w w' := by
 have hu34 := Try.underlying34
 have hu36 := Try.underlying36
 have HB := Aside0.mk (Below.refl w.heap.size w)
 have H : ((scale_MapRect.f k a0_0 a0_1 a0_2 a0_3 a1_0 a1_1 a1_2 a1_3).bind fun bt405 => ((compositorref10_MapRect.f k a0_0 a0_1 a0_2 a0_3 a1_0 a1_1 a1_2 a1_3).bind fun bt409 => (if (bt405.1 == bt409.1 && (bt405.2.1 == bt409.2.1 && (bt405.2.2.1 == bt409.2.2.1 && (bt405.2.2.2 == bt409.2.2.2)))) = true then ((compositorlaw10_exampleHolds.f k).bind fun t413 => (some t413)) else (some false)))) = some true := h
 clear h
 replace H := Option.bind_eq_some_iff.mp H
 obtain ⟨⟨t405, t406, t407, t408⟩, A30, H⟩ := H
 try dsimp only at H
 have A3 := Aside0.mk A30
 clear A30
 replace H := Option.bind_eq_some_iff.mp H
 obtain ⟨⟨t409, t410, t411, t412⟩, A40, H⟩ := H
 try dsimp only at H
 have A4 := Aside0.mk A40
 clear A40
 by_cases c5 : (t405 == t409 && (t406 == t410 && (t407 == t411 && (t408 == t412)))) = true
 ·
  rw [if_pos c5] at H
  have c5b0 : (t405 == t409 && (t406 == t410 && (t407 == t411 && (t408 == t412)))) = true := c5
  (try (have c5b1 : decide (t405 = t409 && (t406 == t410 && (t407 == t411 && (t408 == t412)))) = true := by simpa using c5))
  (try (have c5b2 : (t405 == t409 && (t406 == t410 && (t407 == t411 && (t408 == t412)))) = true := by simpa using c5))
  clear c5
  replace H := Option.bind_eq_some_iff.mp H
  obtain ⟨t413, A60, H⟩ := H
  try dsimp only at H
  have A6 := Aside0.mk A60
  clear A60
  have Hq_ := Option.some.inj H
  go_enter Try.func6, Try.ntmps6
  try go_wp2_with (first | ((with_reducible refine gate_dst (N := 2) rfl ?_); refine box_event ?hg (N := 2) ?hd (cs := #[.int .i64 a0_0, .int .i64 a0_1, .int .i64 a0_2, .int .i64 a0_3]) (t := 34) ?hr ?_; (case hd => rfl); (case hg => rfl); (case hr => first | (go_simp; done) | (go_simp; rfl)); intro gb403 hg w7 hbox hb; have n0_ := hb_ HB hb; have n1_ := Aside0.mk (hbox); have n2_ := Aside0.mk ((by rw [hg]; exact (below_size (hq_ HB)) : w.heap.size ≤ gb403)); have n3_ := Aside0.mk ((by rw [hg]; exact (below_size (hq_ HB)) : w.heap.size ≤ gb403)); clear HB; have HB := n0_; have BK403 := n1_; have GW403 := n2_; have GE403 := n3_; clear n0_ n1_ n2_ n3_; clear hb hbox hg) | ((with_reducible refine gate_dst (N := 3) rfl ?_); refine box_event ?hg (N := 3) ?hd (cs := #[.int .i64 a1_0, .int .i64 a1_1, .int .i64 a1_2, .int .i64 a1_3]) (t := 36) ?hr ?_; (case hd => rfl); (case hg => rfl); (case hr => first | (go_simp; done) | (go_simp; rfl)); intro gb404 hg w8 hbox hb; have n0_ := bb_ BK403 hb; have n1_ := hb_ HB hb; have n2_ := Aside0.mk (hbox); have n3_ := Aside0.mk ((by rw [hg]; exact (below_size (hq_ HB)) : w.heap.size ≤ gb404)); have n4_ := Aside0.mk ((by rw [hg]; exact (below_size (hq_ HB)) : w.heap.size ≤ gb404)); have n5_ := Aside0.mk ((by rw [hg]; exact Nat.ne_of_lt (blk_lt (g := gb403) (o := .cells #[.int .i64 a0_0, .int .i64 a0_1, .int .i64 a0_2, .int .i64 a0_3] 34 (0, 0)) (bq_ BK403)) : gb403 ≠ gb404)); have n6_ := Aside0.mk ((by rw [hg]; exact Nat.ne_of_gt (blk_lt (g := gb403) (o := .cells #[.int .i64 a0_0, .int .i64 a0_1, .int .i64 a0_2, .int .i64 a0_3] 34 (0, 0)) (bq_ BK403)) : gb404 ≠ gb403)); clear BK403; clear HB; have BK403 := n0_; have HB := n1_; have BK404 := n2_; have GW404 := n3_; have GE404 := n4_; have NB403_404 := n5_; have NB404_403 := n6_; clear n0_ n1_ n2_ n3_ n4_ n5_ n6_; clear hb hbox hg))
  replace BK403 := Aside0.mk (blk_drew BK403.out)
  replace BK404 := Aside0.mk (blk_drew BK404.out)
  replace HB := Aside0.mk (below_drew1 HB.out)
  refine start_ (n := 25) (S := fun w' => w'.cell? ⟨gb403, 0, none⟩ = some (.int .i64 a0_0) ∧ w'.cell? ⟨gb403, 1, none⟩ = some (.int .i64 a0_1) ∧ w'.cell? ⟨gb403, 2, none⟩ = some (.int .i64 a0_2) ∧ w'.cell? ⟨gb403, 3, none⟩ = some (.int .i64 a0_3) ∧ w'.cell? ⟨gb404, 0, none⟩ = some (.int .i64 a1_0) ∧ w'.cell? ⟨gb404, 1, none⟩ = some (.int .i64 a1_1) ∧ w'.cell? ⟨gb404, 2, none⟩ = some (.int .i64 a1_2) ∧ w'.cell? ⟨gb404, 3, none⟩ = some (.int .i64 a1_3)) (ds := []) zq6.q0 (by kernel_rfl) rfl rfl (a4_ BK403 (h4_ BK404)) (fun hHeld => ?_); refine with_tabW compositorlaw10_ScaleMaps.tab1 compositorlaw10_ScaleMaps.bits1 (fun HT_ HW_ => ?_)
  generalize w8.drew = w9 at BK403 BK404 HB hHeld ⊢
  refine pv_ 1 6 zq6.q1 HT_ ?_
  refine pv_ 3 8 zq6.q2 HT_ ?_
  refine pv_ 5 10 zq6.q3 HT_ ?_
  refine pv_ 7 12 zq6.q4 HT_ ?_
  refine pv_ 11 16 zq6.q5 HT_ ?_
  refine pv_ 13 18 zq6.q6 HT_ ?_
  refine pv_ 15 20 zq6.q7 HT_ ?_
  refine pv_ 17 22 zq6.q8 HT_ ?_
  refine tk8_ 0 5 zq6.q9 HT_ HW_ hHeld ?_
  refine tk8_ 2 7 zq6.q10 HT_ HW_ hHeld ?_
  refine tk8_ 4 9 zq6.q11 HT_ HW_ hHeld ?_
  refine tk8_ 6 11 zq6.q12 HT_ HW_ hHeld ?_
  refine tk8_ 8 13 zq6.q13 HT_ HW_ hHeld ?_
  refine tk8_ 10 15 zq6.q14 HT_ HW_ hHeld ?_
  refine tk8_ 12 17 zq6.q15 HT_ HW_ hHeld ?_
  refine tk8_ 14 19 zq6.q16 HT_ HW_ hHeld ?_
  refine tk8_ 16 21 zq6.q17 HT_ HW_ hHeld ?_
  refine tk8_ 18 23 zq6.q18 HT_ HW_ hHeld ?_
  refine one_ (i := 9) (N := some 14) zq6.q19 rfl rfl (one_of HT_.out (by kernel_rfl)) (by decide) (fun K hK => ?_)
  refine gs_ Try.func22 #[.agg #[.int .i64 a0_0, .int .i64 a0_1, .int .i64 a0_2, .int .i64 a0_3], .int .i64 a1_0, .int .i64 a1_1, .int .i64 a1_2, .int .i64 a1_3] ?_
  with_reducible refine (scale_MapRect.calls k a0_0 a0_1 a0_2 a0_3 a1_0 a1_1 a1_2 a1_3 t405 t406 t407 t408 _ A3.out).mono ?_
  rintro e w10 ⟨rfl, hb⟩
  refine ⟨_, rfl, ?_⟩
  replace BK403 := bb_ BK403 hb
  replace BK404 := bb_ BK404 hb
  replace HB := hb_ HB hb
  (try clear hb); (try clear hb2); (try clear hk); (try clear hi)
  refine hK.out _ _ (a4_ BK403 (h4_ BK404)) (fun hHeld => ?_)
  clear hK K
  refine norm_ (a' := ?_) ?_ ?_
  rotate_left
  ·
   show Act.put _ (some 14) _ = _
   simp only [Act.put, List.setIfInBounds_toArray, List.set_cons_zero, List.set_cons_succ, i64_w, i32_w]
   rfl
  refine one_ (i := 19) (N := some 24) zq6.q20 rfl rfl (one_of HT_.out (by kernel_rfl)) (by decide) (fun K hK => ?_)
  refine gs_ Try.func23 #[.agg #[.int .i64 a0_0, .int .i64 a0_1, .int .i64 a0_2, .int .i64 a0_3], .int .i64 a1_0, .int .i64 a1_1, .int .i64 a1_2, .int .i64 a1_3] ?_
  with_reducible refine (compositorref10_MapRect.calls k a0_0 a0_1 a0_2 a0_3 a1_0 a1_1 a1_2 a1_3 t409 t410 t411 t412 _ A4.out).mono ?_
  rintro e w11 ⟨rfl, hb⟩
  refine ⟨_, rfl, ?_⟩
  replace BK403 := bb_ BK403 hb
  replace BK404 := bb_ BK404 hb
  replace HB := hb_ HB hb
  (try clear hb); (try clear hb2); (try clear hk); (try clear hi)
  refine hK.out _ _ (a4_ BK403 (h4_ BK404)) (fun hHeld => ?_)
  clear hK K
  refine norm_ (a' := ?_) ?_ ?_
  rotate_left
  ·
   show Act.put _ (some 24) _ = _
   simp only [Act.put, List.setIfInBounds_toArray, List.set_cons_zero, List.set_cons_succ, i64_w, i32_w]
   rfl
  refine pv_ 20 25 zq6.q21 HT_ ?_
  refine pv_ 21 26 zq6.q22 HT_ ?_
  refine one_ (i := 22) (N := some 27) zq6.q23 rfl rfl (one_of HT_.out (by kernel_rfl)) (by decide) (fun K hK => ?_)
  refine gs_ Try.func12 #[] ?_
  with_reducible refine (compositorlaw10_exampleHolds.calls k  t413 _ A6.out).mono ?_
  rintro e w12 ⟨rfl, hb⟩
  refine ⟨_, rfl, ?_⟩
  replace BK403 := bb_ BK403 hb
  replace BK404 := bb_ BK404 hb
  replace HB := hb_ HB hb
  (try clear hb); (try clear hb2); (try clear hk); (try clear hi)
  refine hK.out _ _ (a4_ BK403 (h4_ BK404)) (fun hHeld => ?_)
  clear hK K
  refine norm_ (a' := ?_) ?_ ?_
  rotate_left
  ·
   show Act.put _ (some 27) _ = _
   simp only [Act.put, List.setIfInBounds_toArray, List.set_cons_zero, List.set_cons_succ, i64_w, i32_w]
   rfl
  refine pv_ 23 28 zq6.q24 HT_ ?_
  refine pv_ 24 4 zq6.q25 HT_ ?_
  refine done_ (done_of HT_.out (by kernel_rfl)) ?_
  try go_wp2
  go_ret
  exact ⟨by first | rfl | (simp [errW_none, errW_some] <;> rfl) | (simp [*, errW_none, errW_some] <;> rfl), by repeat (first | (with_reducible first | exact HB.out | apply below_alloc | apply pw_below_drewN | apply below_drew1 | refine below_set ?_ GE403.out | refine below_set ?_ GE404.out) | exact HB.out)⟩
 ·
  rw [if_neg c5] at H
  have c5b0 : (t405 == t409 && (t406 == t410 && (t407 == t411 && (t408 == t412)))) = false := by simpa using c5
  (try (have c5b1 : decide (t405 = t409 && (t406 == t410 && (t407 == t411 && (t408 == t412)))) = false := by simpa using c5))
  (try (have c5b2 : (t405 == t409 && (t406 == t410 && (t407 == t411 && (t408 == t412)))) = false := by simpa using c5))
  (try (have c5b3 : ¬ (t405 = t409 && (t406 == t410 && (t407 == t411 && (t408 == t412)))) := by simpa using c5))
  clear c5
  exact absurd H (by simp)

end Go.Proofs.Ythpmfhfnkgbkjaa.All
