-- Written by a program of this session, which runs the kit's print.py and puts in functions that this session typed. Not trusted: Lean checks it.
import Derived.Test.YthpmfhfnkgbkjaaHand
import Derived.Test.YthpmfhfnkgbkjaaAllx0
import Derived.Test.YthpmfhfnkgbkjaaAllx17
import Derived.Test.YthpmfhfnkgbkjaaAllx19
import Derived.Test.YthpmfhfnkgbkjaaAllx31
import Derived.Test.YthpmfhfnkgbkjaaAllx39
import Derived.Test.YthpmfhfnkgbkjaaAllx40
import Derived.Test.YthpmfhfnkgbkjaaAllx41
namespace Go.Proofs.Ythpmfhfnkgbkjaa.All
open Go.Proofs.YthpmfhfnkgbkjaaSq
open Go.RowKit Go.Proofs.YthpmfhfnkgbkjaaW.PrintWords Go.Proofs.YthpmfhfnkgbkjaaW.PrintLast Go.Proofs.YthpmfhfnkgbkjaaW.PrintMore
attribute [local go_sem] max2_int min2_int max_two min_two max_three min_three max_four min_four   -- for this text's walks alone
set_option linter.unusedVariables false
set_option linter.unusedSimpArgs false

/-! ### compositorlaw10_ScaleCovers: function 10 -/
abbrev zq10.q0 : Array Bool := #[false, false, false, false, false, false, false, false, false, false, false, false, false, false, false]
abbrev zq10.q1 : Array Bool := #[false, false, false, true, false, false, false, false, false, false, false, false, false, false, false]
abbrev zq10.q2 : Array Bool := #[false, false, false, true, false, true, false, false, false, false, false, false, false, false, false]
abbrev zq10.q3 : Array Bool := #[false, false, false, true, false, true, false, true, false, false, false, false, false, false, false]
abbrev zq10.q4 : Array Bool := #[false, false, false, true, false, true, false, true, false, true, false, false, false, false, false]
abbrev zq10.q5 : Array Bool := #[true, false, false, true, false, true, false, true, false, true, false, false, false, false, false]
abbrev zq10.q6 : Array Bool := #[true, true, false, true, false, true, false, true, false, true, false, false, false, false, false]
abbrev zq10.q7 : Array Bool := #[true, true, false, true, true, true, false, true, false, true, false, false, false, false, false]
abbrev zq10.q8 : Array Bool := #[true, true, false, true, true, true, true, true, false, true, false, false, false, false, false]
abbrev zq10.q9 : Array Bool := #[true, true, false, true, true, true, true, true, true, true, false, false, false, false, false]
abbrev zq10.q10 : Array Bool := #[true, true, false, true, true, true, true, true, true, true, true, false, false, false, false]
abbrev zq10.q11 : Array Bool := #[true, true, false, true, true, true, true, true, true, true, true, false, true, false, false]
abbrev zq10.q12 : Array Bool := #[true, true, true, true, true, true, true, true, true, true, true, false, true, false, false]
abbrev zq10.q13 : Array Bool := #[true, true, true, true, true, true, true, true, true, true, true, true, true, false, false]
abbrev zq10.q14 : Array Bool := #[true, true, true, true, true, true, true, true, true, true, true, true, true, true, false]
abbrev zq10.q15 : Array Bool := #[true, true, true, true, true, true, true, true, true, true, true, true, true, true, true]
mutual
def compositorlaw10_ScaleCovers.j0 : Nat → Bool → Int → Int → Int → Int → Int → Int → Int → Int → Int → Int → Int → Int → Option (Bool)
 | 0, _, _, _, _, _, _, _, _, _, _, _, _, _ => none
 | k + 1, x48, x562000, x562001, x562002, x562003, x563000, x563001, x563002, x563003, x564000, x564001, x564002, x564003 => if x48 = true then ((compositorlaw10_exampleHolds.f k).bind fun t564 => (some t564)) else ((compositorref04_Intersect.f x562000 x562001 x562002 x562003 0 0 x564000 x564001).bind fun bt565 => ((compositorref04_Empty.f bt565.1 bt565.2.1 bt565.2.2.1 bt565.2.2.2).bind fun t569 => (if t569 = true then ((compositorlaw10_exampleHolds.f k).bind fun t570 => (some t570)) else ((scale_MapRect.f k bt565.1 bt565.2.1 bt565.2.2.1 bt565.2.2.2 x564000 x564001 x564002 x564003).bind fun bt571 => ((compositorref04_Intersect.f bt565.1 bt565.2.1 bt565.2.2.1 bt565.2.2.2 x563000 x563001 x563002 x563003).bind fun bt576 => ((scale_MapRect.f k bt576.1 bt576.2.1 bt576.2.2.1 bt576.2.2.2 x564000 x564001 x564002 x564003).bind fun bt580 => ((compositorref04_Within.f bt580.1 bt580.2.1 bt580.2.2.1 bt580.2.2.2 bt571.1 bt571.2.1 bt571.2.2.1 bt571.2.2.2).bind fun t584 => (if t584 = true then (compositorlaw10_ScaleCovers.l0 k 0 bt565.1 bt565.2.1 bt565.2.2.1 bt565.2.2.2 x564000 x564001 x564002 x564003 bt571.1 bt571.2.1 bt571.2.2.1 bt571.2.2.2) else (some false)))))))))
def compositorlaw10_ScaleCovers.l0 : Nat → Int → Int → Int → Int → Int → Int → Int → Int → Int → Int → Int → Int → Int → Option (Bool)
 | 0, _, _, _, _, _, _, _, _, _, _, _, _, _ => none
 | k + 1, x8, x562000, x562001, x562002, x562003, x564000, x564001, x564002, x564003, x576000, x576001, x576002, x576003 => if x8 < x564003 then (compositorlaw10_ScaleCovers.l1 k x8 0 x562000 x562001 x562002 x562003 x564000 x564001 x564002 x564003 x576000 x576001 x576002 x576003) else ((compositorref04_Within.f x576000 x576001 x576002 x576003 0 0 x564002 x564003).bind fun t585 => (if t585 = true then ((compositorlaw10_exampleHolds.f k).bind fun t586 => (some t586)) else (some false)))
def compositorlaw10_ScaleCovers.l1 : Nat → Int → Int → Int → Int → Int → Int → Int → Int → Int → Int → Int → Int → Int → Int → Option (Bool)
 | 0, _, _, _, _, _, _, _, _, _, _, _, _, _, _ => none
 | k + 1, x8, x9, x562000, x562001, x562002, x562003, x564000, x564001, x564002, x564003, x576000, x576001, x576002, x576003 => if x9 < x564002 then (if (wrap64 (x9 * x564000)) < (wrap64 (x562002 * x564002)) then (if (wrap64 ((wrap64 (x9 + 1)) * x564000)) > (wrap64 (x562000 * x564002)) then (if (wrap64 (x8 * x564001)) < (wrap64 (x562003 * x564003)) then ((compositorref04_Contains.f x576000 x576001 x576002 x576003 x9 x8).bind fun t587 => (if (t587 != (decide ((wrap64 ((wrap64 (x8 + 1)) * x564001)) > (wrap64 (x562001 * x564003))))) = true then (some false) else (compositorlaw10_ScaleCovers.l1 k x8 (wrap64 (x9 + 1)) x562000 x562001 x562002 x562003 x564000 x564001 x564002 x564003 x576000 x576001 x576002 x576003))) else ((compositorref04_Contains.f x576000 x576001 x576002 x576003 x9 x8).bind fun t588 => (if (t588 != false) = true then (some false) else (compositorlaw10_ScaleCovers.l1 k x8 (wrap64 (x9 + 1)) x562000 x562001 x562002 x562003 x564000 x564001 x564002 x564003 x576000 x576001 x576002 x576003)))) else ((compositorref04_Contains.f x576000 x576001 x576002 x576003 x9 x8).bind fun t589 => (if (t589 != false) = true then (some false) else (compositorlaw10_ScaleCovers.l1 k x8 (wrap64 (x9 + 1)) x562000 x562001 x562002 x562003 x564000 x564001 x564002 x564003 x576000 x576001 x576002 x576003)))) else ((compositorref04_Contains.f x576000 x576001 x576002 x576003 x9 x8).bind fun t590 => (if (t590 != false) = true then (some false) else (compositorlaw10_ScaleCovers.l1 k x8 (wrap64 (x9 + 1)) x562000 x562001 x562002 x562003 x564000 x564001 x564002 x564003 x576000 x576001 x576002 x576003)))) else (compositorlaw10_ScaleCovers.l0 k (wrap64 (x8 + 1)) x562000 x562001 x562002 x562003 x564000 x564001 x564002 x564003 x576000 x576001 x576002 x576003)
end
def compositorlaw10_ScaleCovers.f (k : Nat) (a0_0 : Int) (a0_1 : Int) (a0_2 : Int) (a0_3 : Int) (a1_0 : Int) (a1_1 : Int) (a1_2 : Int) (a1_3 : Int) (a2_0 : Int) (a2_1 : Int) (a2_2 : Int) (a2_3 : Int) : Option (Bool) := if a2_0 < 1 then (compositorlaw10_ScaleCovers.j0 k true a0_0 a0_1 a0_2 a0_3 a1_0 a1_1 a1_2 a1_3 a2_0 a2_1 a2_2 a2_3) else (if a2_0 > 12 then (compositorlaw10_ScaleCovers.j0 k true a0_0 a0_1 a0_2 a0_3 a1_0 a1_1 a1_2 a1_3 a2_0 a2_1 a2_2 a2_3) else (if a2_1 < 1 then (compositorlaw10_ScaleCovers.j0 k true a0_0 a0_1 a0_2 a0_3 a1_0 a1_1 a1_2 a1_3 a2_0 a2_1 a2_2 a2_3) else (if a2_1 > 12 then (compositorlaw10_ScaleCovers.j0 k true a0_0 a0_1 a0_2 a0_3 a1_0 a1_1 a1_2 a1_3 a2_0 a2_1 a2_2 a2_3) else (if a2_2 < 1 then (compositorlaw10_ScaleCovers.j0 k true a0_0 a0_1 a0_2 a0_3 a1_0 a1_1 a1_2 a1_3 a2_0 a2_1 a2_2 a2_3) else (if a2_2 > 12 then (compositorlaw10_ScaleCovers.j0 k true a0_0 a0_1 a0_2 a0_3 a1_0 a1_1 a1_2 a1_3 a2_0 a2_1 a2_2 a2_3) else (if a2_3 < 1 then (compositorlaw10_ScaleCovers.j0 k true a0_0 a0_1 a0_2 a0_3 a1_0 a1_1 a1_2 a1_3 a2_0 a2_1 a2_2 a2_3) else (compositorlaw10_ScaleCovers.j0 k (decide (a2_3 > 12)) a0_0 a0_1 a0_2 a0_3 a1_0 a1_1 a1_2 a1_3 a2_0 a2_1 a2_2 a2_3)))))))
theorem compositorlaw10_ScaleCovers.mono_l : ∀ k, (∀ y0 y1 y2 y3 y4 y5 y6 y7 y8 y9 y10 y11 y12, LeO (compositorlaw10_ScaleCovers.j0 k y0 y1 y2 y3 y4 y5 y6 y7 y8 y9 y10 y11 y12) (compositorlaw10_ScaleCovers.j0 (k + 1) y0 y1 y2 y3 y4 y5 y6 y7 y8 y9 y10 y11 y12)) ∧ (∀ y0 y1 y2 y3 y4 y5 y6 y7 y8 y9 y10 y11 y12, LeO (compositorlaw10_ScaleCovers.l0 k y0 y1 y2 y3 y4 y5 y6 y7 y8 y9 y10 y11 y12) (compositorlaw10_ScaleCovers.l0 (k + 1) y0 y1 y2 y3 y4 y5 y6 y7 y8 y9 y10 y11 y12)) ∧ (∀ y0 y1 y2 y3 y4 y5 y6 y7 y8 y9 y10 y11 y12 y13, LeO (compositorlaw10_ScaleCovers.l1 k y0 y1 y2 y3 y4 y5 y6 y7 y8 y9 y10 y11 y12 y13) (compositorlaw10_ScaleCovers.l1 (k + 1) y0 y1 y2 y3 y4 y5 y6 y7 y8 y9 y10 y11 y12 y13))
 | 0 => ⟨fun _ _ _ _ _ _ _ _ _ _ _ _ _ r h => by simp [compositorlaw10_ScaleCovers.j0] at h, fun _ _ _ _ _ _ _ _ _ _ _ _ _ r h => by simp [compositorlaw10_ScaleCovers.l0] at h, fun _ _ _ _ _ _ _ _ _ _ _ _ _ _ r h => by simp [compositorlaw10_ScaleCovers.l1] at h⟩
 | k + 1 => by
  obtain ⟨ih0, ih1, ih2⟩ := compositorlaw10_ScaleCovers.mono_l k
  refine ⟨?_, ?_, ?_⟩
  ·
   intro y0 y1 y2 y3 y4 y5 y6 y7 y8 y9 y10 y11 y12
   unfold compositorlaw10_ScaleCovers.j0
   repeat' first
   | (with_reducible exact ih0 _ _ _ _ _ _ _ _ _ _ _ _ _)
   | (with_reducible exact ih1 _ _ _ _ _ _ _ _ _ _ _ _ _)
   | (with_reducible exact ih2 _ _ _ _ _ _ _ _ _ _ _ _ _ _)
   | (with_reducible exact compositorlaw10_exampleHolds.mono _)
   | (with_reducible exact scale_MapRect.mono _ _ _ _ _ _ _ _ _)
   | (with_reducible exact LeO.refl _)
   | (with_reducible exact LeO.none _)
   | (with_reducible refine LeO.ite ?_ ?_)
   | (with_reducible refine LeO.bind ?_ (fun _ => ?_))
   | exact ih0 _ _ _ _ _ _ _ _ _ _ _ _ _
   | exact ih1 _ _ _ _ _ _ _ _ _ _ _ _ _
   | exact ih2 _ _ _ _ _ _ _ _ _ _ _ _ _ _
   | exact compositorlaw10_exampleHolds.mono _
   | exact scale_MapRect.mono _ _ _ _ _ _ _ _ _
   | exact LeO.none _
   | refine LeO.ite ?_ ?_
   | refine LeO.bind ?_ (fun _ => ?_)
  ·
   intro y0 y1 y2 y3 y4 y5 y6 y7 y8 y9 y10 y11 y12
   unfold compositorlaw10_ScaleCovers.l0
   repeat' first
   | (with_reducible exact ih0 _ _ _ _ _ _ _ _ _ _ _ _ _)
   | (with_reducible exact ih1 _ _ _ _ _ _ _ _ _ _ _ _ _)
   | (with_reducible exact ih2 _ _ _ _ _ _ _ _ _ _ _ _ _ _)
   | (with_reducible exact compositorlaw10_exampleHolds.mono _)
   | (with_reducible exact scale_MapRect.mono _ _ _ _ _ _ _ _ _)
   | (with_reducible exact LeO.refl _)
   | (with_reducible exact LeO.none _)
   | (with_reducible refine LeO.ite ?_ ?_)
   | (with_reducible refine LeO.bind ?_ (fun _ => ?_))
   | exact ih0 _ _ _ _ _ _ _ _ _ _ _ _ _
   | exact ih1 _ _ _ _ _ _ _ _ _ _ _ _ _
   | exact ih2 _ _ _ _ _ _ _ _ _ _ _ _ _ _
   | exact compositorlaw10_exampleHolds.mono _
   | exact scale_MapRect.mono _ _ _ _ _ _ _ _ _
   | exact LeO.none _
   | refine LeO.ite ?_ ?_
   | refine LeO.bind ?_ (fun _ => ?_)
  ·
   intro y0 y1 y2 y3 y4 y5 y6 y7 y8 y9 y10 y11 y12 y13
   unfold compositorlaw10_ScaleCovers.l1
   repeat' first
   | (with_reducible exact ih0 _ _ _ _ _ _ _ _ _ _ _ _ _)
   | (with_reducible exact ih1 _ _ _ _ _ _ _ _ _ _ _ _ _)
   | (with_reducible exact ih2 _ _ _ _ _ _ _ _ _ _ _ _ _ _)
   | (with_reducible exact compositorlaw10_exampleHolds.mono _)
   | (with_reducible exact scale_MapRect.mono _ _ _ _ _ _ _ _ _)
   | (with_reducible exact LeO.refl _)
   | (with_reducible exact LeO.none _)
   | (with_reducible refine LeO.ite ?_ ?_)
   | (with_reducible refine LeO.bind ?_ (fun _ => ?_))
   | exact ih0 _ _ _ _ _ _ _ _ _ _ _ _ _
   | exact ih1 _ _ _ _ _ _ _ _ _ _ _ _ _
   | exact ih2 _ _ _ _ _ _ _ _ _ _ _ _ _ _
   | exact compositorlaw10_exampleHolds.mono _
   | exact scale_MapRect.mono _ _ _ _ _ _ _ _ _
   | exact LeO.none _
   | refine LeO.ite ?_ ?_
   | refine LeO.bind ?_ (fun _ => ?_)
theorem compositorlaw10_ScaleCovers.mono : ∀ a0 a1 a2 a3 a4 a5 a6 a7 a8 a9 a10 a11 k, LeO (compositorlaw10_ScaleCovers.f k a0 a1 a2 a3 a4 a5 a6 a7 a8 a9 a10 a11) (compositorlaw10_ScaleCovers.f (k + 1) a0 a1 a2 a3 a4 a5 a6 a7 a8 a9 a10 a11) := by
 intro a0 a1 a2 a3 a4 a5 a6 a7 a8 a9 a10 a11 k
 obtain ⟨ih0, ih1, ih2⟩ := compositorlaw10_ScaleCovers.mono_l k
 unfold compositorlaw10_ScaleCovers.f
 repeat' first
   | (with_reducible exact ih0 _ _ _ _ _ _ _ _ _ _ _ _ _)
   | (with_reducible exact ih1 _ _ _ _ _ _ _ _ _ _ _ _ _)
   | (with_reducible exact ih2 _ _ _ _ _ _ _ _ _ _ _ _ _ _)
   | (with_reducible exact compositorlaw10_exampleHolds.mono _)
   | (with_reducible exact scale_MapRect.mono _ _ _ _ _ _ _ _ _)
   | (with_reducible exact LeO.refl _)
   | (with_reducible exact LeO.none _)
   | (with_reducible refine LeO.ite ?_ ?_)
   | (with_reducible refine LeO.bind ?_ (fun _ => ?_))
   | exact ih0 _ _ _ _ _ _ _ _ _ _ _ _ _
   | exact ih1 _ _ _ _ _ _ _ _ _ _ _ _ _
   | exact ih2 _ _ _ _ _ _ _ _ _ _ _ _ _ _
   | exact compositorlaw10_exampleHolds.mono _
   | exact scale_MapRect.mono _ _ _ _ _ _ _ _ _
   | exact LeO.none _
   | refine LeO.ite ?_ ?_
   | refine LeO.bind ?_ (fun _ => ?_)
def compositorlaw10_ScaleCovers.T7 : Bool × List (List Nat × List Nat) := (true, [([], []), ([], []), ([0, 1], [0, 1]), ([], []), ([3], [3]), ([], []), ([5], [5]), ([], []), ([7], [7]), ([], []), ([9], [9]), ([2, 4, 6, 8, 10, 2], [2, 4, 6, 8, 10]), ([], []), ([11, 12, 11], [11, 12]), ([13], [13])])
def compositorlaw10_ScaleCovers.B7 : List Nat := [0, 0, 3, 0, 8, 0, 32, 0, 128, 0, 512, 2047, 0, 8191, 16383]
theorem compositorlaw10_ScaleCovers.tab7 : rtab .any (opsOf Try.f10 7) = compositorlaw10_ScaleCovers.T7 := by kernel_rfl
theorem compositorlaw10_ScaleCovers.bits7 : waitsOk compositorlaw10_ScaleCovers.T7.2 compositorlaw10_ScaleCovers.B7 = true := by kernel_rfl
set_option maxHeartbeats 8000000 in
set_option maxRecDepth 100000 in
theorem compositorlaw10_ScaleCovers.calls (k : Nat) (a0_0 : Int) (a0_1 : Int) (a0_2 : Int) (a0_3 : Int) (a1_0 : Int) (a1_1 : Int) (a1_2 : Int) (a1_3 : Int) (a2_0 : Int) (a2_1 : Int) (a2_2 : Int) (a2_3 : Int) (w : World) (h : compositorlaw10_ScaleCovers.f k a0_0 a0_1 a0_2 a0_3 a1_0 a1_1 a1_2 a1_3 a2_0 a2_1 a2_2 a2_3 = some true) :
  Calls Try.prog 10 #[.agg #[.int .i64 a0_0, .int .i64 a0_1, .int .i64 a0_2, .int .i64 a0_3], .agg #[.int .i64 a1_0, .int .i64 a1_1, .int .i64 a1_2, .int .i64 a1_3], .agg #[.int .i64 a2_0, .int .i64 a2_1, .int .i64 a2_2, .int .i64 a2_3]] w fun e w' => e = .returned (.bool true) ∧ Below w.heap.size w w' := by
 have hu34 := Try.underlying34
 have hu36 := Try.underlying36
 have HB := Aside0.mk (Below.refl w.heap.size w)
 have H : (if a2_0 < 1 then (compositorlaw10_ScaleCovers.j0 k true a0_0 a0_1 a0_2 a0_3 a1_0 a1_1 a1_2 a1_3 a2_0 a2_1 a2_2 a2_3) else (if a2_0 > 12 then (compositorlaw10_ScaleCovers.j0 k true a0_0 a0_1 a0_2 a0_3 a1_0 a1_1 a1_2 a1_3 a2_0 a2_1 a2_2 a2_3) else (if a2_1 < 1 then (compositorlaw10_ScaleCovers.j0 k true a0_0 a0_1 a0_2 a0_3 a1_0 a1_1 a1_2 a1_3 a2_0 a2_1 a2_2 a2_3) else (if a2_1 > 12 then (compositorlaw10_ScaleCovers.j0 k true a0_0 a0_1 a0_2 a0_3 a1_0 a1_1 a1_2 a1_3 a2_0 a2_1 a2_2 a2_3) else (if a2_2 < 1 then (compositorlaw10_ScaleCovers.j0 k true a0_0 a0_1 a0_2 a0_3 a1_0 a1_1 a1_2 a1_3 a2_0 a2_1 a2_2 a2_3) else (if a2_2 > 12 then (compositorlaw10_ScaleCovers.j0 k true a0_0 a0_1 a0_2 a0_3 a1_0 a1_1 a1_2 a1_3 a2_0 a2_1 a2_2 a2_3) else (if a2_3 < 1 then (compositorlaw10_ScaleCovers.j0 k true a0_0 a0_1 a0_2 a0_3 a1_0 a1_1 a1_2 a1_3 a2_0 a2_1 a2_2 a2_3) else (compositorlaw10_ScaleCovers.j0 k (decide (a2_3 > 12)) a0_0 a0_1 a0_2 a0_3 a1_0 a1_1 a1_2 a1_3 a2_0 a2_1 a2_2 a2_3)))))))) = some true := h
 clear h
 have HC4 := Aside0.mk H
 clear H
 go_enter Try.func10, Try.ntmps10
 go_upto_region 1 with (first | ((with_reducible refine gate_dst (N := 3) rfl ?_); refine box_event ?hg (N := 3) ?hd (cs := #[.int .i64 a0_0, .int .i64 a0_1, .int .i64 a0_2, .int .i64 a0_3]) (t := 34) ?hr ?_; (case hd => rfl); (case hg => rfl); (case hr => first | (go_simp; done) | (go_simp; rfl)); intro gb561 hg w5 hbox hb; have n0_ := hb_ HB hb; have n1_ := Aside0.mk (hbox); have n2_ := Aside0.mk ((by rw [hg]; exact (below_size (hq_ HB)) : w.heap.size ≤ gb561)); have n3_ := Aside0.mk ((by rw [hg]; exact (below_size (hq_ HB)) : w.heap.size ≤ gb561)); clear HB; have HB := n0_; have BK561 := n1_; have GW561 := n2_; have GE561 := n3_; clear n0_ n1_ n2_ n3_; clear hb hbox hg) | ((with_reducible refine gate_dst (N := 4) rfl ?_); refine box_event ?hg (N := 4) ?hd (cs := #[.int .i64 a1_0, .int .i64 a1_1, .int .i64 a1_2, .int .i64 a1_3]) (t := 34) ?hr ?_; (case hd => rfl); (case hg => rfl); (case hr => first | (go_simp; done) | (go_simp; rfl)); intro gb562 hg w6 hbox hb; have n0_ := bb_ BK561 hb; have n1_ := hb_ HB hb; have n2_ := Aside0.mk (hbox); have n3_ := Aside0.mk ((by rw [hg]; exact (below_size (hq_ HB)) : w.heap.size ≤ gb562)); have n4_ := Aside0.mk ((by rw [hg]; exact (below_size (hq_ HB)) : w.heap.size ≤ gb562)); have n5_ := Aside0.mk ((by rw [hg]; exact Nat.ne_of_lt (blk_lt (g := gb561) (o := .cells #[.int .i64 a0_0, .int .i64 a0_1, .int .i64 a0_2, .int .i64 a0_3] 34 (0, 0)) (bq_ BK561)) : gb561 ≠ gb562)); have n6_ := Aside0.mk ((by rw [hg]; exact Nat.ne_of_gt (blk_lt (g := gb561) (o := .cells #[.int .i64 a0_0, .int .i64 a0_1, .int .i64 a0_2, .int .i64 a0_3] 34 (0, 0)) (bq_ BK561)) : gb562 ≠ gb561)); clear BK561; clear HB; have BK561 := n0_; have HB := n1_; have BK562 := n2_; have GW562 := n3_; have GE562 := n4_; have NB561_562 := n5_; have NB562_561 := n6_; clear n0_ n1_ n2_ n3_ n4_ n5_ n6_; clear hb hbox hg) | ((with_reducible refine gate_dst (N := 5) rfl ?_); refine box_event ?hg (N := 5) ?hd (cs := #[.int .i64 a2_0, .int .i64 a2_1, .int .i64 a2_2, .int .i64 a2_3]) (t := 36) ?hr ?_; (case hd => rfl); (case hg => rfl); (case hr => first | (go_simp; done) | (go_simp; rfl)); intro gb563 hg w7 hbox hb; have n0_ := bb_ BK561 hb; have n1_ := bb_ BK562 hb; have n2_ := hb_ HB hb; have n3_ := Aside0.mk (hbox); have n4_ := Aside0.mk ((by rw [hg]; exact (below_size (hq_ HB)) : w.heap.size ≤ gb563)); have n5_ := Aside0.mk ((by rw [hg]; exact (below_size (hq_ HB)) : w.heap.size ≤ gb563)); have n6_ := Aside0.mk ((by rw [hg]; exact Nat.ne_of_lt (blk_lt (g := gb561) (o := .cells #[.int .i64 a0_0, .int .i64 a0_1, .int .i64 a0_2, .int .i64 a0_3] 34 (0, 0)) (bq_ BK561)) : gb561 ≠ gb563)); have n7_ := Aside0.mk ((by rw [hg]; exact Nat.ne_of_gt (blk_lt (g := gb561) (o := .cells #[.int .i64 a0_0, .int .i64 a0_1, .int .i64 a0_2, .int .i64 a0_3] 34 (0, 0)) (bq_ BK561)) : gb563 ≠ gb561)); have n8_ := Aside0.mk ((by rw [hg]; exact Nat.ne_of_lt (blk_lt (g := gb562) (o := .cells #[.int .i64 a1_0, .int .i64 a1_1, .int .i64 a1_2, .int .i64 a1_3] 34 (0, 0)) (bq_ BK562)) : gb562 ≠ gb563)); have n9_ := Aside0.mk ((by rw [hg]; exact Nat.ne_of_gt (blk_lt (g := gb562) (o := .cells #[.int .i64 a1_0, .int .i64 a1_1, .int .i64 a1_2, .int .i64 a1_3] 34 (0, 0)) (bq_ BK562)) : gb563 ≠ gb562)); clear BK561; clear BK562; clear HB; have BK561 := n0_; have BK562 := n1_; have HB := n2_; have BK563 := n3_; have GW563 := n4_; have GE563 := n5_; have NB561_563 := n6_; have NB563_561 := n7_; have NB562_563 := n8_; have NB563_562 := n9_; clear n0_ n1_ n2_ n3_ n4_ n5_ n6_ n7_ n8_ n9_; clear hb hbox hg))
 (try simp only [Act.put, List.setIfInBounds_toArray, List.set_cons_zero, List.set_cons_succ])
 go_cut [48] (fun v48 wc => ∃ (kq : Nat) (x48_3 : Bool), v48 = .bool x48_3 ∧ Aside0 (compositorlaw10_ScaleCovers.j0 kq x48_3 a0_0 a0_1 a0_2 a0_3 a1_0 a1_1 a1_2 a1_3 a2_0 a2_1 a2_2 a2_3 = some true) ∧ Aside0 (kq ≤ k) ∧ Aside0 (wc.heap[gb561]? = some (.cells #[.int .i64 a0_0, .int .i64 a0_1, .int .i64 a0_2, .int .i64 a0_3] 34 (0, 0))) ∧ Aside0 (wc.heap[gb562]? = some (.cells #[.int .i64 a1_0, .int .i64 a1_1, .int .i64 a1_2, .int .i64 a1_3] 34 (0, 0))) ∧ Aside0 (wc.heap[gb563]? = some (.cells #[.int .i64 a2_0, .int .i64 a2_1, .int .i64 a2_2, .int .i64 a2_3] 36 (0, 0))) ∧ Aside0 (Below w.heap.size w wc))
 case first =>
  have H := HC4.out
  clear HC4
  by_cases c8 : a2_0 < 1
  ·
   rw [if_pos c8] at H
   have c8b0 : decide (a2_0 < 1) = true := decide_eq_true c8
   clear c8
   (first | rw [c8b0] | (simp only [i64_w, i32_w]; rw [c8b0]) | skip)
   have H' := Aside0.mk H
   clear H
   have hnb9 := NB563_561.out
   have hnc9 := NB561_563.out
   have hnb10 := NB563_562.out
   have hnc10 := NB562_563.out
   have hcz11_0 : w7.cell? ⟨gb563, 0, none⟩ = some (.int .i64 a2_0) := (blk_cell BK563.out 0).trans rfl
   have hcz11_1 : w7.cell? ⟨gb563, 1, none⟩ = some (.int .i64 a2_1) := (blk_cell BK563.out 1).trans rfl
   have hcz11_2 : w7.cell? ⟨gb563, 2, none⟩ = some (.int .i64 a2_2) := (blk_cell BK563.out 2).trans rfl
   have hcz11_3 : w7.cell? ⟨gb563, 3, none⟩ = some (.int .i64 a2_3) := (blk_cell BK563.out 3).trans rfl
   have hfz11_0 := blk_frozen BK563.out 0
   have hfz11_1 := blk_frozen BK563.out 1
   have hfz11_2 := blk_frozen BK563.out 2
   have hfz11_3 := blk_frozen BK563.out 3
   go_wp2
   go_meet
   case rel => exact ⟨_, (true), (by first | rfl | (simp; done) | (simp [*]; done)), H', ⟨by first | omega | exact Nat.le_refl _⟩, bf_ BK561, bf_ BK562, bf_ BK563, ⟨by repeat (first | (with_reducible first | exact HB.out | apply below_alloc | apply pw_below_drewN | apply below_drew1 | refine below_set ?_ GE561.out | refine below_set ?_ GE562.out | refine below_set ?_ GE563.out) | exact HB.out)⟩⟩
  ·
   rw [if_neg c8] at H
   have c8b0 : decide (a2_0 < 1) = false := decide_eq_false c8
   clear c8
   (first | rw [c8b0] | (simp only [i64_w, i32_w]; rw [c8b0]) | skip)
   by_cases c12 : a2_0 > 12
   ·
    rw [if_pos c12] at H
    have c12b0 : decide (12 < a2_0) = true := decide_eq_true c12
    clear c12
    have H' := Aside0.mk H
    clear H
    have hnb13 := NB563_561.out
    have hnc13 := NB561_563.out
    have hnb14 := NB563_562.out
    have hnc14 := NB562_563.out
    have hcz15_0 : w7.cell? ⟨gb563, 0, none⟩ = some (.int .i64 a2_0) := (blk_cell BK563.out 0).trans rfl
    have hcz15_1 : w7.cell? ⟨gb563, 1, none⟩ = some (.int .i64 a2_1) := (blk_cell BK563.out 1).trans rfl
    have hcz15_2 : w7.cell? ⟨gb563, 2, none⟩ = some (.int .i64 a2_2) := (blk_cell BK563.out 2).trans rfl
    have hcz15_3 : w7.cell? ⟨gb563, 3, none⟩ = some (.int .i64 a2_3) := (blk_cell BK563.out 3).trans rfl
    have hfz15_0 := blk_frozen BK563.out 0
    have hfz15_1 := blk_frozen BK563.out 1
    have hfz15_2 := blk_frozen BK563.out 2
    have hfz15_3 := blk_frozen BK563.out 3
    go_wp2
    go_meet
    case rel => exact ⟨_, (true), (by first | rfl | (simp; done) | (simp [*]; done)), H', ⟨by first | omega | exact Nat.le_refl _⟩, bf_ BK561, bf_ BK562, bf_ BK563, ⟨by repeat (first | (with_reducible first | exact HB.out | apply below_alloc | apply pw_below_drewN | apply below_drew1 | refine below_set ?_ GE561.out | refine below_set ?_ GE562.out | refine below_set ?_ GE563.out) | exact HB.out)⟩⟩
   ·
    rw [if_neg c12] at H
    have c12b0 : decide (12 < a2_0) = false := decide_eq_false c12
    clear c12
    by_cases c16 : a2_1 < 1
    ·
     rw [if_pos c16] at H
     have c16b0 : decide (a2_1 < 1) = true := decide_eq_true c16
     clear c16
     have H' := Aside0.mk H
     clear H
     have hnb17 := NB563_561.out
     have hnc17 := NB561_563.out
     have hnb18 := NB563_562.out
     have hnc18 := NB562_563.out
     have hcz19_0 : w7.cell? ⟨gb563, 0, none⟩ = some (.int .i64 a2_0) := (blk_cell BK563.out 0).trans rfl
     have hcz19_1 : w7.cell? ⟨gb563, 1, none⟩ = some (.int .i64 a2_1) := (blk_cell BK563.out 1).trans rfl
     have hcz19_2 : w7.cell? ⟨gb563, 2, none⟩ = some (.int .i64 a2_2) := (blk_cell BK563.out 2).trans rfl
     have hcz19_3 : w7.cell? ⟨gb563, 3, none⟩ = some (.int .i64 a2_3) := (blk_cell BK563.out 3).trans rfl
     have hfz19_0 := blk_frozen BK563.out 0
     have hfz19_1 := blk_frozen BK563.out 1
     have hfz19_2 := blk_frozen BK563.out 2
     have hfz19_3 := blk_frozen BK563.out 3
     go_wp2
     go_meet
     case rel => exact ⟨_, (true), (by first | rfl | (simp; done) | (simp [*]; done)), H', ⟨by first | omega | exact Nat.le_refl _⟩, bf_ BK561, bf_ BK562, bf_ BK563, ⟨by repeat (first | (with_reducible first | exact HB.out | apply below_alloc | apply pw_below_drewN | apply below_drew1 | refine below_set ?_ GE561.out | refine below_set ?_ GE562.out | refine below_set ?_ GE563.out) | exact HB.out)⟩⟩
    ·
     rw [if_neg c16] at H
     have c16b0 : decide (a2_1 < 1) = false := decide_eq_false c16
     clear c16
     by_cases c20 : a2_1 > 12
     ·
      rw [if_pos c20] at H
      have c20b0 : decide (12 < a2_1) = true := decide_eq_true c20
      clear c20
      have H' := Aside0.mk H
      clear H
      have hnb21 := NB563_561.out
      have hnc21 := NB561_563.out
      have hnb22 := NB563_562.out
      have hnc22 := NB562_563.out
      have hcz23_0 : w7.cell? ⟨gb563, 0, none⟩ = some (.int .i64 a2_0) := (blk_cell BK563.out 0).trans rfl
      have hcz23_1 : w7.cell? ⟨gb563, 1, none⟩ = some (.int .i64 a2_1) := (blk_cell BK563.out 1).trans rfl
      have hcz23_2 : w7.cell? ⟨gb563, 2, none⟩ = some (.int .i64 a2_2) := (blk_cell BK563.out 2).trans rfl
      have hcz23_3 : w7.cell? ⟨gb563, 3, none⟩ = some (.int .i64 a2_3) := (blk_cell BK563.out 3).trans rfl
      have hfz23_0 := blk_frozen BK563.out 0
      have hfz23_1 := blk_frozen BK563.out 1
      have hfz23_2 := blk_frozen BK563.out 2
      have hfz23_3 := blk_frozen BK563.out 3
      go_wp2
      go_meet
      case rel => exact ⟨_, (true), (by first | rfl | (simp; done) | (simp [*]; done)), H', ⟨by first | omega | exact Nat.le_refl _⟩, bf_ BK561, bf_ BK562, bf_ BK563, ⟨by repeat (first | (with_reducible first | exact HB.out | apply below_alloc | apply pw_below_drewN | apply below_drew1 | refine below_set ?_ GE561.out | refine below_set ?_ GE562.out | refine below_set ?_ GE563.out) | exact HB.out)⟩⟩
     ·
      rw [if_neg c20] at H
      have c20b0 : decide (12 < a2_1) = false := decide_eq_false c20
      clear c20
      by_cases c24 : a2_2 < 1
      ·
       rw [if_pos c24] at H
       have c24b0 : decide (a2_2 < 1) = true := decide_eq_true c24
       clear c24
       have H' := Aside0.mk H
       clear H
       have hnb25 := NB563_561.out
       have hnc25 := NB561_563.out
       have hnb26 := NB563_562.out
       have hnc26 := NB562_563.out
       have hcz27_0 : w7.cell? ⟨gb563, 0, none⟩ = some (.int .i64 a2_0) := (blk_cell BK563.out 0).trans rfl
       have hcz27_1 : w7.cell? ⟨gb563, 1, none⟩ = some (.int .i64 a2_1) := (blk_cell BK563.out 1).trans rfl
       have hcz27_2 : w7.cell? ⟨gb563, 2, none⟩ = some (.int .i64 a2_2) := (blk_cell BK563.out 2).trans rfl
       have hcz27_3 : w7.cell? ⟨gb563, 3, none⟩ = some (.int .i64 a2_3) := (blk_cell BK563.out 3).trans rfl
       have hfz27_0 := blk_frozen BK563.out 0
       have hfz27_1 := blk_frozen BK563.out 1
       have hfz27_2 := blk_frozen BK563.out 2
       have hfz27_3 := blk_frozen BK563.out 3
       go_wp2
       go_meet
       case rel => exact ⟨_, (true), (by first | rfl | (simp; done) | (simp [*]; done)), H', ⟨by first | omega | exact Nat.le_refl _⟩, bf_ BK561, bf_ BK562, bf_ BK563, ⟨by repeat (first | (with_reducible first | exact HB.out | apply below_alloc | apply pw_below_drewN | apply below_drew1 | refine below_set ?_ GE561.out | refine below_set ?_ GE562.out | refine below_set ?_ GE563.out) | exact HB.out)⟩⟩
      ·
       rw [if_neg c24] at H
       have c24b0 : decide (a2_2 < 1) = false := decide_eq_false c24
       clear c24
       by_cases c28 : a2_2 > 12
       ·
        rw [if_pos c28] at H
        have c28b0 : decide (12 < a2_2) = true := decide_eq_true c28
        clear c28
        have H' := Aside0.mk H
        clear H
        have hnb29 := NB563_561.out
        have hnc29 := NB561_563.out
        have hnb30 := NB563_562.out
        have hnc30 := NB562_563.out
        have hcz31_0 : w7.cell? ⟨gb563, 0, none⟩ = some (.int .i64 a2_0) := (blk_cell BK563.out 0).trans rfl
        have hcz31_1 : w7.cell? ⟨gb563, 1, none⟩ = some (.int .i64 a2_1) := (blk_cell BK563.out 1).trans rfl
        have hcz31_2 : w7.cell? ⟨gb563, 2, none⟩ = some (.int .i64 a2_2) := (blk_cell BK563.out 2).trans rfl
        have hcz31_3 : w7.cell? ⟨gb563, 3, none⟩ = some (.int .i64 a2_3) := (blk_cell BK563.out 3).trans rfl
        have hfz31_0 := blk_frozen BK563.out 0
        have hfz31_1 := blk_frozen BK563.out 1
        have hfz31_2 := blk_frozen BK563.out 2
        have hfz31_3 := blk_frozen BK563.out 3
        go_wp2
        go_meet
        case rel => exact ⟨_, (true), (by first | rfl | (simp; done) | (simp [*]; done)), H', ⟨by first | omega | exact Nat.le_refl _⟩, bf_ BK561, bf_ BK562, bf_ BK563, ⟨by repeat (first | (with_reducible first | exact HB.out | apply below_alloc | apply pw_below_drewN | apply below_drew1 | refine below_set ?_ GE561.out | refine below_set ?_ GE562.out | refine below_set ?_ GE563.out) | exact HB.out)⟩⟩
       ·
        rw [if_neg c28] at H
        have c28b0 : decide (12 < a2_2) = false := decide_eq_false c28
        clear c28
        by_cases c32 : a2_3 < 1
        ·
         rw [if_pos c32] at H
         have c32b0 : decide (a2_3 < 1) = true := decide_eq_true c32
         clear c32
         have H' := Aside0.mk H
         clear H
         have hnb33 := NB563_561.out
         have hnc33 := NB561_563.out
         have hnb34 := NB563_562.out
         have hnc34 := NB562_563.out
         have hcz35_0 : w7.cell? ⟨gb563, 0, none⟩ = some (.int .i64 a2_0) := (blk_cell BK563.out 0).trans rfl
         have hcz35_1 : w7.cell? ⟨gb563, 1, none⟩ = some (.int .i64 a2_1) := (blk_cell BK563.out 1).trans rfl
         have hcz35_2 : w7.cell? ⟨gb563, 2, none⟩ = some (.int .i64 a2_2) := (blk_cell BK563.out 2).trans rfl
         have hcz35_3 : w7.cell? ⟨gb563, 3, none⟩ = some (.int .i64 a2_3) := (blk_cell BK563.out 3).trans rfl
         have hfz35_0 := blk_frozen BK563.out 0
         have hfz35_1 := blk_frozen BK563.out 1
         have hfz35_2 := blk_frozen BK563.out 2
         have hfz35_3 := blk_frozen BK563.out 3
         go_wp2
         go_meet
         case rel => exact ⟨_, (true), (by first | rfl | (simp; done) | (simp [*]; done)), H', ⟨by first | omega | exact Nat.le_refl _⟩, bf_ BK561, bf_ BK562, bf_ BK563, ⟨by repeat (first | (with_reducible first | exact HB.out | apply below_alloc | apply pw_below_drewN | apply below_drew1 | refine below_set ?_ GE561.out | refine below_set ?_ GE562.out | refine below_set ?_ GE563.out) | exact HB.out)⟩⟩
        ·
         rw [if_neg c32] at H
         have c32b0 : decide (a2_3 < 1) = false := decide_eq_false c32
         clear c32
         have H' := Aside0.mk H
         clear H
         have hnb36 := NB563_561.out
         have hnc36 := NB561_563.out
         have hnb37 := NB563_562.out
         have hnc37 := NB562_563.out
         have hcz38_0 : w7.cell? ⟨gb563, 0, none⟩ = some (.int .i64 a2_0) := (blk_cell BK563.out 0).trans rfl
         have hcz38_1 : w7.cell? ⟨gb563, 1, none⟩ = some (.int .i64 a2_1) := (blk_cell BK563.out 1).trans rfl
         have hcz38_2 : w7.cell? ⟨gb563, 2, none⟩ = some (.int .i64 a2_2) := (blk_cell BK563.out 2).trans rfl
         have hcz38_3 : w7.cell? ⟨gb563, 3, none⟩ = some (.int .i64 a2_3) := (blk_cell BK563.out 3).trans rfl
         have hfz38_0 := blk_frozen BK563.out 0
         have hfz38_1 := blk_frozen BK563.out 1
         have hfz38_2 := blk_frozen BK563.out 2
         have hfz38_3 := blk_frozen BK563.out 3
         go_wp2
         go_meet
         case rel => exact ⟨_, (decide (a2_3 > 12)), (by first | rfl | (simp; done) | (simp [*]; done)), H', ⟨by first | omega | exact Nat.le_refl _⟩, bf_ BK561, bf_ BK562, bf_ BK563, ⟨by repeat (first | (with_reducible first | exact HB.out | apply below_alloc | apply pw_below_drewN | apply below_drew1 | refine below_set ?_ GE561.out | refine below_set ?_ GE562.out | refine below_set ?_ GE563.out) | exact HB.out)⟩⟩
 case rest =>
  clear HC4
  try clear c1
  try clear c2
  try clear p2
  try clear c3
  try clear c8
  try clear c8b0
  try clear c9
  try clear c10
  try clear c12
  try clear c12b0
  try clear c13
  try clear c14
  try clear c16
  try clear c16b0
  try clear c17
  try clear c18
  try clear c20
  try clear c20b0
  try clear c21
  try clear c22
  try clear c24
  try clear c24b0
  try clear c25
  try clear c26
  try clear c28
  try clear c28b0
  try clear c29
  try clear c30
  try clear c32
  try clear c32b0
  try clear c33
  try clear c34
  try clear c36
  try clear c37
  try clear hcz11_0
  try clear hcz11_1
  try clear hcz11_2
  try clear hcz11_3
  try clear hcz15_0
  try clear hcz15_1
  try clear hcz15_2
  try clear hcz15_3
  try clear hcz19_0
  try clear hcz19_1
  try clear hcz19_2
  try clear hcz19_3
  try clear hcz23_0
  try clear hcz23_1
  try clear hcz23_2
  try clear hcz23_3
  try clear hcz27_0
  try clear hcz27_1
  try clear hcz27_2
  try clear hcz27_3
  try clear hcz31_0
  try clear hcz31_1
  try clear hcz31_2
  try clear hcz31_3
  try clear hcz35_0
  try clear hcz35_1
  try clear hcz35_2
  try clear hcz35_3
  try clear hcz38_0
  try clear hcz38_1
  try clear hcz38_2
  try clear hcz38_3
  try clear hfz11_0
  try clear hfz11_1
  try clear hfz11_2
  try clear hfz11_3
  try clear hfz15_0
  try clear hfz15_1
  try clear hfz15_2
  try clear hfz15_3
  try clear hfz19_0
  try clear hfz19_1
  try clear hfz19_2
  try clear hfz19_3
  try clear hfz23_0
  try clear hfz23_1
  try clear hfz23_2
  try clear hfz23_3
  try clear hfz27_0
  try clear hfz27_1
  try clear hfz27_2
  try clear hfz27_3
  try clear hfz31_0
  try clear hfz31_1
  try clear hfz31_2
  try clear hfz31_3
  try clear hfz35_0
  try clear hfz35_1
  try clear hfz35_2
  try clear hfz35_3
  try clear hfz38_0
  try clear hfz38_1
  try clear hfz38_2
  try clear hfz38_3
  obtain ⟨kq, x48_3, rfl, HA, HJ3, BK561, BK562, BK563, HB⟩ := hcut
  cases kq with
  | zero => exact absurd HA.out (by simp [compositorlaw10_ScaleCovers.j0])
  | succ kj3 =>
   have H := HA.out
   clear HA
   simp only [compositorlaw10_ScaleCovers.j0] at H
   by_cases c39 : x48_3 = true
   ·
    subst c39
    have H1 : ((compositorlaw10_exampleHolds.f kj3).bind fun t564 => (some t564)) = some true := by rw [if_pos rfl] at H; exact H
    clear H
    have H := H1
    clear H1
    replace H := Option.bind_eq_some_iff.mp H
    obtain ⟨t564, A400, H⟩ := H
    try dsimp only at H
    have A40 := Aside0.mk A400
    clear A400
    have Hq_ := Option.some.inj H
    go_wp2_with (first | ((with_reducible refine gate_callee (f := 12) rfl ?_); refine goesL_ (some 49) rfl rfl Try.func12 (by kernel_rfl) rfl #[] rfl (by (try simp only [List.map_toArray, List.map_cons, List.map_nil]) <;> rfl) ?_; (with_reducible refine (compositorlaw10_exampleHolds.calls kj3  t564 _ A40.out).mono ?_); rintro e w41 ⟨rfl, hb⟩; refine ⟨_, rfl, ?_⟩; have n0_ := bb_ BK561 hb; have n1_ := bb_ BK562 hb; have n2_ := bb_ BK563 hb; have n3_ := hb_ HB hb; clear BK561; clear BK562; clear BK563; clear HB; have BK561 := n0_; have BK562 := n1_; have BK563 := n2_; have HB := n3_; clear n0_ n1_ n2_ n3_; (try clear hb); (try clear hb2); (try clear hk); (try clear hi)))
    go_ret
    exact ⟨by first | rfl | (simp [errW_none, errW_some] <;> rfl) | (simp [*, errW_none, errW_some] <;> rfl), by repeat (first | (with_reducible first | exact HB.out | apply below_alloc | apply pw_below_drewN | apply below_drew1 | refine below_set ?_ GE561.out | refine below_set ?_ GE562.out | refine below_set ?_ GE563.out) | exact HB.out)⟩
   ·
    replace c39 := Bool.eq_false_iff.mpr c39
    subst c39
    have H1 : ((compositorref04_Intersect.f a0_0 a0_1 a0_2 a0_3 0 0 a2_0 a2_1).bind fun bt565 => ((compositorref04_Empty.f bt565.1 bt565.2.1 bt565.2.2.1 bt565.2.2.2).bind fun t569 => (if t569 = true then ((compositorlaw10_exampleHolds.f kj3).bind fun t570 => (some t570)) else ((scale_MapRect.f kj3 bt565.1 bt565.2.1 bt565.2.2.1 bt565.2.2.2 a2_0 a2_1 a2_2 a2_3).bind fun bt571 => ((compositorref04_Intersect.f bt565.1 bt565.2.1 bt565.2.2.1 bt565.2.2.2 a1_0 a1_1 a1_2 a1_3).bind fun bt576 => ((scale_MapRect.f kj3 bt576.1 bt576.2.1 bt576.2.2.1 bt576.2.2.2 a2_0 a2_1 a2_2 a2_3).bind fun bt580 => ((compositorref04_Within.f bt580.1 bt580.2.1 bt580.2.2.1 bt580.2.2.2 bt571.1 bt571.2.1 bt571.2.2.1 bt571.2.2.2).bind fun t584 => (if t584 = true then (compositorlaw10_ScaleCovers.l0 kj3 0 bt565.1 bt565.2.1 bt565.2.2.1 bt565.2.2.2 a2_0 a2_1 a2_2 a2_3 bt571.1 bt571.2.1 bt571.2.2.1 bt571.2.2.2) else (some false))))))))) = some true := by rw [if_neg (show ¬ (false = true) by decide)] at H; exact H
    clear H
    have H := H1
    clear H1
    replace H := Option.bind_eq_some_iff.mp H
    obtain ⟨⟨t565, t566, t567, t568⟩, A420, H⟩ := H
    try dsimp only at H
    have A42 := Aside0.mk A420
    clear A420
    replace H := Option.bind_eq_some_iff.mp H
    obtain ⟨t569, A430, H⟩ := H
    try dsimp only at H
    have A43 := Aside0.mk A430
    clear A430
    by_cases c44 : t569 = true
    ·
     subst c44
     have H1 : ((compositorlaw10_exampleHolds.f kj3).bind fun t570 => (some t570)) = some true := by rw [if_pos rfl] at H; exact H
     clear H
     have H := H1
     clear H1
     replace H := Option.bind_eq_some_iff.mp H
     obtain ⟨t570, A450, H⟩ := H
     try dsimp only at H
     have A45 := Aside0.mk A450
     clear A450
     have Hq_ := Option.some.inj H
     have hnb46 := NB561_562.out
     have hnc46 := NB562_561.out
     have hnb47 := NB561_563.out
     have hnc47 := NB563_561.out
     have hcz48_0 : wc.cell? ⟨gb561, 0, none⟩ = some (.int .i64 a0_0) := (blk_cell BK561.out 0).trans rfl
     have hcz48_1 : wc.cell? ⟨gb561, 1, none⟩ = some (.int .i64 a0_1) := (blk_cell BK561.out 1).trans rfl
     have hcz48_2 : wc.cell? ⟨gb561, 2, none⟩ = some (.int .i64 a0_2) := (blk_cell BK561.out 2).trans rfl
     have hcz48_3 : wc.cell? ⟨gb561, 3, none⟩ = some (.int .i64 a0_3) := (blk_cell BK561.out 3).trans rfl
     have hfz48_0 := blk_frozen BK561.out 0
     have hfz48_1 := blk_frozen BK561.out 1
     have hfz48_2 := blk_frozen BK561.out 2
     have hfz48_3 := blk_frozen BK561.out 3
     have hnb49 := NB563_562.out
     have hnc49 := NB562_563.out
     have hcz50_0 : wc.cell? ⟨gb563, 0, none⟩ = some (.int .i64 a2_0) := (blk_cell BK563.out 0).trans rfl
     have hcz50_1 : wc.cell? ⟨gb563, 1, none⟩ = some (.int .i64 a2_1) := (blk_cell BK563.out 1).trans rfl
     have hcz50_2 : wc.cell? ⟨gb563, 2, none⟩ = some (.int .i64 a2_2) := (blk_cell BK563.out 2).trans rfl
     have hcz50_3 : wc.cell? ⟨gb563, 3, none⟩ = some (.int .i64 a2_3) := (blk_cell BK563.out 3).trans rfl
     have hfz50_0 := blk_frozen BK563.out 0
     have hfz50_1 := blk_frozen BK563.out 1
     have hfz50_2 := blk_frozen BK563.out 2
     have hfz50_3 := blk_frozen BK563.out 3
     go_wp2_with (first | ((with_reducible refine gate_callee (f := 27) rfl ?_); refine goesL_ (some 56) rfl rfl Try.func27 (by kernel_rfl) rfl #[.agg #[.int .i64 a0_0, .int .i64 a0_1, .int .i64 a0_2, .int .i64 a0_3], .agg #[.int .i64 0, .int .i64 0, .int .i64 a2_0, .int .i64 a2_1]] rfl (by (try simp only [List.map_toArray, List.map_cons, List.map_nil]) <;> rfl) ?_; (with_reducible refine (compositorref04_Intersect.calls a0_0 a0_1 a0_2 a0_3 0 0 a2_0 a2_1 t565 t566 t567 t568 _ A42.out).mono ?_); rintro e w51 ⟨rfl, hb⟩; refine ⟨_, rfl, ?_⟩; have n0_ := bb_ BK561 hb; have n1_ := bb_ BK562 hb; have n2_ := bb_ BK563 hb; have n3_ := hb_ HB hb; clear BK561; clear BK562; clear BK563; clear HB; have BK561 := n0_; have BK562 := n1_; have BK563 := n2_; have HB := n3_; clear n0_ n1_ n2_ n3_; (try clear hb); (try clear hb2); (try clear hk); (try clear hi); have hcz52_0 : w51.cell? ⟨gb561, 0, none⟩ = some (.int .i64 a0_0) := (blk_cell BK561.out 0).trans rfl; have hcz52_1 : w51.cell? ⟨gb561, 1, none⟩ = some (.int .i64 a0_1) := (blk_cell BK561.out 1).trans rfl; have hcz52_2 : w51.cell? ⟨gb561, 2, none⟩ = some (.int .i64 a0_2) := (blk_cell BK561.out 2).trans rfl; have hcz52_3 : w51.cell? ⟨gb561, 3, none⟩ = some (.int .i64 a0_3) := (blk_cell BK561.out 3).trans rfl; have hfz52_0 := blk_frozen BK561.out 0; have hfz52_1 := blk_frozen BK561.out 1; have hfz52_2 := blk_frozen BK561.out 2; have hfz52_3 := blk_frozen BK561.out 3) | ((with_reducible refine gate_callee (f := 28) rfl ?_); refine goesL_ (some 58) rfl rfl Try.func28 (by kernel_rfl) rfl #[.agg #[.int .i64 t565, .int .i64 t566, .int .i64 t567, .int .i64 t568]] rfl (by (try simp only [List.map_toArray, List.map_cons, List.map_nil]) <;> rfl) ?_; (with_reducible refine (compositorref04_Empty.calls t565 t566 t567 t568 true _ A43.out).mono ?_); rintro e w53 ⟨rfl, hb⟩; refine ⟨_, rfl, ?_⟩; have n0_ := Aside0.mk (blk_below (g := gb561) (o := .cells #[.int .i64 t565, .int .i64 t566, .int .i64 t567, .int .i64 t568] 34 (0, 0)) (by (with_reducible repeat (first | refine blk_drewN ?_ _ | refine blk_drew ?_ | refine blk_alloc ?_ _)); refine blk_put (cs := #[.int .i64 t565, .int .i64 t566, .int .i64 t567, .int .i64 a0_3]) ?_ 3 _ rfl; (with_reducible repeat (first | refine blk_drewN ?_ _ | refine blk_drew ?_ | refine blk_alloc ?_ _)); refine blk_put (cs := #[.int .i64 t565, .int .i64 t566, .int .i64 a0_2, .int .i64 a0_3]) ?_ 2 _ rfl; (with_reducible repeat (first | refine blk_drewN ?_ _ | refine blk_drew ?_ | refine blk_alloc ?_ _)); refine blk_put (cs := #[.int .i64 t565, .int .i64 a0_1, .int .i64 a0_2, .int .i64 a0_3]) ?_ 1 _ rfl; (with_reducible repeat (first | refine blk_drewN ?_ _ | refine blk_drew ?_ | refine blk_alloc ?_ _)); refine blk_put (cs := #[.int .i64 a0_0, .int .i64 a0_1, .int .i64 a0_2, .int .i64 a0_3]) ?_ 0 _ rfl; (with_reducible repeat (first | refine blk_drewN ?_ _ | refine blk_drew ?_ | refine blk_alloc ?_ _)); exact BK561.out) hb); have n1_ := Aside0.mk (blk_below (g := gb562) (o := .cells #[.int .i64 a1_0, .int .i64 a1_1, .int .i64 a1_2, .int .i64 a1_3] 34 (0, 0)) (by (with_reducible repeat (first | refine blk_drewN ?_ _ | refine blk_drew ?_ | refine blk_alloc ?_ _)); refine blk_far ?_ NB562_561.out _; (with_reducible repeat (first | refine blk_drewN ?_ _ | refine blk_drew ?_ | refine blk_alloc ?_ _)); refine blk_far ?_ NB562_561.out _; (with_reducible repeat (first | refine blk_drewN ?_ _ | refine blk_drew ?_ | refine blk_alloc ?_ _)); refine blk_far ?_ NB562_561.out _; (with_reducible repeat (first | refine blk_drewN ?_ _ | refine blk_drew ?_ | refine blk_alloc ?_ _)); refine blk_far ?_ NB562_561.out _; (with_reducible repeat (first | refine blk_drewN ?_ _ | refine blk_drew ?_ | refine blk_alloc ?_ _)); exact BK562.out) hb); have n2_ := Aside0.mk (blk_below (g := gb563) (o := .cells #[.int .i64 a2_0, .int .i64 a2_1, .int .i64 a2_2, .int .i64 a2_3] 36 (0, 0)) (by (with_reducible repeat (first | refine blk_drewN ?_ _ | refine blk_drew ?_ | refine blk_alloc ?_ _)); refine blk_far ?_ NB563_561.out _; (with_reducible repeat (first | refine blk_drewN ?_ _ | refine blk_drew ?_ | refine blk_alloc ?_ _)); refine blk_far ?_ NB563_561.out _; (with_reducible repeat (first | refine blk_drewN ?_ _ | refine blk_drew ?_ | refine blk_alloc ?_ _)); refine blk_far ?_ NB563_561.out _; (with_reducible repeat (first | refine blk_drewN ?_ _ | refine blk_drew ?_ | refine blk_alloc ?_ _)); refine blk_far ?_ NB563_561.out _; (with_reducible repeat (first | refine blk_drewN ?_ _ | refine blk_drew ?_ | refine blk_alloc ?_ _)); exact BK563.out) hb); have n3_ := hb_ HB hb; clear BK561; clear BK562; clear BK563; clear HB; have BK561 := n0_; have BK562 := n1_; have BK563 := n2_; have HB := n3_; clear n0_ n1_ n2_ n3_; (try clear hb); (try clear hb2); (try clear hk); (try clear hi)) | ((with_reducible refine gate_callee (f := 12) rfl ?_); refine goesL_ (some 59) rfl rfl Try.func12 (by kernel_rfl) rfl #[] rfl (by (try simp only [List.map_toArray, List.map_cons, List.map_nil]) <;> rfl) ?_; (with_reducible refine (compositorlaw10_exampleHolds.calls kj3  t570 _ A45.out).mono ?_); rintro e w54 ⟨rfl, hb⟩; refine ⟨_, rfl, ?_⟩; have n0_ := bb_ BK561 hb; have n1_ := bb_ BK562 hb; have n2_ := bb_ BK563 hb; have n3_ := hb_ HB hb; clear BK561; clear BK562; clear BK563; clear HB; have BK561 := n0_; have BK562 := n1_; have BK563 := n2_; have HB := n3_; clear n0_ n1_ n2_ n3_; (try clear hb); (try clear hb2); (try clear hk); (try clear hi)))
     go_ret
     exact ⟨by first | rfl | (simp [errW_none, errW_some] <;> rfl) | (simp [*, errW_none, errW_some] <;> rfl), by repeat (first | (with_reducible first | exact HB.out | apply below_alloc | apply pw_below_drewN | apply below_drew1 | refine below_set ?_ GE561.out | refine below_set ?_ GE562.out | refine below_set ?_ GE563.out) | exact HB.out)⟩
    ·
     replace c44 := Bool.eq_false_iff.mpr c44
     subst c44
     have H1 : ((scale_MapRect.f kj3 t565 t566 t567 t568 a2_0 a2_1 a2_2 a2_3).bind fun bt571 => ((compositorref04_Intersect.f t565 t566 t567 t568 a1_0 a1_1 a1_2 a1_3).bind fun bt576 => ((scale_MapRect.f kj3 bt576.1 bt576.2.1 bt576.2.2.1 bt576.2.2.2 a2_0 a2_1 a2_2 a2_3).bind fun bt580 => ((compositorref04_Within.f bt580.1 bt580.2.1 bt580.2.2.1 bt580.2.2.2 bt571.1 bt571.2.1 bt571.2.2.1 bt571.2.2.2).bind fun t584 => (if t584 = true then (compositorlaw10_ScaleCovers.l0 kj3 0 t565 t566 t567 t568 a2_0 a2_1 a2_2 a2_3 bt571.1 bt571.2.1 bt571.2.2.1 bt571.2.2.2) else (some false)))))) = some true := by rw [if_neg (show ¬ (false = true) by decide)] at H; exact H
     clear H
     have H := H1
     clear H1
     replace H := Option.bind_eq_some_iff.mp H
     obtain ⟨⟨t571, t572, t573, t574⟩, A550, H⟩ := H
     try dsimp only at H
     have A55 := Aside0.mk A550
     clear A550
     replace H := Option.bind_eq_some_iff.mp H
     obtain ⟨⟨t576, t577, t578, t579⟩, A560, H⟩ := H
     try dsimp only at H
     have A56 := Aside0.mk A560
     clear A560
     replace H := Option.bind_eq_some_iff.mp H
     obtain ⟨⟨t580, t581, t582, t583⟩, A570, H⟩ := H
     try dsimp only at H
     have A57 := Aside0.mk A570
     clear A570
     replace H := Option.bind_eq_some_iff.mp H
     obtain ⟨t584, A580, H⟩ := H
     try dsimp only at H
     have A58 := Aside0.mk A580
     clear A580
     by_cases c59 : t584 = true
     ·
      subst c59
      have H1 : (compositorlaw10_ScaleCovers.l0 kj3 0 t565 t566 t567 t568 a2_0 a2_1 a2_2 a2_3 t571 t572 t573 t574) = some true := by rw [if_pos rfl] at H; exact H
      clear H
      have H := H1
      clear H1
      have H' := Aside0.mk H
      clear H
      have hnb60 := NB561_562.out
      have hnc60 := NB562_561.out
      have hnb61 := NB561_563.out
      have hnc61 := NB563_561.out
      have hcz62_0 : wc.cell? ⟨gb561, 0, none⟩ = some (.int .i64 a0_0) := (blk_cell BK561.out 0).trans rfl
      have hcz62_1 : wc.cell? ⟨gb561, 1, none⟩ = some (.int .i64 a0_1) := (blk_cell BK561.out 1).trans rfl
      have hcz62_2 : wc.cell? ⟨gb561, 2, none⟩ = some (.int .i64 a0_2) := (blk_cell BK561.out 2).trans rfl
      have hcz62_3 : wc.cell? ⟨gb561, 3, none⟩ = some (.int .i64 a0_3) := (blk_cell BK561.out 3).trans rfl
      have hfz62_0 := blk_frozen BK561.out 0
      have hfz62_1 := blk_frozen BK561.out 1
      have hfz62_2 := blk_frozen BK561.out 2
      have hfz62_3 := blk_frozen BK561.out 3
      have hnb63 := NB563_562.out
      have hnc63 := NB562_563.out
      have hcz64_0 : wc.cell? ⟨gb563, 0, none⟩ = some (.int .i64 a2_0) := (blk_cell BK563.out 0).trans rfl
      have hcz64_1 : wc.cell? ⟨gb563, 1, none⟩ = some (.int .i64 a2_1) := (blk_cell BK563.out 1).trans rfl
      have hcz64_2 : wc.cell? ⟨gb563, 2, none⟩ = some (.int .i64 a2_2) := (blk_cell BK563.out 2).trans rfl
      have hcz64_3 : wc.cell? ⟨gb563, 3, none⟩ = some (.int .i64 a2_3) := (blk_cell BK563.out 3).trans rfl
      have hfz64_0 := blk_frozen BK563.out 0
      have hfz64_1 := blk_frozen BK563.out 1
      have hfz64_2 := blk_frozen BK563.out 2
      have hfz64_3 := blk_frozen BK563.out 3
      try go_wp2_with (first | ((with_reducible refine gate_callee (f := 27) rfl ?_); refine goesL_ (some 56) rfl rfl Try.func27 (by kernel_rfl) rfl #[.agg #[.int .i64 a0_0, .int .i64 a0_1, .int .i64 a0_2, .int .i64 a0_3], .agg #[.int .i64 0, .int .i64 0, .int .i64 a2_0, .int .i64 a2_1]] rfl (by (try simp only [List.map_toArray, List.map_cons, List.map_nil]) <;> rfl) ?_; (with_reducible refine (compositorref04_Intersect.calls a0_0 a0_1 a0_2 a0_3 0 0 a2_0 a2_1 t565 t566 t567 t568 _ A42.out).mono ?_); rintro e w65 ⟨rfl, hb⟩; refine ⟨_, rfl, ?_⟩; have n0_ := bb_ BK561 hb; have n1_ := bb_ BK562 hb; have n2_ := bb_ BK563 hb; have n3_ := hb_ HB hb; clear BK561; clear BK562; clear BK563; clear HB; have BK561 := n0_; have BK562 := n1_; have BK563 := n2_; have HB := n3_; clear n0_ n1_ n2_ n3_; (try clear hb); (try clear hb2); (try clear hk); (try clear hi); have hcz66_0 : w65.cell? ⟨gb561, 0, none⟩ = some (.int .i64 a0_0) := (blk_cell BK561.out 0).trans rfl; have hcz66_1 : w65.cell? ⟨gb561, 1, none⟩ = some (.int .i64 a0_1) := (blk_cell BK561.out 1).trans rfl; have hcz66_2 : w65.cell? ⟨gb561, 2, none⟩ = some (.int .i64 a0_2) := (blk_cell BK561.out 2).trans rfl; have hcz66_3 : w65.cell? ⟨gb561, 3, none⟩ = some (.int .i64 a0_3) := (blk_cell BK561.out 3).trans rfl; have hfz66_0 := blk_frozen BK561.out 0; have hfz66_1 := blk_frozen BK561.out 1; have hfz66_2 := blk_frozen BK561.out 2; have hfz66_3 := blk_frozen BK561.out 3) | ((with_reducible refine gate_callee (f := 28) rfl ?_); refine goesL_ (some 58) rfl rfl Try.func28 (by kernel_rfl) rfl #[.agg #[.int .i64 t565, .int .i64 t566, .int .i64 t567, .int .i64 t568]] rfl (by (try simp only [List.map_toArray, List.map_cons, List.map_nil]) <;> rfl) ?_; (with_reducible refine (compositorref04_Empty.calls t565 t566 t567 t568 false _ A43.out).mono ?_); rintro e w67 ⟨rfl, hb⟩; refine ⟨_, rfl, ?_⟩; have n0_ := Aside0.mk (blk_below (g := gb561) (o := .cells #[.int .i64 t565, .int .i64 t566, .int .i64 t567, .int .i64 t568] 34 (0, 0)) (by (with_reducible repeat (first | refine blk_drewN ?_ _ | refine blk_drew ?_ | refine blk_alloc ?_ _)); refine blk_put (cs := #[.int .i64 t565, .int .i64 t566, .int .i64 t567, .int .i64 a0_3]) ?_ 3 _ rfl; (with_reducible repeat (first | refine blk_drewN ?_ _ | refine blk_drew ?_ | refine blk_alloc ?_ _)); refine blk_put (cs := #[.int .i64 t565, .int .i64 t566, .int .i64 a0_2, .int .i64 a0_3]) ?_ 2 _ rfl; (with_reducible repeat (first | refine blk_drewN ?_ _ | refine blk_drew ?_ | refine blk_alloc ?_ _)); refine blk_put (cs := #[.int .i64 t565, .int .i64 a0_1, .int .i64 a0_2, .int .i64 a0_3]) ?_ 1 _ rfl; (with_reducible repeat (first | refine blk_drewN ?_ _ | refine blk_drew ?_ | refine blk_alloc ?_ _)); refine blk_put (cs := #[.int .i64 a0_0, .int .i64 a0_1, .int .i64 a0_2, .int .i64 a0_3]) ?_ 0 _ rfl; (with_reducible repeat (first | refine blk_drewN ?_ _ | refine blk_drew ?_ | refine blk_alloc ?_ _)); exact BK561.out) hb); have n1_ := Aside0.mk (blk_below (g := gb562) (o := .cells #[.int .i64 a1_0, .int .i64 a1_1, .int .i64 a1_2, .int .i64 a1_3] 34 (0, 0)) (by (with_reducible repeat (first | refine blk_drewN ?_ _ | refine blk_drew ?_ | refine blk_alloc ?_ _)); refine blk_far ?_ NB562_561.out _; (with_reducible repeat (first | refine blk_drewN ?_ _ | refine blk_drew ?_ | refine blk_alloc ?_ _)); refine blk_far ?_ NB562_561.out _; (with_reducible repeat (first | refine blk_drewN ?_ _ | refine blk_drew ?_ | refine blk_alloc ?_ _)); refine blk_far ?_ NB562_561.out _; (with_reducible repeat (first | refine blk_drewN ?_ _ | refine blk_drew ?_ | refine blk_alloc ?_ _)); refine blk_far ?_ NB562_561.out _; (with_reducible repeat (first | refine blk_drewN ?_ _ | refine blk_drew ?_ | refine blk_alloc ?_ _)); exact BK562.out) hb); have n2_ := Aside0.mk (blk_below (g := gb563) (o := .cells #[.int .i64 a2_0, .int .i64 a2_1, .int .i64 a2_2, .int .i64 a2_3] 36 (0, 0)) (by (with_reducible repeat (first | refine blk_drewN ?_ _ | refine blk_drew ?_ | refine blk_alloc ?_ _)); refine blk_far ?_ NB563_561.out _; (with_reducible repeat (first | refine blk_drewN ?_ _ | refine blk_drew ?_ | refine blk_alloc ?_ _)); refine blk_far ?_ NB563_561.out _; (with_reducible repeat (first | refine blk_drewN ?_ _ | refine blk_drew ?_ | refine blk_alloc ?_ _)); refine blk_far ?_ NB563_561.out _; (with_reducible repeat (first | refine blk_drewN ?_ _ | refine blk_drew ?_ | refine blk_alloc ?_ _)); refine blk_far ?_ NB563_561.out _; (with_reducible repeat (first | refine blk_drewN ?_ _ | refine blk_drew ?_ | refine blk_alloc ?_ _)); exact BK563.out) hb); have n3_ := hb_ HB hb; clear BK561; clear BK562; clear BK563; clear HB; have BK561 := n0_; have BK562 := n1_; have BK563 := n2_; have HB := n3_; clear n0_ n1_ n2_ n3_; (try clear hb); (try clear hb2); (try clear hk); (try clear hi); have hcz68_0 : w67.cell? ⟨gb561, 0, none⟩ = some (.int .i64 t565) := (blk_cell BK561.out 0).trans rfl; have hcz68_1 : w67.cell? ⟨gb561, 1, none⟩ = some (.int .i64 t566) := (blk_cell BK561.out 1).trans rfl; have hcz68_2 : w67.cell? ⟨gb561, 2, none⟩ = some (.int .i64 t567) := (blk_cell BK561.out 2).trans rfl; have hcz68_3 : w67.cell? ⟨gb561, 3, none⟩ = some (.int .i64 t568) := (blk_cell BK561.out 3).trans rfl; have hfz68_0 := blk_frozen BK561.out 0; have hfz68_1 := blk_frozen BK561.out 1; have hfz68_2 := blk_frozen BK561.out 2; have hfz68_3 := blk_frozen BK561.out 3; have hcz69_0 : w67.cell? ⟨gb563, 0, none⟩ = some (.int .i64 a2_0) := (blk_cell BK563.out 0).trans rfl; have hcz69_1 : w67.cell? ⟨gb563, 1, none⟩ = some (.int .i64 a2_1) := (blk_cell BK563.out 1).trans rfl; have hcz69_2 : w67.cell? ⟨gb563, 2, none⟩ = some (.int .i64 a2_2) := (blk_cell BK563.out 2).trans rfl; have hcz69_3 : w67.cell? ⟨gb563, 3, none⟩ = some (.int .i64 a2_3) := (blk_cell BK563.out 3).trans rfl; have hfz69_0 := blk_frozen BK563.out 0; have hfz69_1 := blk_frozen BK563.out 1; have hfz69_2 := blk_frozen BK563.out 2; have hfz69_3 := blk_frozen BK563.out 3) | ((with_reducible refine gate_callee (f := 22) rfl ?_); refine goesL_ (some 69) rfl rfl Try.func22 (by kernel_rfl) rfl #[.agg #[.int .i64 t565, .int .i64 t566, .int .i64 t567, .int .i64 t568], .int .i64 a2_0, .int .i64 a2_1, .int .i64 a2_2, .int .i64 a2_3] rfl (by (try simp only [List.map_toArray, List.map_cons, List.map_nil]) <;> rfl) ?_; (with_reducible refine (scale_MapRect.calls kj3 t565 t566 t567 t568 a2_0 a2_1 a2_2 a2_3 t571 t572 t573 t574 _ A55.out).mono ?_); rintro e w70 ⟨rfl, hb⟩; refine ⟨_, rfl, ?_⟩; have n0_ := bb_ BK561 hb; have n1_ := bb_ BK562 hb; have n2_ := bb_ BK563 hb; have n3_ := hb_ HB hb; clear BK561; clear BK562; clear BK563; clear HB; have BK561 := n0_; have BK562 := n1_; have BK563 := n2_; have HB := n3_; clear n0_ n1_ n2_ n3_; (try clear hb); (try clear hb2); (try clear hk); (try clear hi)) | ((with_reducible refine gate_dst (N := 7) rfl ?_); refine box_event ?hg (N := 7) ?hd (cs := #[.int .i64 0, .int .i64 0, .int .i64 0, .int .i64 0]) (t := 34) ?hr ?_; (case hd => rfl); (case hg => rfl); (case hr => first | (go_simp; done) | (go_simp; rfl)); intro gb575 hg w71 hbox hb; have n0_ := bb_ BK561 hb; have n1_ := bb_ BK562 hb; have n2_ := bb_ BK563 hb; have n3_ := hb_ HB hb; have n4_ := Aside0.mk (hbox); have n5_ := Aside0.mk ((by rw [hg]; exact (below_size (hq_ HB)) : w.heap.size ≤ gb575)); have n6_ := Aside0.mk ((by rw [hg]; exact (below_size (hq_ HB)) : w.heap.size ≤ gb575)); have n7_ := Aside0.mk ((by rw [hg]; exact Nat.ne_of_lt (blk_lt (g := gb561) (o := .cells #[.int .i64 t565, .int .i64 t566, .int .i64 t567, .int .i64 t568] 34 (0, 0)) (bq_ BK561)) : gb561 ≠ gb575)); have n8_ := Aside0.mk ((by rw [hg]; exact Nat.ne_of_gt (blk_lt (g := gb561) (o := .cells #[.int .i64 t565, .int .i64 t566, .int .i64 t567, .int .i64 t568] 34 (0, 0)) (bq_ BK561)) : gb575 ≠ gb561)); have n9_ := Aside0.mk ((by rw [hg]; exact Nat.ne_of_lt (blk_lt (g := gb562) (o := .cells #[.int .i64 a1_0, .int .i64 a1_1, .int .i64 a1_2, .int .i64 a1_3] 34 (0, 0)) (bq_ BK562)) : gb562 ≠ gb575)); have n10_ := Aside0.mk ((by rw [hg]; exact Nat.ne_of_gt (blk_lt (g := gb562) (o := .cells #[.int .i64 a1_0, .int .i64 a1_1, .int .i64 a1_2, .int .i64 a1_3] 34 (0, 0)) (bq_ BK562)) : gb575 ≠ gb562)); have n11_ := Aside0.mk ((by rw [hg]; exact Nat.ne_of_lt (blk_lt (g := gb563) (o := .cells #[.int .i64 a2_0, .int .i64 a2_1, .int .i64 a2_2, .int .i64 a2_3] 36 (0, 0)) (bq_ BK563)) : gb563 ≠ gb575)); have n12_ := Aside0.mk ((by rw [hg]; exact Nat.ne_of_gt (blk_lt (g := gb563) (o := .cells #[.int .i64 a2_0, .int .i64 a2_1, .int .i64 a2_2, .int .i64 a2_3] 36 (0, 0)) (bq_ BK563)) : gb575 ≠ gb563)); clear BK561; clear BK562; clear BK563; clear HB; have BK561 := n0_; have BK562 := n1_; have BK563 := n2_; have HB := n3_; have BK575 := n4_; have GW575 := n5_; have GE575 := n6_; have NB561_575 := n7_; have NB575_561 := n8_; have NB562_575 := n9_; have NB575_562 := n10_; have NB563_575 := n11_; have NB575_563 := n12_; clear n0_ n1_ n2_ n3_ n4_ n5_ n6_ n7_ n8_ n9_ n10_ n11_ n12_; clear hb hbox hg; have hnb72 := NB575_561.out; have hnc72 := NB561_575.out; have hnb73 := NB575_562.out; have hnc73 := NB562_575.out; have hnb74 := NB575_563.out; have hnc74 := NB563_575.out; have hcz75_0 : w71.cell? ⟨gb575, 0, none⟩ = some (.int .i64 0) := (blk_cell BK575.out 0).trans rfl; have hcz75_1 : w71.cell? ⟨gb575, 1, none⟩ = some (.int .i64 0) := (blk_cell BK575.out 1).trans rfl; have hcz75_2 : w71.cell? ⟨gb575, 2, none⟩ = some (.int .i64 0) := (blk_cell BK575.out 2).trans rfl; have hcz75_3 : w71.cell? ⟨gb575, 3, none⟩ = some (.int .i64 0) := (blk_cell BK575.out 3).trans rfl; have hfz75_0 := blk_frozen BK575.out 0; have hfz75_1 := blk_frozen BK575.out 1; have hfz75_2 := blk_frozen BK575.out 2; have hfz75_3 := blk_frozen BK575.out 3))
      have n0_ : Aside0 (((((w71.setCell ⟨gb575, 0, none⟩ (.int .i64 t571)).setCell ⟨gb575, 1, none⟩ (.int .i64 t572)).setCell ⟨gb575, 2, none⟩ (.int .i64 t573)).setCell ⟨gb575, 3, none⟩ (.int .i64 t574)).heap[gb561]? = some (.cells #[.int .i64 t565, .int .i64 t566, .int .i64 t567, .int .i64 t568] 34 (0, 0))) := bf_ BK561
      have n1_ : Aside0 (((((w71.setCell ⟨gb575, 0, none⟩ (.int .i64 t571)).setCell ⟨gb575, 1, none⟩ (.int .i64 t572)).setCell ⟨gb575, 2, none⟩ (.int .i64 t573)).setCell ⟨gb575, 3, none⟩ (.int .i64 t574)).heap[gb562]? = some (.cells #[.int .i64 a1_0, .int .i64 a1_1, .int .i64 a1_2, .int .i64 a1_3] 34 (0, 0))) := bf_ BK562
      have n2_ : Aside0 (((((w71.setCell ⟨gb575, 0, none⟩ (.int .i64 t571)).setCell ⟨gb575, 1, none⟩ (.int .i64 t572)).setCell ⟨gb575, 2, none⟩ (.int .i64 t573)).setCell ⟨gb575, 3, none⟩ (.int .i64 t574)).heap[gb563]? = some (.cells #[.int .i64 a2_0, .int .i64 a2_1, .int .i64 a2_2, .int .i64 a2_3] 36 (0, 0))) := bf_ BK563
      have n3_ : Aside0 (((((w71.setCell ⟨gb575, 0, none⟩ (.int .i64 t571)).setCell ⟨gb575, 1, none⟩ (.int .i64 t572)).setCell ⟨gb575, 2, none⟩ (.int .i64 t573)).setCell ⟨gb575, 3, none⟩ (.int .i64 t574)).heap[gb575]? = some (.cells #[.int .i64 t571, .int .i64 t572, .int .i64 t573, .int .i64 t574] 34 (0, 0))) := ⟨by (with_reducible repeat (first | refine blk_drewN ?_ _ | refine blk_drew ?_ | refine blk_alloc ?_ _)); refine blk_put (cs := #[.int .i64 t571, .int .i64 t572, .int .i64 t573, .int .i64 0]) ?_ 3 _ rfl; (with_reducible repeat (first | refine blk_drewN ?_ _ | refine blk_drew ?_ | refine blk_alloc ?_ _)); refine blk_put (cs := #[.int .i64 t571, .int .i64 t572, .int .i64 0, .int .i64 0]) ?_ 2 _ rfl; (with_reducible repeat (first | refine blk_drewN ?_ _ | refine blk_drew ?_ | refine blk_alloc ?_ _)); refine blk_put (cs := #[.int .i64 t571, .int .i64 0, .int .i64 0, .int .i64 0]) ?_ 1 _ rfl; (with_reducible repeat (first | refine blk_drewN ?_ _ | refine blk_drew ?_ | refine blk_alloc ?_ _)); refine blk_put (cs := #[.int .i64 0, .int .i64 0, .int .i64 0, .int .i64 0]) ?_ 0 _ rfl; (with_reducible repeat (first | refine blk_drewN ?_ _ | refine blk_drew ?_ | refine blk_alloc ?_ _)); exact BK575.out⟩
      have n4_ : Aside0 (Below w.heap.size w ((((w71.setCell ⟨gb575, 0, none⟩ (.int .i64 t571)).setCell ⟨gb575, 1, none⟩ (.int .i64 t572)).setCell ⟨gb575, 2, none⟩ (.int .i64 t573)).setCell ⟨gb575, 3, none⟩ (.int .i64 t574))) := ⟨by repeat (first | (with_reducible first | exact HB.out | apply below_alloc | apply pw_below_drewN | apply below_drew1 | refine below_set ?_ GE561.out | refine below_set ?_ GE562.out | refine below_set ?_ GE563.out | refine below_set ?_ GE575.out) | exact HB.out)⟩
      (try clear BK561)
      (try clear BK562)
      (try clear BK563)
      (try clear BK575)
      (try clear HB)
      generalize ((((w71.setCell ⟨gb575, 0, none⟩ (.int .i64 t571)).setCell ⟨gb575, 1, none⟩ (.int .i64 t572)).setCell ⟨gb575, 2, none⟩ (.int .i64 t573)).setCell ⟨gb575, 3, none⟩ (.int .i64 t574)) = w76 at n0_ n1_ n2_ n3_ n4_ ⊢
      have BK561 := n0_
      have BK562 := n1_
      have BK563 := n2_
      have BK575 := n3_
      have HB := n4_
      clear n0_ n1_ n2_ n3_ n4_
      replace BK561 := Aside0.mk (blk_drew BK561.out)
      replace BK562 := Aside0.mk (blk_drew BK562.out)
      replace BK563 := Aside0.mk (blk_drew BK563.out)
      replace BK575 := Aside0.mk (blk_drew BK575.out)
      replace HB := Aside0.mk (below_drew1 HB.out)
      refine start_ (n := 15) (S := fun w' => w'.cell? ⟨gb561, 0, none⟩ = some (.int .i64 t565) ∧ w'.cell? ⟨gb561, 1, none⟩ = some (.int .i64 t566) ∧ w'.cell? ⟨gb561, 2, none⟩ = some (.int .i64 t567) ∧ w'.cell? ⟨gb561, 3, none⟩ = some (.int .i64 t568) ∧ w'.cell? ⟨gb562, 0, none⟩ = some (.int .i64 a1_0) ∧ w'.cell? ⟨gb562, 1, none⟩ = some (.int .i64 a1_1) ∧ w'.cell? ⟨gb562, 2, none⟩ = some (.int .i64 a1_2) ∧ w'.cell? ⟨gb562, 3, none⟩ = some (.int .i64 a1_3) ∧ w'.cell? ⟨gb563, 0, none⟩ = some (.int .i64 a2_0) ∧ w'.cell? ⟨gb563, 1, none⟩ = some (.int .i64 a2_1) ∧ w'.cell? ⟨gb563, 2, none⟩ = some (.int .i64 a2_2) ∧ w'.cell? ⟨gb563, 3, none⟩ = some (.int .i64 a2_3) ∧ w'.cell? ⟨gb575, 0, none⟩ = some (.int .i64 t571) ∧ w'.cell? ⟨gb575, 1, none⟩ = some (.int .i64 t572) ∧ w'.cell? ⟨gb575, 2, none⟩ = some (.int .i64 t573) ∧ w'.cell? ⟨gb575, 3, none⟩ = some (.int .i64 t574)) (ds := []) zq10.q0 (by kernel_rfl) rfl rfl (a4_ BK561 (a4_ BK562 (a4_ BK563 (h4_ BK575)))) (fun hHeld => ?_); refine with_tabW compositorlaw10_ScaleCovers.tab7 compositorlaw10_ScaleCovers.bits7 (fun HT_ HW_ => ?_)
      generalize w76.drew = w77 at BK561 BK562 BK563 BK575 HB hHeld ⊢
      refine pv_ 3 73 zq10.q1 HT_ ?_
      refine pv_ 5 75 zq10.q2 HT_ ?_
      refine pv_ 7 77 zq10.q3 HT_ ?_
      refine pv_ 9 79 zq10.q4 HT_ ?_
      refine tk16_ 0 70 zq10.q5 HT_ HW_ hHeld ?_
      refine tk16_ 1 71 zq10.q6 HT_ HW_ hHeld ?_
      refine tk16_ 4 74 zq10.q7 HT_ HW_ hHeld ?_
      refine tk16_ 6 76 zq10.q8 HT_ HW_ hHeld ?_
      refine tk16_ 8 78 zq10.q9 HT_ HW_ hHeld ?_
      refine tk16_ 10 80 zq10.q10 HT_ HW_ hHeld ?_
      refine tk16_ 12 82 zq10.q11 HT_ HW_ hHeld ?_
      refine one_ (i := 2) (N := some 72) zq10.q12 rfl rfl (one_of HT_.out (by kernel_rfl)) (by decide) (fun K hK => ?_)
      refine gs_ Try.func27 #[.agg #[.int .i64 t565, .int .i64 t566, .int .i64 t567, .int .i64 t568], .agg #[.int .i64 a1_0, .int .i64 a1_1, .int .i64 a1_2, .int .i64 a1_3]] ?_
      with_reducible refine (compositorref04_Intersect.calls t565 t566 t567 t568 a1_0 a1_1 a1_2 a1_3 t576 t577 t578 t579 _ A56.out).mono ?_
      rintro e w78 ⟨rfl, hb⟩
      refine ⟨_, rfl, ?_⟩
      replace BK561 := bb_ BK561 hb
      replace BK562 := bb_ BK562 hb
      replace BK563 := bb_ BK563 hb
      replace BK575 := bb_ BK575 hb
      replace HB := hb_ HB hb
      (try clear hb); (try clear hb2); (try clear hk); (try clear hi)
      refine hK.out _ _ (a4_ BK561 (a4_ BK562 (a4_ BK563 (h4_ BK575)))) (fun hHeld => ?_)
      clear hK K
      refine norm_ (a' := ?_) ?_ ?_
      rotate_left
      ·
       show Act.put _ (some 72) _ = _
       simp only [Act.put, List.setIfInBounds_toArray, List.set_cons_zero, List.set_cons_succ, i64_w, i32_w]
       rfl
      refine one_ (i := 11) (N := some 81) zq10.q13 rfl rfl (one_of HT_.out (by kernel_rfl)) (by decide) (fun K hK => ?_)
      refine gs_ Try.func22 #[.agg #[.int .i64 t576, .int .i64 t577, .int .i64 t578, .int .i64 t579], .int .i64 a2_0, .int .i64 a2_1, .int .i64 a2_2, .int .i64 a2_3] ?_
      with_reducible refine (scale_MapRect.calls kj3 t576 t577 t578 t579 a2_0 a2_1 a2_2 a2_3 t580 t581 t582 t583 _ A57.out).mono ?_
      rintro e w79 ⟨rfl, hb⟩
      refine ⟨_, rfl, ?_⟩
      replace BK561 := bb_ BK561 hb
      replace BK562 := bb_ BK562 hb
      replace BK563 := bb_ BK563 hb
      replace BK575 := bb_ BK575 hb
      replace HB := hb_ HB hb
      (try clear hb); (try clear hb2); (try clear hk); (try clear hi)
      refine hK.out _ _ (a4_ BK561 (a4_ BK562 (a4_ BK563 (h4_ BK575)))) (fun hHeld => ?_)
      clear hK K
      refine norm_ (a' := ?_) ?_ ?_
      rotate_left
      ·
       show Act.put _ (some 81) _ = _
       simp only [Act.put, List.setIfInBounds_toArray, List.set_cons_zero, List.set_cons_succ, i64_w, i32_w]
       rfl
      refine one_ (i := 13) (N := some 83) zq10.q14 rfl rfl (one_of HT_.out (by kernel_rfl)) (by decide) (fun K hK => ?_)
      refine gs_ Try.func29 #[.agg #[.int .i64 t580, .int .i64 t581, .int .i64 t582, .int .i64 t583], .agg #[.int .i64 t571, .int .i64 t572, .int .i64 t573, .int .i64 t574]] ?_
      with_reducible refine (compositorref04_Within.calls t580 t581 t582 t583 t571 t572 t573 t574 true _ A58.out).mono ?_
      rintro e w80 ⟨rfl, hb⟩
      refine ⟨_, rfl, ?_⟩
      replace BK561 := bb_ BK561 hb
      replace BK562 := bb_ BK562 hb
      replace BK563 := bb_ BK563 hb
      replace BK575 := bb_ BK575 hb
      replace HB := hb_ HB hb
      (try clear hb); (try clear hb2); (try clear hk); (try clear hi)
      refine hK.out _ _ (a4_ BK561 (a4_ BK562 (a4_ BK563 (h4_ BK575)))) (fun hHeld => ?_)
      clear hK K
      refine norm_ (a' := ?_) ?_ ?_
      rotate_left
      ·
       show Act.put _ (some 83) _ = _
       simp only [Act.put, List.setIfInBounds_toArray, List.set_cons_zero, List.set_cons_succ, i64_w, i32_w]
       rfl
      refine pv_ 14 84 zq10.q15 HT_ ?_
      refine done_ (done_of HT_.out (by kernel_rfl)) ?_
      try go_wp2
      go_loopg [8] kj3 (fun kq v8 w' => ∃ (x8_2 : Int), v8 = .int .i64 x8_2 ∧ Aside0 (compositorlaw10_ScaleCovers.l0 kq x8_2 t565 t566 t567 t568 a2_0 a2_1 a2_2 a2_3 t571 t572 t573 t574 = some true) ∧ Aside0 (kq ≤ kj3) ∧ Aside0 (w'.heap[gb561]? = some (.cells #[.int .i64 t565, .int .i64 t566, .int .i64 t567, .int .i64 t568] 34 (0, 0))) ∧ Aside0 (w'.heap[gb562]? = some (.cells #[.int .i64 a1_0, .int .i64 a1_1, .int .i64 a1_2, .int .i64 a1_3] 34 (0, 0))) ∧ Aside0 (w'.heap[gb563]? = some (.cells #[.int .i64 a2_0, .int .i64 a2_1, .int .i64 a2_2, .int .i64 a2_3] 36 (0, 0))) ∧ Aside0 (w'.heap[gb575]? = some (.cells #[.int .i64 t571, .int .i64 t572, .int .i64 t573, .int .i64 t574] 34 (0, 0))) ∧ Aside0 (Below w.heap.size w w'))
      case atStart => exact ⟨(0), (by first | rfl | (simp; done) | (simp [*]; done)), H', ⟨Nat.le_refl _⟩, bf_ BK561, bf_ BK562, bf_ BK563, bf_ BK575, ⟨by repeat (first | (with_reducible first | exact HB.out | apply below_alloc | apply pw_below_drewN | apply below_drew1 | refine below_set ?_ GE561.out | refine below_set ?_ GE562.out | refine below_set ?_ GE563.out | refine below_set ?_ GE575.out) | exact HB.out)⟩⟩
      case round =>
       clear H'
       try clear c1
       try clear c2
       try clear p2
       try clear c3
       try clear c4
       try clear c5
       try clear c6
       try clear c7
       try clear c8
       try clear c8b0
       try clear c9
       try clear c10
       try clear c12
       try clear c12b0
       try clear c13
       try clear c14
       try clear c16
       try clear c16b0
       try clear c17
       try clear c18
       try clear c20
       try clear c20b0
       try clear c21
       try clear c22
       try clear c24
       try clear c24b0
       try clear c25
       try clear c26
       try clear c27
       try clear c28
       try clear c28b0
       try clear c29
       try clear c30
       try clear c32
       try clear c32b0
       try clear c33
       try clear c34
       try clear c36
       try clear c37
       try clear c39
       try clear c44
       try clear c46
       try clear c47
       try clear c49
       try clear c59
       try clear c60
       try clear c61
       try clear c63
       try clear c72
       try clear c73
       try clear c74
       try clear hcz11_0
       try clear hcz11_1
       try clear hcz11_2
       try clear hcz11_3
       try clear hcz15_0
       try clear hcz15_1
       try clear hcz15_2
       try clear hcz15_3
       try clear hcz19_0
       try clear hcz19_1
       try clear hcz19_2
       try clear hcz19_3
       try clear hcz23_0
       try clear hcz23_1
       try clear hcz23_2
       try clear hcz23_3
       try clear hcz27_0
       try clear hcz27_1
       try clear hcz27_2
       try clear hcz27_3
       try clear hcz31_0
       try clear hcz31_1
       try clear hcz31_2
       try clear hcz31_3
       try clear hcz35_0
       try clear hcz35_1
       try clear hcz35_2
       try clear hcz35_3
       try clear hcz38_0
       try clear hcz38_1
       try clear hcz38_2
       try clear hcz38_3
       try clear hcz48_0
       try clear hcz48_1
       try clear hcz48_2
       try clear hcz48_3
       try clear hcz50_0
       try clear hcz50_1
       try clear hcz50_2
       try clear hcz50_3
       try clear hcz52_0
       try clear hcz52_1
       try clear hcz52_2
       try clear hcz52_3
       try clear hcz62_0
       try clear hcz62_1
       try clear hcz62_2
       try clear hcz62_3
       try clear hcz64_0
       try clear hcz64_1
       try clear hcz64_2
       try clear hcz64_3
       try clear hcz66_0
       try clear hcz66_1
       try clear hcz66_2
       try clear hcz66_3
       try clear hcz68_0
       try clear hcz68_1
       try clear hcz68_2
       try clear hcz68_3
       try clear hcz69_0
       try clear hcz69_1
       try clear hcz69_2
       try clear hcz69_3
       try clear hcz75_0
       try clear hcz75_1
       try clear hcz75_2
       try clear hcz75_3
       try clear hfz11_0
       try clear hfz11_1
       try clear hfz11_2
       try clear hfz11_3
       try clear hfz15_0
       try clear hfz15_1
       try clear hfz15_2
       try clear hfz15_3
       try clear hfz19_0
       try clear hfz19_1
       try clear hfz19_2
       try clear hfz19_3
       try clear hfz23_0
       try clear hfz23_1
       try clear hfz23_2
       try clear hfz23_3
       try clear hfz27_0
       try clear hfz27_1
       try clear hfz27_2
       try clear hfz27_3
       try clear hfz31_0
       try clear hfz31_1
       try clear hfz31_2
       try clear hfz31_3
       try clear hfz35_0
       try clear hfz35_1
       try clear hfz35_2
       try clear hfz35_3
       try clear hfz38_0
       try clear hfz38_1
       try clear hfz38_2
       try clear hfz38_3
       try clear hfz48_0
       try clear hfz48_1
       try clear hfz48_2
       try clear hfz48_3
       try clear hfz50_0
       try clear hfz50_1
       try clear hfz50_2
       try clear hfz50_3
       try clear hfz52_0
       try clear hfz52_1
       try clear hfz52_2
       try clear hfz52_3
       try clear hfz62_0
       try clear hfz62_1
       try clear hfz62_2
       try clear hfz62_3
       try clear hfz64_0
       try clear hfz64_1
       try clear hfz64_2
       try clear hfz64_3
       try clear hfz66_0
       try clear hfz66_1
       try clear hfz66_2
       try clear hfz66_3
       try clear hfz68_0
       try clear hfz68_1
       try clear hfz68_2
       try clear hfz68_3
       try clear hfz69_0
       try clear hfz69_1
       try clear hfz69_2
       try clear hfz69_3
       try clear hfz75_0
       try clear hfz75_1
       try clear hfz75_2
       try clear hfz75_3
       try clear p2
       obtain ⟨x8_2, rfl, HA, HK2, BK561, BK562, BK563, BK575, HB⟩ := hrel
       cases gk with
       | zero => exact absurd HA.out (by simp [compositorlaw10_ScaleCovers.l0])
       | succ k2 =>
        have H := HA.out
        clear HA
        simp only [compositorlaw10_ScaleCovers.l0] at H
        by_cases c81 : x8_2 < a2_3
        ·
         rw [if_pos c81] at H
         have c81b0 : decide (x8_2 < a2_3) = true := decide_eq_true c81
         clear c81
         have H' := Aside0.mk H
         clear H
         have hnb82 := NB563_561.out
         have hnc82 := NB561_563.out
         have hnb83 := NB563_562.out
         have hnc83 := NB562_563.out
         have hnb84 := NB563_575.out
         have hnc84 := NB575_563.out
         have hcz85_0 : wr.cell? ⟨gb563, 0, none⟩ = some (.int .i64 a2_0) := (blk_cell BK563.out 0).trans rfl
         have hcz85_1 : wr.cell? ⟨gb563, 1, none⟩ = some (.int .i64 a2_1) := (blk_cell BK563.out 1).trans rfl
         have hcz85_2 : wr.cell? ⟨gb563, 2, none⟩ = some (.int .i64 a2_2) := (blk_cell BK563.out 2).trans rfl
         have hcz85_3 : wr.cell? ⟨gb563, 3, none⟩ = some (.int .i64 a2_3) := (blk_cell BK563.out 3).trans rfl
         have hfz85_0 := blk_frozen BK563.out 0
         have hfz85_1 := blk_frozen BK563.out 1
         have hfz85_2 := blk_frozen BK563.out 2
         have hfz85_3 := blk_frozen BK563.out 3
         go_wp2
         go_loopg [9] k2 (fun kq v9 w' => ∃ (x9_3 : Int), v9 = .int .i64 x9_3 ∧ Aside0 (compositorlaw10_ScaleCovers.l1 kq x8_2 x9_3 t565 t566 t567 t568 a2_0 a2_1 a2_2 a2_3 t571 t572 t573 t574 = some true) ∧ Aside0 (kq ≤ k2) ∧ Aside0 (w'.heap[gb561]? = some (.cells #[.int .i64 t565, .int .i64 t566, .int .i64 t567, .int .i64 t568] 34 (0, 0))) ∧ Aside0 (w'.heap[gb562]? = some (.cells #[.int .i64 a1_0, .int .i64 a1_1, .int .i64 a1_2, .int .i64 a1_3] 34 (0, 0))) ∧ Aside0 (w'.heap[gb563]? = some (.cells #[.int .i64 a2_0, .int .i64 a2_1, .int .i64 a2_2, .int .i64 a2_3] 36 (0, 0))) ∧ Aside0 (w'.heap[gb575]? = some (.cells #[.int .i64 t571, .int .i64 t572, .int .i64 t573, .int .i64 t574] 34 (0, 0))) ∧ Aside0 (Below w.heap.size w w'))
         case atStart => exact ⟨(0), (by first | rfl | (simp; done) | (simp [*]; done)), H', ⟨Nat.le_refl _⟩, bf_ BK561, bf_ BK562, bf_ BK563, bf_ BK575, ⟨by repeat (first | (with_reducible first | exact HB.out | apply below_alloc | apply pw_below_drewN | apply below_drew1 | refine below_set ?_ GE561.out | refine below_set ?_ GE562.out | refine below_set ?_ GE563.out | refine below_set ?_ GE575.out) | exact HB.out)⟩⟩
         case round =>
          clear H'
          try clear c1
          try clear c2
          try clear p2
          try clear c3
          try clear c4
          try clear c5
          try clear c6
          try clear c7
          try clear c8
          try clear c8b0
          try clear c9
          try clear c10
          try clear c12
          try clear c12b0
          try clear c13
          try clear c14
          try clear c16
          try clear c16b0
          try clear c17
          try clear c18
          try clear c20
          try clear c20b0
          try clear c21
          try clear c22
          try clear c24
          try clear c24b0
          try clear c25
          try clear c26
          try clear c27
          try clear c28
          try clear c28b0
          try clear c29
          try clear c30
          try clear c32
          try clear c32b0
          try clear c33
          try clear c34
          try clear c36
          try clear c37
          try clear c39
          try clear c44
          try clear c46
          try clear c47
          try clear c49
          try clear c59
          try clear c60
          try clear c61
          try clear c63
          try clear c72
          try clear c73
          try clear c74
          try clear c81
          try clear c81b0
          try clear c82
          try clear c83
          try clear c84
          try clear hcz11_0
          try clear hcz11_1
          try clear hcz11_2
          try clear hcz11_3
          try clear hcz15_0
          try clear hcz15_1
          try clear hcz15_2
          try clear hcz15_3
          try clear hcz19_0
          try clear hcz19_1
          try clear hcz19_2
          try clear hcz19_3
          try clear hcz23_0
          try clear hcz23_1
          try clear hcz23_2
          try clear hcz23_3
          try clear hcz27_0
          try clear hcz27_1
          try clear hcz27_2
          try clear hcz27_3
          try clear hcz31_0
          try clear hcz31_1
          try clear hcz31_2
          try clear hcz31_3
          try clear hcz35_0
          try clear hcz35_1
          try clear hcz35_2
          try clear hcz35_3
          try clear hcz38_0
          try clear hcz38_1
          try clear hcz38_2
          try clear hcz38_3
          try clear hcz48_0
          try clear hcz48_1
          try clear hcz48_2
          try clear hcz48_3
          try clear hcz50_0
          try clear hcz50_1
          try clear hcz50_2
          try clear hcz50_3
          try clear hcz52_0
          try clear hcz52_1
          try clear hcz52_2
          try clear hcz52_3
          try clear hcz62_0
          try clear hcz62_1
          try clear hcz62_2
          try clear hcz62_3
          try clear hcz64_0
          try clear hcz64_1
          try clear hcz64_2
          try clear hcz64_3
          try clear hcz66_0
          try clear hcz66_1
          try clear hcz66_2
          try clear hcz66_3
          try clear hcz68_0
          try clear hcz68_1
          try clear hcz68_2
          try clear hcz68_3
          try clear hcz69_0
          try clear hcz69_1
          try clear hcz69_2
          try clear hcz69_3
          try clear hcz75_0
          try clear hcz75_1
          try clear hcz75_2
          try clear hcz75_3
          try clear hcz85_0
          try clear hcz85_1
          try clear hcz85_2
          try clear hcz85_3
          try clear hfz11_0
          try clear hfz11_1
          try clear hfz11_2
          try clear hfz11_3
          try clear hfz15_0
          try clear hfz15_1
          try clear hfz15_2
          try clear hfz15_3
          try clear hfz19_0
          try clear hfz19_1
          try clear hfz19_2
          try clear hfz19_3
          try clear hfz23_0
          try clear hfz23_1
          try clear hfz23_2
          try clear hfz23_3
          try clear hfz27_0
          try clear hfz27_1
          try clear hfz27_2
          try clear hfz27_3
          try clear hfz31_0
          try clear hfz31_1
          try clear hfz31_2
          try clear hfz31_3
          try clear hfz35_0
          try clear hfz35_1
          try clear hfz35_2
          try clear hfz35_3
          try clear hfz38_0
          try clear hfz38_1
          try clear hfz38_2
          try clear hfz38_3
          try clear hfz48_0
          try clear hfz48_1
          try clear hfz48_2
          try clear hfz48_3
          try clear hfz50_0
          try clear hfz50_1
          try clear hfz50_2
          try clear hfz50_3
          try clear hfz52_0
          try clear hfz52_1
          try clear hfz52_2
          try clear hfz52_3
          try clear hfz62_0
          try clear hfz62_1
          try clear hfz62_2
          try clear hfz62_3
          try clear hfz64_0
          try clear hfz64_1
          try clear hfz64_2
          try clear hfz64_3
          try clear hfz66_0
          try clear hfz66_1
          try clear hfz66_2
          try clear hfz66_3
          try clear hfz68_0
          try clear hfz68_1
          try clear hfz68_2
          try clear hfz68_3
          try clear hfz69_0
          try clear hfz69_1
          try clear hfz69_2
          try clear hfz69_3
          try clear hfz75_0
          try clear hfz75_1
          try clear hfz75_2
          try clear hfz75_3
          try clear hfz85_0
          try clear hfz85_1
          try clear hfz85_2
          try clear hfz85_3
          try clear p2
          obtain ⟨x9_3, rfl, HA, HK3, BK561, BK562, BK563, BK575, HB⟩ := hrel
          cases gk with
          | zero => exact absurd HA.out (by simp [compositorlaw10_ScaleCovers.l1])
          | succ k3 =>
           have H := HA.out
           clear HA
           simp only [compositorlaw10_ScaleCovers.l1] at H
           by_cases c86 : x9_3 < a2_2
           ·
            rw [if_pos c86] at H
            have c86b0 : decide (x9_3 < a2_2) = true := decide_eq_true c86
            clear c86
            by_cases c87 : (wrap64 (x9_3 * a2_0)) < (wrap64 (t567 * a2_2))
            ·
             rw [if_pos c87] at H
             have c87b0 : decide ((wrap64 (x9_3 * a2_0)) < (wrap64 (t567 * a2_2))) = true := decide_eq_true c87
             clear c87
             by_cases c88 : (wrap64 ((wrap64 (x9_3 + 1)) * a2_0)) > (wrap64 (t565 * a2_2))
             ·
              rw [if_pos c88] at H
              have c88b0 : decide ((wrap64 (t565 * a2_2)) < (wrap64 ((wrap64 (x9_3 + 1)) * a2_0))) = true := decide_eq_true c88
              clear c88
              by_cases c89 : (wrap64 (x8_2 * a2_1)) < (wrap64 (t568 * a2_3))
              ·
               rw [if_pos c89] at H
               have c89b0 : decide ((wrap64 (x8_2 * a2_1)) < (wrap64 (t568 * a2_3))) = true := decide_eq_true c89
               clear c89
               replace H := Option.bind_eq_some_iff.mp H
               obtain ⟨t587, A900, H⟩ := H
               try dsimp only at H
               have A90 := Aside0.mk A900
               clear A900
               by_cases c91 : (t587 != (decide ((wrap64 ((wrap64 (x8_2 + 1)) * a2_1)) > (wrap64 (t566 * a2_3))))) = true
               ·
                rw [if_pos c91] at H
                have c91b0 : (t587 != (decide ((wrap64 ((wrap64 (x8_2 + 1)) * a2_1)) > (wrap64 (t566 * a2_3))))) = true := c91
                (try (have c91b1 : decide (t587 = (decide ((wrap64 ((wrap64 (x8_2 + 1)) * a2_1)) > (wrap64 (t566 * a2_3))))) = false := by simpa using c91))
                (try (have c91b2 : (t587 == (decide ((wrap64 ((wrap64 (x8_2 + 1)) * a2_1)) > (wrap64 (t566 * a2_3))))) = false := by simpa using c91))
                (try (have c91b3 : ¬ (t587 = (decide ((wrap64 ((wrap64 (x8_2 + 1)) * a2_1)) > (wrap64 (t566 * a2_3))))) := by simpa using c91))
                clear c91
                exact absurd H (by simp)
               ·
                rw [if_neg c91] at H
                have c91b0 : (t587 != (decide ((wrap64 ((wrap64 (x8_2 + 1)) * a2_1)) > (wrap64 (t566 * a2_3))))) = false := by simpa using c91
                (try (have c91b1 : decide (t587 = (decide ((wrap64 ((wrap64 (x8_2 + 1)) * a2_1)) > (wrap64 (t566 * a2_3))))) = true := by simpa using c91))
                (try (have c91b2 : (t587 == (decide ((wrap64 ((wrap64 (x8_2 + 1)) * a2_1)) > (wrap64 (t566 * a2_3))))) = true := by simpa using c91))
                clear c91
                have H' := Aside0.mk H
                clear H
                have hnb92 := NB563_561.out
                have hnc92 := NB561_563.out
                have hnb93 := NB563_562.out
                have hnc93 := NB562_563.out
                have hnb94 := NB563_575.out
                have hnc94 := NB575_563.out
                have hcz95_0 : wr.cell? ⟨gb563, 0, none⟩ = some (.int .i64 a2_0) := (blk_cell BK563.out 0).trans rfl
                have hcz95_1 : wr.cell? ⟨gb563, 1, none⟩ = some (.int .i64 a2_1) := (blk_cell BK563.out 1).trans rfl
                have hcz95_2 : wr.cell? ⟨gb563, 2, none⟩ = some (.int .i64 a2_2) := (blk_cell BK563.out 2).trans rfl
                have hcz95_3 : wr.cell? ⟨gb563, 3, none⟩ = some (.int .i64 a2_3) := (blk_cell BK563.out 3).trans rfl
                have hfz95_0 := blk_frozen BK563.out 0
                have hfz95_1 := blk_frozen BK563.out 1
                have hfz95_2 := blk_frozen BK563.out 2
                have hfz95_3 := blk_frozen BK563.out 3
                have hnb96 := NB561_562.out
                have hnc96 := NB562_561.out
                have hnb97 := NB561_575.out
                have hnc97 := NB575_561.out
                have hcz98_0 : wr.cell? ⟨gb561, 0, none⟩ = some (.int .i64 t565) := (blk_cell BK561.out 0).trans rfl
                have hcz98_1 : wr.cell? ⟨gb561, 1, none⟩ = some (.int .i64 t566) := (blk_cell BK561.out 1).trans rfl
                have hcz98_2 : wr.cell? ⟨gb561, 2, none⟩ = some (.int .i64 t567) := (blk_cell BK561.out 2).trans rfl
                have hcz98_3 : wr.cell? ⟨gb561, 3, none⟩ = some (.int .i64 t568) := (blk_cell BK561.out 3).trans rfl
                have hfz98_0 := blk_frozen BK561.out 0
                have hfz98_1 := blk_frozen BK561.out 1
                have hfz98_2 := blk_frozen BK561.out 2
                have hfz98_3 := blk_frozen BK561.out 3
                have hnb99 := NB575_562.out
                have hnc99 := NB562_575.out
                have hcz100_0 : wr.cell? ⟨gb575, 0, none⟩ = some (.int .i64 t571) := (blk_cell BK575.out 0).trans rfl
                have hcz100_1 : wr.cell? ⟨gb575, 1, none⟩ = some (.int .i64 t572) := (blk_cell BK575.out 1).trans rfl
                have hcz100_2 : wr.cell? ⟨gb575, 2, none⟩ = some (.int .i64 t573) := (blk_cell BK575.out 2).trans rfl
                have hcz100_3 : wr.cell? ⟨gb575, 3, none⟩ = some (.int .i64 t574) := (blk_cell BK575.out 3).trans rfl
                have hfz100_0 := blk_frozen BK575.out 0
                have hfz100_1 := blk_frozen BK575.out 1
                have hfz100_2 := blk_frozen BK575.out 2
                have hfz100_3 := blk_frozen BK575.out 3
                go_wp2_with (first | ((with_reducible refine gate_callee (f := 30) rfl ?_); refine goesL_ (some 148) rfl rfl Try.func30 (by kernel_rfl) rfl #[.agg #[.int .i64 t571, .int .i64 t572, .int .i64 t573, .int .i64 t574], .int .i64 x9_3, .int .i64 x8_2] rfl (by (try simp only [List.map_toArray, List.map_cons, List.map_nil]) <;> rfl) ?_; (with_reducible refine (compositorref04_Contains.calls t571 t572 t573 t574 x9_3 x8_2 t587 _ A90.out).mono ?_); rintro e w101 ⟨rfl, hb⟩; refine ⟨_, rfl, ?_⟩; have n0_ := bb_ BK561 hb; have n1_ := bb_ BK562 hb; have n2_ := bb_ BK563 hb; have n3_ := bb_ BK575 hb; have n4_ := hb_ HB hb; clear BK561; clear BK562; clear BK563; clear BK575; clear HB; have BK561 := n0_; have BK562 := n1_; have BK563 := n2_; have BK575 := n3_; have HB := n4_; clear n0_ n1_ n2_ n3_ n4_; (try clear hb); (try clear hb2); (try clear hk); (try clear hi)))
                go_roundg k3
                case measure => have := HJ3.out; have := HK2.out; have := HK3.out; omega
                case rel => exact ⟨(wrap64 (x9_3 + 1)), (by first | rfl | (simp; done) | (simp [*]; done)), H', ⟨by have := HJ3.out; have := HK2.out; have := HK3.out; omega⟩, bf_ BK561, bf_ BK562, bf_ BK563, bf_ BK575, ⟨by repeat (first | (with_reducible first | exact HB.out | apply below_alloc | apply pw_below_drewN | apply below_drew1 | refine below_set ?_ GE561.out | refine below_set ?_ GE562.out | refine below_set ?_ GE563.out | refine below_set ?_ GE575.out) | exact HB.out)⟩⟩
              ·
               rw [if_neg c89] at H
               have c89b0 : decide ((wrap64 (x8_2 * a2_1)) < (wrap64 (t568 * a2_3))) = false := decide_eq_false c89
               clear c89
               replace H := Option.bind_eq_some_iff.mp H
               obtain ⟨t588, A1020, H⟩ := H
               try dsimp only at H
               have A102 := Aside0.mk A1020
               clear A1020
               by_cases c103 : (t588 != false) = true
               ·
                rw [if_pos c103] at H
                have c103b0 : (t588 != false) = true := c103
                (try (have c103b1 : decide (t588 = false) = false := by simpa using c103))
                (try (have c103b2 : (t588 == false) = false := by simpa using c103))
                (try (have c103b3 : ¬ (t588 = false) := by simpa using c103))
                clear c103
                exact absurd H (by simp)
               ·
                rw [if_neg c103] at H
                have c103b0 : (t588 != false) = false := by simpa using c103
                (try (have c103b1 : decide (t588 = false) = true := by simpa using c103))
                (try (have c103b2 : (t588 == false) = true := by simpa using c103))
                clear c103
                have H' := Aside0.mk H
                clear H
                have hnb104 := NB563_561.out
                have hnc104 := NB561_563.out
                have hnb105 := NB563_562.out
                have hnc105 := NB562_563.out
                have hnb106 := NB563_575.out
                have hnc106 := NB575_563.out
                have hcz107_0 : wr.cell? ⟨gb563, 0, none⟩ = some (.int .i64 a2_0) := (blk_cell BK563.out 0).trans rfl
                have hcz107_1 : wr.cell? ⟨gb563, 1, none⟩ = some (.int .i64 a2_1) := (blk_cell BK563.out 1).trans rfl
                have hcz107_2 : wr.cell? ⟨gb563, 2, none⟩ = some (.int .i64 a2_2) := (blk_cell BK563.out 2).trans rfl
                have hcz107_3 : wr.cell? ⟨gb563, 3, none⟩ = some (.int .i64 a2_3) := (blk_cell BK563.out 3).trans rfl
                have hfz107_0 := blk_frozen BK563.out 0
                have hfz107_1 := blk_frozen BK563.out 1
                have hfz107_2 := blk_frozen BK563.out 2
                have hfz107_3 := blk_frozen BK563.out 3
                have hnb108 := NB561_562.out
                have hnc108 := NB562_561.out
                have hnb109 := NB561_575.out
                have hnc109 := NB575_561.out
                have hcz110_0 : wr.cell? ⟨gb561, 0, none⟩ = some (.int .i64 t565) := (blk_cell BK561.out 0).trans rfl
                have hcz110_1 : wr.cell? ⟨gb561, 1, none⟩ = some (.int .i64 t566) := (blk_cell BK561.out 1).trans rfl
                have hcz110_2 : wr.cell? ⟨gb561, 2, none⟩ = some (.int .i64 t567) := (blk_cell BK561.out 2).trans rfl
                have hcz110_3 : wr.cell? ⟨gb561, 3, none⟩ = some (.int .i64 t568) := (blk_cell BK561.out 3).trans rfl
                have hfz110_0 := blk_frozen BK561.out 0
                have hfz110_1 := blk_frozen BK561.out 1
                have hfz110_2 := blk_frozen BK561.out 2
                have hfz110_3 := blk_frozen BK561.out 3
                have hnb111 := NB575_562.out
                have hnc111 := NB562_575.out
                have hcz112_0 : wr.cell? ⟨gb575, 0, none⟩ = some (.int .i64 t571) := (blk_cell BK575.out 0).trans rfl
                have hcz112_1 : wr.cell? ⟨gb575, 1, none⟩ = some (.int .i64 t572) := (blk_cell BK575.out 1).trans rfl
                have hcz112_2 : wr.cell? ⟨gb575, 2, none⟩ = some (.int .i64 t573) := (blk_cell BK575.out 2).trans rfl
                have hcz112_3 : wr.cell? ⟨gb575, 3, none⟩ = some (.int .i64 t574) := (blk_cell BK575.out 3).trans rfl
                have hfz112_0 := blk_frozen BK575.out 0
                have hfz112_1 := blk_frozen BK575.out 1
                have hfz112_2 := blk_frozen BK575.out 2
                have hfz112_3 := blk_frozen BK575.out 3
                go_wp2_with (first | ((with_reducible refine gate_callee (f := 30) rfl ?_); refine goesL_ (some 148) rfl rfl Try.func30 (by kernel_rfl) rfl #[.agg #[.int .i64 t571, .int .i64 t572, .int .i64 t573, .int .i64 t574], .int .i64 x9_3, .int .i64 x8_2] rfl (by (try simp only [List.map_toArray, List.map_cons, List.map_nil]) <;> rfl) ?_; (with_reducible refine (compositorref04_Contains.calls t571 t572 t573 t574 x9_3 x8_2 t588 _ A102.out).mono ?_); rintro e w113 ⟨rfl, hb⟩; refine ⟨_, rfl, ?_⟩; have n0_ := bb_ BK561 hb; have n1_ := bb_ BK562 hb; have n2_ := bb_ BK563 hb; have n3_ := bb_ BK575 hb; have n4_ := hb_ HB hb; clear BK561; clear BK562; clear BK563; clear BK575; clear HB; have BK561 := n0_; have BK562 := n1_; have BK563 := n2_; have BK575 := n3_; have HB := n4_; clear n0_ n1_ n2_ n3_ n4_; (try clear hb); (try clear hb2); (try clear hk); (try clear hi)))
                go_roundg k3
                case measure => have := HJ3.out; have := HK2.out; have := HK3.out; omega
                case rel => exact ⟨(wrap64 (x9_3 + 1)), (by first | rfl | (simp; done) | (simp [*]; done)), H', ⟨by have := HJ3.out; have := HK2.out; have := HK3.out; omega⟩, bf_ BK561, bf_ BK562, bf_ BK563, bf_ BK575, ⟨by repeat (first | (with_reducible first | exact HB.out | apply below_alloc | apply pw_below_drewN | apply below_drew1 | refine below_set ?_ GE561.out | refine below_set ?_ GE562.out | refine below_set ?_ GE563.out | refine below_set ?_ GE575.out) | exact HB.out)⟩⟩
             ·
              rw [if_neg c88] at H
              have c88b0 : decide ((wrap64 (t565 * a2_2)) < (wrap64 ((wrap64 (x9_3 + 1)) * a2_0))) = false := decide_eq_false c88
              clear c88
              replace H := Option.bind_eq_some_iff.mp H
              obtain ⟨t589, A1140, H⟩ := H
              try dsimp only at H
              have A114 := Aside0.mk A1140
              clear A1140
              by_cases c115 : (t589 != false) = true
              ·
               rw [if_pos c115] at H
               have c115b0 : (t589 != false) = true := c115
               (try (have c115b1 : decide (t589 = false) = false := by simpa using c115))
               (try (have c115b2 : (t589 == false) = false := by simpa using c115))
               (try (have c115b3 : ¬ (t589 = false) := by simpa using c115))
               clear c115
               exact absurd H (by simp)
              ·
               rw [if_neg c115] at H
               have c115b0 : (t589 != false) = false := by simpa using c115
               (try (have c115b1 : decide (t589 = false) = true := by simpa using c115))
               (try (have c115b2 : (t589 == false) = true := by simpa using c115))
               clear c115
               have H' := Aside0.mk H
               clear H
               have hnb116 := NB563_561.out
               have hnc116 := NB561_563.out
               have hnb117 := NB563_562.out
               have hnc117 := NB562_563.out
               have hnb118 := NB563_575.out
               have hnc118 := NB575_563.out
               have hcz119_0 : wr.cell? ⟨gb563, 0, none⟩ = some (.int .i64 a2_0) := (blk_cell BK563.out 0).trans rfl
               have hcz119_1 : wr.cell? ⟨gb563, 1, none⟩ = some (.int .i64 a2_1) := (blk_cell BK563.out 1).trans rfl
               have hcz119_2 : wr.cell? ⟨gb563, 2, none⟩ = some (.int .i64 a2_2) := (blk_cell BK563.out 2).trans rfl
               have hcz119_3 : wr.cell? ⟨gb563, 3, none⟩ = some (.int .i64 a2_3) := (blk_cell BK563.out 3).trans rfl
               have hfz119_0 := blk_frozen BK563.out 0
               have hfz119_1 := blk_frozen BK563.out 1
               have hfz119_2 := blk_frozen BK563.out 2
               have hfz119_3 := blk_frozen BK563.out 3
               have hnb120 := NB561_562.out
               have hnc120 := NB562_561.out
               have hnb121 := NB561_575.out
               have hnc121 := NB575_561.out
               have hcz122_0 : wr.cell? ⟨gb561, 0, none⟩ = some (.int .i64 t565) := (blk_cell BK561.out 0).trans rfl
               have hcz122_1 : wr.cell? ⟨gb561, 1, none⟩ = some (.int .i64 t566) := (blk_cell BK561.out 1).trans rfl
               have hcz122_2 : wr.cell? ⟨gb561, 2, none⟩ = some (.int .i64 t567) := (blk_cell BK561.out 2).trans rfl
               have hcz122_3 : wr.cell? ⟨gb561, 3, none⟩ = some (.int .i64 t568) := (blk_cell BK561.out 3).trans rfl
               have hfz122_0 := blk_frozen BK561.out 0
               have hfz122_1 := blk_frozen BK561.out 1
               have hfz122_2 := blk_frozen BK561.out 2
               have hfz122_3 := blk_frozen BK561.out 3
               have hnb123 := NB575_562.out
               have hnc123 := NB562_575.out
               have hcz124_0 : wr.cell? ⟨gb575, 0, none⟩ = some (.int .i64 t571) := (blk_cell BK575.out 0).trans rfl
               have hcz124_1 : wr.cell? ⟨gb575, 1, none⟩ = some (.int .i64 t572) := (blk_cell BK575.out 1).trans rfl
               have hcz124_2 : wr.cell? ⟨gb575, 2, none⟩ = some (.int .i64 t573) := (blk_cell BK575.out 2).trans rfl
               have hcz124_3 : wr.cell? ⟨gb575, 3, none⟩ = some (.int .i64 t574) := (blk_cell BK575.out 3).trans rfl
               have hfz124_0 := blk_frozen BK575.out 0
               have hfz124_1 := blk_frozen BK575.out 1
               have hfz124_2 := blk_frozen BK575.out 2
               have hfz124_3 := blk_frozen BK575.out 3
               go_wp2_with (first | ((with_reducible refine gate_callee (f := 30) rfl ?_); refine goesL_ (some 148) rfl rfl Try.func30 (by kernel_rfl) rfl #[.agg #[.int .i64 t571, .int .i64 t572, .int .i64 t573, .int .i64 t574], .int .i64 x9_3, .int .i64 x8_2] rfl (by (try simp only [List.map_toArray, List.map_cons, List.map_nil]) <;> rfl) ?_; (with_reducible refine (compositorref04_Contains.calls t571 t572 t573 t574 x9_3 x8_2 t589 _ A114.out).mono ?_); rintro e w125 ⟨rfl, hb⟩; refine ⟨_, rfl, ?_⟩; have n0_ := bb_ BK561 hb; have n1_ := bb_ BK562 hb; have n2_ := bb_ BK563 hb; have n3_ := bb_ BK575 hb; have n4_ := hb_ HB hb; clear BK561; clear BK562; clear BK563; clear BK575; clear HB; have BK561 := n0_; have BK562 := n1_; have BK563 := n2_; have BK575 := n3_; have HB := n4_; clear n0_ n1_ n2_ n3_ n4_; (try clear hb); (try clear hb2); (try clear hk); (try clear hi)))
               go_roundg k3
               case measure => have := HJ3.out; have := HK2.out; have := HK3.out; omega
               case rel => exact ⟨(wrap64 (x9_3 + 1)), (by first | rfl | (simp; done) | (simp [*]; done)), H', ⟨by have := HJ3.out; have := HK2.out; have := HK3.out; omega⟩, bf_ BK561, bf_ BK562, bf_ BK563, bf_ BK575, ⟨by repeat (first | (with_reducible first | exact HB.out | apply below_alloc | apply pw_below_drewN | apply below_drew1 | refine below_set ?_ GE561.out | refine below_set ?_ GE562.out | refine below_set ?_ GE563.out | refine below_set ?_ GE575.out) | exact HB.out)⟩⟩
            ·
             rw [if_neg c87] at H
             have c87b0 : decide ((wrap64 (x9_3 * a2_0)) < (wrap64 (t567 * a2_2))) = false := decide_eq_false c87
             clear c87
             replace H := Option.bind_eq_some_iff.mp H
             obtain ⟨t590, A1260, H⟩ := H
             try dsimp only at H
             have A126 := Aside0.mk A1260
             clear A1260
             by_cases c127 : (t590 != false) = true
             ·
              rw [if_pos c127] at H
              have c127b0 : (t590 != false) = true := c127
              (try (have c127b1 : decide (t590 = false) = false := by simpa using c127))
              (try (have c127b2 : (t590 == false) = false := by simpa using c127))
              (try (have c127b3 : ¬ (t590 = false) := by simpa using c127))
              clear c127
              exact absurd H (by simp)
             ·
              rw [if_neg c127] at H
              have c127b0 : (t590 != false) = false := by simpa using c127
              (try (have c127b1 : decide (t590 = false) = true := by simpa using c127))
              (try (have c127b2 : (t590 == false) = true := by simpa using c127))
              clear c127
              have H' := Aside0.mk H
              clear H
              have hnb128 := NB563_561.out
              have hnc128 := NB561_563.out
              have hnb129 := NB563_562.out
              have hnc129 := NB562_563.out
              have hnb130 := NB563_575.out
              have hnc130 := NB575_563.out
              have hcz131_0 : wr.cell? ⟨gb563, 0, none⟩ = some (.int .i64 a2_0) := (blk_cell BK563.out 0).trans rfl
              have hcz131_1 : wr.cell? ⟨gb563, 1, none⟩ = some (.int .i64 a2_1) := (blk_cell BK563.out 1).trans rfl
              have hcz131_2 : wr.cell? ⟨gb563, 2, none⟩ = some (.int .i64 a2_2) := (blk_cell BK563.out 2).trans rfl
              have hcz131_3 : wr.cell? ⟨gb563, 3, none⟩ = some (.int .i64 a2_3) := (blk_cell BK563.out 3).trans rfl
              have hfz131_0 := blk_frozen BK563.out 0
              have hfz131_1 := blk_frozen BK563.out 1
              have hfz131_2 := blk_frozen BK563.out 2
              have hfz131_3 := blk_frozen BK563.out 3
              have hnb132 := NB561_562.out
              have hnc132 := NB562_561.out
              have hnb133 := NB561_575.out
              have hnc133 := NB575_561.out
              have hcz134_0 : wr.cell? ⟨gb561, 0, none⟩ = some (.int .i64 t565) := (blk_cell BK561.out 0).trans rfl
              have hcz134_1 : wr.cell? ⟨gb561, 1, none⟩ = some (.int .i64 t566) := (blk_cell BK561.out 1).trans rfl
              have hcz134_2 : wr.cell? ⟨gb561, 2, none⟩ = some (.int .i64 t567) := (blk_cell BK561.out 2).trans rfl
              have hcz134_3 : wr.cell? ⟨gb561, 3, none⟩ = some (.int .i64 t568) := (blk_cell BK561.out 3).trans rfl
              have hfz134_0 := blk_frozen BK561.out 0
              have hfz134_1 := blk_frozen BK561.out 1
              have hfz134_2 := blk_frozen BK561.out 2
              have hfz134_3 := blk_frozen BK561.out 3
              have hnb135 := NB575_562.out
              have hnc135 := NB562_575.out
              have hcz136_0 : wr.cell? ⟨gb575, 0, none⟩ = some (.int .i64 t571) := (blk_cell BK575.out 0).trans rfl
              have hcz136_1 : wr.cell? ⟨gb575, 1, none⟩ = some (.int .i64 t572) := (blk_cell BK575.out 1).trans rfl
              have hcz136_2 : wr.cell? ⟨gb575, 2, none⟩ = some (.int .i64 t573) := (blk_cell BK575.out 2).trans rfl
              have hcz136_3 : wr.cell? ⟨gb575, 3, none⟩ = some (.int .i64 t574) := (blk_cell BK575.out 3).trans rfl
              have hfz136_0 := blk_frozen BK575.out 0
              have hfz136_1 := blk_frozen BK575.out 1
              have hfz136_2 := blk_frozen BK575.out 2
              have hfz136_3 := blk_frozen BK575.out 3
              go_wp2_with (first | ((with_reducible refine gate_callee (f := 30) rfl ?_); refine goesL_ (some 148) rfl rfl Try.func30 (by kernel_rfl) rfl #[.agg #[.int .i64 t571, .int .i64 t572, .int .i64 t573, .int .i64 t574], .int .i64 x9_3, .int .i64 x8_2] rfl (by (try simp only [List.map_toArray, List.map_cons, List.map_nil]) <;> rfl) ?_; (with_reducible refine (compositorref04_Contains.calls t571 t572 t573 t574 x9_3 x8_2 t590 _ A126.out).mono ?_); rintro e w137 ⟨rfl, hb⟩; refine ⟨_, rfl, ?_⟩; have n0_ := bb_ BK561 hb; have n1_ := bb_ BK562 hb; have n2_ := bb_ BK563 hb; have n3_ := bb_ BK575 hb; have n4_ := hb_ HB hb; clear BK561; clear BK562; clear BK563; clear BK575; clear HB; have BK561 := n0_; have BK562 := n1_; have BK563 := n2_; have BK575 := n3_; have HB := n4_; clear n0_ n1_ n2_ n3_ n4_; (try clear hb); (try clear hb2); (try clear hk); (try clear hi)))
              go_roundg k3
              case measure => have := HJ3.out; have := HK2.out; have := HK3.out; omega
              case rel => exact ⟨(wrap64 (x9_3 + 1)), (by first | rfl | (simp; done) | (simp [*]; done)), H', ⟨by have := HJ3.out; have := HK2.out; have := HK3.out; omega⟩, bf_ BK561, bf_ BK562, bf_ BK563, bf_ BK575, ⟨by repeat (first | (with_reducible first | exact HB.out | apply below_alloc | apply pw_below_drewN | apply below_drew1 | refine below_set ?_ GE561.out | refine below_set ?_ GE562.out | refine below_set ?_ GE563.out | refine below_set ?_ GE575.out) | exact HB.out)⟩⟩
           ·
            rw [if_neg c86] at H
            have c86b0 : decide (x9_3 < a2_2) = false := decide_eq_false c86
            clear c86
            have H' := Aside0.mk H
            clear H
            have hnb138 := NB563_561.out
            have hnc138 := NB561_563.out
            have hnb139 := NB563_562.out
            have hnc139 := NB562_563.out
            have hnb140 := NB563_575.out
            have hnc140 := NB575_563.out
            have hcz141_0 : wr.cell? ⟨gb563, 0, none⟩ = some (.int .i64 a2_0) := (blk_cell BK563.out 0).trans rfl
            have hcz141_1 : wr.cell? ⟨gb563, 1, none⟩ = some (.int .i64 a2_1) := (blk_cell BK563.out 1).trans rfl
            have hcz141_2 : wr.cell? ⟨gb563, 2, none⟩ = some (.int .i64 a2_2) := (blk_cell BK563.out 2).trans rfl
            have hcz141_3 : wr.cell? ⟨gb563, 3, none⟩ = some (.int .i64 a2_3) := (blk_cell BK563.out 3).trans rfl
            have hfz141_0 := blk_frozen BK563.out 0
            have hfz141_1 := blk_frozen BK563.out 1
            have hfz141_2 := blk_frozen BK563.out 2
            have hfz141_3 := blk_frozen BK563.out 3
            go_wp2
            go_roundg k3
            case measure => have := HJ3.out; have := HK2.out; have := HK3.out; omega
            case rel => exact ⟨(wrap64 (x8_2 + 1)), (by first | rfl | (simp; done) | (simp [*]; done)), H', ⟨by have := HJ3.out; have := HK2.out; have := HK3.out; omega⟩, bf_ BK561, bf_ BK562, bf_ BK563, bf_ BK575, ⟨by repeat (first | (with_reducible first | exact HB.out | apply below_alloc | apply pw_below_drewN | apply below_drew1 | refine below_set ?_ GE561.out | refine below_set ?_ GE562.out | refine below_set ?_ GE563.out | refine below_set ?_ GE575.out) | exact HB.out)⟩⟩
        ·
         rw [if_neg c81] at H
         have c81b0 : decide (x8_2 < a2_3) = false := decide_eq_false c81
         clear c81
         replace H := Option.bind_eq_some_iff.mp H
         obtain ⟨t585, A1420, H⟩ := H
         try dsimp only at H
         have A142 := Aside0.mk A1420
         clear A1420
         by_cases c143 : t585 = true
         ·
          subst c143
          have H1 : ((compositorlaw10_exampleHolds.f k2).bind fun t586 => (some t586)) = some true := by rw [if_pos rfl] at H; exact H
          clear H
          have H := H1
          clear H1
          replace H := Option.bind_eq_some_iff.mp H
          obtain ⟨t586, A1440, H⟩ := H
          try dsimp only at H
          have A144 := Aside0.mk A1440
          clear A1440
          have Hq_ := Option.some.inj H
          have hnb145 := NB563_561.out
          have hnc145 := NB561_563.out
          have hnb146 := NB563_562.out
          have hnc146 := NB562_563.out
          have hnb147 := NB563_575.out
          have hnc147 := NB575_563.out
          have hcz148_0 : wr.cell? ⟨gb563, 0, none⟩ = some (.int .i64 a2_0) := (blk_cell BK563.out 0).trans rfl
          have hcz148_1 : wr.cell? ⟨gb563, 1, none⟩ = some (.int .i64 a2_1) := (blk_cell BK563.out 1).trans rfl
          have hcz148_2 : wr.cell? ⟨gb563, 2, none⟩ = some (.int .i64 a2_2) := (blk_cell BK563.out 2).trans rfl
          have hcz148_3 : wr.cell? ⟨gb563, 3, none⟩ = some (.int .i64 a2_3) := (blk_cell BK563.out 3).trans rfl
          have hfz148_0 := blk_frozen BK563.out 0
          have hfz148_1 := blk_frozen BK563.out 1
          have hfz148_2 := blk_frozen BK563.out 2
          have hfz148_3 := blk_frozen BK563.out 3
          have hnb149 := NB575_561.out
          have hnc149 := NB561_575.out
          have hnb150 := NB575_562.out
          have hnc150 := NB562_575.out
          have hcz151_0 : wr.cell? ⟨gb575, 0, none⟩ = some (.int .i64 t571) := (blk_cell BK575.out 0).trans rfl
          have hcz151_1 : wr.cell? ⟨gb575, 1, none⟩ = some (.int .i64 t572) := (blk_cell BK575.out 1).trans rfl
          have hcz151_2 : wr.cell? ⟨gb575, 2, none⟩ = some (.int .i64 t573) := (blk_cell BK575.out 2).trans rfl
          have hcz151_3 : wr.cell? ⟨gb575, 3, none⟩ = some (.int .i64 t574) := (blk_cell BK575.out 3).trans rfl
          have hfz151_0 := blk_frozen BK575.out 0
          have hfz151_1 := blk_frozen BK575.out 1
          have hfz151_2 := blk_frozen BK575.out 2
          have hfz151_3 := blk_frozen BK575.out 3
          go_wp2_with (first | ((with_reducible refine gate_callee (f := 29) rfl ?_); refine goesL_ (some 157) rfl rfl Try.func29 (by kernel_rfl) rfl #[.agg #[.int .i64 t571, .int .i64 t572, .int .i64 t573, .int .i64 t574], .agg #[.int .i64 0, .int .i64 0, .int .i64 a2_2, .int .i64 a2_3]] rfl (by (try simp only [List.map_toArray, List.map_cons, List.map_nil]) <;> rfl) ?_; (with_reducible refine (compositorref04_Within.calls t571 t572 t573 t574 0 0 a2_2 a2_3 true _ A142.out).mono ?_); rintro e w152 ⟨rfl, hb⟩; refine ⟨_, rfl, ?_⟩; have n0_ := bb_ BK561 hb; have n1_ := bb_ BK562 hb; have n2_ := bb_ BK563 hb; have n3_ := bb_ BK575 hb; have n4_ := hb_ HB hb; clear BK561; clear BK562; clear BK563; clear BK575; clear HB; have BK561 := n0_; have BK562 := n1_; have BK563 := n2_; have BK575 := n3_; have HB := n4_; clear n0_ n1_ n2_ n3_ n4_; (try clear hb); (try clear hb2); (try clear hk); (try clear hi)) | (go_at_call 12; (with_reducible refine (compositorlaw10_exampleHolds.calls k2  t586 _ A144.out).mono ?_); rintro e w153 ⟨rfl, hb⟩; have n0_ := bb_ BK561 hb; have n1_ := bb_ BK562 hb; have n2_ := bb_ BK563 hb; have n3_ := bb_ BK575 hb; have n4_ := hb_ HB hb; clear BK561; clear BK562; clear BK563; clear BK575; clear HB; have BK561 := n0_; have BK562 := n1_; have BK563 := n2_; have BK575 := n3_; have HB := n4_; clear n0_ n1_ n2_ n3_ n4_; (try clear hb); (try clear hb2); (try clear hk); (try clear hi)))
          go_ret
          exact ⟨by first | rfl | (simp [errW_none, errW_some] <;> rfl) | (simp [*, errW_none, errW_some] <;> rfl), by repeat (first | (with_reducible first | exact HB.out | apply below_alloc | apply pw_below_drewN | apply below_drew1 | refine below_set ?_ GE561.out | refine below_set ?_ GE562.out | refine below_set ?_ GE563.out | refine below_set ?_ GE575.out) | exact HB.out)⟩
         ·
          replace c143 := Bool.eq_false_iff.mpr c143
          subst c143
          have H1 : (some false) = some true := by rw [if_neg (show ¬ (false = true) by decide)] at H; exact H
          clear H
          have H := H1
          clear H1
          exact absurd H (by simp)
     ·
      replace c59 := Bool.eq_false_iff.mpr c59
      subst c59
      have H1 : (some false) = some true := by rw [if_neg (show ¬ (false = true) by decide)] at H; exact H
      clear H
      have H := H1
      clear H1
      exact absurd H (by simp)

end Go.Proofs.Ythpmfhfnkgbkjaa.All
