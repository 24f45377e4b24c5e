-- Written by a program of this session, which runs the kit's print.py and puts in functions that this session typed. Not trusted: Lean checks it.
import Derived.Test.YthpmfhfnkgbkjaaHand
import Derived.Test.YthpmfhfnkgbkjaaAllx0
import Derived.Test.YthpmfhfnkgbkjaaAllx5
import Derived.Test.YthpmfhfnkgbkjaaAllx9
import Derived.Test.YthpmfhfnkgbkjaaAllx12
import Derived.Test.YthpmfhfnkgbkjaaAllx19
import Derived.Test.YthpmfhfnkgbkjaaAllx21
import Derived.Test.YthpmfhfnkgbkjaaAllx37
namespace Go.Proofs.Ythpmfhfnkgbkjaa.All
open Go.Proofs.YthpmfhfnkgbkjaaSq
open Go.RowKit Go.Proofs.YthpmfhfnkgbkjaaW.PrintWords Go.Proofs.YthpmfhfnkgbkjaaW.PrintLast Go.Proofs.YthpmfhfnkgbkjaaW.PrintMore
attribute [local go_sem] max2_int min2_int max_two min_two max_three min_three max_four min_four   -- for this text's walks alone
set_option linter.unusedVariables false
set_option linter.unusedSimpArgs false

/-! ### compositorlaw10_ScaleUniform: function 9 -/
abbrev zq9.q0 := Go.Proofs.YthpmfhfnkgbkjaaHand.bz 12 0
abbrev zq9.q1 := Go.Proofs.YthpmfhfnkgbkjaaHand.bz 12 1
abbrev zq9.q2 := Go.Proofs.YthpmfhfnkgbkjaaHand.bz 12 17
abbrev zq9.q3 := Go.Proofs.YthpmfhfnkgbkjaaHand.bz 12 19
abbrev zq9.q4 := Go.Proofs.YthpmfhfnkgbkjaaHand.bz 12 23
abbrev zq9.q5 := Go.Proofs.YthpmfhfnkgbkjaaHand.bz 12 31
abbrev zq9.q6 := Go.Proofs.YthpmfhfnkgbkjaaHand.bz 12 63
abbrev zq9.q7 := Go.Proofs.YthpmfhfnkgbkjaaHand.bz 12 127
abbrev zq9.q8 := Go.Proofs.YthpmfhfnkgbkjaaHand.bz 12 255
abbrev zq9.q9 := Go.Proofs.YthpmfhfnkgbkjaaHand.bz 12 1023
abbrev zq9.q10 := Go.Proofs.YthpmfhfnkgbkjaaHand.bz 12 511
abbrev zq9.q11 := Go.Proofs.YthpmfhfnkgbkjaaHand.bz 12 767
abbrev zq9.q12 := Go.Proofs.YthpmfhfnkgbkjaaHand.bz 12 2047
abbrev zq9.q13 := Go.Proofs.YthpmfhfnkgbkjaaHand.bz 12 4095
abbrev zq9.q14 := Go.Proofs.YthpmfhfnkgbkjaaHand.bz 20 0
abbrev zq9.q15 := Go.Proofs.YthpmfhfnkgbkjaaHand.bz 20 1
abbrev zq9.q16 := Go.Proofs.YthpmfhfnkgbkjaaHand.bz 20 5
abbrev zq9.q17 := Go.Proofs.YthpmfhfnkgbkjaaHand.bz 20 7
abbrev zq9.q18 := Go.Proofs.YthpmfhfnkgbkjaaHand.bz 20 15
abbrev zq9.q19 := Go.Proofs.YthpmfhfnkgbkjaaHand.bz 20 31
abbrev zq9.q20 := Go.Proofs.YthpmfhfnkgbkjaaHand.bz 20 63
abbrev zq9.q21 := Go.Proofs.YthpmfhfnkgbkjaaHand.bz 20 127
abbrev zq9.q22 := Go.Proofs.YthpmfhfnkgbkjaaHand.bz 20 255
abbrev zq9.q23 := Go.Proofs.YthpmfhfnkgbkjaaHand.bz 20 511
abbrev zq9.q24 := Go.Proofs.YthpmfhfnkgbkjaaHand.bz 20 1023
abbrev zq9.q25 := Go.Proofs.YthpmfhfnkgbkjaaHand.bz 20 2047
abbrev zq9.q26 := Go.Proofs.YthpmfhfnkgbkjaaHand.bz 20 6143
abbrev zq9.q27 := Go.Proofs.YthpmfhfnkgbkjaaHand.bz 20 8191
abbrev zq9.q28 := Go.Proofs.YthpmfhfnkgbkjaaHand.bz 20 16383
abbrev zq9.q29 := Go.Proofs.YthpmfhfnkgbkjaaHand.bz 20 32767
abbrev zq9.q30 := Go.Proofs.YthpmfhfnkgbkjaaHand.bz 20 65535
abbrev zq9.q31 := Go.Proofs.YthpmfhfnkgbkjaaHand.bz 20 131071
abbrev zq9.q32 := Go.Proofs.YthpmfhfnkgbkjaaHand.bz 20 262143
abbrev zq9.q33 := Go.Proofs.YthpmfhfnkgbkjaaHand.bz 20 524287
abbrev zq9.q34 := Go.Proofs.YthpmfhfnkgbkjaaHand.bz 20 1048575
mutual
def compositorlaw10_ScaleUniform.j0 : Nat → Int → Int → Bool → Int → Int → List (S43) → Option (Bool)
 | 0, _, _, _, _, _, _ => none
 | k + 1, x1, x2, x41, x516000, x516001, x516002 => if x41 = true then ((compositorlaw10_exampleHolds.f k).bind fun t518 => (some t518)) else (if 0 < (x516002.length : Int) then (compositorlaw10_ScaleUniform.l0 k x1 x2 0 x516000 x516001 x516002 ((rd_T43 x516002 0).f0) ((rd_T43 x516002 0).f1) ((rd_T43 x516002 0).f2) ((rd_T43 x516002 0).f3) ((rd_T43 x516002 0).f0) ((rd_T43 x516002 0).f1) ((rd_T43 x516002 0).f2) ((rd_T43 x516002 0).f3)) else (none))
def compositorlaw10_ScaleUniform.l0 : Nat → Int → Int → Int → Int → Int → List (S43) → Int → Int → Int → Int → Int → Int → Int → Int → Option (Bool)
 | 0, _, _, _, _, _, _, _, _, _, _, _, _, _, _ => none
 | k + 1, x1, x2, x9, x516000, x516001, x516002, x522000, x522001, x522002, x522003, x523000, x523001, x523002, x523003 => if x9 < (x516002.length : Int) then (if 0 ≤ x9 then (compositorlaw10_ScaleUniform.l0 k x1 x2 (wrap64 (x9 + 1)) x516000 x516001 x516002 (mn x522000 ((rd_T43 x516002 x9).f0)) (mn x522001 ((rd_T43 x516002 x9).f1)) (mn x522002 ((rd_T43 x516002 x9).f2)) (mn x522003 ((rd_T43 x516002 x9).f3)) (mx x523000 ((rd_T43 x516002 x9).f0)) (mx x523001 ((rd_T43 x516002 x9).f1)) (mx x523002 ((rd_T43 x516002 x9).f2)) (mx x523003 ((rd_T43 x516002 x9).f3))) else (none)) else ((scale_Nearest.f x516000 x516001 x516002 x1 x2).bind fun bt525 => ((scale_Box.f x516000 x516001 x516002 x1 x2).bind fun bt532 => (if bt525.2.2.2 = 0 then (if bt532.2.2.2 = 0 then ((compositorref10_Valid.f k bt525.1 bt525.2.1 bt525.2.2.1).bind fun t539 => (if t539 = true then ((compositorref10_Valid.f k bt532.1 bt532.2.1 bt532.2.2.1).bind fun t540 => (if t540 = true then (if bt525.1 = x1 then (if bt525.2.1 = x2 then (if bt532.1 = x1 then (compositorlaw10_ScaleUniform.j2 k x1 x2 (bt532.2.1 != x2) x522000 x522001 x522002 x522003 x523000 x523001 x523002 x523003 bt525.1 bt525.2.1 bt525.2.2.1 bt532.1 bt532.2.1 bt532.2.2.1) else (compositorlaw10_ScaleUniform.j2 k x1 x2 true x522000 x522001 x522002 x522003 x523000 x523001 x523002 x523003 bt525.1 bt525.2.1 bt525.2.2.1 bt532.1 bt532.2.1 bt532.2.2.1)) else (compositorlaw10_ScaleUniform.j2 k x1 x2 true x522000 x522001 x522002 x522003 x523000 x523001 x523002 x523003 bt525.1 bt525.2.1 bt525.2.2.1 bt532.1 bt532.2.1 bt532.2.2.1)) else (compositorlaw10_ScaleUniform.j2 k x1 x2 true x522000 x522001 x522002 x522003 x523000 x523001 x523002 x523003 bt525.1 bt525.2.1 bt525.2.2.1 bt532.1 bt532.2.1 bt532.2.2.1)) else (compositorlaw10_ScaleUniform.j2 k x1 x2 true x522000 x522001 x522002 x522003 x523000 x523001 x523002 x523003 bt525.1 bt525.2.1 bt525.2.2.1 bt532.1 bt532.2.1 bt532.2.2.1))) else (compositorlaw10_ScaleUniform.j2 k x1 x2 true x522000 x522001 x522002 x522003 x523000 x523001 x523002 x523003 bt525.1 bt525.2.1 bt525.2.2.1 bt532.1 bt532.2.1 bt532.2.2.1))) else (compositorlaw10_ScaleUniform.j2 k x1 x2 true x522000 x522001 x522002 x522003 x523000 x523001 x523002 x523003 bt525.1 bt525.2.1 bt525.2.2.1 bt532.1 bt532.2.1 bt532.2.2.1)) else (compositorlaw10_ScaleUniform.j2 k x1 x2 true x522000 x522001 x522002 x522003 x523000 x523001 x523002 x523003 bt525.1 bt525.2.1 bt525.2.2.1 bt532.1 bt532.2.1 bt532.2.2.1))))
def compositorlaw10_ScaleUniform.j2 : Nat → Int → Int → Bool → Int → Int → Int → Int → Int → Int → Int → Int → Int → Int → List (S43) → Int → Int → List (S43) → Option (Bool)
 | 0, _, _, _, _, _, _, _, _, _, _, _, _, _, _, _, _, _ => none
 | k + 1, x1, x2, x158, x522000, x522001, x522002, x522003, x523000, x523001, x523002, x523003, x532000, x532001, x532002, x539000, x539001, x539002 => if x158 = true then (some false) else (compositorlaw10_ScaleUniform.l1 k x1 x2 0 x522000 x522001 x522002 x522003 x523000 x523001 x523002 x523003 x532000 x532001 x532002 x539000 x539001 x539002)
def compositorlaw10_ScaleUniform.l1 : Nat → Int → Int → Int → Int → Int → Int → Int → Int → Int → Int → Int → Int → Int → List (S43) → Int → Int → List (S43) → Option (Bool)
 | 0, _, _, _, _, _, _, _, _, _, _, _, _, _, _, _, _, _ => none
 | k + 1, x1, x2, x15, x522000, x522001, x522002, x522003, x523000, x523001, x523002, x523003, x532000, x532001, x532002, x539000, x539001, x539002 => if x15 < (wrap64 (x1 * x2)) then (if 0 ≤ x15 then (if x15 < (x532002.length : Int) then ((compositorlaw10_between.f ((rd_T43 x532002 x15).f0) ((rd_T43 x532002 x15).f1) ((rd_T43 x532002 x15).f2) ((rd_T43 x532002 x15).f3) x522000 x522001 x522002 x522003 x523000 x523001 x523002 x523003).bind fun t543 => (if t543 = true then (if x15 < (x539002.length : Int) then ((compositorlaw10_between.f ((rd_T43 x539002 x15).f0) ((rd_T43 x539002 x15).f1) ((rd_T43 x539002 x15).f2) ((rd_T43 x539002 x15).f3) x522000 x522001 x522002 x522003 x523000 x523001 x523002 x523003).bind fun t545 => (if t545 = true then (compositorlaw10_ScaleUniform.l1 k x1 x2 (wrap64 (x15 + 1)) x522000 x522001 x522002 x522003 x523000 x523001 x523002 x523003 x532000 x532001 x532002 x539000 x539001 x539002) else (some false))) else (none)) else (some false))) else (none)) else (none)) else ((compositorlaw10_exampleHolds.f k).bind fun t541 => (some t541))
end
def compositorlaw10_ScaleUniform.f (k : Nat) (a0_0 : Int) (a0_1 : Int) (l0_2 : List (S43)) (a1 : Int) (a2 : Int) : Option (Bool) := (compositorlaw10_small.f a0_0 a0_1 l0_2 a1 a2).bind fun t516 => (if t516 = true then ((compositorref10_Valid.f k a0_0 a0_1 l0_2).bind fun t517 => (if t517 = true then (if a1 < 1 then (compositorlaw10_ScaleUniform.j0 k a1 a2 true a0_0 a0_1 l0_2) else (if a1 > 12 then (compositorlaw10_ScaleUniform.j0 k a1 a2 true a0_0 a0_1 l0_2) else (if a2 < 1 then (compositorlaw10_ScaleUniform.j0 k a1 a2 true a0_0 a0_1 l0_2) else (compositorlaw10_ScaleUniform.j0 k a1 a2 (decide (a2 > 12)) a0_0 a0_1 l0_2)))) else (compositorlaw10_ScaleUniform.j0 k a1 a2 true a0_0 a0_1 l0_2))) else (compositorlaw10_ScaleUniform.j0 k a1 a2 true a0_0 a0_1 l0_2))
theorem compositorlaw10_ScaleUniform.mono_l : ∀ k, (∀ y0 y1 y2 y3 y4 y5, LeO (compositorlaw10_ScaleUniform.j0 k y0 y1 y2 y3 y4 y5) (compositorlaw10_ScaleUniform.j0 (k + 1) y0 y1 y2 y3 y4 y5)) ∧ (∀ y0 y1 y2 y3 y4 y5 y6 y7 y8 y9 y10 y11 y12 y13, LeO (compositorlaw10_ScaleUniform.l0 k y0 y1 y2 y3 y4 y5 y6 y7 y8 y9 y10 y11 y12 y13) (compositorlaw10_ScaleUniform.l0 (k + 1) y0 y1 y2 y3 y4 y5 y6 y7 y8 y9 y10 y11 y12 y13)) ∧ (∀ y0 y1 y2 y3 y4 y5 y6 y7 y8 y9 y10 y11 y12 y13 y14 y15 y16, LeO (compositorlaw10_ScaleUniform.j2 k y0 y1 y2 y3 y4 y5 y6 y7 y8 y9 y10 y11 y12 y13 y14 y15 y16) (compositorlaw10_ScaleUniform.j2 (k + 1) y0 y1 y2 y3 y4 y5 y6 y7 y8 y9 y10 y11 y12 y13 y14 y15 y16)) ∧ (∀ y0 y1 y2 y3 y4 y5 y6 y7 y8 y9 y10 y11 y12 y13 y14 y15 y16, LeO (compositorlaw10_ScaleUniform.l1 k y0 y1 y2 y3 y4 y5 y6 y7 y8 y9 y10 y11 y12 y13 y14 y15 y16) (compositorlaw10_ScaleUniform.l1 (k + 1) y0 y1 y2 y3 y4 y5 y6 y7 y8 y9 y10 y11 y12 y13 y14 y15 y16))
 | 0 => ⟨fun _ _ _ _ _ _ r h => by simp [compositorlaw10_ScaleUniform.j0] at h, fun _ _ _ _ _ _ _ _ _ _ _ _ _ _ r h => by simp [compositorlaw10_ScaleUniform.l0] at h, fun _ _ _ _ _ _ _ _ _ _ _ _ _ _ _ _ _ r h => by simp [compositorlaw10_ScaleUniform.j2] at h, fun _ _ _ _ _ _ _ _ _ _ _ _ _ _ _ _ _ r h => by simp [compositorlaw10_ScaleUniform.l1] at h⟩
 | k + 1 => by
  obtain ⟨ih0, ih1, ih2, ih3⟩ := compositorlaw10_ScaleUniform.mono_l k
  refine ⟨?_, ?_, ?_, ?_⟩
  ·
   intro y0 y1 y2 y3 y4 y5
   unfold compositorlaw10_ScaleUniform.j0
   repeat' first
   | (with_reducible exact ih0 _ _ _ _ _ _)
   | (with_reducible exact ih1 _ _ _ _ _ _ _ _ _ _ _ _ _ _)
   | (with_reducible exact ih2 _ _ _ _ _ _ _ _ _ _ _ _ _ _ _ _ _)
   | (with_reducible exact ih3 _ _ _ _ _ _ _ _ _ _ _ _ _ _ _ _ _)
   | (with_reducible exact compositorlaw10_exampleHolds.mono _)
   | (with_reducible exact compositorref10_Valid.mono _ _ _ _)
   | (with_reducible exact LeO.refl _)
   | (with_reducible exact LeO.none _)
   | (with_reducible refine LeO.ite ?_ ?_)
   | (with_reducible refine LeO.bind ?_ (fun _ => ?_))
   | exact ih0 _ _ _ _ _ _
   | exact ih1 _ _ _ _ _ _ _ _ _ _ _ _ _ _
   | exact ih2 _ _ _ _ _ _ _ _ _ _ _ _ _ _ _ _ _
   | exact ih3 _ _ _ _ _ _ _ _ _ _ _ _ _ _ _ _ _
   | exact compositorlaw10_exampleHolds.mono _
   | exact compositorref10_Valid.mono _ _ _ _
   | exact LeO.none _
   | refine LeO.ite ?_ ?_
   | refine LeO.bind ?_ (fun _ => ?_)
  ·
   intro y0 y1 y2 y3 y4 y5 y6 y7 y8 y9 y10 y11 y12 y13
   unfold compositorlaw10_ScaleUniform.l0
   repeat' first
   | (with_reducible exact ih0 _ _ _ _ _ _)
   | (with_reducible exact ih1 _ _ _ _ _ _ _ _ _ _ _ _ _ _)
   | (with_reducible exact ih2 _ _ _ _ _ _ _ _ _ _ _ _ _ _ _ _ _)
   | (with_reducible exact ih3 _ _ _ _ _ _ _ _ _ _ _ _ _ _ _ _ _)
   | (with_reducible exact compositorlaw10_exampleHolds.mono _)
   | (with_reducible exact compositorref10_Valid.mono _ _ _ _)
   | (with_reducible exact LeO.refl _)
   | (with_reducible exact LeO.none _)
   | (with_reducible refine LeO.ite ?_ ?_)
   | (with_reducible refine LeO.bind ?_ (fun _ => ?_))
   | exact ih0 _ _ _ _ _ _
   | exact ih1 _ _ _ _ _ _ _ _ _ _ _ _ _ _
   | exact ih2 _ _ _ _ _ _ _ _ _ _ _ _ _ _ _ _ _
   | exact ih3 _ _ _ _ _ _ _ _ _ _ _ _ _ _ _ _ _
   | exact compositorlaw10_exampleHolds.mono _
   | exact compositorref10_Valid.mono _ _ _ _
   | exact LeO.none _
   | refine LeO.ite ?_ ?_
   | refine LeO.bind ?_ (fun _ => ?_)
  ·
   intro y0 y1 y2 y3 y4 y5 y6 y7 y8 y9 y10 y11 y12 y13 y14 y15 y16
   unfold compositorlaw10_ScaleUniform.j2
   repeat' first
   | (with_reducible exact ih0 _ _ _ _ _ _)
   | (with_reducible exact ih1 _ _ _ _ _ _ _ _ _ _ _ _ _ _)
   | (with_reducible exact ih2 _ _ _ _ _ _ _ _ _ _ _ _ _ _ _ _ _)
   | (with_reducible exact ih3 _ _ _ _ _ _ _ _ _ _ _ _ _ _ _ _ _)
   | (with_reducible exact compositorlaw10_exampleHolds.mono _)
   | (with_reducible exact compositorref10_Valid.mono _ _ _ _)
   | (with_reducible exact LeO.refl _)
   | (with_reducible exact LeO.none _)
   | (with_reducible refine LeO.ite ?_ ?_)
   | (with_reducible refine LeO.bind ?_ (fun _ => ?_))
   | exact ih0 _ _ _ _ _ _
   | exact ih1 _ _ _ _ _ _ _ _ _ _ _ _ _ _
   | exact ih2 _ _ _ _ _ _ _ _ _ _ _ _ _ _ _ _ _
   | exact ih3 _ _ _ _ _ _ _ _ _ _ _ _ _ _ _ _ _
   | exact compositorlaw10_exampleHolds.mono _
   | exact compositorref10_Valid.mono _ _ _ _
   | exact LeO.none _
   | refine LeO.ite ?_ ?_
   | refine LeO.bind ?_ (fun _ => ?_)
  ·
   intro y0 y1 y2 y3 y4 y5 y6 y7 y8 y9 y10 y11 y12 y13 y14 y15 y16
   unfold compositorlaw10_ScaleUniform.l1
   repeat' first
   | (with_reducible exact ih0 _ _ _ _ _ _)
   | (with_reducible exact ih1 _ _ _ _ _ _ _ _ _ _ _ _ _ _)
   | (with_reducible exact ih2 _ _ _ _ _ _ _ _ _ _ _ _ _ _ _ _ _)
   | (with_reducible exact ih3 _ _ _ _ _ _ _ _ _ _ _ _ _ _ _ _ _)
   | (with_reducible exact compositorlaw10_exampleHolds.mono _)
   | (with_reducible exact compositorref10_Valid.mono _ _ _ _)
   | (with_reducible exact LeO.refl _)
   | (with_reducible exact LeO.none _)
   | (with_reducible refine LeO.ite ?_ ?_)
   | (with_reducible refine LeO.bind ?_ (fun _ => ?_))
   | exact ih0 _ _ _ _ _ _
   | exact ih1 _ _ _ _ _ _ _ _ _ _ _ _ _ _
   | exact ih2 _ _ _ _ _ _ _ _ _ _ _ _ _ _ _ _ _
   | exact ih3 _ _ _ _ _ _ _ _ _ _ _ _ _ _ _ _ _
   | exact compositorlaw10_exampleHolds.mono _
   | exact compositorref10_Valid.mono _ _ _ _
   | exact LeO.none _
   | refine LeO.ite ?_ ?_
   | refine LeO.bind ?_ (fun _ => ?_)
theorem compositorlaw10_ScaleUniform.mono : ∀ a0 a1 a2 a3 a4 k, LeO (compositorlaw10_ScaleUniform.f k a0 a1 a2 a3 a4) (compositorlaw10_ScaleUniform.f (k + 1) a0 a1 a2 a3 a4) := by
 intro a0 a1 a2 a3 a4 k
 obtain ⟨ih0, ih1, ih2, ih3⟩ := compositorlaw10_ScaleUniform.mono_l k
 unfold compositorlaw10_ScaleUniform.f
 repeat' first
   | (with_reducible exact ih0 _ _ _ _ _ _)
   | (with_reducible exact ih1 _ _ _ _ _ _ _ _ _ _ _ _ _ _)
   | (with_reducible exact ih2 _ _ _ _ _ _ _ _ _ _ _ _ _ _ _ _ _)
   | (with_reducible exact ih3 _ _ _ _ _ _ _ _ _ _ _ _ _ _ _ _ _)
   | (with_reducible exact compositorlaw10_exampleHolds.mono _)
   | (with_reducible exact compositorref10_Valid.mono _ _ _ _)
   | (with_reducible exact LeO.refl _)
   | (with_reducible exact LeO.none _)
   | (with_reducible refine LeO.ite ?_ ?_)
   | (with_reducible refine LeO.bind ?_ (fun _ => ?_))
   | exact ih0 _ _ _ _ _ _
   | exact ih1 _ _ _ _ _ _ _ _ _ _ _ _ _ _
   | exact ih2 _ _ _ _ _ _ _ _ _ _ _ _ _ _ _ _ _
   | exact ih3 _ _ _ _ _ _ _ _ _ _ _ _ _ _ _ _ _
   | exact compositorlaw10_exampleHolds.mono _
   | exact compositorref10_Valid.mono _ _ _ _
   | exact LeO.none _
   | refine LeO.ite ?_ ?_
   | refine LeO.bind ?_ (fun _ => ?_)
def compositorlaw10_ScaleUniform.T3 : Bool × List (List Nat × List Nat) := (true, [([], []), ([0], [0]), ([1], [1]), ([2], [2]), ([], []), ([4], [4]), ([5], [5]), ([6], [6]), ([], []), ([], []), ([8, 3, 0, 1, 2, 3, 8, 9], [3, 8]), ([9, 7, 10, 0, 1, 2, 3, 4, 5, 6, 7, 8, 9, 10], [7, 9])])
def compositorlaw10_ScaleUniform.B3 : List Nat := [0, 1, 3, 7, 0, 16, 48, 112, 0, 0, 783, 2047]
theorem compositorlaw10_ScaleUniform.tab3 : rtab .any (opsOf Try.f9 3) = compositorlaw10_ScaleUniform.T3 := by kernel_rfl
theorem compositorlaw10_ScaleUniform.bits3 : waitsOk compositorlaw10_ScaleUniform.T3.2 compositorlaw10_ScaleUniform.B3 = true := by kernel_rfl
def compositorlaw10_ScaleUniform.T17 : Bool × List (List Nat × List Nat) := (true, [([], []), ([0], [0]), ([], []), ([1, 2], [1, 2]), ([3], [3]), ([], []), ([], []), ([4, 5, 6], [4, 5, 6]), ([7], [7]), ([8, 7], [8]), ([9], [9]), ([10, 9], [9, 10]), ([9], [9]), ([11, 12, 9], [9, 11, 12]), ([13, 9], [9, 13]), ([9], [9]), ([9], [9]), ([14, 15, 16, 9, 9], [9, 14, 15, 16]), ([17, 9], [9, 17]), ([9, 18], [9, 18])])
def compositorlaw10_ScaleUniform.B17 : List Nat := [0, 1, 0, 7, 15, 0, 0, 127, 255, 511, 1023, 2047, 1023, 8191, 16383, 1023, 1023, 131071, 262143, 524287]
theorem compositorlaw10_ScaleUniform.tab17 : rtab .any (opsOf Try.f9 17) = compositorlaw10_ScaleUniform.T17 := by kernel_rfl
theorem compositorlaw10_ScaleUniform.bits17 : waitsOk compositorlaw10_ScaleUniform.T17.2 compositorlaw10_ScaleUniform.B17 = true := by kernel_rfl
set_option maxHeartbeats 8000000 in
set_option maxRecDepth 100000 in
theorem compositorlaw10_ScaleUniform.calls (k : Nat) (a0_0 : Int) (a0_1 : Int) (A0_2 : Option Addr) (c0_2 : Nat) (l0_2 : List (S43)) (a1 : Int) (a2 : Int) (w : World) (hr0_2 : Kd.C k43 w A0_2 l0_2.length l0_2) (hc0_2 : l0_2.length ≤ c0_2) (h : compositorlaw10_ScaleUniform.f k a0_0 a0_1 l0_2 a1 a2 = some true) :
  Calls Try.prog 9 #[.agg #[.int .i64 a0_0, .int .i64 a0_1, .slice A0_2 l0_2.length c0_2], .int .i64 a1, .int .i64 a2] w fun e w' => e = .returned (.bool true) ∧ Below w.heap.size w w' := by
 have hu24 := Try.underlying24
 have hu43 := Try.underlying43
 have HR0_2 := Aside0.mk hr0_2
 have HC0_2 := Aside0.mk hc0_2
 clear hr0_2 hc0_2
 have HB := Aside0.mk (Below.refl w.heap.size w)
 have H : ((compositorlaw10_small.f a0_0 a0_1 l0_2 a1 a2).bind fun t516 => (if t516 = true then ((compositorref10_Valid.f k a0_0 a0_1 l0_2).bind fun t517 => (if t517 = true then (if a1 < 1 then (compositorlaw10_ScaleUniform.j0 k a1 a2 true a0_0 a0_1 l0_2) else (if a1 > 12 then (compositorlaw10_ScaleUniform.j0 k a1 a2 true a0_0 a0_1 l0_2) else (if a2 < 1 then (compositorlaw10_ScaleUniform.j0 k a1 a2 true a0_0 a0_1 l0_2) else (compositorlaw10_ScaleUniform.j0 k a1 a2 (decide (a2 > 12)) a0_0 a0_1 l0_2)))) else (compositorlaw10_ScaleUniform.j0 k a1 a2 true a0_0 a0_1 l0_2))) else (compositorlaw10_ScaleUniform.j0 k a1 a2 true a0_0 a0_1 l0_2))) = some true := h
 clear h
 have HC4 := Aside0.mk H
 clear H
 go_enter Try.func9, Try.ntmps9
 go_upto_region 1 with (first | ((with_reducible refine gate_dst (N := 3) rfl ?_); refine box_event ?hg (N := 3) ?hd (cs := #[.int .i64 a0_0, .int .i64 a0_1, .slice A0_2 l0_2.length c0_2]) (t := 24) ?hr ?_; (case hd => rfl); (case hg => rfl); (case hr => first | (go_simp; done) | (go_simp; rfl)); intro gb515 hg w5 hbox hb; have n0_ := hb_ HB hb; have n1_ := Aside0.mk (hbox); have n2_ := Aside0.mk ((by rw [hg]; exact (below_size (hq_ HB)) : w.heap.size ≤ gb515)); have n3_ := Aside0.mk ((by rw [hg]; exact (below_size (hq_ HB)) : w.heap.size ≤ gb515)); clear HB; have HB := n0_; have BK515 := n1_; have GW515 := n2_; have GE515 := n3_; clear n0_ n1_ n2_ n3_; clear hb hbox hg))
 (try simp only [Act.put, List.setIfInBounds_toArray, List.set_cons_zero, List.set_cons_succ])
 go_cut [41] (fun v41 wc => ∃ (kq : Nat) (x41_3 : Bool), v41 = .bool x41_3 ∧ Aside0 (compositorlaw10_ScaleUniform.j0 kq a1 a2 x41_3 a0_0 a0_1 l0_2 = some true) ∧ Aside0 (kq ≤ k) ∧ Aside0 (wc.heap[gb515]? = some (.cells #[.int .i64 a0_0, .int .i64 a0_1, (.slice A0_2 l0_2.length c0_2)] 24 (0, 0))) ∧ Aside0 (Below w.heap.size w wc))
 case first =>
  have H := HC4.out
  clear HC4
  replace H := Option.bind_eq_some_iff.mp H
  obtain ⟨t516, A60, H⟩ := H
  try dsimp only at H
  have A6 := Aside0.mk A60
  clear A60
  by_cases c7 : t516 = true
  ·
   subst c7
   have H1 : ((compositorref10_Valid.f k a0_0 a0_1 l0_2).bind fun t517 => (if t517 = true then (if a1 < 1 then (compositorlaw10_ScaleUniform.j0 k a1 a2 true a0_0 a0_1 l0_2) else (if a1 > 12 then (compositorlaw10_ScaleUniform.j0 k a1 a2 true a0_0 a0_1 l0_2) else (if a2 < 1 then (compositorlaw10_ScaleUniform.j0 k a1 a2 true a0_0 a0_1 l0_2) else (compositorlaw10_ScaleUniform.j0 k a1 a2 (decide (a2 > 12)) a0_0 a0_1 l0_2)))) else (compositorlaw10_ScaleUniform.j0 k a1 a2 true a0_0 a0_1 l0_2))) = some true := by rw [if_pos rfl] at H; exact H
   clear H
   have H := H1
   clear H1
   replace H := Option.bind_eq_some_iff.mp H
   obtain ⟨t517, A80, H⟩ := H
   try dsimp only at H
   have A8 := Aside0.mk A80
   clear A80
   by_cases c9 : t517 = true
   ·
    subst c9
    have H1 : (if a1 < 1 then (compositorlaw10_ScaleUniform.j0 k a1 a2 true a0_0 a0_1 l0_2) else (if a1 > 12 then (compositorlaw10_ScaleUniform.j0 k a1 a2 true a0_0 a0_1 l0_2) else (if a2 < 1 then (compositorlaw10_ScaleUniform.j0 k a1 a2 true a0_0 a0_1 l0_2) else (compositorlaw10_ScaleUniform.j0 k a1 a2 (decide (a2 > 12)) a0_0 a0_1 l0_2)))) = some true := by rw [if_pos rfl] at H; exact H
    clear H
    have H := H1
    clear H1
    by_cases c10 : a1 < 1
    ·
     rw [if_pos c10] at H
     have c10b0 : decide (a1 < 1) = true := decide_eq_true c10
     clear c10
     (first | rw [c10b0] | (simp only [i64_w, i32_w]; rw [c10b0]) | skip)
     have H' := Aside0.mk H
     clear H
     have hcz11_0 : w5.cell? ⟨gb515, 0, none⟩ = some (.int .i64 a0_0) := (blk_cell BK515.out 0).trans rfl
     have hcz11_1 : w5.cell? ⟨gb515, 1, none⟩ = some (.int .i64 a0_1) := (blk_cell BK515.out 1).trans rfl
     have hcz11_2 : w5.cell? ⟨gb515, 2, none⟩ = some (.slice A0_2 l0_2.length c0_2) := (blk_cell BK515.out 2).trans rfl
     have hfz11_0 := blk_frozen BK515.out 0
     have hfz11_1 := blk_frozen BK515.out 1
     have hfz11_2 := blk_frozen BK515.out 2
     go_wp2_with (first | ((with_reducible refine gate_callee (f := 11) rfl ?_); refine goesL_ (some 19) rfl rfl Try.func11 (by kernel_rfl) rfl #[.agg #[.int .i64 a0_0, .int .i64 a0_1, .slice A0_2 l0_2.length c0_2], .int .i64 a1, .int .i64 a2] rfl (by (try simp only [List.map_toArray, List.map_cons, List.map_nil]) <;> rfl) ?_; (with_reducible refine (compositorlaw10_small.calls a0_0 a0_1 _ _ l0_2 a1 a2 true _ ?side1 ?side2 A6.out).mono ?_); (case side1 => repeat (first | exact (Kd.C_below HR0_2.out HB.out) | (with_reducible refine Kd.C_alloc ?_ _) | (with_reducible refine Kd.C_drewN ?_ _) | (with_reducible refine Kd.C_drew ?_))); (case side2 => exact HC0_2.out); rintro e w12 ⟨rfl, hb⟩; refine ⟨_, rfl, ?_⟩; have n0_ := bb_ BK515 hb; have n1_ := hb_ HB hb; clear BK515; clear HB; have BK515 := n0_; have HB := n1_; clear n0_ n1_; (try clear hb); (try clear hb2); (try clear hk); (try clear hi); have hcz13_0 : w12.cell? ⟨gb515, 0, none⟩ = some (.int .i64 a0_0) := (blk_cell BK515.out 0).trans rfl; have hcz13_1 : w12.cell? ⟨gb515, 1, none⟩ = some (.int .i64 a0_1) := (blk_cell BK515.out 1).trans rfl; have hcz13_2 : w12.cell? ⟨gb515, 2, none⟩ = some (.slice A0_2 l0_2.length c0_2) := (blk_cell BK515.out 2).trans rfl; have hfz13_0 := blk_frozen BK515.out 0; have hfz13_1 := blk_frozen BK515.out 1; have hfz13_2 := blk_frozen BK515.out 2) | (go_at_call 24; (with_reducible refine (compositorref10_Valid.calls k a0_0 a0_1 _ _ l0_2 true _ ?side1 ?side2 A8.out).mono ?_); (case side1 => repeat (first | exact (Kd.C_below HR0_2.out HB.out) | (with_reducible refine Kd.C_alloc ?_ _) | (with_reducible refine Kd.C_drewN ?_ _) | (with_reducible refine Kd.C_drew ?_))); (case side2 => exact HC0_2.out); rintro e w14 ⟨rfl, hb⟩; have n0_ := bb_ BK515 hb; have n1_ := hb_ HB hb; clear BK515; clear HB; have BK515 := n0_; have HB := n1_; clear n0_ n1_; (try clear hb); (try clear hb2); (try clear hk); (try clear hi)))
     go_meet
     case rel => exact ⟨_, (true), (by first | rfl | (simp; done) | (simp [*]; done)), H', ⟨by first | omega | exact Nat.le_refl _⟩, bf_ BK515, ⟨by repeat (first | (with_reducible first | exact HB.out | apply below_alloc | apply pw_below_drewN | apply below_drew1 | refine below_set ?_ GE515.out) | exact HB.out)⟩⟩
    ·
     rw [if_neg c10] at H
     have c10b0 : decide (a1 < 1) = false := decide_eq_false c10
     clear c10
     (first | rw [c10b0] | (simp only [i64_w, i32_w]; rw [c10b0]) | skip)
     by_cases c15 : a1 > 12
     ·
      rw [if_pos c15] at H
      have c15b0 : decide (12 < a1) = true := decide_eq_true c15
      clear c15
      have H' := Aside0.mk H
      clear H
      have hcz16_0 : w5.cell? ⟨gb515, 0, none⟩ = some (.int .i64 a0_0) := (blk_cell BK515.out 0).trans rfl
      have hcz16_1 : w5.cell? ⟨gb515, 1, none⟩ = some (.int .i64 a0_1) := (blk_cell BK515.out 1).trans rfl
      have hcz16_2 : w5.cell? ⟨gb515, 2, none⟩ = some (.slice A0_2 l0_2.length c0_2) := (blk_cell BK515.out 2).trans rfl
      have hfz16_0 := blk_frozen BK515.out 0
      have hfz16_1 := blk_frozen BK515.out 1
      have hfz16_2 := blk_frozen BK515.out 2
      go_wp2_with (first | ((with_reducible refine gate_callee (f := 11) rfl ?_); refine goesL_ (some 19) rfl rfl Try.func11 (by kernel_rfl) rfl #[.agg #[.int .i64 a0_0, .int .i64 a0_1, .slice A0_2 l0_2.length c0_2], .int .i64 a1, .int .i64 a2] rfl (by (try simp only [List.map_toArray, List.map_cons, List.map_nil]) <;> rfl) ?_; (with_reducible refine (compositorlaw10_small.calls a0_0 a0_1 _ _ l0_2 a1 a2 true _ ?side1 ?side2 A6.out).mono ?_); (case side1 => repeat (first | exact (Kd.C_below HR0_2.out HB.out) | (with_reducible refine Kd.C_alloc ?_ _) | (with_reducible refine Kd.C_drewN ?_ _) | (with_reducible refine Kd.C_drew ?_))); (case side2 => exact HC0_2.out); rintro e w17 ⟨rfl, hb⟩; refine ⟨_, rfl, ?_⟩; have n0_ := bb_ BK515 hb; have n1_ := hb_ HB hb; clear BK515; clear HB; have BK515 := n0_; have HB := n1_; clear n0_ n1_; (try clear hb); (try clear hb2); (try clear hk); (try clear hi); have hcz18_0 : w17.cell? ⟨gb515, 0, none⟩ = some (.int .i64 a0_0) := (blk_cell BK515.out 0).trans rfl; have hcz18_1 : w17.cell? ⟨gb515, 1, none⟩ = some (.int .i64 a0_1) := (blk_cell BK515.out 1).trans rfl; have hcz18_2 : w17.cell? ⟨gb515, 2, none⟩ = some (.slice A0_2 l0_2.length c0_2) := (blk_cell BK515.out 2).trans rfl; have hfz18_0 := blk_frozen BK515.out 0; have hfz18_1 := blk_frozen BK515.out 1; have hfz18_2 := blk_frozen BK515.out 2) | (go_at_call 24; (with_reducible refine (compositorref10_Valid.calls k a0_0 a0_1 _ _ l0_2 true _ ?side1 ?side2 A8.out).mono ?_); (case side1 => repeat (first | exact (Kd.C_below HR0_2.out HB.out) | (with_reducible refine Kd.C_alloc ?_ _) | (with_reducible refine Kd.C_drewN ?_ _) | (with_reducible refine Kd.C_drew ?_))); (case side2 => exact HC0_2.out); rintro e w19 ⟨rfl, hb⟩; have n0_ := bb_ BK515 hb; have n1_ := hb_ HB hb; clear BK515; clear HB; have BK515 := n0_; have HB := n1_; clear n0_ n1_; (try clear hb); (try clear hb2); (try clear hk); (try clear hi)))
      go_meet
      case rel => exact ⟨_, (true), (by first | rfl | (simp; done) | (simp [*]; done)), H', ⟨by first | omega | exact Nat.le_refl _⟩, bf_ BK515, ⟨by repeat (first | (with_reducible first | exact HB.out | apply below_alloc | apply pw_below_drewN | apply below_drew1 | refine below_set ?_ GE515.out) | exact HB.out)⟩⟩
     ·
      rw [if_neg c15] at H
      have c15b0 : decide (12 < a1) = false := decide_eq_false c15
      clear c15
      by_cases c20 : a2 < 1
      ·
       rw [if_pos c20] at H
       have c20b0 : decide (a2 < 1) = true := decide_eq_true c20
       clear c20
       have H' := Aside0.mk H
       clear H
       have hcz21_0 : w5.cell? ⟨gb515, 0, none⟩ = some (.int .i64 a0_0) := (blk_cell BK515.out 0).trans rfl
       have hcz21_1 : w5.cell? ⟨gb515, 1, none⟩ = some (.int .i64 a0_1) := (blk_cell BK515.out 1).trans rfl
       have hcz21_2 : w5.cell? ⟨gb515, 2, none⟩ = some (.slice A0_2 l0_2.length c0_2) := (blk_cell BK515.out 2).trans rfl
       have hfz21_0 := blk_frozen BK515.out 0
       have hfz21_1 := blk_frozen BK515.out 1
       have hfz21_2 := blk_frozen BK515.out 2
       go_wp2_with (first | ((with_reducible refine gate_callee (f := 11) rfl ?_); refine goesL_ (some 19) rfl rfl Try.func11 (by kernel_rfl) rfl #[.agg #[.int .i64 a0_0, .int .i64 a0_1, .slice A0_2 l0_2.length c0_2], .int .i64 a1, .int .i64 a2] rfl (by (try simp only [List.map_toArray, List.map_cons, List.map_nil]) <;> rfl) ?_; (with_reducible refine (compositorlaw10_small.calls a0_0 a0_1 _ _ l0_2 a1 a2 true _ ?side1 ?side2 A6.out).mono ?_); (case side1 => repeat (first | exact (Kd.C_below HR0_2.out HB.out) | (with_reducible refine Kd.C_alloc ?_ _) | (with_reducible refine Kd.C_drewN ?_ _) | (with_reducible refine Kd.C_drew ?_))); (case side2 => exact HC0_2.out); rintro e w22 ⟨rfl, hb⟩; refine ⟨_, rfl, ?_⟩; have n0_ := bb_ BK515 hb; have n1_ := hb_ HB hb; clear BK515; clear HB; have BK515 := n0_; have HB := n1_; clear n0_ n1_; (try clear hb); (try clear hb2); (try clear hk); (try clear hi); have hcz23_0 : w22.cell? ⟨gb515, 0, none⟩ = some (.int .i64 a0_0) := (blk_cell BK515.out 0).trans rfl; have hcz23_1 : w22.cell? ⟨gb515, 1, none⟩ = some (.int .i64 a0_1) := (blk_cell BK515.out 1).trans rfl; have hcz23_2 : w22.cell? ⟨gb515, 2, none⟩ = some (.slice A0_2 l0_2.length c0_2) := (blk_cell BK515.out 2).trans rfl; have hfz23_0 := blk_frozen BK515.out 0; have hfz23_1 := blk_frozen BK515.out 1; have hfz23_2 := blk_frozen BK515.out 2) | (go_at_call 24; (with_reducible refine (compositorref10_Valid.calls k a0_0 a0_1 _ _ l0_2 true _ ?side1 ?side2 A8.out).mono ?_); (case side1 => repeat (first | exact (Kd.C_below HR0_2.out HB.out) | (with_reducible refine Kd.C_alloc ?_ _) | (with_reducible refine Kd.C_drewN ?_ _) | (with_reducible refine Kd.C_drew ?_))); (case side2 => exact HC0_2.out); rintro e w24 ⟨rfl, hb⟩; have n0_ := bb_ BK515 hb; have n1_ := hb_ HB hb; clear BK515; clear HB; have BK515 := n0_; have HB := n1_; clear n0_ n1_; (try clear hb); (try clear hb2); (try clear hk); (try clear hi)))
       go_meet
       case rel => exact ⟨_, (true), (by first | rfl | (simp; done) | (simp [*]; done)), H', ⟨by first | omega | exact Nat.le_refl _⟩, bf_ BK515, ⟨by repeat (first | (with_reducible first | exact HB.out | apply below_alloc | apply pw_below_drewN | apply below_drew1 | refine below_set ?_ GE515.out) | exact HB.out)⟩⟩
      ·
       rw [if_neg c20] at H
       have c20b0 : decide (a2 < 1) = false := decide_eq_false c20
       clear c20
       have H' := Aside0.mk H
       clear H
       have hcz25_0 : w5.cell? ⟨gb515, 0, none⟩ = some (.int .i64 a0_0) := (blk_cell BK515.out 0).trans rfl
       have hcz25_1 : w5.cell? ⟨gb515, 1, none⟩ = some (.int .i64 a0_1) := (blk_cell BK515.out 1).trans rfl
       have hcz25_2 : w5.cell? ⟨gb515, 2, none⟩ = some (.slice A0_2 l0_2.length c0_2) := (blk_cell BK515.out 2).trans rfl
       have hfz25_0 := blk_frozen BK515.out 0
       have hfz25_1 := blk_frozen BK515.out 1
       have hfz25_2 := blk_frozen BK515.out 2
       go_wp2_with (first | ((with_reducible refine gate_callee (f := 11) rfl ?_); refine goesL_ (some 19) rfl rfl Try.func11 (by kernel_rfl) rfl #[.agg #[.int .i64 a0_0, .int .i64 a0_1, .slice A0_2 l0_2.length c0_2], .int .i64 a1, .int .i64 a2] rfl (by (try simp only [List.map_toArray, List.map_cons, List.map_nil]) <;> rfl) ?_; (with_reducible refine (compositorlaw10_small.calls a0_0 a0_1 _ _ l0_2 a1 a2 true _ ?side1 ?side2 A6.out).mono ?_); (case side1 => repeat (first | exact (Kd.C_below HR0_2.out HB.out) | (with_reducible refine Kd.C_alloc ?_ _) | (with_reducible refine Kd.C_drewN ?_ _) | (with_reducible refine Kd.C_drew ?_))); (case side2 => exact HC0_2.out); rintro e w26 ⟨rfl, hb⟩; refine ⟨_, rfl, ?_⟩; have n0_ := bb_ BK515 hb; have n1_ := hb_ HB hb; clear BK515; clear HB; have BK515 := n0_; have HB := n1_; clear n0_ n1_; (try clear hb); (try clear hb2); (try clear hk); (try clear hi); have hcz27_0 : w26.cell? ⟨gb515, 0, none⟩ = some (.int .i64 a0_0) := (blk_cell BK515.out 0).trans rfl; have hcz27_1 : w26.cell? ⟨gb515, 1, none⟩ = some (.int .i64 a0_1) := (blk_cell BK515.out 1).trans rfl; have hcz27_2 : w26.cell? ⟨gb515, 2, none⟩ = some (.slice A0_2 l0_2.length c0_2) := (blk_cell BK515.out 2).trans rfl; have hfz27_0 := blk_frozen BK515.out 0; have hfz27_1 := blk_frozen BK515.out 1; have hfz27_2 := blk_frozen BK515.out 2) | (go_at_call 24; (with_reducible refine (compositorref10_Valid.calls k a0_0 a0_1 _ _ l0_2 true _ ?side1 ?side2 A8.out).mono ?_); (case side1 => repeat (first | exact (Kd.C_below HR0_2.out HB.out) | (with_reducible refine Kd.C_alloc ?_ _) | (with_reducible refine Kd.C_drewN ?_ _) | (with_reducible refine Kd.C_drew ?_))); (case side2 => exact HC0_2.out); rintro e w28 ⟨rfl, hb⟩; have n0_ := bb_ BK515 hb; have n1_ := hb_ HB hb; clear BK515; clear HB; have BK515 := n0_; have HB := n1_; clear n0_ n1_; (try clear hb); (try clear hb2); (try clear hk); (try clear hi)))
       go_meet
       case rel => exact ⟨_, (decide (a2 > 12)), (by first | rfl | (simp; done) | (simp [*]; done)), H', ⟨by first | omega | exact Nat.le_refl _⟩, bf_ BK515, ⟨by repeat (first | (with_reducible first | exact HB.out | apply below_alloc | apply pw_below_drewN | apply below_drew1 | refine below_set ?_ GE515.out) | exact HB.out)⟩⟩
   ·
    replace c9 := Bool.eq_false_iff.mpr c9
    subst c9
    have H1 : (compositorlaw10_ScaleUniform.j0 k a1 a2 true a0_0 a0_1 l0_2) = some true := by rw [if_neg (show ¬ (false = true) by decide)] at H; exact H
    clear H
    have H := H1
    clear H1
    have H' := Aside0.mk H
    clear H
    have hcz29_0 : w5.cell? ⟨gb515, 0, none⟩ = some (.int .i64 a0_0) := (blk_cell BK515.out 0).trans rfl
    have hcz29_1 : w5.cell? ⟨gb515, 1, none⟩ = some (.int .i64 a0_1) := (blk_cell BK515.out 1).trans rfl
    have hcz29_2 : w5.cell? ⟨gb515, 2, none⟩ = some (.slice A0_2 l0_2.length c0_2) := (blk_cell BK515.out 2).trans rfl
    have hfz29_0 := blk_frozen BK515.out 0
    have hfz29_1 := blk_frozen BK515.out 1
    have hfz29_2 := blk_frozen BK515.out 2
    go_wp2_with (first | ((with_reducible refine gate_callee (f := 11) rfl ?_); refine goesL_ (some 19) rfl rfl Try.func11 (by kernel_rfl) rfl #[.agg #[.int .i64 a0_0, .int .i64 a0_1, .slice A0_2 l0_2.length c0_2], .int .i64 a1, .int .i64 a2] rfl (by (try simp only [List.map_toArray, List.map_cons, List.map_nil]) <;> rfl) ?_; (with_reducible refine (compositorlaw10_small.calls a0_0 a0_1 _ _ l0_2 a1 a2 true _ ?side1 ?side2 A6.out).mono ?_); (case side1 => repeat (first | exact (Kd.C_below HR0_2.out HB.out) | (with_reducible refine Kd.C_alloc ?_ _) | (with_reducible refine Kd.C_drewN ?_ _) | (with_reducible refine Kd.C_drew ?_))); (case side2 => exact HC0_2.out); rintro e w30 ⟨rfl, hb⟩; refine ⟨_, rfl, ?_⟩; have n0_ := bb_ BK515 hb; have n1_ := hb_ HB hb; clear BK515; clear HB; have BK515 := n0_; have HB := n1_; clear n0_ n1_; (try clear hb); (try clear hb2); (try clear hk); (try clear hi); have hcz31_0 : w30.cell? ⟨gb515, 0, none⟩ = some (.int .i64 a0_0) := (blk_cell BK515.out 0).trans rfl; have hcz31_1 : w30.cell? ⟨gb515, 1, none⟩ = some (.int .i64 a0_1) := (blk_cell BK515.out 1).trans rfl; have hcz31_2 : w30.cell? ⟨gb515, 2, none⟩ = some (.slice A0_2 l0_2.length c0_2) := (blk_cell BK515.out 2).trans rfl; have hfz31_0 := blk_frozen BK515.out 0; have hfz31_1 := blk_frozen BK515.out 1; have hfz31_2 := blk_frozen BK515.out 2) | (go_at_call 24; (with_reducible refine (compositorref10_Valid.calls k a0_0 a0_1 _ _ l0_2 false _ ?side1 ?side2 A8.out).mono ?_); (case side1 => repeat (first | exact (Kd.C_below HR0_2.out HB.out) | (with_reducible refine Kd.C_alloc ?_ _) | (with_reducible refine Kd.C_drewN ?_ _) | (with_reducible refine Kd.C_drew ?_))); (case side2 => exact HC0_2.out); rintro e w32 ⟨rfl, hb⟩; have n0_ := bb_ BK515 hb; have n1_ := hb_ HB hb; clear BK515; clear HB; have BK515 := n0_; have HB := n1_; clear n0_ n1_; (try clear hb); (try clear hb2); (try clear hk); (try clear hi)))
    go_meet
    case rel => exact ⟨_, (true), (by first | rfl | (simp; done) | (simp [*]; done)), H', ⟨by first | omega | exact Nat.le_refl _⟩, bf_ BK515, ⟨by repeat (first | (with_reducible first | exact HB.out | apply below_alloc | apply pw_below_drewN | apply below_drew1 | refine below_set ?_ GE515.out) | exact HB.out)⟩⟩
  ·
   replace c7 := Bool.eq_false_iff.mpr c7
   subst c7
   have H1 : (compositorlaw10_ScaleUniform.j0 k a1 a2 true a0_0 a0_1 l0_2) = some true := by rw [if_neg (show ¬ (false = true) by decide)] at H; exact H
   clear H
   have H := H1
   clear H1
   have H' := Aside0.mk H
   clear H
   have hcz33_0 : w5.cell? ⟨gb515, 0, none⟩ = some (.int .i64 a0_0) := (blk_cell BK515.out 0).trans rfl
   have hcz33_1 : w5.cell? ⟨gb515, 1, none⟩ = some (.int .i64 a0_1) := (blk_cell BK515.out 1).trans rfl
   have hcz33_2 : w5.cell? ⟨gb515, 2, none⟩ = some (.slice A0_2 l0_2.length c0_2) := (blk_cell BK515.out 2).trans rfl
   have hfz33_0 := blk_frozen BK515.out 0
   have hfz33_1 := blk_frozen BK515.out 1
   have hfz33_2 := blk_frozen BK515.out 2
   go_wp2_with (first | ((with_reducible refine gate_callee (f := 11) rfl ?_); refine goesL_ (some 19) rfl rfl Try.func11 (by kernel_rfl) rfl #[.agg #[.int .i64 a0_0, .int .i64 a0_1, .slice A0_2 l0_2.length c0_2], .int .i64 a1, .int .i64 a2] rfl (by (try simp only [List.map_toArray, List.map_cons, List.map_nil]) <;> rfl) ?_; (with_reducible refine (compositorlaw10_small.calls a0_0 a0_1 _ _ l0_2 a1 a2 false _ ?side1 ?side2 A6.out).mono ?_); (case side1 => repeat (first | exact (Kd.C_below HR0_2.out HB.out) | (with_reducible refine Kd.C_alloc ?_ _) | (with_reducible refine Kd.C_drewN ?_ _) | (with_reducible refine Kd.C_drew ?_))); (case side2 => exact HC0_2.out); rintro e w34 ⟨rfl, hb⟩; refine ⟨_, rfl, ?_⟩; have n0_ := bb_ BK515 hb; have n1_ := hb_ HB hb; clear BK515; clear HB; have BK515 := n0_; have HB := n1_; clear n0_ n1_; (try clear hb); (try clear hb2); (try clear hk); (try clear hi)))
   go_meet
   case rel => exact ⟨_, (true), (by first | rfl | (simp; done) | (simp [*]; done)), H', ⟨by first | omega | exact Nat.le_refl _⟩, bf_ BK515, ⟨by repeat (first | (with_reducible first | exact HB.out | apply below_alloc | apply pw_below_drewN | apply below_drew1 | refine below_set ?_ GE515.out) | exact HB.out)⟩⟩
 case rest =>
  clear HC4
  try clear c1
  try clear c2
  try clear p2
  try clear c7
  try clear c9
  try clear c10
  try clear c10b0
  try clear c11
  try clear c15
  try clear c15b0
  try clear c20
  try clear c20b0
  try clear hcz11_0
  try clear hcz11_1
  try clear hcz11_2
  try clear hcz13_0
  try clear hcz13_1
  try clear hcz13_2
  try clear hcz16_0
  try clear hcz16_1
  try clear hcz16_2
  try clear hcz18_0
  try clear hcz18_1
  try clear hcz18_2
  try clear hcz21_0
  try clear hcz21_1
  try clear hcz21_2
  try clear hcz23_0
  try clear hcz23_1
  try clear hcz23_2
  try clear hcz25_0
  try clear hcz25_1
  try clear hcz25_2
  try clear hcz27_0
  try clear hcz27_1
  try clear hcz27_2
  try clear hcz29_0
  try clear hcz29_1
  try clear hcz29_2
  try clear hcz31_0
  try clear hcz31_1
  try clear hcz31_2
  try clear hcz33_0
  try clear hcz33_1
  try clear hcz33_2
  try clear hfz11_0
  try clear hfz11_1
  try clear hfz11_2
  try clear hfz13_0
  try clear hfz13_1
  try clear hfz13_2
  try clear hfz16_0
  try clear hfz16_1
  try clear hfz16_2
  try clear hfz18_0
  try clear hfz18_1
  try clear hfz18_2
  try clear hfz21_0
  try clear hfz21_1
  try clear hfz21_2
  try clear hfz23_0
  try clear hfz23_1
  try clear hfz23_2
  try clear hfz25_0
  try clear hfz25_1
  try clear hfz25_2
  try clear hfz27_0
  try clear hfz27_1
  try clear hfz27_2
  try clear hfz29_0
  try clear hfz29_1
  try clear hfz29_2
  try clear hfz31_0
  try clear hfz31_1
  try clear hfz31_2
  try clear hfz33_0
  try clear hfz33_1
  try clear hfz33_2
  obtain ⟨kq, x41_3, rfl, HA, HJ3, BK515, HB⟩ := hcut
  cases kq with
  | zero => exact absurd HA.out (by simp [compositorlaw10_ScaleUniform.j0])
  | succ kj3 =>
   have H := HA.out
   clear HA
   simp only [compositorlaw10_ScaleUniform.j0] at H
   by_cases c35 : x41_3 = true
   ·
    subst c35
    have H1 : ((compositorlaw10_exampleHolds.f kj3).bind fun t518 => (some t518)) = some true := by rw [if_pos rfl] at H; exact H
    clear H
    have H := H1
    clear H1
    replace H := Option.bind_eq_some_iff.mp H
    obtain ⟨t518, A360, H⟩ := H
    try dsimp only at H
    have A36 := Aside0.mk A360
    clear A360
    have Hq_ := Option.some.inj H
    go_wp2_with (first | ((with_reducible refine gate_callee (f := 12) rfl ?_); refine goesL_ (some 42) rfl rfl Try.func12 (by kernel_rfl) rfl #[] rfl (by (try simp only [List.map_toArray, List.map_cons, List.map_nil]) <;> rfl) ?_; (with_reducible refine (compositorlaw10_exampleHolds.calls kj3  t518 _ A36.out).mono ?_); rintro e w37 ⟨rfl, hb⟩; refine ⟨_, rfl, ?_⟩; have n0_ := bb_ BK515 hb; have n1_ := hb_ HB hb; clear BK515; clear HB; have BK515 := n0_; have HB := n1_; clear n0_ n1_; (try clear hb); (try clear hb2); (try clear hk); (try clear hi)))
    go_ret
    exact ⟨by first | rfl | (simp [errW_none, errW_some] <;> rfl) | (simp [*, errW_none, errW_some] <;> rfl), by repeat (first | (with_reducible first | exact HB.out | apply below_alloc | apply pw_below_drewN | apply below_drew1 | refine below_set ?_ GE515.out) | exact HB.out)⟩
   ·
    replace c35 := Bool.eq_false_iff.mpr c35
    subst c35
    have H1 : (if 0 < (l0_2.length : Int) then (compositorlaw10_ScaleUniform.l0 kj3 a1 a2 0 a0_0 a0_1 l0_2 ((rd_T43 l0_2 0).f0) ((rd_T43 l0_2 0).f1) ((rd_T43 l0_2 0).f2) ((rd_T43 l0_2 0).f3) ((rd_T43 l0_2 0).f0) ((rd_T43 l0_2 0).f1) ((rd_T43 l0_2 0).f2) ((rd_T43 l0_2 0).f3)) else (none)) = some true := by rw [if_neg (show ¬ (false = true) by decide)] at H; exact H
    clear H
    have H := H1
    clear H1
    by_cases c38 : 0 < (l0_2.length : Int)
    ·
     rw [if_pos c38] at H
     have c38b0 : decide (0 < (l0_2.length : Int)) = true := decide_eq_true c38
     have c38b1 : decide (0 < l0_2.length) = true := decide_eq_true (by omega)
     clear c38
     have H' := Aside0.mk H
     clear H
     try go_wp2
     replace BK515 := Aside0.mk (blk_drew BK515.out)
     replace HB := Aside0.mk (below_drew1 HB.out)
     have p519 : 0 ≤ (0 : Int) := (by omega)
     have q519 : 0 < (l0_2.length : Int) := of_decide_eq_true (by first | (with_reducible assumption) | assumption)
     obtain ⟨ad519, e519, hx519_0, hx519_1, hx519_2, hx519_3⟩ := at_T43 HR0_2.out 0 p519 q519
     have hw519_3 := hx519_3
     (try rw [show ((0 : Int)).toNat = 0 from rfl] at hw519_3)
     (try rw [show 0 * 4 = 0 from rfl] at hw519_3)
     (try rw [Addr.add_zero'] at hw519_3)
     have hw519_2 := hx519_2
     (try rw [show ((0 : Int)).toNat = 0 from rfl] at hw519_2)
     (try rw [show 0 * 4 = 0 from rfl] at hw519_2)
     (try rw [Addr.add_zero'] at hw519_2)
     have hw519_1 := hx519_1
     (try rw [show ((0 : Int)).toNat = 0 from rfl] at hw519_1)
     (try rw [show 0 * 4 = 0 from rfl] at hw519_1)
     (try rw [Addr.add_zero'] at hw519_1)
     have hw519_0 := hx519_0
     (try rw [show ((0 : Int)).toNat = 0 from rfl] at hw519_0)
     (try rw [show 0 * 4 = 0 from rfl] at hw519_0)
     (try rw [Addr.add_zero'] at hw519_0)
     cases e519
     have qi519 : (0 < l0_2.length) = True := eq_true (by omega)
     (try rw [show ((0 : Int)).toNat = 0 from rfl] at hx519_0)
     (try rw [show 0 * 4 = 0 from rfl] at hx519_0)
     (try rw [Addr.add_zero'] at hx519_0)
     (try rw [show ((0 : Int)).toNat = 0 from rfl] at hx519_1)
     (try rw [show 0 * 4 = 0 from rfl] at hx519_1)
     (try rw [Addr.add_zero'] at hx519_1)
     (try rw [show ((0 : Int)).toNat = 0 from rfl] at hx519_2)
     (try rw [show 0 * 4 = 0 from rfl] at hx519_2)
     (try rw [Addr.add_zero'] at hx519_2)
     (try rw [show ((0 : Int)).toNat = 0 from rfl] at hx519_3)
     (try rw [show 0 * 4 = 0 from rfl] at hx519_3)
     (try rw [Addr.add_zero'] at hx519_3)
     replace hx519_0 := (HB.out.cell (World.block_lt_of_cell? w _ hx519_0)).trans hx519_0
     replace hx519_1 := (HB.out.cell (World.block_lt_of_cell? w _ hx519_1)).trans hx519_1
     replace hx519_2 := (HB.out.cell (World.block_lt_of_cell? w _ hx519_2)).trans hx519_2
     replace hx519_3 := (HB.out.cell (World.block_lt_of_cell? w _ hx519_3)).trans hx519_3
     replace p519 := eq_true p519
     replace q519 := eq_true q519
     have p520 : 0 ≤ (0 : Int) := (by omega)
     have q520 : 0 < (l0_2.length : Int) := of_decide_eq_true (by first | (with_reducible assumption) | assumption)
     obtain ⟨ad520, e520, hx520_0, hx520_1, hx520_2, hx520_3⟩ := at_T43 HR0_2.out 0 p520 q520
     have hw520_3 := hx520_3
     (try rw [show ((0 : Int)).toNat = 0 from rfl] at hw520_3)
     (try rw [show 0 * 4 = 0 from rfl] at hw520_3)
     (try rw [Addr.add_zero'] at hw520_3)
     have hw520_2 := hx520_2
     (try rw [show ((0 : Int)).toNat = 0 from rfl] at hw520_2)
     (try rw [show 0 * 4 = 0 from rfl] at hw520_2)
     (try rw [Addr.add_zero'] at hw520_2)
     have hw520_1 := hx520_1
     (try rw [show ((0 : Int)).toNat = 0 from rfl] at hw520_1)
     (try rw [show 0 * 4 = 0 from rfl] at hw520_1)
     (try rw [Addr.add_zero'] at hw520_1)
     have hw520_0 := hx520_0
     (try rw [show ((0 : Int)).toNat = 0 from rfl] at hw520_0)
     (try rw [show 0 * 4 = 0 from rfl] at hw520_0)
     (try rw [Addr.add_zero'] at hw520_0)
     obtain rfl : ad519 = ad520 := (by injection e520)
     have qi520 : (0 < l0_2.length) = True := eq_true (by omega)
     (try rw [show ((0 : Int)).toNat = 0 from rfl] at hx520_0)
     (try rw [show 0 * 4 = 0 from rfl] at hx520_0)
     (try rw [Addr.add_zero'] at hx520_0)
     (try rw [show ((0 : Int)).toNat = 0 from rfl] at hx520_1)
     (try rw [show 0 * 4 = 0 from rfl] at hx520_1)
     (try rw [Addr.add_zero'] at hx520_1)
     (try rw [show ((0 : Int)).toNat = 0 from rfl] at hx520_2)
     (try rw [show 0 * 4 = 0 from rfl] at hx520_2)
     (try rw [Addr.add_zero'] at hx520_2)
     (try rw [show ((0 : Int)).toNat = 0 from rfl] at hx520_3)
     (try rw [show 0 * 4 = 0 from rfl] at hx520_3)
     (try rw [Addr.add_zero'] at hx520_3)
     replace hx520_0 := (HB.out.cell (World.block_lt_of_cell? w _ hx520_0)).trans hx520_0
     replace hx520_1 := (HB.out.cell (World.block_lt_of_cell? w _ hx520_1)).trans hx520_1
     replace hx520_2 := (HB.out.cell (World.block_lt_of_cell? w _ hx520_2)).trans hx520_2
     replace hx520_3 := (HB.out.cell (World.block_lt_of_cell? w _ hx520_3)).trans hx520_3
     replace p520 := eq_true p520
     replace q520 := eq_true q520
     refine start_ (n := 12) (S := fun w' => w'.cell? ⟨gb515, 0, none⟩ = some (.int .i64 a0_0) ∧ w'.cell? ⟨gb515, 1, none⟩ = some (.int .i64 a0_1) ∧ w'.cell? ⟨gb515, 2, none⟩ = some (.slice (some ad519) l0_2.length c0_2) ∧ w'.cell? ad519 = some (.int .u8 ((rd_T43 l0_2 0).f0)) ∧ w'.cell? ⟨ad519.block, ad519.off + 1, none⟩ = some (.int .u8 ((rd_T43 l0_2 0).f1)) ∧ w'.cell? ⟨ad519.block, ad519.off + 2, none⟩ = some (.int .u8 ((rd_T43 l0_2 0).f2)) ∧ w'.cell? ⟨ad519.block, ad519.off + 3, none⟩ = some (.int .u8 ((rd_T43 l0_2 0).f3)) ∧ w'.cell? ad519 = some (.int .u8 ((rd_T43 l0_2 0).f0)) ∧ w'.cell? ⟨ad519.block, ad519.off + 1, none⟩ = some (.int .u8 ((rd_T43 l0_2 0).f1)) ∧ w'.cell? ⟨ad519.block, ad519.off + 2, none⟩ = some (.int .u8 ((rd_T43 l0_2 0).f2)) ∧ w'.cell? ⟨ad519.block, ad519.off + 3, none⟩ = some (.int .u8 ((rd_T43 l0_2 0).f3))) (ds := []) zq9.q0 (by kernel_rfl) rfl rfl ⟨(blk_cell BK515.out 0).trans rfl, (blk_cell BK515.out 1).trans rfl, (blk_cell BK515.out 2).trans rfl, ((HB.out.cell (World.block_lt_of_cell? w _ hw519_0)).trans hw519_0), ((HB.out.cell (World.block_lt_of_cell? w _ hw519_1)).trans hw519_1), ((HB.out.cell (World.block_lt_of_cell? w _ hw519_2)).trans hw519_2), ((HB.out.cell (World.block_lt_of_cell? w _ hw519_3)).trans hw519_3), ((HB.out.cell (World.block_lt_of_cell? w _ hw520_0)).trans hw520_0), ((HB.out.cell (World.block_lt_of_cell? w _ hw520_1)).trans hw520_1), ((HB.out.cell (World.block_lt_of_cell? w _ hw520_2)).trans hw520_2), ((HB.out.cell (World.block_lt_of_cell? w _ hw520_3)).trans hw520_3)⟩ (fun hHeld => ?_); refine with_tabW compositorlaw10_ScaleUniform.tab3 compositorlaw10_ScaleUniform.bits3 (fun HT_ HW_ => ?_)
     generalize wc.drew = w39 at BK515 HB hx519_0 hx519_1 hx519_2 hx519_3 hx520_0 hx520_1 hx520_2 hx520_3 hHeld ⊢
     refine pv_ 0 43 zq9.q1 HT_ ?_
     refine pv_ 4 47 zq9.q2 HT_ ?_
     refine take_ (i := 1) (N := some 44) (v := ?_) (a' := ?_) zq9.q3 rfl rfl (take_ofW HT_.out HW_.out (by kernel_rfl)) (fun _ _ _ h => h) (Or.inl ⟨by rfl, ?_⟩) hHeld ?_ ?_
     rotate_left
     ·
      rintro w' ⟨s0, s1, s2, s3, s4, s5, s6, s7, s8, s9, s10⟩
      go_simp
      with_reducible rfl
     rotate_left
     ·
      simp only [Act.put, List.setIfInBounds_toArray, List.set_cons_zero, List.set_cons_succ, i64_w, i32_w]
      rfl
     refine pv_ 2 45 zq9.q4 HT_ ?_
     refine take_ (i := 3) (N := some 46) (v := ?_) (a' := ?_) zq9.q5 rfl rfl (take_ofW HT_.out HW_.out (by kernel_rfl)) (fun _ _ _ h => h) (Or.inl ⟨by rfl, ?_⟩) hHeld ?_ ?_
     rotate_left
     ·
      rintro w' ⟨s0, s1, s2, s3, s4, s5, s6, s7, s8, s9, s10⟩
      go_simp
      with_reducible rfl
     rotate_left
     ·
      simp only [Act.put, List.setIfInBounds_toArray, List.set_cons_zero, List.set_cons_succ, i64_w, i32_w]
      rfl
     refine take_ (i := 5) (N := some 48) (v := ?_) (a' := ?_) zq9.q6 rfl rfl (take_ofW HT_.out HW_.out (by kernel_rfl)) (fun _ _ _ h => h) (Or.inl ⟨by rfl, ?_⟩) hHeld ?_ ?_
     rotate_left
     ·
      rintro w' ⟨s0, s1, s2, s3, s4, s5, s6, s7, s8, s9, s10⟩
      go_simp
      with_reducible rfl
     rotate_left
     ·
      simp only [Act.put, List.setIfInBounds_toArray, List.set_cons_zero, List.set_cons_succ, i64_w, i32_w]
      rfl
     refine pv_ 6 49 zq9.q7 HT_ ?_
     refine take_ (i := 7) (N := some 50) (v := ?_) (a' := ?_) zq9.q8 rfl rfl (take_ofW HT_.out HW_.out (by kernel_rfl)) (fun _ _ _ h => h) (Or.inl ⟨by rfl, ?_⟩) hHeld ?_ ?_
     rotate_left
     ·
      rintro w' ⟨s0, s1, s2, s3, s4, s5, s6, s7, s8, s9, s10⟩
      go_simp
      with_reducible rfl
     rotate_left
     ·
      simp only [Act.put, List.setIfInBounds_toArray, List.set_cons_zero, List.set_cons_succ, i64_w, i32_w]
      rfl
     refine join_ (σ := Nat × Nat) 2 zq9.q9 (fun s_ => [(7, .pointer (some ⟨s_.1, 0, none⟩)), (8, .pointer (some ⟨s_.2, 0, none⟩))]) (fun s_ w' => (w'.cell? ⟨gb515, 0, none⟩ = some (.int .i64 a0_0) ∧ w'.cell? ⟨gb515, 1, none⟩ = some (.int .i64 a0_1) ∧ w'.cell? ⟨gb515, 2, none⟩ = some (.slice (some ad519) l0_2.length c0_2) ∧ w'.cell? ad519 = some (.int .u8 ((rd_T43 l0_2 0).f0)) ∧ w'.cell? ⟨ad519.block, ad519.off + 1, none⟩ = some (.int .u8 ((rd_T43 l0_2 0).f1)) ∧ w'.cell? ⟨ad519.block, ad519.off + 2, none⟩ = some (.int .u8 ((rd_T43 l0_2 0).f2)) ∧ w'.cell? ⟨ad519.block, ad519.off + 3, none⟩ = some (.int .u8 ((rd_T43 l0_2 0).f3)) ∧ w'.cell? ad519 = some (.int .u8 ((rd_T43 l0_2 0).f0)) ∧ w'.cell? ⟨ad519.block, ad519.off + 1, none⟩ = some (.int .u8 ((rd_T43 l0_2 0).f1)) ∧ w'.cell? ⟨ad519.block, ad519.off + 2, none⟩ = some (.int .u8 ((rd_T43 l0_2 0).f2)) ∧ w'.cell? ⟨ad519.block, ad519.off + 3, none⟩ = some (.int .u8 ((rd_T43 l0_2 0).f3))) ∧ (w'.heap[gb515]? = some (.cells #[.int .i64 a0_0, .int .i64 a0_1, .slice (some ad519) l0_2.length c0_2] 24 (0, 0))) ∧ (w'.heap[s_.1]? = some (.cells #[.int .u8 0, .int .u8 0, .int .u8 0, .int .u8 0] 43 (0, 0))) ∧ (w'.heap[s_.2]? = some (.cells #[.int .u8 0, .int .u8 0, .int .u8 0, .int .u8 0] 43 (0, 0))) ∧ (w.heap.size ≤ s_.1) ∧ (w.heap.size ≤ s_.1) ∧ (gb515 ≠ s_.1) ∧ (s_.1 ≠ gb515) ∧ (s_.2 ≠ s_.1) ∧ (s_.1 ≠ s_.2) ∧ (w.heap.size ≤ s_.2) ∧ (w.heap.size ≤ s_.2) ∧ (gb515 ≠ s_.2) ∧ (s_.2 ≠ gb515) ∧ (Below w.heap.size w w')) ?_ ?_
     rotate_left
     ·
      intro hCont
      refine two_ (i := 8) (j := 9) (Ni := some 7) (Nj := some 8) zq9.q10 zq9.q11 rfl rfl rfl rfl (two_of HT_.out (by kernel_rfl)) (by decide) (by decide) (fun K hK => ?_) (fun K hK => ?_)
      ·
       refine box_step ?hg (N := 7) ?hd (cs := #[.int .u8 0, .int .u8 0, .int .u8 0, .int .u8 0]) (t := 43) ?hr ?_; (case hd => rfl); (case hg => rfl); (case hr => first | (go_simp; done) | (go_simp; rfl))
       intro gb521 hg w40 hbox hb
       have BK521 := Aside0.mk (hbox)
       have GW521 := Aside0.mk ((by rw [hg]; exact (below_size (hq_ HB)) : w.heap.size ≤ gb521))
       have GE521 := Aside0.mk ((by rw [hg]; exact (below_size (hq_ HB)) : w.heap.size ≤ gb521))
       replace HB := hb_ HB hb
       have NB515_521 := Aside0.mk ((by rw [hg]; exact Nat.ne_of_lt (blk_lt (g := gb515) (o := .cells #[.int .i64 a0_0, .int .i64 a0_1, .slice (some ad519) l0_2.length c0_2] 24 (0, 0)) (bq_ BK515)) : gb515 ≠ gb521))
       have NB521_515 := Aside0.mk ((by rw [hg]; exact Nat.ne_of_gt (blk_lt (g := gb515) (o := .cells #[.int .i64 a0_0, .int .i64 a0_1, .slice (some ad519) l0_2.length c0_2] 24 (0, 0)) (bq_ BK515)) : gb521 ≠ gb515))
       replace BK515 := bb_ BK515 hb
       clear hb hbox hg
       refine hK.out _ _ ⟨(blk_cell BK515.out 0).trans rfl, (blk_cell BK515.out 1).trans rfl, (blk_cell BK515.out 2).trans rfl, ((HB.out.cell (World.block_lt_of_cell? w _ hw519_0)).trans hw519_0), ((HB.out.cell (World.block_lt_of_cell? w _ hw519_1)).trans hw519_1), ((HB.out.cell (World.block_lt_of_cell? w _ hw519_2)).trans hw519_2), ((HB.out.cell (World.block_lt_of_cell? w _ hw519_3)).trans hw519_3), ((HB.out.cell (World.block_lt_of_cell? w _ hw520_0)).trans hw520_0), ((HB.out.cell (World.block_lt_of_cell? w _ hw520_1)).trans hw520_1), ((HB.out.cell (World.block_lt_of_cell? w _ hw520_2)).trans hw520_2), ((HB.out.cell (World.block_lt_of_cell? w _ hw520_3)).trans hw520_3)⟩ (fun hHeld => ?_)
       clear hK K
       refine norm_ (a' := ?_) ?_ ?_
       rotate_left
       ·
        show Act.put _ (some 7) _ = _
        simp only [Act.put, List.setIfInBounds_toArray, List.set_cons_zero, List.set_cons_succ, i64_w, i32_w]
        rfl
       refine one_ (i := 9) (N := some 8) zq9.q9 rfl rfl (one_of HT_.out (by kernel_rfl)) (by decide) (fun K hK => ?_)
       refine box_step ?hg (N := 8) ?hd (cs := #[.int .u8 0, .int .u8 0, .int .u8 0, .int .u8 0]) (t := 43) ?hr ?_; (case hd => rfl); (case hg => rfl); (case hr => first | (go_simp; done) | (go_simp; rfl))
       intro gb522 hg w41 hbox hb
       have BK522 := Aside0.mk (hbox)
       have GW522 := Aside0.mk ((by rw [hg]; exact (below_size (hq_ HB)) : w.heap.size ≤ gb522))
       have GE522 := Aside0.mk ((by rw [hg]; exact (below_size (hq_ HB)) : w.heap.size ≤ gb522))
       replace HB := hb_ HB hb
       have NB515_522 := Aside0.mk ((by rw [hg]; exact Nat.ne_of_lt (blk_lt (g := gb515) (o := .cells #[.int .i64 a0_0, .int .i64 a0_1, .slice (some ad519) l0_2.length c0_2] 24 (0, 0)) (bq_ BK515)) : gb515 ≠ gb522))
       have NB522_515 := Aside0.mk ((by rw [hg]; exact Nat.ne_of_gt (blk_lt (g := gb515) (o := .cells #[.int .i64 a0_0, .int .i64 a0_1, .slice (some ad519) l0_2.length c0_2] 24 (0, 0)) (bq_ BK515)) : gb522 ≠ gb515))
       replace BK515 := bb_ BK515 hb
       have NB521_522 := Aside0.mk ((by rw [hg]; exact Nat.ne_of_lt (blk_lt (g := gb521) (o := .cells #[.int .u8 0, .int .u8 0, .int .u8 0, .int .u8 0] 43 (0, 0)) (bq_ BK521)) : gb521 ≠ gb522))
       have NB522_521 := Aside0.mk ((by rw [hg]; exact Nat.ne_of_gt (blk_lt (g := gb521) (o := .cells #[.int .u8 0, .int .u8 0, .int .u8 0, .int .u8 0] 43 (0, 0)) (bq_ BK521)) : gb522 ≠ gb521))
       replace BK521 := bb_ BK521 hb
       clear hb hbox hg
       refine hK.out _ _ ⟨(blk_cell BK515.out 0).trans rfl, (blk_cell BK515.out 1).trans rfl, (blk_cell BK515.out 2).trans rfl, ((HB.out.cell (World.block_lt_of_cell? w _ hw519_0)).trans hw519_0), ((HB.out.cell (World.block_lt_of_cell? w _ hw519_1)).trans hw519_1), ((HB.out.cell (World.block_lt_of_cell? w _ hw519_2)).trans hw519_2), ((HB.out.cell (World.block_lt_of_cell? w _ hw519_3)).trans hw519_3), ((HB.out.cell (World.block_lt_of_cell? w _ hw520_0)).trans hw520_0), ((HB.out.cell (World.block_lt_of_cell? w _ hw520_1)).trans hw520_1), ((HB.out.cell (World.block_lt_of_cell? w _ hw520_2)).trans hw520_2), ((HB.out.cell (World.block_lt_of_cell? w _ hw520_3)).trans hw520_3)⟩ (fun hHeld => ?_)
       clear hK K
       refine norm_ (a' := ?_) ?_ ?_
       rotate_left
       ·
        show Act.put _ (some 8) _ = _
        simp only [Act.put, List.setIfInBounds_toArray, List.set_cons_zero, List.set_cons_succ, i64_w, i32_w]
        rfl
       exact norm_ (by simp only [putAll, Act.put, List.setIfInBounds_toArray, List.set_cons_zero, List.set_cons_succ]) (hCont (gb521, gb522) _ ⟨hHeld, (bq_ BK515), (bq_ BK521), (bq_ BK522), GW521.out, GE521.out, NB515_521.out, NB521_515.out, NB522_521.out, NB521_522.out, GW522.out, GE522.out, NB515_522.out, NB522_515.out, (hq_ HB)⟩)
      ·
       refine box_step ?hg (N := 8) ?hd (cs := #[.int .u8 0, .int .u8 0, .int .u8 0, .int .u8 0]) (t := 43) ?hr ?_; (case hd => rfl); (case hg => rfl); (case hr => first | (go_simp; done) | (go_simp; rfl))
       intro gb522 hg w40 hbox hb
       have BK522 := Aside0.mk (hbox)
       have GW522 := Aside0.mk ((by rw [hg]; exact (below_size (hq_ HB)) : w.heap.size ≤ gb522))
       have GE522 := Aside0.mk ((by rw [hg]; exact (below_size (hq_ HB)) : w.heap.size ≤ gb522))
       replace HB := hb_ HB hb
       have NB515_522 := Aside0.mk ((by rw [hg]; exact Nat.ne_of_lt (blk_lt (g := gb515) (o := .cells #[.int .i64 a0_0, .int .i64 a0_1, .slice (some ad519) l0_2.length c0_2] 24 (0, 0)) (bq_ BK515)) : gb515 ≠ gb522))
       have NB522_515 := Aside0.mk ((by rw [hg]; exact Nat.ne_of_gt (blk_lt (g := gb515) (o := .cells #[.int .i64 a0_0, .int .i64 a0_1, .slice (some ad519) l0_2.length c0_2] 24 (0, 0)) (bq_ BK515)) : gb522 ≠ gb515))
       replace BK515 := bb_ BK515 hb
       clear hb hbox hg
       refine hK.out _ _ ⟨(blk_cell BK515.out 0).trans rfl, (blk_cell BK515.out 1).trans rfl, (blk_cell BK515.out 2).trans rfl, ((HB.out.cell (World.block_lt_of_cell? w _ hw519_0)).trans hw519_0), ((HB.out.cell (World.block_lt_of_cell? w _ hw519_1)).trans hw519_1), ((HB.out.cell (World.block_lt_of_cell? w _ hw519_2)).trans hw519_2), ((HB.out.cell (World.block_lt_of_cell? w _ hw519_3)).trans hw519_3), ((HB.out.cell (World.block_lt_of_cell? w _ hw520_0)).trans hw520_0), ((HB.out.cell (World.block_lt_of_cell? w _ hw520_1)).trans hw520_1), ((HB.out.cell (World.block_lt_of_cell? w _ hw520_2)).trans hw520_2), ((HB.out.cell (World.block_lt_of_cell? w _ hw520_3)).trans hw520_3)⟩ (fun hHeld => ?_)
       clear hK K
       refine norm_ (a' := ?_) ?_ ?_
       rotate_left
       ·
        show Act.put _ (some 8) _ = _
        simp only [Act.put, List.setIfInBounds_toArray, List.set_cons_zero, List.set_cons_succ, i64_w, i32_w]
        rfl
       refine one_ (i := 8) (N := some 7) zq9.q9 rfl rfl (one_of HT_.out (by kernel_rfl)) (by decide) (fun K hK => ?_)
       refine box_step ?hg (N := 7) ?hd (cs := #[.int .u8 0, .int .u8 0, .int .u8 0, .int .u8 0]) (t := 43) ?hr ?_; (case hd => rfl); (case hg => rfl); (case hr => first | (go_simp; done) | (go_simp; rfl))
       intro gb521 hg w41 hbox hb
       have BK521 := Aside0.mk (hbox)
       have GW521 := Aside0.mk ((by rw [hg]; exact (below_size (hq_ HB)) : w.heap.size ≤ gb521))
       have GE521 := Aside0.mk ((by rw [hg]; exact (below_size (hq_ HB)) : w.heap.size ≤ gb521))
       replace HB := hb_ HB hb
       have NB515_521 := Aside0.mk ((by rw [hg]; exact Nat.ne_of_lt (blk_lt (g := gb515) (o := .cells #[.int .i64 a0_0, .int .i64 a0_1, .slice (some ad519) l0_2.length c0_2] 24 (0, 0)) (bq_ BK515)) : gb515 ≠ gb521))
       have NB521_515 := Aside0.mk ((by rw [hg]; exact Nat.ne_of_gt (blk_lt (g := gb515) (o := .cells #[.int .i64 a0_0, .int .i64 a0_1, .slice (some ad519) l0_2.length c0_2] 24 (0, 0)) (bq_ BK515)) : gb521 ≠ gb515))
       replace BK515 := bb_ BK515 hb
       have NB522_521 := Aside0.mk ((by rw [hg]; exact Nat.ne_of_lt (blk_lt (g := gb522) (o := .cells #[.int .u8 0, .int .u8 0, .int .u8 0, .int .u8 0] 43 (0, 0)) (bq_ BK522)) : gb522 ≠ gb521))
       have NB521_522 := Aside0.mk ((by rw [hg]; exact Nat.ne_of_gt (blk_lt (g := gb522) (o := .cells #[.int .u8 0, .int .u8 0, .int .u8 0, .int .u8 0] 43 (0, 0)) (bq_ BK522)) : gb521 ≠ gb522))
       replace BK522 := bb_ BK522 hb
       clear hb hbox hg
       refine hK.out _ _ ⟨(blk_cell BK515.out 0).trans rfl, (blk_cell BK515.out 1).trans rfl, (blk_cell BK515.out 2).trans rfl, ((HB.out.cell (World.block_lt_of_cell? w _ hw519_0)).trans hw519_0), ((HB.out.cell (World.block_lt_of_cell? w _ hw519_1)).trans hw519_1), ((HB.out.cell (World.block_lt_of_cell? w _ hw519_2)).trans hw519_2), ((HB.out.cell (World.block_lt_of_cell? w _ hw519_3)).trans hw519_3), ((HB.out.cell (World.block_lt_of_cell? w _ hw520_0)).trans hw520_0), ((HB.out.cell (World.block_lt_of_cell? w _ hw520_1)).trans hw520_1), ((HB.out.cell (World.block_lt_of_cell? w _ hw520_2)).trans hw520_2), ((HB.out.cell (World.block_lt_of_cell? w _ hw520_3)).trans hw520_3)⟩ (fun hHeld => ?_)
       clear hK K
       refine norm_ (a' := ?_) ?_ ?_
       rotate_left
       ·
        show Act.put _ (some 7) _ = _
        simp only [Act.put, List.setIfInBounds_toArray, List.set_cons_zero, List.set_cons_succ, i64_w, i32_w]
        rfl
       exact norm_ (by simp only [putAll, Act.put, List.setIfInBounds_toArray, List.set_cons_zero, List.set_cons_succ]) (hCont (gb521, gb522) _ ⟨hHeld, (bq_ BK515), (bq_ BK521), (bq_ BK522), GW521.out, GE521.out, NB515_521.out, NB521_515.out, NB522_521.out, NB521_522.out, GW522.out, GE522.out, NB515_522.out, NB522_515.out, (hq_ HB)⟩)
     rintro ⟨gb521, gb522⟩ w42 ⟨hS_, h0_, h1_, h2_, h3_, h4_, h5_, h6_, h7_, h8_, h9_, h10_, h11_, h12_, h13_⟩
     replace BK515 := Aside0.mk h0_
     have BK521 := Aside0.mk h1_
     have BK522 := Aside0.mk h2_
     have GW521 := Aside0.mk h3_
     have GE521 := Aside0.mk h4_
     have NB515_521 := Aside0.mk h5_
     have NB521_515 := Aside0.mk h6_
     have NB522_521 := Aside0.mk h7_
     have NB521_522 := Aside0.mk h8_
     have GW522 := Aside0.mk h9_
     have GE522 := Aside0.mk h10_
     have NB515_522 := Aside0.mk h11_
     have NB522_515 := Aside0.mk h12_
     replace HB := Aside0.mk h13_
     clear h0_ h1_ h2_ h3_ h4_ h5_ h6_ h7_ h8_ h9_ h10_ h11_ h12_ h13_
     have hHeld := hS_
     refine norm_ (a' := ?_) ?_ ?_
     rotate_left
     ·
      simp only [putAll, Act.put, List.setIfInBounds_toArray, List.set_cons_zero, List.set_cons_succ]
      rfl
     refine one_ (i := 10) (N := none) zq9.q12 rfl rfl (one_of HT_.out (by kernel_rfl)) (by decide) (fun K hK => ?_)
     have hs43 : w42.cell? ⟨gb521, 0, none⟩ = some (.int .u8 0) := (blk_cell BK521.out 0).trans rfl
     have hfs43 := blk_frozen BK521.out 0
     have hns43_0 := NB515_521.out
     have hns43_2 := NB522_521.out
     have hms43_0 := NB521_515.out
     have hms43_2 := NB521_522.out
     have hs44 : w42.cell? ⟨gb521, 1, none⟩ = some (.int .u8 0) := (blk_cell BK521.out 1).trans rfl
     have hfs44 := blk_frozen BK521.out 1
     have hns44_0 := NB515_521.out
     have hns44_2 := NB522_521.out
     have hms44_0 := NB521_515.out
     have hms44_2 := NB521_522.out
     have hs45 : w42.cell? ⟨gb521, 2, none⟩ = some (.int .u8 0) := (blk_cell BK521.out 2).trans rfl
     have hfs45 := blk_frozen BK521.out 2
     have hns45_0 := NB515_521.out
     have hns45_2 := NB522_521.out
     have hms45_0 := NB521_515.out
     have hms45_2 := NB521_522.out
     have hs46 : w42.cell? ⟨gb521, 3, none⟩ = some (.int .u8 0) := (blk_cell BK521.out 3).trans rfl
     have hfs46 := blk_frozen BK521.out 3
     have hns46_0 := NB515_521.out
     have hns46_2 := NB522_521.out
     have hms46_0 := NB521_515.out
     have hms46_2 := NB521_522.out
     refine skip_ (w1 := ?_) (by rfl) rfl ?_ ?_
     rotate_left
     ·
      go_simp
      rfl
     refine hK.out _ _ ⟨((cell_far (p := ⟨gb521, _, none⟩) NB515_521.out _).trans (((cell_far (p := ⟨gb521, _, none⟩) NB515_521.out _).trans (((cell_far (p := ⟨gb521, _, none⟩) NB515_521.out _).trans (((cell_far (p := ⟨gb521, _, none⟩) NB515_521.out _).trans (hHeld.1)))))))), ((cell_far (p := ⟨gb521, _, none⟩) NB515_521.out _).trans (((cell_far (p := ⟨gb521, _, none⟩) NB515_521.out _).trans (((cell_far (p := ⟨gb521, _, none⟩) NB515_521.out _).trans (((cell_far (p := ⟨gb521, _, none⟩) NB515_521.out _).trans (hHeld.2.1)))))))), ((cell_far (p := ⟨gb521, _, none⟩) NB515_521.out _).trans (((cell_far (p := ⟨gb521, _, none⟩) NB515_521.out _).trans (((cell_far (p := ⟨gb521, _, none⟩) NB515_521.out _).trans (((cell_far (p := ⟨gb521, _, none⟩) NB515_521.out _).trans (hHeld.2.2.1)))))))), ((cell_far (p := ⟨gb521, _, none⟩) (by first | exact Nat.ne_of_lt (Nat.lt_of_lt_of_le (by have := World.block_lt_of_cell? _ _ hw519_0; first | rwa [add_block] at this | exact this) GW521.out) | (rw [add_block]; exact Nat.ne_of_lt (Nat.lt_of_lt_of_le (by have := World.block_lt_of_cell? _ _ hw519_0; first | rwa [add_block] at this | exact this) GW521.out)) | (show (Addr.add _ _).block ≠ _; rw [add_block]; exact Nat.ne_of_lt (Nat.lt_of_lt_of_le (by have := World.block_lt_of_cell? _ _ hw519_0; first | rwa [add_block] at this | exact this) GW521.out)) | (dsimp only; exact Nat.ne_of_lt (Nat.lt_of_lt_of_le (by have := World.block_lt_of_cell? _ _ hw519_0; first | rwa [add_block] at this | exact this) GW521.out))) _).trans (((cell_far (p := ⟨gb521, _, none⟩) (by first | exact Nat.ne_of_lt (Nat.lt_of_lt_of_le (by have := World.block_lt_of_cell? _ _ hw519_0; first | rwa [add_block] at this | exact this) GW521.out) | (rw [add_block]; exact Nat.ne_of_lt (Nat.lt_of_lt_of_le (by have := World.block_lt_of_cell? _ _ hw519_0; first | rwa [add_block] at this | exact this) GW521.out)) | (show (Addr.add _ _).block ≠ _; rw [add_block]; exact Nat.ne_of_lt (Nat.lt_of_lt_of_le (by have := World.block_lt_of_cell? _ _ hw519_0; first | rwa [add_block] at this | exact this) GW521.out)) | (dsimp only; exact Nat.ne_of_lt (Nat.lt_of_lt_of_le (by have := World.block_lt_of_cell? _ _ hw519_0; first | rwa [add_block] at this | exact this) GW521.out))) _).trans (((cell_far (p := ⟨gb521, _, none⟩) (by first | exact Nat.ne_of_lt (Nat.lt_of_lt_of_le (by have := World.block_lt_of_cell? _ _ hw519_0; first | rwa [add_block] at this | exact this) GW521.out) | (rw [add_block]; exact Nat.ne_of_lt (Nat.lt_of_lt_of_le (by have := World.block_lt_of_cell? _ _ hw519_0; first | rwa [add_block] at this | exact this) GW521.out)) | (show (Addr.add _ _).block ≠ _; rw [add_block]; exact Nat.ne_of_lt (Nat.lt_of_lt_of_le (by have := World.block_lt_of_cell? _ _ hw519_0; first | rwa [add_block] at this | exact this) GW521.out)) | (dsimp only; exact Nat.ne_of_lt (Nat.lt_of_lt_of_le (by have := World.block_lt_of_cell? _ _ hw519_0; first | rwa [add_block] at this | exact this) GW521.out))) _).trans (((cell_far (p := ⟨gb521, _, none⟩) (by first | exact Nat.ne_of_lt (Nat.lt_of_lt_of_le (by have := World.block_lt_of_cell? _ _ hw519_0; first | rwa [add_block] at this | exact this) GW521.out) | (rw [add_block]; exact Nat.ne_of_lt (Nat.lt_of_lt_of_le (by have := World.block_lt_of_cell? _ _ hw519_0; first | rwa [add_block] at this | exact this) GW521.out)) | (show (Addr.add _ _).block ≠ _; rw [add_block]; exact Nat.ne_of_lt (Nat.lt_of_lt_of_le (by have := World.block_lt_of_cell? _ _ hw519_0; first | rwa [add_block] at this | exact this) GW521.out)) | (dsimp only; exact Nat.ne_of_lt (Nat.lt_of_lt_of_le (by have := World.block_lt_of_cell? _ _ hw519_0; first | rwa [add_block] at this | exact this) GW521.out))) _).trans (hHeld.2.2.2.1)))))))), ((cell_far (p := ⟨gb521, _, none⟩) (by first | exact Nat.ne_of_lt (Nat.lt_of_lt_of_le (by have := World.block_lt_of_cell? _ _ hw519_1; first | rwa [add_block] at this | exact this) GW521.out) | (rw [add_block]; exact Nat.ne_of_lt (Nat.lt_of_lt_of_le (by have := World.block_lt_of_cell? _ _ hw519_1; first | rwa [add_block] at this | exact this) GW521.out)) | (show (Addr.add _ _).block ≠ _; rw [add_block]; exact Nat.ne_of_lt (Nat.lt_of_lt_of_le (by have := World.block_lt_of_cell? _ _ hw519_1; first | rwa [add_block] at this | exact this) GW521.out)) | (dsimp only; exact Nat.ne_of_lt (Nat.lt_of_lt_of_le (by have := World.block_lt_of_cell? _ _ hw519_1; first | rwa [add_block] at this | exact this) GW521.out))) _).trans (((cell_far (p := ⟨gb521, _, none⟩) (by first | exact Nat.ne_of_lt (Nat.lt_of_lt_of_le (by have := World.block_lt_of_cell? _ _ hw519_1; first | rwa [add_block] at this | exact this) GW521.out) | (rw [add_block]; exact Nat.ne_of_lt (Nat.lt_of_lt_of_le (by have := World.block_lt_of_cell? _ _ hw519_1; first | rwa [add_block] at this | exact this) GW521.out)) | (show (Addr.add _ _).block ≠ _; rw [add_block]; exact Nat.ne_of_lt (Nat.lt_of_lt_of_le (by have := World.block_lt_of_cell? _ _ hw519_1; first | rwa [add_block] at this | exact this) GW521.out)) | (dsimp only; exact Nat.ne_of_lt (Nat.lt_of_lt_of_le (by have := World.block_lt_of_cell? _ _ hw519_1; first | rwa [add_block] at this | exact this) GW521.out))) _).trans (((cell_far (p := ⟨gb521, _, none⟩) (by first | exact Nat.ne_of_lt (Nat.lt_of_lt_of_le (by have := World.block_lt_of_cell? _ _ hw519_1; first | rwa [add_block] at this | exact this) GW521.out) | (rw [add_block]; exact Nat.ne_of_lt (Nat.lt_of_lt_of_le (by have := World.block_lt_of_cell? _ _ hw519_1; first | rwa [add_block] at this | exact this) GW521.out)) | (show (Addr.add _ _).block ≠ _; rw [add_block]; exact Nat.ne_of_lt (Nat.lt_of_lt_of_le (by have := World.block_lt_of_cell? _ _ hw519_1; first | rwa [add_block] at this | exact this) GW521.out)) | (dsimp only; exact Nat.ne_of_lt (Nat.lt_of_lt_of_le (by have := World.block_lt_of_cell? _ _ hw519_1; first | rwa [add_block] at this | exact this) GW521.out))) _).trans (((cell_far (p := ⟨gb521, _, none⟩) (by first | exact Nat.ne_of_lt (Nat.lt_of_lt_of_le (by have := World.block_lt_of_cell? _ _ hw519_1; first | rwa [add_block] at this | exact this) GW521.out) | (rw [add_block]; exact Nat.ne_of_lt (Nat.lt_of_lt_of_le (by have := World.block_lt_of_cell? _ _ hw519_1; first | rwa [add_block] at this | exact this) GW521.out)) | (show (Addr.add _ _).block ≠ _; rw [add_block]; exact Nat.ne_of_lt (Nat.lt_of_lt_of_le (by have := World.block_lt_of_cell? _ _ hw519_1; first | rwa [add_block] at this | exact this) GW521.out)) | (dsimp only; exact Nat.ne_of_lt (Nat.lt_of_lt_of_le (by have := World.block_lt_of_cell? _ _ hw519_1; first | rwa [add_block] at this | exact this) GW521.out))) _).trans (hHeld.2.2.2.2.1)))))))), ((cell_far (p := ⟨gb521, _, none⟩) (by first | exact Nat.ne_of_lt (Nat.lt_of_lt_of_le (by have := World.block_lt_of_cell? _ _ hw519_2; first | rwa [add_block] at this | exact this) GW521.out) | (rw [add_block]; exact Nat.ne_of_lt (Nat.lt_of_lt_of_le (by have := World.block_lt_of_cell? _ _ hw519_2; first | rwa [add_block] at this | exact this) GW521.out)) | (show (Addr.add _ _).block ≠ _; rw [add_block]; exact Nat.ne_of_lt (Nat.lt_of_lt_of_le (by have := World.block_lt_of_cell? _ _ hw519_2; first | rwa [add_block] at this | exact this) GW521.out)) | (dsimp only; exact Nat.ne_of_lt (Nat.lt_of_lt_of_le (by have := World.block_lt_of_cell? _ _ hw519_2; first | rwa [add_block] at this | exact this) GW521.out))) _).trans (((cell_far (p := ⟨gb521, _, none⟩) (by first | exact Nat.ne_of_lt (Nat.lt_of_lt_of_le (by have := World.block_lt_of_cell? _ _ hw519_2; first | rwa [add_block] at this | exact this) GW521.out) | (rw [add_block]; exact Nat.ne_of_lt (Nat.lt_of_lt_of_le (by have := World.block_lt_of_cell? _ _ hw519_2; first | rwa [add_block] at this | exact this) GW521.out)) | (show (Addr.add _ _).block ≠ _; rw [add_block]; exact Nat.ne_of_lt (Nat.lt_of_lt_of_le (by have := World.block_lt_of_cell? _ _ hw519_2; first | rwa [add_block] at this | exact this) GW521.out)) | (dsimp only; exact Nat.ne_of_lt (Nat.lt_of_lt_of_le (by have := World.block_lt_of_cell? _ _ hw519_2; first | rwa [add_block] at this | exact this) GW521.out))) _).trans (((cell_far (p := ⟨gb521, _, none⟩) (by first | exact Nat.ne_of_lt (Nat.lt_of_lt_of_le (by have := World.block_lt_of_cell? _ _ hw519_2; first | rwa [add_block] at this | exact this) GW521.out) | (rw [add_block]; exact Nat.ne_of_lt (Nat.lt_of_lt_of_le (by have := World.block_lt_of_cell? _ _ hw519_2; first | rwa [add_block] at this | exact this) GW521.out)) | (show (Addr.add _ _).block ≠ _; rw [add_block]; exact Nat.ne_of_lt (Nat.lt_of_lt_of_le (by have := World.block_lt_of_cell? _ _ hw519_2; first | rwa [add_block] at this | exact this) GW521.out)) | (dsimp only; exact Nat.ne_of_lt (Nat.lt_of_lt_of_le (by have := World.block_lt_of_cell? _ _ hw519_2; first | rwa [add_block] at this | exact this) GW521.out))) _).trans (((cell_far (p := ⟨gb521, _, none⟩) (by first | exact Nat.ne_of_lt (Nat.lt_of_lt_of_le (by have := World.block_lt_of_cell? _ _ hw519_2; first | rwa [add_block] at this | exact this) GW521.out) | (rw [add_block]; exact Nat.ne_of_lt (Nat.lt_of_lt_of_le (by have := World.block_lt_of_cell? _ _ hw519_2; first | rwa [add_block] at this | exact this) GW521.out)) | (show (Addr.add _ _).block ≠ _; rw [add_block]; exact Nat.ne_of_lt (Nat.lt_of_lt_of_le (by have := World.block_lt_of_cell? _ _ hw519_2; first | rwa [add_block] at this | exact this) GW521.out)) | (dsimp only; exact Nat.ne_of_lt (Nat.lt_of_lt_of_le (by have := World.block_lt_of_cell? _ _ hw519_2; first | rwa [add_block] at this | exact this) GW521.out))) _).trans (hHeld.2.2.2.2.2.1)))))))), ((cell_far (p := ⟨gb521, _, none⟩) (by first | exact Nat.ne_of_lt (Nat.lt_of_lt_of_le (by have := World.block_lt_of_cell? _ _ hw519_3; first | rwa [add_block] at this | exact this) GW521.out) | (rw [add_block]; exact Nat.ne_of_lt (Nat.lt_of_lt_of_le (by have := World.block_lt_of_cell? _ _ hw519_3; first | rwa [add_block] at this | exact this) GW521.out)) | (show (Addr.add _ _).block ≠ _; rw [add_block]; exact Nat.ne_of_lt (Nat.lt_of_lt_of_le (by have := World.block_lt_of_cell? _ _ hw519_3; first | rwa [add_block] at this | exact this) GW521.out)) | (dsimp only; exact Nat.ne_of_lt (Nat.lt_of_lt_of_le (by have := World.block_lt_of_cell? _ _ hw519_3; first | rwa [add_block] at this | exact this) GW521.out))) _).trans (((cell_far (p := ⟨gb521, _, none⟩) (by first | exact Nat.ne_of_lt (Nat.lt_of_lt_of_le (by have := World.block_lt_of_cell? _ _ hw519_3; first | rwa [add_block] at this | exact this) GW521.out) | (rw [add_block]; exact Nat.ne_of_lt (Nat.lt_of_lt_of_le (by have := World.block_lt_of_cell? _ _ hw519_3; first | rwa [add_block] at this | exact this) GW521.out)) | (show (Addr.add _ _).block ≠ _; rw [add_block]; exact Nat.ne_of_lt (Nat.lt_of_lt_of_le (by have := World.block_lt_of_cell? _ _ hw519_3; first | rwa [add_block] at this | exact this) GW521.out)) | (dsimp only; exact Nat.ne_of_lt (Nat.lt_of_lt_of_le (by have := World.block_lt_of_cell? _ _ hw519_3; first | rwa [add_block] at this | exact this) GW521.out))) _).trans (((cell_far (p := ⟨gb521, _, none⟩) (by first | exact Nat.ne_of_lt (Nat.lt_of_lt_of_le (by have := World.block_lt_of_cell? _ _ hw519_3; first | rwa [add_block] at this | exact this) GW521.out) | (rw [add_block]; exact Nat.ne_of_lt (Nat.lt_of_lt_of_le (by have := World.block_lt_of_cell? _ _ hw519_3; first | rwa [add_block] at this | exact this) GW521.out)) | (show (Addr.add _ _).block ≠ _; rw [add_block]; exact Nat.ne_of_lt (Nat.lt_of_lt_of_le (by have := World.block_lt_of_cell? _ _ hw519_3; first | rwa [add_block] at this | exact this) GW521.out)) | (dsimp only; exact Nat.ne_of_lt (Nat.lt_of_lt_of_le (by have := World.block_lt_of_cell? _ _ hw519_3; first | rwa [add_block] at this | exact this) GW521.out))) _).trans (((cell_far (p := ⟨gb521, _, none⟩) (by first | exact Nat.ne_of_lt (Nat.lt_of_lt_of_le (by have := World.block_lt_of_cell? _ _ hw519_3; first | rwa [add_block] at this | exact this) GW521.out) | (rw [add_block]; exact Nat.ne_of_lt (Nat.lt_of_lt_of_le (by have := World.block_lt_of_cell? _ _ hw519_3; first | rwa [add_block] at this | exact this) GW521.out)) | (show (Addr.add _ _).block ≠ _; rw [add_block]; exact Nat.ne_of_lt (Nat.lt_of_lt_of_le (by have := World.block_lt_of_cell? _ _ hw519_3; first | rwa [add_block] at this | exact this) GW521.out)) | (dsimp only; exact Nat.ne_of_lt (Nat.lt_of_lt_of_le (by have := World.block_lt_of_cell? _ _ hw519_3; first | rwa [add_block] at this | exact this) GW521.out))) _).trans (hHeld.2.2.2.2.2.2.1)))))))), ((cell_far (p := ⟨gb521, _, none⟩) (by first | exact Nat.ne_of_lt (Nat.lt_of_lt_of_le (by have := World.block_lt_of_cell? _ _ hw520_0; first | rwa [add_block] at this | exact this) GW521.out) | (rw [add_block]; exact Nat.ne_of_lt (Nat.lt_of_lt_of_le (by have := World.block_lt_of_cell? _ _ hw520_0; first | rwa [add_block] at this | exact this) GW521.out)) | (show (Addr.add _ _).block ≠ _; rw [add_block]; exact Nat.ne_of_lt (Nat.lt_of_lt_of_le (by have := World.block_lt_of_cell? _ _ hw520_0; first | rwa [add_block] at this | exact this) GW521.out)) | (dsimp only; exact Nat.ne_of_lt (Nat.lt_of_lt_of_le (by have := World.block_lt_of_cell? _ _ hw520_0; first | rwa [add_block] at this | exact this) GW521.out))) _).trans (((cell_far (p := ⟨gb521, _, none⟩) (by first | exact Nat.ne_of_lt (Nat.lt_of_lt_of_le (by have := World.block_lt_of_cell? _ _ hw520_0; first | rwa [add_block] at this | exact this) GW521.out) | (rw [add_block]; exact Nat.ne_of_lt (Nat.lt_of_lt_of_le (by have := World.block_lt_of_cell? _ _ hw520_0; first | rwa [add_block] at this | exact this) GW521.out)) | (show (Addr.add _ _).block ≠ _; rw [add_block]; exact Nat.ne_of_lt (Nat.lt_of_lt_of_le (by have := World.block_lt_of_cell? _ _ hw520_0; first | rwa [add_block] at this | exact this) GW521.out)) | (dsimp only; exact Nat.ne_of_lt (Nat.lt_of_lt_of_le (by have := World.block_lt_of_cell? _ _ hw520_0; first | rwa [add_block] at this | exact this) GW521.out))) _).trans (((cell_far (p := ⟨gb521, _, none⟩) (by first | exact Nat.ne_of_lt (Nat.lt_of_lt_of_le (by have := World.block_lt_of_cell? _ _ hw520_0; first | rwa [add_block] at this | exact this) GW521.out) | (rw [add_block]; exact Nat.ne_of_lt (Nat.lt_of_lt_of_le (by have := World.block_lt_of_cell? _ _ hw520_0; first | rwa [add_block] at this | exact this) GW521.out)) | (show (Addr.add _ _).block ≠ _; rw [add_block]; exact Nat.ne_of_lt (Nat.lt_of_lt_of_le (by have := World.block_lt_of_cell? _ _ hw520_0; first | rwa [add_block] at this | exact this) GW521.out)) | (dsimp only; exact Nat.ne_of_lt (Nat.lt_of_lt_of_le (by have := World.block_lt_of_cell? _ _ hw520_0; first | rwa [add_block] at this | exact this) GW521.out))) _).trans (((cell_far (p := ⟨gb521, _, none⟩) (by first | exact Nat.ne_of_lt (Nat.lt_of_lt_of_le (by have := World.block_lt_of_cell? _ _ hw520_0; first | rwa [add_block] at this | exact this) GW521.out) | (rw [add_block]; exact Nat.ne_of_lt (Nat.lt_of_lt_of_le (by have := World.block_lt_of_cell? _ _ hw520_0; first | rwa [add_block] at this | exact this) GW521.out)) | (show (Addr.add _ _).block ≠ _; rw [add_block]; exact Nat.ne_of_lt (Nat.lt_of_lt_of_le (by have := World.block_lt_of_cell? _ _ hw520_0; first | rwa [add_block] at this | exact this) GW521.out)) | (dsimp only; exact Nat.ne_of_lt (Nat.lt_of_lt_of_le (by have := World.block_lt_of_cell? _ _ hw520_0; first | rwa [add_block] at this | exact this) GW521.out))) _).trans (hHeld.2.2.2.2.2.2.2.1)))))))), ((cell_far (p := ⟨gb521, _, none⟩) (by first | exact Nat.ne_of_lt (Nat.lt_of_lt_of_le (by have := World.block_lt_of_cell? _ _ hw520_1; first | rwa [add_block] at this | exact this) GW521.out) | (rw [add_block]; exact Nat.ne_of_lt (Nat.lt_of_lt_of_le (by have := World.block_lt_of_cell? _ _ hw520_1; first | rwa [add_block] at this | exact this) GW521.out)) | (show (Addr.add _ _).block ≠ _; rw [add_block]; exact Nat.ne_of_lt (Nat.lt_of_lt_of_le (by have := World.block_lt_of_cell? _ _ hw520_1; first | rwa [add_block] at this | exact this) GW521.out)) | (dsimp only; exact Nat.ne_of_lt (Nat.lt_of_lt_of_le (by have := World.block_lt_of_cell? _ _ hw520_1; first | rwa [add_block] at this | exact this) GW521.out))) _).trans (((cell_far (p := ⟨gb521, _, none⟩) (by first | exact Nat.ne_of_lt (Nat.lt_of_lt_of_le (by have := World.block_lt_of_cell? _ _ hw520_1; first | rwa [add_block] at this | exact this) GW521.out) | (rw [add_block]; exact Nat.ne_of_lt (Nat.lt_of_lt_of_le (by have := World.block_lt_of_cell? _ _ hw520_1; first | rwa [add_block] at this | exact this) GW521.out)) | (show (Addr.add _ _).block ≠ _; rw [add_block]; exact Nat.ne_of_lt (Nat.lt_of_lt_of_le (by have := World.block_lt_of_cell? _ _ hw520_1; first | rwa [add_block] at this | exact this) GW521.out)) | (dsimp only; exact Nat.ne_of_lt (Nat.lt_of_lt_of_le (by have := World.block_lt_of_cell? _ _ hw520_1; first | rwa [add_block] at this | exact this) GW521.out))) _).trans (((cell_far (p := ⟨gb521, _, none⟩) (by first | exact Nat.ne_of_lt (Nat.lt_of_lt_of_le (by have := World.block_lt_of_cell? _ _ hw520_1; first | rwa [add_block] at this | exact this) GW521.out) | (rw [add_block]; exact Nat.ne_of_lt (Nat.lt_of_lt_of_le (by have := World.block_lt_of_cell? _ _ hw520_1; first | rwa [add_block] at this | exact this) GW521.out)) | (show (Addr.add _ _).block ≠ _; rw [add_block]; exact Nat.ne_of_lt (Nat.lt_of_lt_of_le (by have := World.block_lt_of_cell? _ _ hw520_1; first | rwa [add_block] at this | exact this) GW521.out)) | (dsimp only; exact Nat.ne_of_lt (Nat.lt_of_lt_of_le (by have := World.block_lt_of_cell? _ _ hw520_1; first | rwa [add_block] at this | exact this) GW521.out))) _).trans (((cell_far (p := ⟨gb521, _, none⟩) (by first | exact Nat.ne_of_lt (Nat.lt_of_lt_of_le (by have := World.block_lt_of_cell? _ _ hw520_1; first | rwa [add_block] at this | exact this) GW521.out) | (rw [add_block]; exact Nat.ne_of_lt (Nat.lt_of_lt_of_le (by have := World.block_lt_of_cell? _ _ hw520_1; first | rwa [add_block] at this | exact this) GW521.out)) | (show (Addr.add _ _).block ≠ _; rw [add_block]; exact Nat.ne_of_lt (Nat.lt_of_lt_of_le (by have := World.block_lt_of_cell? _ _ hw520_1; first | rwa [add_block] at this | exact this) GW521.out)) | (dsimp only; exact Nat.ne_of_lt (Nat.lt_of_lt_of_le (by have := World.block_lt_of_cell? _ _ hw520_1; first | rwa [add_block] at this | exact this) GW521.out))) _).trans (hHeld.2.2.2.2.2.2.2.2.1)))))))), ((cell_far (p := ⟨gb521, _, none⟩) (by first | exact Nat.ne_of_lt (Nat.lt_of_lt_of_le (by have := World.block_lt_of_cell? _ _ hw520_2; first | rwa [add_block] at this | exact this) GW521.out) | (rw [add_block]; exact Nat.ne_of_lt (Nat.lt_of_lt_of_le (by have := World.block_lt_of_cell? _ _ hw520_2; first | rwa [add_block] at this | exact this) GW521.out)) | (show (Addr.add _ _).block ≠ _; rw [add_block]; exact Nat.ne_of_lt (Nat.lt_of_lt_of_le (by have := World.block_lt_of_cell? _ _ hw520_2; first | rwa [add_block] at this | exact this) GW521.out)) | (dsimp only; exact Nat.ne_of_lt (Nat.lt_of_lt_of_le (by have := World.block_lt_of_cell? _ _ hw520_2; first | rwa [add_block] at this | exact this) GW521.out))) _).trans (((cell_far (p := ⟨gb521, _, none⟩) (by first | exact Nat.ne_of_lt (Nat.lt_of_lt_of_le (by have := World.block_lt_of_cell? _ _ hw520_2; first | rwa [add_block] at this | exact this) GW521.out) | (rw [add_block]; exact Nat.ne_of_lt (Nat.lt_of_lt_of_le (by have := World.block_lt_of_cell? _ _ hw520_2; first | rwa [add_block] at this | exact this) GW521.out)) | (show (Addr.add _ _).block ≠ _; rw [add_block]; exact Nat.ne_of_lt (Nat.lt_of_lt_of_le (by have := World.block_lt_of_cell? _ _ hw520_2; first | rwa [add_block] at this | exact this) GW521.out)) | (dsimp only; exact Nat.ne_of_lt (Nat.lt_of_lt_of_le (by have := World.block_lt_of_cell? _ _ hw520_2; first | rwa [add_block] at this | exact this) GW521.out))) _).trans (((cell_far (p := ⟨gb521, _, none⟩) (by first | exact Nat.ne_of_lt (Nat.lt_of_lt_of_le (by have := World.block_lt_of_cell? _ _ hw520_2; first | rwa [add_block] at this | exact this) GW521.out) | (rw [add_block]; exact Nat.ne_of_lt (Nat.lt_of_lt_of_le (by have := World.block_lt_of_cell? _ _ hw520_2; first | rwa [add_block] at this | exact this) GW521.out)) | (show (Addr.add _ _).block ≠ _; rw [add_block]; exact Nat.ne_of_lt (Nat.lt_of_lt_of_le (by have := World.block_lt_of_cell? _ _ hw520_2; first | rwa [add_block] at this | exact this) GW521.out)) | (dsimp only; exact Nat.ne_of_lt (Nat.lt_of_lt_of_le (by have := World.block_lt_of_cell? _ _ hw520_2; first | rwa [add_block] at this | exact this) GW521.out))) _).trans (((cell_far (p := ⟨gb521, _, none⟩) (by first | exact Nat.ne_of_lt (Nat.lt_of_lt_of_le (by have := World.block_lt_of_cell? _ _ hw520_2; first | rwa [add_block] at this | exact this) GW521.out) | (rw [add_block]; exact Nat.ne_of_lt (Nat.lt_of_lt_of_le (by have := World.block_lt_of_cell? _ _ hw520_2; first | rwa [add_block] at this | exact this) GW521.out)) | (show (Addr.add _ _).block ≠ _; rw [add_block]; exact Nat.ne_of_lt (Nat.lt_of_lt_of_le (by have := World.block_lt_of_cell? _ _ hw520_2; first | rwa [add_block] at this | exact this) GW521.out)) | (dsimp only; exact Nat.ne_of_lt (Nat.lt_of_lt_of_le (by have := World.block_lt_of_cell? _ _ hw520_2; first | rwa [add_block] at this | exact this) GW521.out))) _).trans (hHeld.2.2.2.2.2.2.2.2.2.1)))))))), ((cell_far (p := ⟨gb521, _, none⟩) (by first | exact Nat.ne_of_lt (Nat.lt_of_lt_of_le (by have := World.block_lt_of_cell? _ _ hw520_3; first | rwa [add_block] at this | exact this) GW521.out) | (rw [add_block]; exact Nat.ne_of_lt (Nat.lt_of_lt_of_le (by have := World.block_lt_of_cell? _ _ hw520_3; first | rwa [add_block] at this | exact this) GW521.out)) | (show (Addr.add _ _).block ≠ _; rw [add_block]; exact Nat.ne_of_lt (Nat.lt_of_lt_of_le (by have := World.block_lt_of_cell? _ _ hw520_3; first | rwa [add_block] at this | exact this) GW521.out)) | (dsimp only; exact Nat.ne_of_lt (Nat.lt_of_lt_of_le (by have := World.block_lt_of_cell? _ _ hw520_3; first | rwa [add_block] at this | exact this) GW521.out))) _).trans (((cell_far (p := ⟨gb521, _, none⟩) (by first | exact Nat.ne_of_lt (Nat.lt_of_lt_of_le (by have := World.block_lt_of_cell? _ _ hw520_3; first | rwa [add_block] at this | exact this) GW521.out) | (rw [add_block]; exact Nat.ne_of_lt (Nat.lt_of_lt_of_le (by have := World.block_lt_of_cell? _ _ hw520_3; first | rwa [add_block] at this | exact this) GW521.out)) | (show (Addr.add _ _).block ≠ _; rw [add_block]; exact Nat.ne_of_lt (Nat.lt_of_lt_of_le (by have := World.block_lt_of_cell? _ _ hw520_3; first | rwa [add_block] at this | exact this) GW521.out)) | (dsimp only; exact Nat.ne_of_lt (Nat.lt_of_lt_of_le (by have := World.block_lt_of_cell? _ _ hw520_3; first | rwa [add_block] at this | exact this) GW521.out))) _).trans (((cell_far (p := ⟨gb521, _, none⟩) (by first | exact Nat.ne_of_lt (Nat.lt_of_lt_of_le (by have := World.block_lt_of_cell? _ _ hw520_3; first | rwa [add_block] at this | exact this) GW521.out) | (rw [add_block]; exact Nat.ne_of_lt (Nat.lt_of_lt_of_le (by have := World.block_lt_of_cell? _ _ hw520_3; first | rwa [add_block] at this | exact this) GW521.out)) | (show (Addr.add _ _).block ≠ _; rw [add_block]; exact Nat.ne_of_lt (Nat.lt_of_lt_of_le (by have := World.block_lt_of_cell? _ _ hw520_3; first | rwa [add_block] at this | exact this) GW521.out)) | (dsimp only; exact Nat.ne_of_lt (Nat.lt_of_lt_of_le (by have := World.block_lt_of_cell? _ _ hw520_3; first | rwa [add_block] at this | exact this) GW521.out))) _).trans (((cell_far (p := ⟨gb521, _, none⟩) (by first | exact Nat.ne_of_lt (Nat.lt_of_lt_of_le (by have := World.block_lt_of_cell? _ _ hw520_3; first | rwa [add_block] at this | exact this) GW521.out) | (rw [add_block]; exact Nat.ne_of_lt (Nat.lt_of_lt_of_le (by have := World.block_lt_of_cell? _ _ hw520_3; first | rwa [add_block] at this | exact this) GW521.out)) | (show (Addr.add _ _).block ≠ _; rw [add_block]; exact Nat.ne_of_lt (Nat.lt_of_lt_of_le (by have := World.block_lt_of_cell? _ _ hw520_3; first | rwa [add_block] at this | exact this) GW521.out)) | (dsimp only; exact Nat.ne_of_lt (Nat.lt_of_lt_of_le (by have := World.block_lt_of_cell? _ _ hw520_3; first | rwa [add_block] at this | exact this) GW521.out))) _).trans (hHeld.2.2.2.2.2.2.2.2.2.2))))))))⟩ (fun hHeld => ?_)
     clear hK K
     refine one_ (i := 11) (N := none) zq9.q13 rfl rfl (one_of HT_.out (by kernel_rfl)) (by decide) (fun K hK => ?_)
     have hs47 : w42.cell? ⟨gb522, 0, none⟩ = some (.int .u8 0) := (blk_cell BK522.out 0).trans rfl
     have hfs47 := blk_frozen BK522.out 0
     have hns47_0 := NB515_522.out
     have hns47_1 := NB521_522.out
     have hms47_0 := NB522_515.out
     have hms47_1 := NB522_521.out
     have hs48 : w42.cell? ⟨gb522, 1, none⟩ = some (.int .u8 0) := (blk_cell BK522.out 1).trans rfl
     have hfs48 := blk_frozen BK522.out 1
     have hns48_0 := NB515_522.out
     have hns48_1 := NB521_522.out
     have hms48_0 := NB522_515.out
     have hms48_1 := NB522_521.out
     have hs49 : w42.cell? ⟨gb522, 2, none⟩ = some (.int .u8 0) := (blk_cell BK522.out 2).trans rfl
     have hfs49 := blk_frozen BK522.out 2
     have hns49_0 := NB515_522.out
     have hns49_1 := NB521_522.out
     have hms49_0 := NB522_515.out
     have hms49_1 := NB522_521.out
     have hs50 : w42.cell? ⟨gb522, 3, none⟩ = some (.int .u8 0) := (blk_cell BK522.out 3).trans rfl
     have hfs50 := blk_frozen BK522.out 3
     have hns50_0 := NB515_522.out
     have hns50_1 := NB521_522.out
     have hms50_0 := NB522_515.out
     have hms50_1 := NB522_521.out
     refine skip_ (w1 := ?_) (by rfl) rfl ?_ ?_
     rotate_left
     ·
      go_simp
      rfl
     refine hK.out _ _ ⟨((cell_far (p := ⟨gb522, _, none⟩) NB515_522.out _).trans (((cell_far (p := ⟨gb522, _, none⟩) NB515_522.out _).trans (((cell_far (p := ⟨gb522, _, none⟩) NB515_522.out _).trans (((cell_far (p := ⟨gb522, _, none⟩) NB515_522.out _).trans (hHeld.1)))))))), ((cell_far (p := ⟨gb522, _, none⟩) NB515_522.out _).trans (((cell_far (p := ⟨gb522, _, none⟩) NB515_522.out _).trans (((cell_far (p := ⟨gb522, _, none⟩) NB515_522.out _).trans (((cell_far (p := ⟨gb522, _, none⟩) NB515_522.out _).trans (hHeld.2.1)))))))), ((cell_far (p := ⟨gb522, _, none⟩) NB515_522.out _).trans (((cell_far (p := ⟨gb522, _, none⟩) NB515_522.out _).trans (((cell_far (p := ⟨gb522, _, none⟩) NB515_522.out _).trans (((cell_far (p := ⟨gb522, _, none⟩) NB515_522.out _).trans (hHeld.2.2.1)))))))), ((cell_far (p := ⟨gb522, _, none⟩) (by first | exact Nat.ne_of_lt (Nat.lt_of_lt_of_le (by have := World.block_lt_of_cell? _ _ hw519_0; first | rwa [add_block] at this | exact this) GW522.out) | (rw [add_block]; exact Nat.ne_of_lt (Nat.lt_of_lt_of_le (by have := World.block_lt_of_cell? _ _ hw519_0; first | rwa [add_block] at this | exact this) GW522.out)) | (show (Addr.add _ _).block ≠ _; rw [add_block]; exact Nat.ne_of_lt (Nat.lt_of_lt_of_le (by have := World.block_lt_of_cell? _ _ hw519_0; first | rwa [add_block] at this | exact this) GW522.out)) | (dsimp only; exact Nat.ne_of_lt (Nat.lt_of_lt_of_le (by have := World.block_lt_of_cell? _ _ hw519_0; first | rwa [add_block] at this | exact this) GW522.out))) _).trans (((cell_far (p := ⟨gb522, _, none⟩) (by first | exact Nat.ne_of_lt (Nat.lt_of_lt_of_le (by have := World.block_lt_of_cell? _ _ hw519_0; first | rwa [add_block] at this | exact this) GW522.out) | (rw [add_block]; exact Nat.ne_of_lt (Nat.lt_of_lt_of_le (by have := World.block_lt_of_cell? _ _ hw519_0; first | rwa [add_block] at this | exact this) GW522.out)) | (show (Addr.add _ _).block ≠ _; rw [add_block]; exact Nat.ne_of_lt (Nat.lt_of_lt_of_le (by have := World.block_lt_of_cell? _ _ hw519_0; first | rwa [add_block] at this | exact this) GW522.out)) | (dsimp only; exact Nat.ne_of_lt (Nat.lt_of_lt_of_le (by have := World.block_lt_of_cell? _ _ hw519_0; first | rwa [add_block] at this | exact this) GW522.out))) _).trans (((cell_far (p := ⟨gb522, _, none⟩) (by first | exact Nat.ne_of_lt (Nat.lt_of_lt_of_le (by have := World.block_lt_of_cell? _ _ hw519_0; first | rwa [add_block] at this | exact this) GW522.out) | (rw [add_block]; exact Nat.ne_of_lt (Nat.lt_of_lt_of_le (by have := World.block_lt_of_cell? _ _ hw519_0; first | rwa [add_block] at this | exact this) GW522.out)) | (show (Addr.add _ _).block ≠ _; rw [add_block]; exact Nat.ne_of_lt (Nat.lt_of_lt_of_le (by have := World.block_lt_of_cell? _ _ hw519_0; first | rwa [add_block] at this | exact this) GW522.out)) | (dsimp only; exact Nat.ne_of_lt (Nat.lt_of_lt_of_le (by have := World.block_lt_of_cell? _ _ hw519_0; first | rwa [add_block] at this | exact this) GW522.out))) _).trans (((cell_far (p := ⟨gb522, _, none⟩) (by first | exact Nat.ne_of_lt (Nat.lt_of_lt_of_le (by have := World.block_lt_of_cell? _ _ hw519_0; first | rwa [add_block] at this | exact this) GW522.out) | (rw [add_block]; exact Nat.ne_of_lt (Nat.lt_of_lt_of_le (by have := World.block_lt_of_cell? _ _ hw519_0; first | rwa [add_block] at this | exact this) GW522.out)) | (show (Addr.add _ _).block ≠ _; rw [add_block]; exact Nat.ne_of_lt (Nat.lt_of_lt_of_le (by have := World.block_lt_of_cell? _ _ hw519_0; first | rwa [add_block] at this | exact this) GW522.out)) | (dsimp only; exact Nat.ne_of_lt (Nat.lt_of_lt_of_le (by have := World.block_lt_of_cell? _ _ hw519_0; first | rwa [add_block] at this | exact this) GW522.out))) _).trans (hHeld.2.2.2.1)))))))), ((cell_far (p := ⟨gb522, _, none⟩) (by first | exact Nat.ne_of_lt (Nat.lt_of_lt_of_le (by have := World.block_lt_of_cell? _ _ hw519_1; first | rwa [add_block] at this | exact this) GW522.out) | (rw [add_block]; exact Nat.ne_of_lt (Nat.lt_of_lt_of_le (by have := World.block_lt_of_cell? _ _ hw519_1; first | rwa [add_block] at this | exact this) GW522.out)) | (show (Addr.add _ _).block ≠ _; rw [add_block]; exact Nat.ne_of_lt (Nat.lt_of_lt_of_le (by have := World.block_lt_of_cell? _ _ hw519_1; first | rwa [add_block] at this | exact this) GW522.out)) | (dsimp only; exact Nat.ne_of_lt (Nat.lt_of_lt_of_le (by have := World.block_lt_of_cell? _ _ hw519_1; first | rwa [add_block] at this | exact this) GW522.out))) _).trans (((cell_far (p := ⟨gb522, _, none⟩) (by first | exact Nat.ne_of_lt (Nat.lt_of_lt_of_le (by have := World.block_lt_of_cell? _ _ hw519_1; first | rwa [add_block] at this | exact this) GW522.out) | (rw [add_block]; exact Nat.ne_of_lt (Nat.lt_of_lt_of_le (by have := World.block_lt_of_cell? _ _ hw519_1; first | rwa [add_block] at this | exact this) GW522.out)) | (show (Addr.add _ _).block ≠ _; rw [add_block]; exact Nat.ne_of_lt (Nat.lt_of_lt_of_le (by have := World.block_lt_of_cell? _ _ hw519_1; first | rwa [add_block] at this | exact this) GW522.out)) | (dsimp only; exact Nat.ne_of_lt (Nat.lt_of_lt_of_le (by have := World.block_lt_of_cell? _ _ hw519_1; first | rwa [add_block] at this | exact this) GW522.out))) _).trans (((cell_far (p := ⟨gb522, _, none⟩) (by first | exact Nat.ne_of_lt (Nat.lt_of_lt_of_le (by have := World.block_lt_of_cell? _ _ hw519_1; first | rwa [add_block] at this | exact this) GW522.out) | (rw [add_block]; exact Nat.ne_of_lt (Nat.lt_of_lt_of_le (by have := World.block_lt_of_cell? _ _ hw519_1; first | rwa [add_block] at this | exact this) GW522.out)) | (show (Addr.add _ _).block ≠ _; rw [add_block]; exact Nat.ne_of_lt (Nat.lt_of_lt_of_le (by have := World.block_lt_of_cell? _ _ hw519_1; first | rwa [add_block] at this | exact this) GW522.out)) | (dsimp only; exact Nat.ne_of_lt (Nat.lt_of_lt_of_le (by have := World.block_lt_of_cell? _ _ hw519_1; first | rwa [add_block] at this | exact this) GW522.out))) _).trans (((cell_far (p := ⟨gb522, _, none⟩) (by first | exact Nat.ne_of_lt (Nat.lt_of_lt_of_le (by have := World.block_lt_of_cell? _ _ hw519_1; first | rwa [add_block] at this | exact this) GW522.out) | (rw [add_block]; exact Nat.ne_of_lt (Nat.lt_of_lt_of_le (by have := World.block_lt_of_cell? _ _ hw519_1; first | rwa [add_block] at this | exact this) GW522.out)) | (show (Addr.add _ _).block ≠ _; rw [add_block]; exact Nat.ne_of_lt (Nat.lt_of_lt_of_le (by have := World.block_lt_of_cell? _ _ hw519_1; first | rwa [add_block] at this | exact this) GW522.out)) | (dsimp only; exact Nat.ne_of_lt (Nat.lt_of_lt_of_le (by have := World.block_lt_of_cell? _ _ hw519_1; first | rwa [add_block] at this | exact this) GW522.out))) _).trans (hHeld.2.2.2.2.1)))))))), ((cell_far (p := ⟨gb522, _, none⟩) (by first | exact Nat.ne_of_lt (Nat.lt_of_lt_of_le (by have := World.block_lt_of_cell? _ _ hw519_2; first | rwa [add_block] at this | exact this) GW522.out) | (rw [add_block]; exact Nat.ne_of_lt (Nat.lt_of_lt_of_le (by have := World.block_lt_of_cell? _ _ hw519_2; first | rwa [add_block] at this | exact this) GW522.out)) | (show (Addr.add _ _).block ≠ _; rw [add_block]; exact Nat.ne_of_lt (Nat.lt_of_lt_of_le (by have := World.block_lt_of_cell? _ _ hw519_2; first | rwa [add_block] at this | exact this) GW522.out)) | (dsimp only; exact Nat.ne_of_lt (Nat.lt_of_lt_of_le (by have := World.block_lt_of_cell? _ _ hw519_2; first | rwa [add_block] at this | exact this) GW522.out))) _).trans (((cell_far (p := ⟨gb522, _, none⟩) (by first | exact Nat.ne_of_lt (Nat.lt_of_lt_of_le (by have := World.block_lt_of_cell? _ _ hw519_2; first | rwa [add_block] at this | exact this) GW522.out) | (rw [add_block]; exact Nat.ne_of_lt (Nat.lt_of_lt_of_le (by have := World.block_lt_of_cell? _ _ hw519_2; first | rwa [add_block] at this | exact this) GW522.out)) | (show (Addr.add _ _).block ≠ _; rw [add_block]; exact Nat.ne_of_lt (Nat.lt_of_lt_of_le (by have := World.block_lt_of_cell? _ _ hw519_2; first | rwa [add_block] at this | exact this) GW522.out)) | (dsimp only; exact Nat.ne_of_lt (Nat.lt_of_lt_of_le (by have := World.block_lt_of_cell? _ _ hw519_2; first | rwa [add_block] at this | exact this) GW522.out))) _).trans (((cell_far (p := ⟨gb522, _, none⟩) (by first | exact Nat.ne_of_lt (Nat.lt_of_lt_of_le (by have := World.block_lt_of_cell? _ _ hw519_2; first | rwa [add_block] at this | exact this) GW522.out) | (rw [add_block]; exact Nat.ne_of_lt (Nat.lt_of_lt_of_le (by have := World.block_lt_of_cell? _ _ hw519_2; first | rwa [add_block] at this | exact this) GW522.out)) | (show (Addr.add _ _).block ≠ _; rw [add_block]; exact Nat.ne_of_lt (Nat.lt_of_lt_of_le (by have := World.block_lt_of_cell? _ _ hw519_2; first | rwa [add_block] at this | exact this) GW522.out)) | (dsimp only; exact Nat.ne_of_lt (Nat.lt_of_lt_of_le (by have := World.block_lt_of_cell? _ _ hw519_2; first | rwa [add_block] at this | exact this) GW522.out))) _).trans (((cell_far (p := ⟨gb522, _, none⟩) (by first | exact Nat.ne_of_lt (Nat.lt_of_lt_of_le (by have := World.block_lt_of_cell? _ _ hw519_2; first | rwa [add_block] at this | exact this) GW522.out) | (rw [add_block]; exact Nat.ne_of_lt (Nat.lt_of_lt_of_le (by have := World.block_lt_of_cell? _ _ hw519_2; first | rwa [add_block] at this | exact this) GW522.out)) | (show (Addr.add _ _).block ≠ _; rw [add_block]; exact Nat.ne_of_lt (Nat.lt_of_lt_of_le (by have := World.block_lt_of_cell? _ _ hw519_2; first | rwa [add_block] at this | exact this) GW522.out)) | (dsimp only; exact Nat.ne_of_lt (Nat.lt_of_lt_of_le (by have := World.block_lt_of_cell? _ _ hw519_2; first | rwa [add_block] at this | exact this) GW522.out))) _).trans (hHeld.2.2.2.2.2.1)))))))), ((cell_far (p := ⟨gb522, _, none⟩) (by first | exact Nat.ne_of_lt (Nat.lt_of_lt_of_le (by have := World.block_lt_of_cell? _ _ hw519_3; first | rwa [add_block] at this | exact this) GW522.out) | (rw [add_block]; exact Nat.ne_of_lt (Nat.lt_of_lt_of_le (by have := World.block_lt_of_cell? _ _ hw519_3; first | rwa [add_block] at this | exact this) GW522.out)) | (show (Addr.add _ _).block ≠ _; rw [add_block]; exact Nat.ne_of_lt (Nat.lt_of_lt_of_le (by have := World.block_lt_of_cell? _ _ hw519_3; first | rwa [add_block] at this | exact this) GW522.out)) | (dsimp only; exact Nat.ne_of_lt (Nat.lt_of_lt_of_le (by have := World.block_lt_of_cell? _ _ hw519_3; first | rwa [add_block] at this | exact this) GW522.out))) _).trans (((cell_far (p := ⟨gb522, _, none⟩) (by first | exact Nat.ne_of_lt (Nat.lt_of_lt_of_le (by have := World.block_lt_of_cell? _ _ hw519_3; first | rwa [add_block] at this | exact this) GW522.out) | (rw [add_block]; exact Nat.ne_of_lt (Nat.lt_of_lt_of_le (by have := World.block_lt_of_cell? _ _ hw519_3; first | rwa [add_block] at this | exact this) GW522.out)) | (show (Addr.add _ _).block ≠ _; rw [add_block]; exact Nat.ne_of_lt (Nat.lt_of_lt_of_le (by have := World.block_lt_of_cell? _ _ hw519_3; first | rwa [add_block] at this | exact this) GW522.out)) | (dsimp only; exact Nat.ne_of_lt (Nat.lt_of_lt_of_le (by have := World.block_lt_of_cell? _ _ hw519_3; first | rwa [add_block] at this | exact this) GW522.out))) _).trans (((cell_far (p := ⟨gb522, _, none⟩) (by first | exact Nat.ne_of_lt (Nat.lt_of_lt_of_le (by have := World.block_lt_of_cell? _ _ hw519_3; first | rwa [add_block] at this | exact this) GW522.out) | (rw [add_block]; exact Nat.ne_of_lt (Nat.lt_of_lt_of_le (by have := World.block_lt_of_cell? _ _ hw519_3; first | rwa [add_block] at this | exact this) GW522.out)) | (show (Addr.add _ _).block ≠ _; rw [add_block]; exact Nat.ne_of_lt (Nat.lt_of_lt_of_le (by have := World.block_lt_of_cell? _ _ hw519_3; first | rwa [add_block] at this | exact this) GW522.out)) | (dsimp only; exact Nat.ne_of_lt (Nat.lt_of_lt_of_le (by have := World.block_lt_of_cell? _ _ hw519_3; first | rwa [add_block] at this | exact this) GW522.out))) _).trans (((cell_far (p := ⟨gb522, _, none⟩) (by first | exact Nat.ne_of_lt (Nat.lt_of_lt_of_le (by have := World.block_lt_of_cell? _ _ hw519_3; first | rwa [add_block] at this | exact this) GW522.out) | (rw [add_block]; exact Nat.ne_of_lt (Nat.lt_of_lt_of_le (by have := World.block_lt_of_cell? _ _ hw519_3; first | rwa [add_block] at this | exact this) GW522.out)) | (show (Addr.add _ _).block ≠ _; rw [add_block]; exact Nat.ne_of_lt (Nat.lt_of_lt_of_le (by have := World.block_lt_of_cell? _ _ hw519_3; first | rwa [add_block] at this | exact this) GW522.out)) | (dsimp only; exact Nat.ne_of_lt (Nat.lt_of_lt_of_le (by have := World.block_lt_of_cell? _ _ hw519_3; first | rwa [add_block] at this | exact this) GW522.out))) _).trans (hHeld.2.2.2.2.2.2.1)))))))), ((cell_far (p := ⟨gb522, _, none⟩) (by first | exact Nat.ne_of_lt (Nat.lt_of_lt_of_le (by have := World.block_lt_of_cell? _ _ hw520_0; first | rwa [add_block] at this | exact this) GW522.out) | (rw [add_block]; exact Nat.ne_of_lt (Nat.lt_of_lt_of_le (by have := World.block_lt_of_cell? _ _ hw520_0; first | rwa [add_block] at this | exact this) GW522.out)) | (show (Addr.add _ _).block ≠ _; rw [add_block]; exact Nat.ne_of_lt (Nat.lt_of_lt_of_le (by have := World.block_lt_of_cell? _ _ hw520_0; first | rwa [add_block] at this | exact this) GW522.out)) | (dsimp only; exact Nat.ne_of_lt (Nat.lt_of_lt_of_le (by have := World.block_lt_of_cell? _ _ hw520_0; first | rwa [add_block] at this | exact this) GW522.out))) _).trans (((cell_far (p := ⟨gb522, _, none⟩) (by first | exact Nat.ne_of_lt (Nat.lt_of_lt_of_le (by have := World.block_lt_of_cell? _ _ hw520_0; first | rwa [add_block] at this | exact this) GW522.out) | (rw [add_block]; exact Nat.ne_of_lt (Nat.lt_of_lt_of_le (by have := World.block_lt_of_cell? _ _ hw520_0; first | rwa [add_block] at this | exact this) GW522.out)) | (show (Addr.add _ _).block ≠ _; rw [add_block]; exact Nat.ne_of_lt (Nat.lt_of_lt_of_le (by have := World.block_lt_of_cell? _ _ hw520_0; first | rwa [add_block] at this | exact this) GW522.out)) | (dsimp only; exact Nat.ne_of_lt (Nat.lt_of_lt_of_le (by have := World.block_lt_of_cell? _ _ hw520_0; first | rwa [add_block] at this | exact this) GW522.out))) _).trans (((cell_far (p := ⟨gb522, _, none⟩) (by first | exact Nat.ne_of_lt (Nat.lt_of_lt_of_le (by have := World.block_lt_of_cell? _ _ hw520_0; first | rwa [add_block] at this | exact this) GW522.out) | (rw [add_block]; exact Nat.ne_of_lt (Nat.lt_of_lt_of_le (by have := World.block_lt_of_cell? _ _ hw520_0; first | rwa [add_block] at this | exact this) GW522.out)) | (show (Addr.add _ _).block ≠ _; rw [add_block]; exact Nat.ne_of_lt (Nat.lt_of_lt_of_le (by have := World.block_lt_of_cell? _ _ hw520_0; first | rwa [add_block] at this | exact this) GW522.out)) | (dsimp only; exact Nat.ne_of_lt (Nat.lt_of_lt_of_le (by have := World.block_lt_of_cell? _ _ hw520_0; first | rwa [add_block] at this | exact this) GW522.out))) _).trans (((cell_far (p := ⟨gb522, _, none⟩) (by first | exact Nat.ne_of_lt (Nat.lt_of_lt_of_le (by have := World.block_lt_of_cell? _ _ hw520_0; first | rwa [add_block] at this | exact this) GW522.out) | (rw [add_block]; exact Nat.ne_of_lt (Nat.lt_of_lt_of_le (by have := World.block_lt_of_cell? _ _ hw520_0; first | rwa [add_block] at this | exact this) GW522.out)) | (show (Addr.add _ _).block ≠ _; rw [add_block]; exact Nat.ne_of_lt (Nat.lt_of_lt_of_le (by have := World.block_lt_of_cell? _ _ hw520_0; first | rwa [add_block] at this | exact this) GW522.out)) | (dsimp only; exact Nat.ne_of_lt (Nat.lt_of_lt_of_le (by have := World.block_lt_of_cell? _ _ hw520_0; first | rwa [add_block] at this | exact this) GW522.out))) _).trans (hHeld.2.2.2.2.2.2.2.1)))))))), ((cell_far (p := ⟨gb522, _, none⟩) (by first | exact Nat.ne_of_lt (Nat.lt_of_lt_of_le (by have := World.block_lt_of_cell? _ _ hw520_1; first | rwa [add_block] at this | exact this) GW522.out) | (rw [add_block]; exact Nat.ne_of_lt (Nat.lt_of_lt_of_le (by have := World.block_lt_of_cell? _ _ hw520_1; first | rwa [add_block] at this | exact this) GW522.out)) | (show (Addr.add _ _).block ≠ _; rw [add_block]; exact Nat.ne_of_lt (Nat.lt_of_lt_of_le (by have := World.block_lt_of_cell? _ _ hw520_1; first | rwa [add_block] at this | exact this) GW522.out)) | (dsimp only; exact Nat.ne_of_lt (Nat.lt_of_lt_of_le (by have := World.block_lt_of_cell? _ _ hw520_1; first | rwa [add_block] at this | exact this) GW522.out))) _).trans (((cell_far (p := ⟨gb522, _, none⟩) (by first | exact Nat.ne_of_lt (Nat.lt_of_lt_of_le (by have := World.block_lt_of_cell? _ _ hw520_1; first | rwa [add_block] at this | exact this) GW522.out) | (rw [add_block]; exact Nat.ne_of_lt (Nat.lt_of_lt_of_le (by have := World.block_lt_of_cell? _ _ hw520_1; first | rwa [add_block] at this | exact this) GW522.out)) | (show (Addr.add _ _).block ≠ _; rw [add_block]; exact Nat.ne_of_lt (Nat.lt_of_lt_of_le (by have := World.block_lt_of_cell? _ _ hw520_1; first | rwa [add_block] at this | exact this) GW522.out)) | (dsimp only; exact Nat.ne_of_lt (Nat.lt_of_lt_of_le (by have := World.block_lt_of_cell? _ _ hw520_1; first | rwa [add_block] at this | exact this) GW522.out))) _).trans (((cell_far (p := ⟨gb522, _, none⟩) (by first | exact Nat.ne_of_lt (Nat.lt_of_lt_of_le (by have := World.block_lt_of_cell? _ _ hw520_1; first | rwa [add_block] at this | exact this) GW522.out) | (rw [add_block]; exact Nat.ne_of_lt (Nat.lt_of_lt_of_le (by have := World.block_lt_of_cell? _ _ hw520_1; first | rwa [add_block] at this | exact this) GW522.out)) | (show (Addr.add _ _).block ≠ _; rw [add_block]; exact Nat.ne_of_lt (Nat.lt_of_lt_of_le (by have := World.block_lt_of_cell? _ _ hw520_1; first | rwa [add_block] at this | exact this) GW522.out)) | (dsimp only; exact Nat.ne_of_lt (Nat.lt_of_lt_of_le (by have := World.block_lt_of_cell? _ _ hw520_1; first | rwa [add_block] at this | exact this) GW522.out))) _).trans (((cell_far (p := ⟨gb522, _, none⟩) (by first | exact Nat.ne_of_lt (Nat.lt_of_lt_of_le (by have := World.block_lt_of_cell? _ _ hw520_1; first | rwa [add_block] at this | exact this) GW522.out) | (rw [add_block]; exact Nat.ne_of_lt (Nat.lt_of_lt_of_le (by have := World.block_lt_of_cell? _ _ hw520_1; first | rwa [add_block] at this | exact this) GW522.out)) | (show (Addr.add _ _).block ≠ _; rw [add_block]; exact Nat.ne_of_lt (Nat.lt_of_lt_of_le (by have := World.block_lt_of_cell? _ _ hw520_1; first | rwa [add_block] at this | exact this) GW522.out)) | (dsimp only; exact Nat.ne_of_lt (Nat.lt_of_lt_of_le (by have := World.block_lt_of_cell? _ _ hw520_1; first | rwa [add_block] at this | exact this) GW522.out))) _).trans (hHeld.2.2.2.2.2.2.2.2.1)))))))), ((cell_far (p := ⟨gb522, _, none⟩) (by first | exact Nat.ne_of_lt (Nat.lt_of_lt_of_le (by have := World.block_lt_of_cell? _ _ hw520_2; first | rwa [add_block] at this | exact this) GW522.out) | (rw [add_block]; exact Nat.ne_of_lt (Nat.lt_of_lt_of_le (by have := World.block_lt_of_cell? _ _ hw520_2; first | rwa [add_block] at this | exact this) GW522.out)) | (show (Addr.add _ _).block ≠ _; rw [add_block]; exact Nat.ne_of_lt (Nat.lt_of_lt_of_le (by have := World.block_lt_of_cell? _ _ hw520_2; first | rwa [add_block] at this | exact this) GW522.out)) | (dsimp only; exact Nat.ne_of_lt (Nat.lt_of_lt_of_le (by have := World.block_lt_of_cell? _ _ hw520_2; first | rwa [add_block] at this | exact this) GW522.out))) _).trans (((cell_far (p := ⟨gb522, _, none⟩) (by first | exact Nat.ne_of_lt (Nat.lt_of_lt_of_le (by have := World.block_lt_of_cell? _ _ hw520_2; first | rwa [add_block] at this | exact this) GW522.out) | (rw [add_block]; exact Nat.ne_of_lt (Nat.lt_of_lt_of_le (by have := World.block_lt_of_cell? _ _ hw520_2; first | rwa [add_block] at this | exact this) GW522.out)) | (show (Addr.add _ _).block ≠ _; rw [add_block]; exact Nat.ne_of_lt (Nat.lt_of_lt_of_le (by have := World.block_lt_of_cell? _ _ hw520_2; first | rwa [add_block] at this | exact this) GW522.out)) | (dsimp only; exact Nat.ne_of_lt (Nat.lt_of_lt_of_le (by have := World.block_lt_of_cell? _ _ hw520_2; first | rwa [add_block] at this | exact this) GW522.out))) _).trans (((cell_far (p := ⟨gb522, _, none⟩) (by first | exact Nat.ne_of_lt (Nat.lt_of_lt_of_le (by have := World.block_lt_of_cell? _ _ hw520_2; first | rwa [add_block] at this | exact this) GW522.out) | (rw [add_block]; exact Nat.ne_of_lt (Nat.lt_of_lt_of_le (by have := World.block_lt_of_cell? _ _ hw520_2; first | rwa [add_block] at this | exact this) GW522.out)) | (show (Addr.add _ _).block ≠ _; rw [add_block]; exact Nat.ne_of_lt (Nat.lt_of_lt_of_le (by have := World.block_lt_of_cell? _ _ hw520_2; first | rwa [add_block] at this | exact this) GW522.out)) | (dsimp only; exact Nat.ne_of_lt (Nat.lt_of_lt_of_le (by have := World.block_lt_of_cell? _ _ hw520_2; first | rwa [add_block] at this | exact this) GW522.out))) _).trans (((cell_far (p := ⟨gb522, _, none⟩) (by first | exact Nat.ne_of_lt (Nat.lt_of_lt_of_le (by have := World.block_lt_of_cell? _ _ hw520_2; first | rwa [add_block] at this | exact this) GW522.out) | (rw [add_block]; exact Nat.ne_of_lt (Nat.lt_of_lt_of_le (by have := World.block_lt_of_cell? _ _ hw520_2; first | rwa [add_block] at this | exact this) GW522.out)) | (show (Addr.add _ _).block ≠ _; rw [add_block]; exact Nat.ne_of_lt (Nat.lt_of_lt_of_le (by have := World.block_lt_of_cell? _ _ hw520_2; first | rwa [add_block] at this | exact this) GW522.out)) | (dsimp only; exact Nat.ne_of_lt (Nat.lt_of_lt_of_le (by have := World.block_lt_of_cell? _ _ hw520_2; first | rwa [add_block] at this | exact this) GW522.out))) _).trans (hHeld.2.2.2.2.2.2.2.2.2.1)))))))), ((cell_far (p := ⟨gb522, _, none⟩) (by first | exact Nat.ne_of_lt (Nat.lt_of_lt_of_le (by have := World.block_lt_of_cell? _ _ hw520_3; first | rwa [add_block] at this | exact this) GW522.out) | (rw [add_block]; exact Nat.ne_of_lt (Nat.lt_of_lt_of_le (by have := World.block_lt_of_cell? _ _ hw520_3; first | rwa [add_block] at this | exact this) GW522.out)) | (show (Addr.add _ _).block ≠ _; rw [add_block]; exact Nat.ne_of_lt (Nat.lt_of_lt_of_le (by have := World.block_lt_of_cell? _ _ hw520_3; first | rwa [add_block] at this | exact this) GW522.out)) | (dsimp only; exact Nat.ne_of_lt (Nat.lt_of_lt_of_le (by have := World.block_lt_of_cell? _ _ hw520_3; first | rwa [add_block] at this | exact this) GW522.out))) _).trans (((cell_far (p := ⟨gb522, _, none⟩) (by first | exact Nat.ne_of_lt (Nat.lt_of_lt_of_le (by have := World.block_lt_of_cell? _ _ hw520_3; first | rwa [add_block] at this | exact this) GW522.out) | (rw [add_block]; exact Nat.ne_of_lt (Nat.lt_of_lt_of_le (by have := World.block_lt_of_cell? _ _ hw520_3; first | rwa [add_block] at this | exact this) GW522.out)) | (show (Addr.add _ _).block ≠ _; rw [add_block]; exact Nat.ne_of_lt (Nat.lt_of_lt_of_le (by have := World.block_lt_of_cell? _ _ hw520_3; first | rwa [add_block] at this | exact this) GW522.out)) | (dsimp only; exact Nat.ne_of_lt (Nat.lt_of_lt_of_le (by have := World.block_lt_of_cell? _ _ hw520_3; first | rwa [add_block] at this | exact this) GW522.out))) _).trans (((cell_far (p := ⟨gb522, _, none⟩) (by first | exact Nat.ne_of_lt (Nat.lt_of_lt_of_le (by have := World.block_lt_of_cell? _ _ hw520_3; first | rwa [add_block] at this | exact this) GW522.out) | (rw [add_block]; exact Nat.ne_of_lt (Nat.lt_of_lt_of_le (by have := World.block_lt_of_cell? _ _ hw520_3; first | rwa [add_block] at this | exact this) GW522.out)) | (show (Addr.add _ _).block ≠ _; rw [add_block]; exact Nat.ne_of_lt (Nat.lt_of_lt_of_le (by have := World.block_lt_of_cell? _ _ hw520_3; first | rwa [add_block] at this | exact this) GW522.out)) | (dsimp only; exact Nat.ne_of_lt (Nat.lt_of_lt_of_le (by have := World.block_lt_of_cell? _ _ hw520_3; first | rwa [add_block] at this | exact this) GW522.out))) _).trans (((cell_far (p := ⟨gb522, _, none⟩) (by first | exact Nat.ne_of_lt (Nat.lt_of_lt_of_le (by have := World.block_lt_of_cell? _ _ hw520_3; first | rwa [add_block] at this | exact this) GW522.out) | (rw [add_block]; exact Nat.ne_of_lt (Nat.lt_of_lt_of_le (by have := World.block_lt_of_cell? _ _ hw520_3; first | rwa [add_block] at this | exact this) GW522.out)) | (show (Addr.add _ _).block ≠ _; rw [add_block]; exact Nat.ne_of_lt (Nat.lt_of_lt_of_le (by have := World.block_lt_of_cell? _ _ hw520_3; first | rwa [add_block] at this | exact this) GW522.out)) | (dsimp only; exact Nat.ne_of_lt (Nat.lt_of_lt_of_le (by have := World.block_lt_of_cell? _ _ hw520_3; first | rwa [add_block] at this | exact this) GW522.out))) _).trans (hHeld.2.2.2.2.2.2.2.2.2.2))))))))⟩ (fun hHeld => ?_)
     clear hK K
     refine done_ (done_of HT_.out (by kernel_rfl)) ?_
     try go_wp2
     go_loopg [9] kj3 (fun kq v9 w' => ∃ (x9_2 : Int) (x522000_2 : Int) (x522001_2 : Int) (x522002_2 : Int) (x522003_2 : Int) (x523000_2 : Int) (x523001_2 : Int) (x523002_2 : Int) (x523003_2 : Int), v9 = .int .i64 x9_2 ∧ Aside0 (compositorlaw10_ScaleUniform.l0 kq a1 a2 x9_2 a0_0 a0_1 l0_2 x522000_2 x522001_2 x522002_2 x522003_2 x523000_2 x523001_2 x523002_2 x523003_2 = some true) ∧ Aside0 (kq ≤ kj3) ∧ Aside0 (w'.heap[gb515]? = some (.cells #[.int .i64 a0_0, .int .i64 a0_1, (.slice (some ad519) l0_2.length c0_2)] 24 (0, 0))) ∧ Aside0 (w'.heap[gb521]? = some (.cells #[.int .u8 x522000_2, .int .u8 x522001_2, .int .u8 x522002_2, .int .u8 x522003_2] 43 (0, 0))) ∧ Aside0 (w'.heap[gb522]? = some (.cells #[.int .u8 x523000_2, .int .u8 x523001_2, .int .u8 x523002_2, .int .u8 x523003_2] 43 (0, 0))) ∧ Aside0 (Below w.heap.size w w'))
     case atStart => exact ⟨(0), ((rd_T43 l0_2 0).f0), ((rd_T43 l0_2 0).f1), ((rd_T43 l0_2 0).f2), ((rd_T43 l0_2 0).f3), ((rd_T43 l0_2 0).f0), ((rd_T43 l0_2 0).f1), ((rd_T43 l0_2 0).f2), ((rd_T43 l0_2 0).f3), (by first | rfl | (simp; done) | (simp [*]; done)), H', ⟨Nat.le_refl _⟩, bf_ BK515, ⟨by (with_reducible repeat (first | refine blk_drewN ?_ _ | refine blk_drew ?_ | refine blk_alloc ?_ _)); refine blk_far ?_ NB521_522.out _; (with_reducible repeat (first | refine blk_drewN ?_ _ | refine blk_drew ?_ | refine blk_alloc ?_ _)); refine blk_far ?_ NB521_522.out _; (with_reducible repeat (first | refine blk_drewN ?_ _ | refine blk_drew ?_ | refine blk_alloc ?_ _)); refine blk_far ?_ NB521_522.out _; (with_reducible repeat (first | refine blk_drewN ?_ _ | refine blk_drew ?_ | refine blk_alloc ?_ _)); refine blk_far ?_ NB521_522.out _; (with_reducible repeat (first | refine blk_drewN ?_ _ | refine blk_drew ?_ | refine blk_alloc ?_ _)); refine blk_put (cs := #[.int .u8 ((rd_T43 l0_2 0).f0), .int .u8 ((rd_T43 l0_2 0).f1), .int .u8 ((rd_T43 l0_2 0).f2), .int .u8 0]) ?_ 3 _ rfl; (with_reducible repeat (first | refine blk_drewN ?_ _ | refine blk_drew ?_ | refine blk_alloc ?_ _)); refine blk_put (cs := #[.int .u8 ((rd_T43 l0_2 0).f0), .int .u8 ((rd_T43 l0_2 0).f1), .int .u8 0, .int .u8 0]) ?_ 2 _ rfl; (with_reducible repeat (first | refine blk_drewN ?_ _ | refine blk_drew ?_ | refine blk_alloc ?_ _)); refine blk_put (cs := #[.int .u8 ((rd_T43 l0_2 0).f0), .int .u8 0, .int .u8 0, .int .u8 0]) ?_ 1 _ rfl; (with_reducible repeat (first | refine blk_drewN ?_ _ | refine blk_drew ?_ | refine blk_alloc ?_ _)); refine blk_put (cs := #[.int .u8 0, .int .u8 0, .int .u8 0, .int .u8 0]) ?_ 0 _ rfl; (with_reducible repeat (first | refine blk_drewN ?_ _ | refine blk_drew ?_ | refine blk_alloc ?_ _)); exact BK521.out⟩, ⟨by (with_reducible repeat (first | refine blk_drewN ?_ _ | refine blk_drew ?_ | refine blk_alloc ?_ _)); refine blk_put (cs := #[.int .u8 ((rd_T43 l0_2 0).f0), .int .u8 ((rd_T43 l0_2 0).f1), .int .u8 ((rd_T43 l0_2 0).f2), .int .u8 0]) ?_ 3 _ rfl; (with_reducible repeat (first | refine blk_drewN ?_ _ | refine blk_drew ?_ | refine blk_alloc ?_ _)); refine blk_put (cs := #[.int .u8 ((rd_T43 l0_2 0).f0), .int .u8 ((rd_T43 l0_2 0).f1), .int .u8 0, .int .u8 0]) ?_ 2 _ rfl; (with_reducible repeat (first | refine blk_drewN ?_ _ | refine blk_drew ?_ | refine blk_alloc ?_ _)); refine blk_put (cs := #[.int .u8 ((rd_T43 l0_2 0).f0), .int .u8 0, .int .u8 0, .int .u8 0]) ?_ 1 _ rfl; (with_reducible repeat (first | refine blk_drewN ?_ _ | refine blk_drew ?_ | refine blk_alloc ?_ _)); refine blk_put (cs := #[.int .u8 0, .int .u8 0, .int .u8 0, .int .u8 0]) ?_ 0 _ rfl; (with_reducible repeat (first | refine blk_drewN ?_ _ | refine blk_drew ?_ | refine blk_alloc ?_ _)); refine blk_far ?_ NB522_521.out _; (with_reducible repeat (first | refine blk_drewN ?_ _ | refine blk_drew ?_ | refine blk_alloc ?_ _)); refine blk_far ?_ NB522_521.out _; (with_reducible repeat (first | refine blk_drewN ?_ _ | refine blk_drew ?_ | refine blk_alloc ?_ _)); refine blk_far ?_ NB522_521.out _; (with_reducible repeat (first | refine blk_drewN ?_ _ | refine blk_drew ?_ | refine blk_alloc ?_ _)); refine blk_far ?_ NB522_521.out _; (with_reducible repeat (first | refine blk_drewN ?_ _ | refine blk_drew ?_ | refine blk_alloc ?_ _)); exact BK522.out⟩, ⟨by repeat (first | (with_reducible first | exact HB.out | apply below_alloc | apply pw_below_drewN | apply below_drew1 | refine below_set ?_ GE515.out | refine below_set ?_ GE521.out | refine below_set ?_ GE522.out) | exact HB.out)⟩⟩
     case round =>
      clear H'
      try clear c1
      try clear c2
      try clear p2
      try clear c3
      try clear p5
      try clear q5
      try clear hx5
      try clear qi5
      try clear c7
      try clear c9
      try clear c10
      try clear c10b0
      try clear c11
      try clear c12
      try clear c15
      try clear c15b0
      try clear c20
      try clear c20b0
      try clear c35
      try clear c38
      try clear c38b0
      try clear c38b1
      try clear hcz11_0
      try clear hcz11_1
      try clear hcz11_2
      try clear hcz13_0
      try clear hcz13_1
      try clear hcz13_2
      try clear hcz16_0
      try clear hcz16_1
      try clear hcz16_2
      try clear hcz18_0
      try clear hcz18_1
      try clear hcz18_2
      try clear hcz21_0
      try clear hcz21_1
      try clear hcz21_2
      try clear hcz23_0
      try clear hcz23_1
      try clear hcz23_2
      try clear hcz25_0
      try clear hcz25_1
      try clear hcz25_2
      try clear hcz27_0
      try clear hcz27_1
      try clear hcz27_2
      try clear hcz29_0
      try clear hcz29_1
      try clear hcz29_2
      try clear hcz31_0
      try clear hcz31_1
      try clear hcz31_2
      try clear hcz33_0
      try clear hcz33_1
      try clear hcz33_2
      try clear hfz11_0
      try clear hfz11_1
      try clear hfz11_2
      try clear hfz13_0
      try clear hfz13_1
      try clear hfz13_2
      try clear hfz16_0
      try clear hfz16_1
      try clear hfz16_2
      try clear hfz18_0
      try clear hfz18_1
      try clear hfz18_2
      try clear hfz21_0
      try clear hfz21_1
      try clear hfz21_2
      try clear hfz23_0
      try clear hfz23_1
      try clear hfz23_2
      try clear hfz25_0
      try clear hfz25_1
      try clear hfz25_2
      try clear hfz27_0
      try clear hfz27_1
      try clear hfz27_2
      try clear hfz29_0
      try clear hfz29_1
      try clear hfz29_2
      try clear hfz31_0
      try clear hfz31_1
      try clear hfz31_2
      try clear hfz33_0
      try clear hfz33_1
      try clear hfz33_2
      try clear hx519_0
      try clear hx519_1
      try clear hx519_2
      try clear hx519_3
      try clear hx520_0
      try clear hx520_1
      try clear hx520_2
      try clear hx520_3
      try clear p2
      try clear p519
      try clear p520
      try clear q519
      try clear q520
      obtain ⟨x9_2, x522000_2, x522001_2, x522002_2, x522003_2, x523000_2, x523001_2, x523002_2, x523003_2, rfl, HA, HK2, BK515, BK521, BK522, HB⟩ := hrel
      cases gk with
      | zero => exact absurd HA.out (by simp [compositorlaw10_ScaleUniform.l0])
      | succ k2 =>
       have H := HA.out
       clear HA
       simp only [compositorlaw10_ScaleUniform.l0] at H
       by_cases c51 : x9_2 < (l0_2.length : Int)
       ·
        rw [if_pos c51] at H
        have c51b0 : decide (x9_2 < (l0_2.length : Int)) = true := decide_eq_true c51
        clear c51
        by_cases c52 : 0 ≤ x9_2
        ·
         rw [if_pos c52] at H
         have c52b0 : decide (0 ≤ x9_2) = true := decide_eq_true c52
         clear c52
         obtain ⟨ji53, hji53⟩ : ∃ j_ : Int, (mn x522000_2 ((rd_T43 l0_2 x9_2).f0)) = j_ := ⟨_, rfl⟩
         replace H : (compositorlaw10_ScaleUniform.l0 k2 a1 a2 (wrap64 (x9_2 + 1)) a0_0 a0_1 l0_2 ji53 (mn x522001_2 ((rd_T43 l0_2 x9_2).f1)) (mn x522002_2 ((rd_T43 l0_2 x9_2).f2)) (mn x522003_2 ((rd_T43 l0_2 x9_2).f3)) (mx x523000_2 ((rd_T43 l0_2 x9_2).f0)) (mx x523001_2 ((rd_T43 l0_2 x9_2).f1)) (mx x523002_2 ((rd_T43 l0_2 x9_2).f2)) (mx x523003_2 ((rd_T43 l0_2 x9_2).f3))) = some true := by first | (rw [hji53] at H; exact H) | (simp only [hji53] at H ⊢; exact H)
         have hji53_ : (if ((rd_T43 l0_2 x9_2).f0) < x522000_2 then ((rd_T43 l0_2 x9_2).f0) else x522000_2) = ji53 := hji53
         obtain ⟨ji54, hji54⟩ : ∃ j_ : Int, (mn x522001_2 ((rd_T43 l0_2 x9_2).f1)) = j_ := ⟨_, rfl⟩
         replace H : (compositorlaw10_ScaleUniform.l0 k2 a1 a2 (wrap64 (x9_2 + 1)) a0_0 a0_1 l0_2 ji53 ji54 (mn x522002_2 ((rd_T43 l0_2 x9_2).f2)) (mn x522003_2 ((rd_T43 l0_2 x9_2).f3)) (mx x523000_2 ((rd_T43 l0_2 x9_2).f0)) (mx x523001_2 ((rd_T43 l0_2 x9_2).f1)) (mx x523002_2 ((rd_T43 l0_2 x9_2).f2)) (mx x523003_2 ((rd_T43 l0_2 x9_2).f3))) = some true := by first | (rw [hji54] at H; exact H) | (simp only [hji54] at H ⊢; exact H)
         have hji54_ : (if ((rd_T43 l0_2 x9_2).f1) < x522001_2 then ((rd_T43 l0_2 x9_2).f1) else x522001_2) = ji54 := hji54
         obtain ⟨ji55, hji55⟩ : ∃ j_ : Int, (mn x522002_2 ((rd_T43 l0_2 x9_2).f2)) = j_ := ⟨_, rfl⟩
         replace H : (compositorlaw10_ScaleUniform.l0 k2 a1 a2 (wrap64 (x9_2 + 1)) a0_0 a0_1 l0_2 ji53 ji54 ji55 (mn x522003_2 ((rd_T43 l0_2 x9_2).f3)) (mx x523000_2 ((rd_T43 l0_2 x9_2).f0)) (mx x523001_2 ((rd_T43 l0_2 x9_2).f1)) (mx x523002_2 ((rd_T43 l0_2 x9_2).f2)) (mx x523003_2 ((rd_T43 l0_2 x9_2).f3))) = some true := by first | (rw [hji55] at H; exact H) | (simp only [hji55] at H ⊢; exact H)
         have hji55_ : (if ((rd_T43 l0_2 x9_2).f2) < x522002_2 then ((rd_T43 l0_2 x9_2).f2) else x522002_2) = ji55 := hji55
         obtain ⟨ji56, hji56⟩ : ∃ j_ : Int, (mn x522003_2 ((rd_T43 l0_2 x9_2).f3)) = j_ := ⟨_, rfl⟩
         replace H : (compositorlaw10_ScaleUniform.l0 k2 a1 a2 (wrap64 (x9_2 + 1)) a0_0 a0_1 l0_2 ji53 ji54 ji55 ji56 (mx x523000_2 ((rd_T43 l0_2 x9_2).f0)) (mx x523001_2 ((rd_T43 l0_2 x9_2).f1)) (mx x523002_2 ((rd_T43 l0_2 x9_2).f2)) (mx x523003_2 ((rd_T43 l0_2 x9_2).f3))) = some true := by first | (rw [hji56] at H; exact H) | (simp only [hji56] at H ⊢; exact H)
         have hji56_ : (if ((rd_T43 l0_2 x9_2).f3) < x522003_2 then ((rd_T43 l0_2 x9_2).f3) else x522003_2) = ji56 := hji56
         obtain ⟨ji57, hji57⟩ : ∃ j_ : Int, (mx x523000_2 ((rd_T43 l0_2 x9_2).f0)) = j_ := ⟨_, rfl⟩
         replace H : (compositorlaw10_ScaleUniform.l0 k2 a1 a2 (wrap64 (x9_2 + 1)) a0_0 a0_1 l0_2 ji53 ji54 ji55 ji56 ji57 (mx x523001_2 ((rd_T43 l0_2 x9_2).f1)) (mx x523002_2 ((rd_T43 l0_2 x9_2).f2)) (mx x523003_2 ((rd_T43 l0_2 x9_2).f3))) = some true := by first | (rw [hji57] at H; exact H) | (simp only [hji57] at H ⊢; exact H)
         have hji57_ : (if x523000_2 < ((rd_T43 l0_2 x9_2).f0) then ((rd_T43 l0_2 x9_2).f0) else x523000_2) = ji57 := hji57
         obtain ⟨ji58, hji58⟩ : ∃ j_ : Int, (mx x523001_2 ((rd_T43 l0_2 x9_2).f1)) = j_ := ⟨_, rfl⟩
         replace H : (compositorlaw10_ScaleUniform.l0 k2 a1 a2 (wrap64 (x9_2 + 1)) a0_0 a0_1 l0_2 ji53 ji54 ji55 ji56 ji57 ji58 (mx x523002_2 ((rd_T43 l0_2 x9_2).f2)) (mx x523003_2 ((rd_T43 l0_2 x9_2).f3))) = some true := by first | (rw [hji58] at H; exact H) | (simp only [hji58] at H ⊢; exact H)
         have hji58_ : (if x523001_2 < ((rd_T43 l0_2 x9_2).f1) then ((rd_T43 l0_2 x9_2).f1) else x523001_2) = ji58 := hji58
         obtain ⟨ji59, hji59⟩ : ∃ j_ : Int, (mx x523002_2 ((rd_T43 l0_2 x9_2).f2)) = j_ := ⟨_, rfl⟩
         replace H : (compositorlaw10_ScaleUniform.l0 k2 a1 a2 (wrap64 (x9_2 + 1)) a0_0 a0_1 l0_2 ji53 ji54 ji55 ji56 ji57 ji58 ji59 (mx x523003_2 ((rd_T43 l0_2 x9_2).f3))) = some true := by first | (rw [hji59] at H; exact H) | (simp only [hji59] at H ⊢; exact H)
         have hji59_ : (if x523002_2 < ((rd_T43 l0_2 x9_2).f2) then ((rd_T43 l0_2 x9_2).f2) else x523002_2) = ji59 := hji59
         obtain ⟨ji60, hji60⟩ : ∃ j_ : Int, (mx x523003_2 ((rd_T43 l0_2 x9_2).f3)) = j_ := ⟨_, rfl⟩
         replace H : (compositorlaw10_ScaleUniform.l0 k2 a1 a2 (wrap64 (x9_2 + 1)) a0_0 a0_1 l0_2 ji53 ji54 ji55 ji56 ji57 ji58 ji59 ji60) = some true := by first | (rw [hji60] at H; exact H) | (simp only [hji60] at H ⊢; exact H)
         have hji60_ : (if x523003_2 < ((rd_T43 l0_2 x9_2).f3) then ((rd_T43 l0_2 x9_2).f3) else x523003_2) = ji60 := hji60
         have H' := Aside0.mk H
         clear H
         have hnb61 := NB515_521.out
         have hnc61 := NB521_515.out
         have hnb62 := NB515_522.out
         have hnc62 := NB522_515.out
         have hcz63_0 : wr.cell? ⟨gb515, 0, none⟩ = some (.int .i64 a0_0) := (blk_cell BK515.out 0).trans rfl
         have hcz63_1 : wr.cell? ⟨gb515, 1, none⟩ = some (.int .i64 a0_1) := (blk_cell BK515.out 1).trans rfl
         have hcz63_2 : wr.cell? ⟨gb515, 2, none⟩ = some (.slice (some ad519) l0_2.length c0_2) := (blk_cell BK515.out 2).trans rfl
         have hfz63_0 := blk_frozen BK515.out 0
         have hfz63_1 := blk_frozen BK515.out 1
         have hfz63_2 := blk_frozen BK515.out 2
         have p523 : 0 ≤ (x9_2 : Int) := of_decide_eq_true (by first | (with_reducible assumption) | assumption)
         have q523 : x9_2 < (l0_2.length : Int) := of_decide_eq_true (by first | (with_reducible assumption) | assumption)
         obtain ⟨ad523, e523, hx523_0, hx523_1, hx523_2, hx523_3⟩ := at_T43 HR0_2.out x9_2 p523 q523
         obtain rfl : ad519 = ad523 := (by injection e523)
         replace hx523_0 := (HB.out.cell (World.block_lt_of_cell? w _ hx523_0)).trans hx523_0
         replace hx523_1 := (HB.out.cell (World.block_lt_of_cell? w _ hx523_1)).trans hx523_1
         replace hx523_2 := (HB.out.cell (World.block_lt_of_cell? w _ hx523_2)).trans hx523_2
         replace hx523_3 := (HB.out.cell (World.block_lt_of_cell? w _ hx523_3)).trans hx523_3
         replace p523 := eq_true p523
         replace q523 := eq_true q523
         go_wp2_with (first | ((with_reducible refine gate_dst (N := 10) rfl ?_); refine box_event ?hg (N := 10) ?hd (cs := #[.int .u8 0, .int .u8 0, .int .u8 0, .int .u8 0]) (t := 43) ?hr ?_; (case hd => rfl); (case hg => rfl); (case hr => first | (go_simp; done) | (go_simp; rfl)); intro gb524 hg w64 hbox hb; have n0_ := bb_ BK515 hb; have n1_ := bb_ BK521 hb; have n2_ := bb_ BK522 hb; have n3_ := hb_ HB hb; have n4_ := Aside0.mk (hbox); have n5_ := Aside0.mk ((by rw [hg]; exact (below_size (hq_ HB)) : w.heap.size ≤ gb524)); have n6_ := Aside0.mk ((by rw [hg]; exact (below_size (hq_ HB)) : w.heap.size ≤ gb524)); have n7_ := Aside0.mk ((by rw [hg]; exact Nat.ne_of_lt (blk_lt (g := gb515) (o := .cells #[.int .i64 a0_0, .int .i64 a0_1, .slice (some ad519) l0_2.length c0_2] 24 (0, 0)) (bq_ BK515)) : gb515 ≠ gb524)); have n8_ := Aside0.mk ((by rw [hg]; exact Nat.ne_of_gt (blk_lt (g := gb515) (o := .cells #[.int .i64 a0_0, .int .i64 a0_1, .slice (some ad519) l0_2.length c0_2] 24 (0, 0)) (bq_ BK515)) : gb524 ≠ gb515)); have n9_ := Aside0.mk ((by rw [hg]; exact Nat.ne_of_lt (blk_lt (g := gb521) (o := .cells #[.int .u8 x522000_2, .int .u8 x522001_2, .int .u8 x522002_2, .int .u8 x522003_2] 43 (0, 0)) (bq_ BK521)) : gb521 ≠ gb524)); have n10_ := Aside0.mk ((by rw [hg]; exact Nat.ne_of_gt (blk_lt (g := gb521) (o := .cells #[.int .u8 x522000_2, .int .u8 x522001_2, .int .u8 x522002_2, .int .u8 x522003_2] 43 (0, 0)) (bq_ BK521)) : gb524 ≠ gb521)); have n11_ := Aside0.mk ((by rw [hg]; exact Nat.ne_of_lt (blk_lt (g := gb522) (o := .cells #[.int .u8 x523000_2, .int .u8 x523001_2, .int .u8 x523002_2, .int .u8 x523003_2] 43 (0, 0)) (bq_ BK522)) : gb522 ≠ gb524)); have n12_ := Aside0.mk ((by rw [hg]; exact Nat.ne_of_gt (blk_lt (g := gb522) (o := .cells #[.int .u8 x523000_2, .int .u8 x523001_2, .int .u8 x523002_2, .int .u8 x523003_2] 43 (0, 0)) (bq_ BK522)) : gb524 ≠ gb522)); clear BK515; clear BK521; clear BK522; clear HB; have BK515 := n0_; have BK521 := n1_; have BK522 := n2_; have HB := n3_; have BK524 := n4_; have GW524 := n5_; have GE524 := n6_; have NB515_524 := n7_; have NB524_515 := n8_; have NB521_524 := n9_; have NB524_521 := n10_; have NB522_524 := n11_; have NB524_522 := n12_; clear n0_ n1_ n2_ n3_ n4_ n5_ n6_ n7_ n8_ n9_ n10_ n11_ n12_; clear hb hbox hg; have hnb65 := NB524_515.out; have hnc65 := NB515_524.out; have hnb66 := NB524_521.out; have hnc66 := NB521_524.out; have hnb67 := NB524_522.out; have hnc67 := NB522_524.out; have hcz68_0 : w64.cell? ⟨gb524, 0, none⟩ = some (.int .u8 0) := (blk_cell BK524.out 0).trans rfl; have hcz68_1 : w64.cell? ⟨gb524, 1, none⟩ = some (.int .u8 0) := (blk_cell BK524.out 1).trans rfl; have hcz68_2 : w64.cell? ⟨gb524, 2, none⟩ = some (.int .u8 0) := (blk_cell BK524.out 2).trans rfl; have hcz68_3 : w64.cell? ⟨gb524, 3, none⟩ = some (.int .u8 0) := (blk_cell BK524.out 3).trans rfl; have hfz68_0 := blk_frozen BK524.out 0; have hfz68_1 := blk_frozen BK524.out 1; have hfz68_2 := blk_frozen BK524.out 2; have hfz68_3 := blk_frozen BK524.out 3; have hnb69 := NB521_522.out; have hnc69 := NB522_521.out; have hcz70_0 : w64.cell? ⟨gb521, 0, none⟩ = some (.int .u8 x522000_2) := (blk_cell BK521.out 0).trans rfl; have hcz70_1 : w64.cell? ⟨gb521, 1, none⟩ = some (.int .u8 x522001_2) := (blk_cell BK521.out 1).trans rfl; have hcz70_2 : w64.cell? ⟨gb521, 2, none⟩ = some (.int .u8 x522002_2) := (blk_cell BK521.out 2).trans rfl; have hcz70_3 : w64.cell? ⟨gb521, 3, none⟩ = some (.int .u8 x522003_2) := (blk_cell BK521.out 3).trans rfl; have hfz70_0 := blk_frozen BK521.out 0; have hfz70_1 := blk_frozen BK521.out 1; have hfz70_2 := blk_frozen BK521.out 2; have hfz70_3 := blk_frozen BK521.out 3; have hcz71_0 : w64.cell? ⟨gb522, 0, none⟩ = some (.int .u8 x523000_2) := (blk_cell BK522.out 0).trans rfl; have hcz71_1 : w64.cell? ⟨gb522, 1, none⟩ = some (.int .u8 x523001_2) := (blk_cell BK522.out 1).trans rfl; have hcz71_2 : w64.cell? ⟨gb522, 2, none⟩ = some (.int .u8 x523002_2) := (blk_cell BK522.out 2).trans rfl; have hcz71_3 : w64.cell? ⟨gb522, 3, none⟩ = some (.int .u8 x523003_2) := (blk_cell BK522.out 3).trans rfl; have hfz71_0 := blk_frozen BK522.out 0; have hfz71_1 := blk_frozen BK522.out 1; have hfz71_2 := blk_frozen BK522.out 2; have hfz71_3 := blk_frozen BK522.out 3))
         go_roundg k2
         case measure => have := HJ3.out; have := HK2.out; omega
         case rel => exact ⟨(wrap64 (x9_2 + 1)), (ji53), (ji54), (ji55), (ji56), (ji57), (ji58), (ji59), (ji60), (by first | rfl | (simp; done) | (simp [*]; done)), H', ⟨by have := HJ3.out; have := HK2.out; omega⟩, bf_ BK515, ⟨by (with_reducible repeat (first | refine blk_drewN ?_ _ | refine blk_drew ?_ | refine blk_alloc ?_ _)); refine blk_far ?_ NB521_522.out _; (with_reducible repeat (first | refine blk_drewN ?_ _ | refine blk_drew ?_ | refine blk_alloc ?_ _)); refine blk_far ?_ NB521_522.out _; (with_reducible repeat (first | refine blk_drewN ?_ _ | refine blk_drew ?_ | refine blk_alloc ?_ _)); refine blk_far ?_ NB521_522.out _; (with_reducible repeat (first | refine blk_drewN ?_ _ | refine blk_drew ?_ | refine blk_alloc ?_ _)); refine blk_far ?_ NB521_522.out _; (with_reducible repeat (first | refine blk_drewN ?_ _ | refine blk_drew ?_ | refine blk_alloc ?_ _)); refine blk_put (cs := #[.int .u8 ji53, .int .u8 ji54, .int .u8 ji55, .int .u8 x522003_2]) ?_ 3 _ rfl; (with_reducible repeat (first | refine blk_drewN ?_ _ | refine blk_drew ?_ | refine blk_alloc ?_ _)); refine blk_put (cs := #[.int .u8 ji53, .int .u8 ji54, .int .u8 x522002_2, .int .u8 x522003_2]) ?_ 2 _ rfl; (with_reducible repeat (first | refine blk_drewN ?_ _ | refine blk_drew ?_ | refine blk_alloc ?_ _)); refine blk_put (cs := #[.int .u8 ji53, .int .u8 x522001_2, .int .u8 x522002_2, .int .u8 x522003_2]) ?_ 1 _ rfl; (with_reducible repeat (first | refine blk_drewN ?_ _ | refine blk_drew ?_ | refine blk_alloc ?_ _)); refine blk_put (cs := #[.int .u8 x522000_2, .int .u8 x522001_2, .int .u8 x522002_2, .int .u8 x522003_2]) ?_ 0 _ rfl; (with_reducible repeat (first | refine blk_drewN ?_ _ | refine blk_drew ?_ | refine blk_alloc ?_ _)); refine blk_far ?_ NB521_524.out _; (with_reducible repeat (first | refine blk_drewN ?_ _ | refine blk_drew ?_ | refine blk_alloc ?_ _)); refine blk_far ?_ NB521_524.out _; (with_reducible repeat (first | refine blk_drewN ?_ _ | refine blk_drew ?_ | refine blk_alloc ?_ _)); refine blk_far ?_ NB521_524.out _; (with_reducible repeat (first | refine blk_drewN ?_ _ | refine blk_drew ?_ | refine blk_alloc ?_ _)); refine blk_far ?_ NB521_524.out _; (with_reducible repeat (first | refine blk_drewN ?_ _ | refine blk_drew ?_ | refine blk_alloc ?_ _)); exact BK521.out⟩, ⟨by (with_reducible repeat (first | refine blk_drewN ?_ _ | refine blk_drew ?_ | refine blk_alloc ?_ _)); refine blk_put (cs := #[.int .u8 ji57, .int .u8 ji58, .int .u8 ji59, .int .u8 x523003_2]) ?_ 3 _ rfl; (with_reducible repeat (first | refine blk_drewN ?_ _ | refine blk_drew ?_ | refine blk_alloc ?_ _)); refine blk_put (cs := #[.int .u8 ji57, .int .u8 ji58, .int .u8 x523002_2, .int .u8 x523003_2]) ?_ 2 _ rfl; (with_reducible repeat (first | refine blk_drewN ?_ _ | refine blk_drew ?_ | refine blk_alloc ?_ _)); refine blk_put (cs := #[.int .u8 ji57, .int .u8 x523001_2, .int .u8 x523002_2, .int .u8 x523003_2]) ?_ 1 _ rfl; (with_reducible repeat (first | refine blk_drewN ?_ _ | refine blk_drew ?_ | refine blk_alloc ?_ _)); refine blk_put (cs := #[.int .u8 x523000_2, .int .u8 x523001_2, .int .u8 x523002_2, .int .u8 x523003_2]) ?_ 0 _ rfl; (with_reducible repeat (first | refine blk_drewN ?_ _ | refine blk_drew ?_ | refine blk_alloc ?_ _)); refine blk_far ?_ NB522_521.out _; (with_reducible repeat (first | refine blk_drewN ?_ _ | refine blk_drew ?_ | refine blk_alloc ?_ _)); refine blk_far ?_ NB522_521.out _; (with_reducible repeat (first | refine blk_drewN ?_ _ | refine blk_drew ?_ | refine blk_alloc ?_ _)); refine blk_far ?_ NB522_521.out _; (with_reducible repeat (first | refine blk_drewN ?_ _ | refine blk_drew ?_ | refine blk_alloc ?_ _)); refine blk_far ?_ NB522_521.out _; (with_reducible repeat (first | refine blk_drewN ?_ _ | refine blk_drew ?_ | refine blk_alloc ?_ _)); refine blk_far ?_ NB522_524.out _; (with_reducible repeat (first | refine blk_drewN ?_ _ | refine blk_drew ?_ | refine blk_alloc ?_ _)); refine blk_far ?_ NB522_524.out _; (with_reducible repeat (first | refine blk_drewN ?_ _ | refine blk_drew ?_ | refine blk_alloc ?_ _)); refine blk_far ?_ NB522_524.out _; (with_reducible repeat (first | refine blk_drewN ?_ _ | refine blk_drew ?_ | refine blk_alloc ?_ _)); refine blk_far ?_ NB522_524.out _; (with_reducible repeat (first | refine blk_drewN ?_ _ | refine blk_drew ?_ | refine blk_alloc ?_ _)); exact BK522.out⟩, ⟨by repeat (first | (with_reducible first | exact HB.out | apply below_alloc | apply pw_below_drewN | apply below_drew1 | refine below_set ?_ GE515.out | refine below_set ?_ GE521.out | refine below_set ?_ GE522.out | refine below_set ?_ GE524.out) | exact HB.out)⟩⟩
        ·
         rw [if_neg c52] at H
         exact absurd H (by simp)
       ·
        rw [if_neg c51] at H
        have c51b0 : decide (x9_2 < (l0_2.length : Int)) = false := decide_eq_false c51
        clear c51
        replace H := Option.bind_eq_some_iff.mp H
        obtain ⟨⟨t525, t526, t527, t530⟩, A720, H⟩ := H
        try dsimp only at H
        have A72 := Aside0.mk A720
        clear A720
        replace H := Option.bind_eq_some_iff.mp H
        obtain ⟨⟨t532, t533, t534, t537⟩, A730, H⟩ := H
        try dsimp only at H
        have A73 := Aside0.mk A730
        clear A730
        have HC74 := Aside0.mk H
        clear H
        have hnb75 := NB515_521.out
        have hnc75 := NB521_515.out
        have hnb76 := NB515_522.out
        have hnc76 := NB522_515.out
        have hcz77_0 : wr.cell? ⟨gb515, 0, none⟩ = some (.int .i64 a0_0) := (blk_cell BK515.out 0).trans rfl
        have hcz77_1 : wr.cell? ⟨gb515, 1, none⟩ = some (.int .i64 a0_1) := (blk_cell BK515.out 1).trans rfl
        have hcz77_2 : wr.cell? ⟨gb515, 2, none⟩ = some (.slice (some ad519) l0_2.length c0_2) := (blk_cell BK515.out 2).trans rfl
        have hfz77_0 := blk_frozen BK515.out 0
        have hfz77_1 := blk_frozen BK515.out 1
        have hfz77_2 := blk_frozen BK515.out 2
        go_upto_region 12 with (first | ((with_reducible refine gate_callee (f := 13) rfl ?_); refine goesL_ (some 109) rfl rfl Try.func13 (by kernel_rfl) rfl #[.agg #[.int .i64 a0_0, .int .i64 a0_1, .slice (some ad519) l0_2.length c0_2], .int .i64 a1, .int .i64 a2] rfl (by (try simp only [List.map_toArray, List.map_cons, List.map_nil]) <;> rfl) ?_; (with_reducible refine (scale_Nearest.calls a0_0 a0_1 _ _ l0_2 a1 a2 t525 t526 t527 t530 _ ?side1 ?side2 A72.out).mono ?_); (case side1 => repeat (first | exact (Kd.C_below HR0_2.out HB.out) | (with_reducible refine Kd.C_alloc ?_ _) | (with_reducible refine Kd.C_drewN ?_ _) | (with_reducible refine Kd.C_drew ?_))); (case side2 => exact HC0_2.out); rintro e w78 ⟨v528, rfl, ho0, hb⟩; refine ⟨_, rfl, ?_⟩; have n0_ := Aside0.mk (Kd.R_lower (Kd.R_newB (Kd.R_newB ho0 (g := gb521) (o := .cells #[.int .u8 x522000_2, .int .u8 x522001_2, .int .u8 x522002_2, .int .u8 x522003_2] 43 (0, 0)) (bq_ BK521)) (g := gb522) (o := .cells #[.int .u8 x523000_2, .int .u8 x523001_2, .int .u8 x523002_2, .int .u8 x523003_2] 43 (0, 0)) (bq_ BK522)) (below_size (hq_ HB))); have n1_ := bb_ BK515 hb; have n2_ := bb_ BK521 hb; have n3_ := bb_ BK522 hb; have n4_ := hb_ HB hb; clear BK515; clear BK521; clear BK522; clear HB; have HO529 := n0_; have BK515 := n1_; have BK521 := n2_; have BK522 := n3_; have HB := n4_; clear n0_ n1_ n2_ n3_ n4_; (try clear hb); (try clear hb2); (try clear hk); (try clear hi); (try clear ho0)) | ((with_reducible refine gate_dst (N := 11) rfl ?_); refine box_event ?hg (N := 11) ?hd (cs := #[.int .i64 0, .int .i64 0, .slice none 0 0]) (t := 24) ?hr ?_; (case hd => rfl); (case hg => rfl); (case hr => first | (go_simp; done) | (go_simp; rfl)); intro gb531 hg w79 hbox hb; have n0_ := Aside0.mk (Kd.R_below (by (with_reducible repeat (first | apply Kd.R_alloc | apply Kd.R_drewN | apply Kd.R_drew)); exact HO529.out) hb); have n1_ := bb_ BK515 hb; have n2_ := bb_ BK521 hb; have n3_ := bb_ BK522 hb; have n4_ := hb_ HB hb; have n5_ := Aside0.mk (hbox); have n6_ := Aside0.mk ((by rw [hg]; exact (below_size (hq_ HB)) : w.heap.size ≤ gb531)); have n7_ := Aside0.mk ((by rw [hg]; exact (below_size (hq_ HB)) : w.heap.size ≤ gb531)); have n8_ := Aside0.mk ((by rw [hg]; exact Nat.ne_of_lt (blk_lt (g := gb515) (o := .cells #[.int .i64 a0_0, .int .i64 a0_1, .slice (some ad519) l0_2.length c0_2] 24 (0, 0)) (bq_ BK515)) : gb515 ≠ gb531)); have n9_ := Aside0.mk ((by rw [hg]; exact Nat.ne_of_gt (blk_lt (g := gb515) (o := .cells #[.int .i64 a0_0, .int .i64 a0_1, .slice (some ad519) l0_2.length c0_2] 24 (0, 0)) (bq_ BK515)) : gb531 ≠ gb515)); have n10_ := Aside0.mk ((by rw [hg]; exact Nat.ne_of_lt (blk_lt (g := gb521) (o := .cells #[.int .u8 x522000_2, .int .u8 x522001_2, .int .u8 x522002_2, .int .u8 x522003_2] 43 (0, 0)) (bq_ BK521)) : gb521 ≠ gb531)); have n11_ := Aside0.mk ((by rw [hg]; exact Nat.ne_of_gt (blk_lt (g := gb521) (o := .cells #[.int .u8 x522000_2, .int .u8 x522001_2, .int .u8 x522002_2, .int .u8 x522003_2] 43 (0, 0)) (bq_ BK521)) : gb531 ≠ gb521)); have n12_ := Aside0.mk ((by rw [hg]; exact Nat.ne_of_lt (blk_lt (g := gb522) (o := .cells #[.int .u8 x523000_2, .int .u8 x523001_2, .int .u8 x523002_2, .int .u8 x523003_2] 43 (0, 0)) (bq_ BK522)) : gb522 ≠ gb531)); have n13_ := Aside0.mk ((by rw [hg]; exact Nat.ne_of_gt (blk_lt (g := gb522) (o := .cells #[.int .u8 x523000_2, .int .u8 x523001_2, .int .u8 x523002_2, .int .u8 x523003_2] 43 (0, 0)) (bq_ BK522)) : gb531 ≠ gb522)); clear HO529; clear BK515; clear BK521; clear BK522; clear HB; have HO529 := n0_; have BK515 := n1_; have BK521 := n2_; have BK522 := n3_; have HB := n4_; have BK531 := n5_; have GW531 := n6_; have GE531 := n7_; have NB515_531 := n8_; have NB531_515 := n9_; have NB521_531 := n10_; have NB531_521 := n11_; have NB522_531 := n12_; have NB531_522 := n13_; clear n0_ n1_ n2_ n3_ n4_ n5_ n6_ n7_ n8_ n9_ n10_ n11_ n12_ n13_; clear hb hbox hg; have hnb80 := NB531_515.out; have hnc80 := NB515_531.out; have hnb81 := NB531_521.out; have hnc81 := NB521_531.out; have hnb82 := NB531_522.out; have hnc82 := NB522_531.out; have hcz83_0 : w79.cell? ⟨gb531, 0, none⟩ = some (.int .i64 0) := (blk_cell BK531.out 0).trans rfl; have hcz83_1 : w79.cell? ⟨gb531, 1, none⟩ = some (.int .i64 0) := (blk_cell BK531.out 1).trans rfl; have hcz83_2 : w79.cell? ⟨gb531, 2, none⟩ = some (.slice none 0 0) := (blk_cell BK531.out 2).trans rfl; have hfz83_0 := blk_frozen BK531.out 0; have hfz83_1 := blk_frozen BK531.out 1; have hfz83_2 := blk_frozen BK531.out 2; obtain ⟨Ao84, co84, eo84⟩ := Kd.R_slice HO529.out; subst eo84; have hcz85_0 : w79.cell? ⟨gb515, 0, none⟩ = some (.int .i64 a0_0) := (blk_cell BK515.out 0).trans rfl; have hcz85_1 : w79.cell? ⟨gb515, 1, none⟩ = some (.int .i64 a0_1) := (blk_cell BK515.out 1).trans rfl; have hcz85_2 : w79.cell? ⟨gb515, 2, none⟩ = some (.slice (some ad519) l0_2.length c0_2) := (blk_cell BK515.out 2).trans rfl; have hfz85_0 := blk_frozen BK515.out 0; have hfz85_1 := blk_frozen BK515.out 1; have hfz85_2 := blk_frozen BK515.out 2) | ((with_reducible refine gate_callee (f := 16) rfl ?_); refine goesL_ (some 116) rfl rfl Try.func16 (by kernel_rfl) rfl #[.agg #[.int .i64 a0_0, .int .i64 a0_1, .slice (some ad519) l0_2.length c0_2], .int .i64 a1, .int .i64 a2] rfl (by (try simp only [List.map_toArray, List.map_cons, List.map_nil]) <;> rfl) ?_; (with_reducible refine (scale_Box.calls a0_0 a0_1 _ _ l0_2 a1 a2 t532 t533 t534 t537 _ ?side1 ?side2 A73.out).mono ?_); (case side1 => exact Kd.C_below HR0_2.out (hq_ HB)); (case side2 => exact HC0_2.out); rintro e w86 ⟨v535, rfl, ho0, hb⟩; refine ⟨_, rfl, ?_⟩; have n0_ := Aside0.mk (Kd.R_elder' (by (with_reducible repeat (first | apply Kd.R_alloc | apply Kd.R_drewN | apply Kd.R_drew)); exact (Kd.R_mono (Kd.R_far (p := ⟨gb531, 2, none⟩) (Kd.R_far (p := ⟨gb531, 1, none⟩) (Kd.R_far (p := ⟨gb531, 0, none⟩) (Kd.R_types HO529.out BK531.out (by decide)) (fun _ hk => hk.2) (.int .i64 t525)) (fun _ hk => hk.2) (.int .i64 t526)) (fun _ hk => hk.2) (.slice Ao84 t527.length co84)) (fun _ h_ => h_.1))) (Kd.R_base ho0) hb); have n1_ := Aside0.mk (Kd.R_lower (Kd.R_newB (Kd.R_newB (Kd.R_new' ho0 (Kd.R_lt (by (with_reducible repeat (first | apply Kd.R_alloc | apply Kd.R_drewN | apply Kd.R_drew)); exact (Kd.R_mono (Kd.R_far (p := ⟨gb531, 2, none⟩) (Kd.R_far (p := ⟨gb531, 1, none⟩) (Kd.R_far (p := ⟨gb531, 0, none⟩) (Kd.R_types HO529.out BK531.out (by decide)) (fun _ hk => hk.2) (.int .i64 t525)) (fun _ hk => hk.2) (.int .i64 t526)) (fun _ hk => hk.2) (.slice Ao84 t527.length co84)) (fun _ h_ => h_.1))))) (g := gb521) (o := .cells #[.int .u8 x522000_2, .int .u8 x522001_2, .int .u8 x522002_2, .int .u8 x522003_2] 43 (0, 0)) (by (with_reducible repeat (first | refine blk_drewN ?_ _ | refine blk_drew ?_ | refine blk_alloc ?_ _)); refine blk_far ?_ NB521_531.out _; (with_reducible repeat (first | refine blk_drewN ?_ _ | refine blk_drew ?_ | refine blk_alloc ?_ _)); refine blk_far ?_ NB521_531.out _; (with_reducible repeat (first | refine blk_drewN ?_ _ | refine blk_drew ?_ | refine blk_alloc ?_ _)); refine blk_far ?_ NB521_531.out _; (with_reducible repeat (first | refine blk_drewN ?_ _ | refine blk_drew ?_ | refine blk_alloc ?_ _)); exact BK521.out)) (g := gb522) (o := .cells #[.int .u8 x523000_2, .int .u8 x523001_2, .int .u8 x523002_2, .int .u8 x523003_2] 43 (0, 0)) (by (with_reducible repeat (first | refine blk_drewN ?_ _ | refine blk_drew ?_ | refine blk_alloc ?_ _)); refine blk_far ?_ NB522_531.out _; (with_reducible repeat (first | refine blk_drewN ?_ _ | refine blk_drew ?_ | refine blk_alloc ?_ _)); refine blk_far ?_ NB522_531.out _; (with_reducible repeat (first | refine blk_drewN ?_ _ | refine blk_drew ?_ | refine blk_alloc ?_ _)); refine blk_far ?_ NB522_531.out _; (with_reducible repeat (first | refine blk_drewN ?_ _ | refine blk_drew ?_ | refine blk_alloc ?_ _)); exact BK522.out)) (below_size (hq_ HB))); have n2_ := Aside0.mk (blk_below (g := gb515) (o := .cells #[.int .i64 a0_0, .int .i64 a0_1, .slice (some ad519) l0_2.length c0_2] 24 (0, 0)) (by (with_reducible repeat (first | refine blk_drewN ?_ _ | refine blk_drew ?_ | refine blk_alloc ?_ _)); refine blk_far ?_ NB515_531.out _; (with_reducible repeat (first | refine blk_drewN ?_ _ | refine blk_drew ?_ | refine blk_alloc ?_ _)); refine blk_far ?_ NB515_531.out _; (with_reducible repeat (first | refine blk_drewN ?_ _ | refine blk_drew ?_ | refine blk_alloc ?_ _)); refine blk_far ?_ NB515_531.out _; (with_reducible repeat (first | refine blk_drewN ?_ _ | refine blk_drew ?_ | refine blk_alloc ?_ _)); exact BK515.out) hb); have n3_ := Aside0.mk (blk_below (g := gb521) (o := .cells #[.int .u8 x522000_2, .int .u8 x522001_2, .int .u8 x522002_2, .int .u8 x522003_2] 43 (0, 0)) (by (with_reducible repeat (first | refine blk_drewN ?_ _ | refine blk_drew ?_ | refine blk_alloc ?_ _)); refine blk_far ?_ NB521_531.out _; (with_reducible repeat (first | refine blk_drewN ?_ _ | refine blk_drew ?_ | refine blk_alloc ?_ _)); refine blk_far ?_ NB521_531.out _; (with_reducible repeat (first | refine blk_drewN ?_ _ | refine blk_drew ?_ | refine blk_alloc ?_ _)); refine blk_far ?_ NB521_531.out _; (with_reducible repeat (first | refine blk_drewN ?_ _ | refine blk_drew ?_ | refine blk_alloc ?_ _)); exact BK521.out) hb); have n4_ := Aside0.mk (blk_below (g := gb522) (o := .cells #[.int .u8 x523000_2, .int .u8 x523001_2, .int .u8 x523002_2, .int .u8 x523003_2] 43 (0, 0)) (by (with_reducible repeat (first | refine blk_drewN ?_ _ | refine blk_drew ?_ | refine blk_alloc ?_ _)); refine blk_far ?_ NB522_531.out _; (with_reducible repeat (first | refine blk_drewN ?_ _ | refine blk_drew ?_ | refine blk_alloc ?_ _)); refine blk_far ?_ NB522_531.out _; (with_reducible repeat (first | refine blk_drewN ?_ _ | refine blk_drew ?_ | refine blk_alloc ?_ _)); refine blk_far ?_ NB522_531.out _; (with_reducible repeat (first | refine blk_drewN ?_ _ | refine blk_drew ?_ | refine blk_alloc ?_ _)); exact BK522.out) hb); have n5_ := Aside0.mk (blk_below (g := gb531) (o := .cells #[.int .i64 t525, .int .i64 t526, .slice Ao84 t527.length co84] 24 (0, 0)) (by (with_reducible repeat (first | refine blk_drewN ?_ _ | refine blk_drew ?_ | refine blk_alloc ?_ _)); refine blk_put (cs := #[.int .i64 t525, .int .i64 t526, .slice none 0 0]) ?_ 2 _ rfl; (with_reducible repeat (first | refine blk_drewN ?_ _ | refine blk_drew ?_ | refine blk_alloc ?_ _)); refine blk_put (cs := #[.int .i64 t525, .int .i64 0, .slice none 0 0]) ?_ 1 _ rfl; (with_reducible repeat (first | refine blk_drewN ?_ _ | refine blk_drew ?_ | refine blk_alloc ?_ _)); refine blk_put (cs := #[.int .i64 0, .int .i64 0, .slice none 0 0]) ?_ 0 _ rfl; (with_reducible repeat (first | refine blk_drewN ?_ _ | refine blk_drew ?_ | refine blk_alloc ?_ _)); exact BK531.out) hb); have n6_ := hb_ HB hb; clear HO529; clear BK515; clear BK521; clear BK522; clear BK531; clear HB; have HO529 := n0_; have HO536 := n1_; have BK515 := n2_; have BK521 := n3_; have BK522 := n4_; have BK531 := n5_; have HB := n6_; clear n0_ n1_ n2_ n3_ n4_ n5_ n6_; (try clear hb); (try clear hb2); (try clear hk); (try clear hi); (try clear ho0)) | ((with_reducible refine gate_dst (N := 13) rfl ?_); refine box_event ?hg (N := 13) ?hd (cs := #[.int .i64 0, .int .i64 0, .slice none 0 0]) (t := 24) ?hr ?_; (case hd => rfl); (case hg => rfl); (case hr => first | (go_simp; done) | (go_simp; rfl)); intro gb538 hg w87 hbox hb; have n0_ := Aside0.mk (Kd.R_below (by (with_reducible repeat (first | apply Kd.R_alloc | apply Kd.R_drewN | apply Kd.R_drew)); exact HO529.out) hb); have n1_ := Aside0.mk (Kd.R_below (by (with_reducible repeat (first | apply Kd.R_alloc | apply Kd.R_drewN | apply Kd.R_drew)); exact HO536.out) hb); have n2_ := bb_ BK515 hb; have n3_ := bb_ BK521 hb; have n4_ := bb_ BK522 hb; have n5_ := bb_ BK531 hb; have n6_ := hb_ HB hb; have n7_ := Aside0.mk (hbox); have n8_ := Aside0.mk ((by rw [hg]; exact (below_size (hq_ HB)) : w.heap.size ≤ gb538)); have n9_ := Aside0.mk ((by rw [hg]; exact (below_size (hq_ HB)) : w.heap.size ≤ gb538)); have n10_ := Aside0.mk ((by rw [hg]; exact Nat.ne_of_lt (blk_lt (g := gb515) (o := .cells #[.int .i64 a0_0, .int .i64 a0_1, .slice (some ad519) l0_2.length c0_2] 24 (0, 0)) (bq_ BK515)) : gb515 ≠ gb538)); have n11_ := Aside0.mk ((by rw [hg]; exact Nat.ne_of_gt (blk_lt (g := gb515) (o := .cells #[.int .i64 a0_0, .int .i64 a0_1, .slice (some ad519) l0_2.length c0_2] 24 (0, 0)) (bq_ BK515)) : gb538 ≠ gb515)); have n12_ := Aside0.mk ((by rw [hg]; exact Nat.ne_of_lt (blk_lt (g := gb521) (o := .cells #[.int .u8 x522000_2, .int .u8 x522001_2, .int .u8 x522002_2, .int .u8 x522003_2] 43 (0, 0)) (bq_ BK521)) : gb521 ≠ gb538)); have n13_ := Aside0.mk ((by rw [hg]; exact Nat.ne_of_gt (blk_lt (g := gb521) (o := .cells #[.int .u8 x522000_2, .int .u8 x522001_2, .int .u8 x522002_2, .int .u8 x522003_2] 43 (0, 0)) (bq_ BK521)) : gb538 ≠ gb521)); have n14_ := Aside0.mk ((by rw [hg]; exact Nat.ne_of_lt (blk_lt (g := gb522) (o := .cells #[.int .u8 x523000_2, .int .u8 x523001_2, .int .u8 x523002_2, .int .u8 x523003_2] 43 (0, 0)) (bq_ BK522)) : gb522 ≠ gb538)); have n15_ := Aside0.mk ((by rw [hg]; exact Nat.ne_of_gt (blk_lt (g := gb522) (o := .cells #[.int .u8 x523000_2, .int .u8 x523001_2, .int .u8 x523002_2, .int .u8 x523003_2] 43 (0, 0)) (bq_ BK522)) : gb538 ≠ gb522)); have n16_ := Aside0.mk ((by rw [hg]; exact Nat.ne_of_lt (blk_lt (g := gb531) (o := .cells #[.int .i64 t525, .int .i64 t526, .slice Ao84 t527.length co84] 24 (0, 0)) (bq_ BK531)) : gb531 ≠ gb538)); have n17_ := Aside0.mk ((by rw [hg]; exact Nat.ne_of_gt (blk_lt (g := gb531) (o := .cells #[.int .i64 t525, .int .i64 t526, .slice Ao84 t527.length co84] 24 (0, 0)) (bq_ BK531)) : gb538 ≠ gb531)); clear HO529; clear HO536; clear BK515; clear BK521; clear BK522; clear BK531; clear HB; have HO529 := n0_; have HO536 := n1_; have BK515 := n2_; have BK521 := n3_; have BK522 := n4_; have BK531 := n5_; have HB := n6_; have BK538 := n7_; have GW538 := n8_; have GE538 := n9_; have NB515_538 := n10_; have NB538_515 := n11_; have NB521_538 := n12_; have NB538_521 := n13_; have NB522_538 := n14_; have NB538_522 := n15_; have NB531_538 := n16_; have NB538_531 := n17_; clear n0_ n1_ n2_ n3_ n4_ n5_ n6_ n7_ n8_ n9_ n10_ n11_ n12_ n13_ n14_ n15_ n16_ n17_; clear hb hbox hg; have hnb88 := NB538_515.out; have hnc88 := NB515_538.out; have hnb89 := NB538_521.out; have hnc89 := NB521_538.out; have hnb90 := NB538_522.out; have hnc90 := NB522_538.out; have hnb91 := NB538_531.out; have hnc91 := NB531_538.out; have hcz92_0 : w87.cell? ⟨gb538, 0, none⟩ = some (.int .i64 0) := (blk_cell BK538.out 0).trans rfl; have hcz92_1 : w87.cell? ⟨gb538, 1, none⟩ = some (.int .i64 0) := (blk_cell BK538.out 1).trans rfl; have hcz92_2 : w87.cell? ⟨gb538, 2, none⟩ = some (.slice none 0 0) := (blk_cell BK538.out 2).trans rfl; have hfz92_0 := blk_frozen BK538.out 0; have hfz92_1 := blk_frozen BK538.out 1; have hfz92_2 := blk_frozen BK538.out 2; obtain ⟨Ao93, co93, eo93⟩ := Kd.R_slice HO536.out; subst eo93))
        (try simp only [Act.put, List.setIfInBounds_toArray, List.set_cons_zero, List.set_cons_succ])
        go_cut [158] (fun v158 wc => ∃ (kq : Nat) (x158_73 : Bool), v158 = .bool x158_73 ∧ Aside0 (compositorlaw10_ScaleUniform.j2 kq a1 a2 x158_73 x522000_2 x522001_2 x522002_2 x522003_2 x523000_2 x523001_2 x523002_2 x523003_2 t525 t526 t527 t532 t533 t534 = some true) ∧ Aside0 (kq ≤ k2) ∧ Aside0 (Kd.R k43 43 wc w.heap.size (fun k_ => some k_ ≠ ((.slice Ao93 t534.length co93) : Value).ownBlock ∧ k_ ≠ gb521 ∧ k_ ≠ gb522) (.slice Ao84 t527.length co84) t527) ∧ Aside0 (Kd.R k43 43 wc w.heap.size (fun k_ => some k_ ≠ ((.slice Ao84 t527.length co84) : Value).ownBlock ∧ k_ ≠ gb521 ∧ k_ ≠ gb522) (.slice Ao93 t534.length co93) t534) ∧ Aside0 (wc.heap[gb515]? = some (.cells #[.int .i64 a0_0, .int .i64 a0_1, (.slice (some ad519) l0_2.length c0_2)] 24 (0, 0))) ∧ Aside0 (wc.heap[gb521]? = some (.cells #[.int .u8 x522000_2, .int .u8 x522001_2, .int .u8 x522002_2, .int .u8 x522003_2] 43 (0, 0))) ∧ Aside0 (wc.heap[gb522]? = some (.cells #[.int .u8 x523000_2, .int .u8 x523001_2, .int .u8 x523002_2, .int .u8 x523003_2] 43 (0, 0))) ∧ Aside0 (wc.heap[gb531]? = some (.cells #[.int .i64 t525, .int .i64 t526, (.slice Ao84 t527.length co84)] 24 (0, 0))) ∧ Aside0 (wc.heap[gb538]? = some (.cells #[.int .i64 t532, .int .i64 t533, (.slice Ao93 t534.length co93)] 24 (0, 0))) ∧ Aside0 (Below w.heap.size w wc))
        case first =>
         have H := HC74.out
         clear HC74
         by_cases c94 : t530 = 0
         ·
          rw [if_pos c94] at H
          have c94b0 : (t530 == 0) = true := beq_iff_eq.mpr c94
          have c94b1 : (t530 != 0) = false := bne_eq_false_iff_eq.mpr c94
          clear c94
          (first | rw [c94b0] | (simp only [i64_w, i32_w]; rw [c94b0]) | skip)
          by_cases c95 : t537 = 0
          ·
           rw [if_pos c95] at H
           have c95b0 : (t537 == 0) = true := beq_iff_eq.mpr c95
           have c95b1 : (t537 != 0) = false := bne_eq_false_iff_eq.mpr c95
           clear c95
           replace H := Option.bind_eq_some_iff.mp H
           obtain ⟨t539, A960, H⟩ := H
           try dsimp only at H
           have A96 := Aside0.mk A960
           clear A960
           by_cases c97 : t539 = true
           ·
            subst c97
            have H1 : ((compositorref10_Valid.f k2 t532 t533 t534).bind fun t540 => (if t540 = true then (if t525 = a1 then (if t526 = a2 then (if t532 = a1 then (compositorlaw10_ScaleUniform.j2 k2 a1 a2 (t533 != a2) x522000_2 x522001_2 x522002_2 x522003_2 x523000_2 x523001_2 x523002_2 x523003_2 t525 t526 t527 t532 t533 t534) else (compositorlaw10_ScaleUniform.j2 k2 a1 a2 true x522000_2 x522001_2 x522002_2 x522003_2 x523000_2 x523001_2 x523002_2 x523003_2 t525 t526 t527 t532 t533 t534)) else (compositorlaw10_ScaleUniform.j2 k2 a1 a2 true x522000_2 x522001_2 x522002_2 x522003_2 x523000_2 x523001_2 x523002_2 x523003_2 t525 t526 t527 t532 t533 t534)) else (compositorlaw10_ScaleUniform.j2 k2 a1 a2 true x522000_2 x522001_2 x522002_2 x522003_2 x523000_2 x523001_2 x523002_2 x523003_2 t525 t526 t527 t532 t533 t534)) else (compositorlaw10_ScaleUniform.j2 k2 a1 a2 true x522000_2 x522001_2 x522002_2 x522003_2 x523000_2 x523001_2 x523002_2 x523003_2 t525 t526 t527 t532 t533 t534))) = some true := by rw [if_pos rfl] at H; exact H
            clear H
            have H := H1
            clear H1
            replace H := Option.bind_eq_some_iff.mp H
            obtain ⟨t540, A980, H⟩ := H
            try dsimp only at H
            have A98 := Aside0.mk A980
            clear A980
            by_cases c99 : t540 = true
            ·
             subst c99
             have H1 : (if t525 = a1 then (if t526 = a2 then (if t532 = a1 then (compositorlaw10_ScaleUniform.j2 k2 a1 a2 (t533 != a2) x522000_2 x522001_2 x522002_2 x522003_2 x523000_2 x523001_2 x523002_2 x523003_2 t525 t526 t527 t532 t533 t534) else (compositorlaw10_ScaleUniform.j2 k2 a1 a2 true x522000_2 x522001_2 x522002_2 x522003_2 x523000_2 x523001_2 x523002_2 x523003_2 t525 t526 t527 t532 t533 t534)) else (compositorlaw10_ScaleUniform.j2 k2 a1 a2 true x522000_2 x522001_2 x522002_2 x522003_2 x523000_2 x523001_2 x523002_2 x523003_2 t525 t526 t527 t532 t533 t534)) else (compositorlaw10_ScaleUniform.j2 k2 a1 a2 true x522000_2 x522001_2 x522002_2 x522003_2 x523000_2 x523001_2 x523002_2 x523003_2 t525 t526 t527 t532 t533 t534)) = some true := by rw [if_pos rfl] at H; exact H
             clear H
             have H := H1
             clear H1
             by_cases c100 : t525 = a1
             ·
              rw [if_pos c100] at H
              have c100b0 : (t525 == a1) = true := beq_iff_eq.mpr c100
              have c100b1 : (t525 != a1) = false := bne_eq_false_iff_eq.mpr c100
              clear c100
              by_cases c101 : t526 = a2
              ·
               rw [if_pos c101] at H
               have c101b0 : (t526 == a2) = true := beq_iff_eq.mpr c101
               have c101b1 : (t526 != a2) = false := bne_eq_false_iff_eq.mpr c101
               clear c101
               by_cases c102 : t532 = a1
               ·
                rw [if_pos c102] at H
                have c102b0 : (t532 == a1) = true := beq_iff_eq.mpr c102
                have c102b1 : (t532 != a1) = false := bne_eq_false_iff_eq.mpr c102
                clear c102
                have H' := Aside0.mk H
                clear H
                have hnb103 := NB531_515.out
                have hnc103 := NB515_531.out
                have hnb104 := NB531_521.out
                have hnc104 := NB521_531.out
                have hnb105 := NB531_522.out
                have hnc105 := NB522_531.out
                have hnb106 := NB531_538.out
                have hnc106 := NB538_531.out
                have hcz107_0 : w87.cell? ⟨gb531, 0, none⟩ = some (.int .i64 t525) := (blk_cell BK531.out 0).trans rfl
                have hcz107_1 : w87.cell? ⟨gb531, 1, none⟩ = some (.int .i64 t526) := (blk_cell BK531.out 1).trans rfl
                have hcz107_2 : w87.cell? ⟨gb531, 2, none⟩ = some (.slice Ao84 t527.length co84) := (blk_cell BK531.out 2).trans rfl
                have hfz107_0 := blk_frozen BK531.out 0
                have hfz107_1 := blk_frozen BK531.out 1
                have hfz107_2 := blk_frozen BK531.out 2
                go_wp2_with (first | (go_at_call 24; (with_reducible refine (compositorref10_Valid.calls k2 t525 t526 _ _ t527 true _ ?side1 ?side2 A96.out).mono ?_); (case side1 => refine (Kd.R_reads' (e := 43) (base := w.heap.size) (ok := fun k_ => (((True ∧ k_ ≠ gb521) ∧ k_ ≠ gb522) ∧ some k_ ≠ (.slice Ao93 t534.length co93 : Value).ownBlock)) (n := t527.length) (c := co84) ?_).2.2; exact (by (with_reducible repeat (first | apply Kd.R_alloc | apply Kd.R_drewN | apply Kd.R_drew)); exact (Kd.R_mono (Kd.R_far (p := ⟨gb538, 2, none⟩) (Kd.R_far (p := ⟨gb538, 1, none⟩) (Kd.R_far (p := ⟨gb538, 0, none⟩) (Kd.R_types HO529.out BK538.out (by decide)) (fun _ hk => hk.2) (.int .i64 t532)) (fun _ hk => hk.2) (.int .i64 t533)) (fun _ hk => hk.2) (.slice Ao93 t534.length co93)) (fun _ h_ => h_.1)))); (case side2 => exact (Kd.R_reads' HO529.out).2.1); rintro e w108 ⟨rfl, hb⟩; have n0_ := Aside0.mk (Kd.R_below (by (with_reducible repeat (first | apply Kd.R_alloc | apply Kd.R_drewN | apply Kd.R_drew)); exact (Kd.R_mono (Kd.R_far (p := ⟨gb538, 2, none⟩) (Kd.R_far (p := ⟨gb538, 1, none⟩) (Kd.R_far (p := ⟨gb538, 0, none⟩) (Kd.R_types HO529.out BK538.out (by decide)) (fun _ hk => hk.2) (.int .i64 t532)) (fun _ hk => hk.2) (.int .i64 t533)) (fun _ hk => hk.2) (.slice Ao93 t534.length co93)) (fun _ h_ => h_.1))) hb); have n1_ := Aside0.mk (Kd.R_below (by (with_reducible repeat (first | apply Kd.R_alloc | apply Kd.R_drewN | apply Kd.R_drew)); exact (Kd.R_mono (Kd.R_far (p := ⟨gb538, 2, none⟩) (Kd.R_far (p := ⟨gb538, 1, none⟩) (Kd.R_far (p := ⟨gb538, 0, none⟩) (Kd.R_types HO536.out BK538.out (by decide)) (fun _ hk => hk.2) (.int .i64 t532)) (fun _ hk => hk.2) (.int .i64 t533)) (fun _ hk => hk.2) (.slice Ao93 t534.length co93)) (fun _ h_ => h_.1))) hb); have n2_ := Aside0.mk (blk_below (g := gb515) (o := .cells #[.int .i64 a0_0, .int .i64 a0_1, .slice (some ad519) l0_2.length c0_2] 24 (0, 0)) (by (with_reducible repeat (first | refine blk_drewN ?_ _ | refine blk_drew ?_ | refine blk_alloc ?_ _)); refine blk_far ?_ NB515_538.out _; (with_reducible repeat (first | refine blk_drewN ?_ _ | refine blk_drew ?_ | refine blk_alloc ?_ _)); refine blk_far ?_ NB515_538.out _; (with_reducible repeat (first | refine blk_drewN ?_ _ | refine blk_drew ?_ | refine blk_alloc ?_ _)); refine blk_far ?_ NB515_538.out _; (with_reducible repeat (first | refine blk_drewN ?_ _ | refine blk_drew ?_ | refine blk_alloc ?_ _)); exact BK515.out) hb); have n3_ := Aside0.mk (blk_below (g := gb521) (o := .cells #[.int .u8 x522000_2, .int .u8 x522001_2, .int .u8 x522002_2, .int .u8 x522003_2] 43 (0, 0)) (by (with_reducible repeat (first | refine blk_drewN ?_ _ | refine blk_drew ?_ | refine blk_alloc ?_ _)); refine blk_far ?_ NB521_538.out _; (with_reducible repeat (first | refine blk_drewN ?_ _ | refine blk_drew ?_ | refine blk_alloc ?_ _)); refine blk_far ?_ NB521_538.out _; (with_reducible repeat (first | refine blk_drewN ?_ _ | refine blk_drew ?_ | refine blk_alloc ?_ _)); refine blk_far ?_ NB521_538.out _; (with_reducible repeat (first | refine blk_drewN ?_ _ | refine blk_drew ?_ | refine blk_alloc ?_ _)); exact BK521.out) hb); have n4_ := Aside0.mk (blk_below (g := gb522) (o := .cells #[.int .u8 x523000_2, .int .u8 x523001_2, .int .u8 x523002_2, .int .u8 x523003_2] 43 (0, 0)) (by (with_reducible repeat (first | refine blk_drewN ?_ _ | refine blk_drew ?_ | refine blk_alloc ?_ _)); refine blk_far ?_ NB522_538.out _; (with_reducible repeat (first | refine blk_drewN ?_ _ | refine blk_drew ?_ | refine blk_alloc ?_ _)); refine blk_far ?_ NB522_538.out _; (with_reducible repeat (first | refine blk_drewN ?_ _ | refine blk_drew ?_ | refine blk_alloc ?_ _)); refine blk_far ?_ NB522_538.out _; (with_reducible repeat (first | refine blk_drewN ?_ _ | refine blk_drew ?_ | refine blk_alloc ?_ _)); exact BK522.out) hb); have n5_ := Aside0.mk (blk_below (g := gb531) (o := .cells #[.int .i64 t525, .int .i64 t526, .slice Ao84 t527.length co84] 24 (0, 0)) (by (with_reducible repeat (first | refine blk_drewN ?_ _ | refine blk_drew ?_ | refine blk_alloc ?_ _)); refine blk_far ?_ NB531_538.out _; (with_reducible repeat (first | refine blk_drewN ?_ _ | refine blk_drew ?_ | refine blk_alloc ?_ _)); refine blk_far ?_ NB531_538.out _; (with_reducible repeat (first | refine blk_drewN ?_ _ | refine blk_drew ?_ | refine blk_alloc ?_ _)); refine blk_far ?_ NB531_538.out _; (with_reducible repeat (first | refine blk_drewN ?_ _ | refine blk_drew ?_ | refine blk_alloc ?_ _)); exact BK531.out) hb); have n6_ := Aside0.mk (blk_below (g := gb538) (o := .cells #[.int .i64 t532, .int .i64 t533, .slice Ao93 t534.length co93] 24 (0, 0)) (by (with_reducible repeat (first | refine blk_drewN ?_ _ | refine blk_drew ?_ | refine blk_alloc ?_ _)); refine blk_put (cs := #[.int .i64 t532, .int .i64 t533, .slice none 0 0]) ?_ 2 _ rfl; (with_reducible repeat (first | refine blk_drewN ?_ _ | refine blk_drew ?_ | refine blk_alloc ?_ _)); refine blk_put (cs := #[.int .i64 t532, .int .i64 0, .slice none 0 0]) ?_ 1 _ rfl; (with_reducible repeat (first | refine blk_drewN ?_ _ | refine blk_drew ?_ | refine blk_alloc ?_ _)); refine blk_put (cs := #[.int .i64 0, .int .i64 0, .slice none 0 0]) ?_ 0 _ rfl; (with_reducible repeat (first | refine blk_drewN ?_ _ | refine blk_drew ?_ | refine blk_alloc ?_ _)); exact BK538.out) hb); have n7_ := hb_ HB hb; clear HO529; clear HO536; clear BK515; clear BK521; clear BK522; clear BK531; clear BK538; clear HB; have HO529 := n0_; have HO536 := n1_; have BK515 := n2_; have BK521 := n3_; have BK522 := n4_; have BK531 := n5_; have BK538 := n6_; have HB := n7_; clear n0_ n1_ n2_ n3_ n4_ n5_ n6_ n7_; (try clear hb); (try clear hb2); (try clear hk); (try clear hi); have hnb109 := NB538_515.out; have hnc109 := NB515_538.out; have hnb110 := NB538_521.out; have hnc110 := NB521_538.out; have hnb111 := NB538_522.out; have hnc111 := NB522_538.out; have hcz112_0 : w108.cell? ⟨gb538, 0, none⟩ = some (.int .i64 t532) := (blk_cell BK538.out 0).trans rfl; have hcz112_1 : w108.cell? ⟨gb538, 1, none⟩ = some (.int .i64 t533) := (blk_cell BK538.out 1).trans rfl; have hcz112_2 : w108.cell? ⟨gb538, 2, none⟩ = some (.slice Ao93 t534.length co93) := (blk_cell BK538.out 2).trans rfl; have hfz112_0 := blk_frozen BK538.out 0; have hfz112_1 := blk_frozen BK538.out 1; have hfz112_2 := blk_frozen BK538.out 2) | (go_at_call 24; (with_reducible refine (compositorref10_Valid.calls k2 t532 t533 _ _ t534 true _ ?side1 ?side2 A98.out).mono ?_); (case side1 => repeat (first | exact (Kd.R_reads' HO536.out).2.2 | (with_reducible refine Kd.C_alloc ?_ _) | (with_reducible refine Kd.C_drewN ?_ _) | (with_reducible refine Kd.C_drew ?_))); (case side2 => exact (Kd.R_reads' HO536.out).2.1); rintro e w113 ⟨rfl, hb⟩; have n0_ := Aside0.mk (Kd.R_below (by (with_reducible repeat (first | apply Kd.R_alloc | apply Kd.R_drewN | apply Kd.R_drew)); exact HO529.out) hb); have n1_ := Aside0.mk (Kd.R_below (by (with_reducible repeat (first | apply Kd.R_alloc | apply Kd.R_drewN | apply Kd.R_drew)); exact HO536.out) hb); have n2_ := bb_ BK515 hb; have n3_ := bb_ BK521 hb; have n4_ := bb_ BK522 hb; have n5_ := bb_ BK531 hb; have n6_ := bb_ BK538 hb; have n7_ := hb_ HB hb; clear HO529; clear HO536; clear BK515; clear BK521; clear BK522; clear BK531; clear BK538; clear HB; have HO529 := n0_; have HO536 := n1_; have BK515 := n2_; have BK521 := n3_; have BK522 := n4_; have BK531 := n5_; have BK538 := n6_; have HB := n7_; clear n0_ n1_ n2_ n3_ n4_ n5_ n6_ n7_; (try clear hb); (try clear hb2); (try clear hk); (try clear hi); have hcz114_0 : w113.cell? ⟨gb531, 0, none⟩ = some (.int .i64 t525) := (blk_cell BK531.out 0).trans rfl; have hcz114_1 : w113.cell? ⟨gb531, 1, none⟩ = some (.int .i64 t526) := (blk_cell BK531.out 1).trans rfl; have hcz114_2 : w113.cell? ⟨gb531, 2, none⟩ = some (.slice Ao84 t527.length co84) := (blk_cell BK531.out 2).trans rfl; have hfz114_0 := blk_frozen BK531.out 0; have hfz114_1 := blk_frozen BK531.out 1; have hfz114_2 := blk_frozen BK531.out 2; have hcz115_0 : w113.cell? ⟨gb538, 0, none⟩ = some (.int .i64 t532) := (blk_cell BK538.out 0).trans rfl; have hcz115_1 : w113.cell? ⟨gb538, 1, none⟩ = some (.int .i64 t533) := (blk_cell BK538.out 1).trans rfl; have hcz115_2 : w113.cell? ⟨gb538, 2, none⟩ = some (.slice Ao93 t534.length co93) := (blk_cell BK538.out 2).trans rfl; have hfz115_0 := blk_frozen BK538.out 0; have hfz115_1 := blk_frozen BK538.out 1; have hfz115_2 := blk_frozen BK538.out 2))
                go_meet
                case rel => exact ⟨_, ((t533 != a2)), (by first | rfl | (simp; done) | (simp [*]; done)), H', ⟨by have := HJ3.out; have := HK2.out; first | omega | exact Nat.le_refl _⟩, ⟨by (with_reducible repeat (first | apply Kd.R_alloc | apply Kd.R_drewN | apply Kd.R_drew)); exact Kd.R_mono HO529.out (fun _ hk => ⟨hk.2, ⟨hk.1.1.2, hk.1.2⟩⟩)⟩, ⟨by (with_reducible repeat (first | apply Kd.R_alloc | apply Kd.R_drewN | apply Kd.R_drew)); exact Kd.R_mono HO536.out (fun _ hk => ⟨hk.1.1.2, ⟨hk.1.2, hk.2⟩⟩)⟩, bf_ BK515, bf_ BK521, bf_ BK522, bf_ BK531, bf_ BK538, ⟨by repeat (first | (with_reducible first | exact HB.out | apply below_alloc | apply pw_below_drewN | apply below_drew1 | refine below_set ?_ GE515.out | refine below_set ?_ GE521.out | refine below_set ?_ GE522.out | refine below_set ?_ GE531.out | refine below_set ?_ GE538.out) | exact HB.out)⟩⟩
               ·
                rw [if_neg c102] at H
                have c102b0 : (t532 == a1) = false := beq_eq_false_iff_ne.mpr c102
                have c102b1 : (t532 != a1) = true := bne_iff_ne.mpr c102
                have H' := Aside0.mk H
                clear H
                have hnb116 := NB531_515.out
                have hnc116 := NB515_531.out
                have hnb117 := NB531_521.out
                have hnc117 := NB521_531.out
                have hnb118 := NB531_522.out
                have hnc118 := NB522_531.out
                have hnb119 := NB531_538.out
                have hnc119 := NB538_531.out
                have hcz120_0 : w87.cell? ⟨gb531, 0, none⟩ = some (.int .i64 t525) := (blk_cell BK531.out 0).trans rfl
                have hcz120_1 : w87.cell? ⟨gb531, 1, none⟩ = some (.int .i64 t526) := (blk_cell BK531.out 1).trans rfl
                have hcz120_2 : w87.cell? ⟨gb531, 2, none⟩ = some (.slice Ao84 t527.length co84) := (blk_cell BK531.out 2).trans rfl
                have hfz120_0 := blk_frozen BK531.out 0
                have hfz120_1 := blk_frozen BK531.out 1
                have hfz120_2 := blk_frozen BK531.out 2
                go_wp2_with (first | (go_at_call 24; (with_reducible refine (compositorref10_Valid.calls k2 t525 t526 _ _ t527 true _ ?side1 ?side2 A96.out).mono ?_); (case side1 => refine (Kd.R_reads' (e := 43) (base := w.heap.size) (ok := fun k_ => (((True ∧ k_ ≠ gb521) ∧ k_ ≠ gb522) ∧ some k_ ≠ (.slice Ao93 t534.length co93 : Value).ownBlock)) (n := t527.length) (c := co84) ?_).2.2; exact (by (with_reducible repeat (first | apply Kd.R_alloc | apply Kd.R_drewN | apply Kd.R_drew)); exact (Kd.R_mono (Kd.R_far (p := ⟨gb538, 2, none⟩) (Kd.R_far (p := ⟨gb538, 1, none⟩) (Kd.R_far (p := ⟨gb538, 0, none⟩) (Kd.R_types HO529.out BK538.out (by decide)) (fun _ hk => hk.2) (.int .i64 t532)) (fun _ hk => hk.2) (.int .i64 t533)) (fun _ hk => hk.2) (.slice Ao93 t534.length co93)) (fun _ h_ => h_.1)))); (case side2 => exact (Kd.R_reads' HO529.out).2.1); rintro e w121 ⟨rfl, hb⟩; have n0_ := Aside0.mk (Kd.R_below (by (with_reducible repeat (first | apply Kd.R_alloc | apply Kd.R_drewN | apply Kd.R_drew)); exact (Kd.R_mono (Kd.R_far (p := ⟨gb538, 2, none⟩) (Kd.R_far (p := ⟨gb538, 1, none⟩) (Kd.R_far (p := ⟨gb538, 0, none⟩) (Kd.R_types HO529.out BK538.out (by decide)) (fun _ hk => hk.2) (.int .i64 t532)) (fun _ hk => hk.2) (.int .i64 t533)) (fun _ hk => hk.2) (.slice Ao93 t534.length co93)) (fun _ h_ => h_.1))) hb); have n1_ := Aside0.mk (Kd.R_below (by (with_reducible repeat (first | apply Kd.R_alloc | apply Kd.R_drewN | apply Kd.R_drew)); exact (Kd.R_mono (Kd.R_far (p := ⟨gb538, 2, none⟩) (Kd.R_far (p := ⟨gb538, 1, none⟩) (Kd.R_far (p := ⟨gb538, 0, none⟩) (Kd.R_types HO536.out BK538.out (by decide)) (fun _ hk => hk.2) (.int .i64 t532)) (fun _ hk => hk.2) (.int .i64 t533)) (fun _ hk => hk.2) (.slice Ao93 t534.length co93)) (fun _ h_ => h_.1))) hb); have n2_ := Aside0.mk (blk_below (g := gb515) (o := .cells #[.int .i64 a0_0, .int .i64 a0_1, .slice (some ad519) l0_2.length c0_2] 24 (0, 0)) (by (with_reducible repeat (first | refine blk_drewN ?_ _ | refine blk_drew ?_ | refine blk_alloc ?_ _)); refine blk_far ?_ NB515_538.out _; (with_reducible repeat (first | refine blk_drewN ?_ _ | refine blk_drew ?_ | refine blk_alloc ?_ _)); refine blk_far ?_ NB515_538.out _; (with_reducible repeat (first | refine blk_drewN ?_ _ | refine blk_drew ?_ | refine blk_alloc ?_ _)); refine blk_far ?_ NB515_538.out _; (with_reducible repeat (first | refine blk_drewN ?_ _ | refine blk_drew ?_ | refine blk_alloc ?_ _)); exact BK515.out) hb); have n3_ := Aside0.mk (blk_below (g := gb521) (o := .cells #[.int .u8 x522000_2, .int .u8 x522001_2, .int .u8 x522002_2, .int .u8 x522003_2] 43 (0, 0)) (by (with_reducible repeat (first | refine blk_drewN ?_ _ | refine blk_drew ?_ | refine blk_alloc ?_ _)); refine blk_far ?_ NB521_538.out _; (with_reducible repeat (first | refine blk_drewN ?_ _ | refine blk_drew ?_ | refine blk_alloc ?_ _)); refine blk_far ?_ NB521_538.out _; (with_reducible repeat (first | refine blk_drewN ?_ _ | refine blk_drew ?_ | refine blk_alloc ?_ _)); refine blk_far ?_ NB521_538.out _; (with_reducible repeat (first | refine blk_drewN ?_ _ | refine blk_drew ?_ | refine blk_alloc ?_ _)); exact BK521.out) hb); have n4_ := Aside0.mk (blk_below (g := gb522) (o := .cells #[.int .u8 x523000_2, .int .u8 x523001_2, .int .u8 x523002_2, .int .u8 x523003_2] 43 (0, 0)) (by (with_reducible repeat (first | refine blk_drewN ?_ _ | refine blk_drew ?_ | refine blk_alloc ?_ _)); refine blk_far ?_ NB522_538.out _; (with_reducible repeat (first | refine blk_drewN ?_ _ | refine blk_drew ?_ | refine blk_alloc ?_ _)); refine blk_far ?_ NB522_538.out _; (with_reducible repeat (first | refine blk_drewN ?_ _ | refine blk_drew ?_ | refine blk_alloc ?_ _)); refine blk_far ?_ NB522_538.out _; (with_reducible repeat (first | refine blk_drewN ?_ _ | refine blk_drew ?_ | refine blk_alloc ?_ _)); exact BK522.out) hb); have n5_ := Aside0.mk (blk_below (g := gb531) (o := .cells #[.int .i64 t525, .int .i64 t526, .slice Ao84 t527.length co84] 24 (0, 0)) (by (with_reducible repeat (first | refine blk_drewN ?_ _ | refine blk_drew ?_ | refine blk_alloc ?_ _)); refine blk_far ?_ NB531_538.out _; (with_reducible repeat (first | refine blk_drewN ?_ _ | refine blk_drew ?_ | refine blk_alloc ?_ _)); refine blk_far ?_ NB531_538.out _; (with_reducible repeat (first | refine blk_drewN ?_ _ | refine blk_drew ?_ | refine blk_alloc ?_ _)); refine blk_far ?_ NB531_538.out _; (with_reducible repeat (first | refine blk_drewN ?_ _ | refine blk_drew ?_ | refine blk_alloc ?_ _)); exact BK531.out) hb); have n6_ := Aside0.mk (blk_below (g := gb538) (o := .cells #[.int .i64 t532, .int .i64 t533, .slice Ao93 t534.length co93] 24 (0, 0)) (by (with_reducible repeat (first | refine blk_drewN ?_ _ | refine blk_drew ?_ | refine blk_alloc ?_ _)); refine blk_put (cs := #[.int .i64 t532, .int .i64 t533, .slice none 0 0]) ?_ 2 _ rfl; (with_reducible repeat (first | refine blk_drewN ?_ _ | refine blk_drew ?_ | refine blk_alloc ?_ _)); refine blk_put (cs := #[.int .i64 t532, .int .i64 0, .slice none 0 0]) ?_ 1 _ rfl; (with_reducible repeat (first | refine blk_drewN ?_ _ | refine blk_drew ?_ | refine blk_alloc ?_ _)); refine blk_put (cs := #[.int .i64 0, .int .i64 0, .slice none 0 0]) ?_ 0 _ rfl; (with_reducible repeat (first | refine blk_drewN ?_ _ | refine blk_drew ?_ | refine blk_alloc ?_ _)); exact BK538.out) hb); have n7_ := hb_ HB hb; clear HO529; clear HO536; clear BK515; clear BK521; clear BK522; clear BK531; clear BK538; clear HB; have HO529 := n0_; have HO536 := n1_; have BK515 := n2_; have BK521 := n3_; have BK522 := n4_; have BK531 := n5_; have BK538 := n6_; have HB := n7_; clear n0_ n1_ n2_ n3_ n4_ n5_ n6_ n7_; (try clear hb); (try clear hb2); (try clear hk); (try clear hi); have hnb122 := NB538_515.out; have hnc122 := NB515_538.out; have hnb123 := NB538_521.out; have hnc123 := NB521_538.out; have hnb124 := NB538_522.out; have hnc124 := NB522_538.out; have hcz125_0 : w121.cell? ⟨gb538, 0, none⟩ = some (.int .i64 t532) := (blk_cell BK538.out 0).trans rfl; have hcz125_1 : w121.cell? ⟨gb538, 1, none⟩ = some (.int .i64 t533) := (blk_cell BK538.out 1).trans rfl; have hcz125_2 : w121.cell? ⟨gb538, 2, none⟩ = some (.slice Ao93 t534.length co93) := (blk_cell BK538.out 2).trans rfl; have hfz125_0 := blk_frozen BK538.out 0; have hfz125_1 := blk_frozen BK538.out 1; have hfz125_2 := blk_frozen BK538.out 2) | (go_at_call 24; (with_reducible refine (compositorref10_Valid.calls k2 t532 t533 _ _ t534 true _ ?side1 ?side2 A98.out).mono ?_); (case side1 => repeat (first | exact (Kd.R_reads' HO536.out).2.2 | (with_reducible refine Kd.C_alloc ?_ _) | (with_reducible refine Kd.C_drewN ?_ _) | (with_reducible refine Kd.C_drew ?_))); (case side2 => exact (Kd.R_reads' HO536.out).2.1); rintro e w126 ⟨rfl, hb⟩; have n0_ := Aside0.mk (Kd.R_below (by (with_reducible repeat (first | apply Kd.R_alloc | apply Kd.R_drewN | apply Kd.R_drew)); exact HO529.out) hb); have n1_ := Aside0.mk (Kd.R_below (by (with_reducible repeat (first | apply Kd.R_alloc | apply Kd.R_drewN | apply Kd.R_drew)); exact HO536.out) hb); have n2_ := bb_ BK515 hb; have n3_ := bb_ BK521 hb; have n4_ := bb_ BK522 hb; have n5_ := bb_ BK531 hb; have n6_ := bb_ BK538 hb; have n7_ := hb_ HB hb; clear HO529; clear HO536; clear BK515; clear BK521; clear BK522; clear BK531; clear BK538; clear HB; have HO529 := n0_; have HO536 := n1_; have BK515 := n2_; have BK521 := n3_; have BK522 := n4_; have BK531 := n5_; have BK538 := n6_; have HB := n7_; clear n0_ n1_ n2_ n3_ n4_ n5_ n6_ n7_; (try clear hb); (try clear hb2); (try clear hk); (try clear hi); have hcz127_0 : w126.cell? ⟨gb531, 0, none⟩ = some (.int .i64 t525) := (blk_cell BK531.out 0).trans rfl; have hcz127_1 : w126.cell? ⟨gb531, 1, none⟩ = some (.int .i64 t526) := (blk_cell BK531.out 1).trans rfl; have hcz127_2 : w126.cell? ⟨gb531, 2, none⟩ = some (.slice Ao84 t527.length co84) := (blk_cell BK531.out 2).trans rfl; have hfz127_0 := blk_frozen BK531.out 0; have hfz127_1 := blk_frozen BK531.out 1; have hfz127_2 := blk_frozen BK531.out 2; have hcz128_0 : w126.cell? ⟨gb538, 0, none⟩ = some (.int .i64 t532) := (blk_cell BK538.out 0).trans rfl; have hcz128_1 : w126.cell? ⟨gb538, 1, none⟩ = some (.int .i64 t533) := (blk_cell BK538.out 1).trans rfl; have hcz128_2 : w126.cell? ⟨gb538, 2, none⟩ = some (.slice Ao93 t534.length co93) := (blk_cell BK538.out 2).trans rfl; have hfz128_0 := blk_frozen BK538.out 0; have hfz128_1 := blk_frozen BK538.out 1; have hfz128_2 := blk_frozen BK538.out 2))
                go_meet
                case rel => exact ⟨_, (true), (by first | rfl | (simp; done) | (simp [*]; done)), H', ⟨by have := HJ3.out; have := HK2.out; first | omega | exact Nat.le_refl _⟩, ⟨by (with_reducible repeat (first | apply Kd.R_alloc | apply Kd.R_drewN | apply Kd.R_drew)); exact Kd.R_mono HO529.out (fun _ hk => ⟨hk.2, ⟨hk.1.1.2, hk.1.2⟩⟩)⟩, ⟨by (with_reducible repeat (first | apply Kd.R_alloc | apply Kd.R_drewN | apply Kd.R_drew)); exact Kd.R_mono HO536.out (fun _ hk => ⟨hk.1.1.2, ⟨hk.1.2, hk.2⟩⟩)⟩, bf_ BK515, bf_ BK521, bf_ BK522, bf_ BK531, bf_ BK538, ⟨by repeat (first | (with_reducible first | exact HB.out | apply below_alloc | apply pw_below_drewN | apply below_drew1 | refine below_set ?_ GE515.out | refine below_set ?_ GE521.out | refine below_set ?_ GE522.out | refine below_set ?_ GE531.out | refine below_set ?_ GE538.out) | exact HB.out)⟩⟩
              ·
               rw [if_neg c101] at H
               have c101b0 : (t526 == a2) = false := beq_eq_false_iff_ne.mpr c101
               have c101b1 : (t526 != a2) = true := bne_iff_ne.mpr c101
               have H' := Aside0.mk H
               clear H
               have hnb129 := NB531_515.out
               have hnc129 := NB515_531.out
               have hnb130 := NB531_521.out
               have hnc130 := NB521_531.out
               have hnb131 := NB531_522.out
               have hnc131 := NB522_531.out
               have hnb132 := NB531_538.out
               have hnc132 := NB538_531.out
               have hcz133_0 : w87.cell? ⟨gb531, 0, none⟩ = some (.int .i64 t525) := (blk_cell BK531.out 0).trans rfl
               have hcz133_1 : w87.cell? ⟨gb531, 1, none⟩ = some (.int .i64 t526) := (blk_cell BK531.out 1).trans rfl
               have hcz133_2 : w87.cell? ⟨gb531, 2, none⟩ = some (.slice Ao84 t527.length co84) := (blk_cell BK531.out 2).trans rfl
               have hfz133_0 := blk_frozen BK531.out 0
               have hfz133_1 := blk_frozen BK531.out 1
               have hfz133_2 := blk_frozen BK531.out 2
               go_wp2_with (first | (go_at_call 24; (with_reducible refine (compositorref10_Valid.calls k2 t525 t526 _ _ t527 true _ ?side1 ?side2 A96.out).mono ?_); (case side1 => refine (Kd.R_reads' (e := 43) (base := w.heap.size) (ok := fun k_ => (((True ∧ k_ ≠ gb521) ∧ k_ ≠ gb522) ∧ some k_ ≠ (.slice Ao93 t534.length co93 : Value).ownBlock)) (n := t527.length) (c := co84) ?_).2.2; exact (by (with_reducible repeat (first | apply Kd.R_alloc | apply Kd.R_drewN | apply Kd.R_drew)); exact (Kd.R_mono (Kd.R_far (p := ⟨gb538, 2, none⟩) (Kd.R_far (p := ⟨gb538, 1, none⟩) (Kd.R_far (p := ⟨gb538, 0, none⟩) (Kd.R_types HO529.out BK538.out (by decide)) (fun _ hk => hk.2) (.int .i64 t532)) (fun _ hk => hk.2) (.int .i64 t533)) (fun _ hk => hk.2) (.slice Ao93 t534.length co93)) (fun _ h_ => h_.1)))); (case side2 => exact (Kd.R_reads' HO529.out).2.1); rintro e w134 ⟨rfl, hb⟩; have n0_ := Aside0.mk (Kd.R_below (by (with_reducible repeat (first | apply Kd.R_alloc | apply Kd.R_drewN | apply Kd.R_drew)); exact (Kd.R_mono (Kd.R_far (p := ⟨gb538, 2, none⟩) (Kd.R_far (p := ⟨gb538, 1, none⟩) (Kd.R_far (p := ⟨gb538, 0, none⟩) (Kd.R_types HO529.out BK538.out (by decide)) (fun _ hk => hk.2) (.int .i64 t532)) (fun _ hk => hk.2) (.int .i64 t533)) (fun _ hk => hk.2) (.slice Ao93 t534.length co93)) (fun _ h_ => h_.1))) hb); have n1_ := Aside0.mk (Kd.R_below (by (with_reducible repeat (first | apply Kd.R_alloc | apply Kd.R_drewN | apply Kd.R_drew)); exact (Kd.R_mono (Kd.R_far (p := ⟨gb538, 2, none⟩) (Kd.R_far (p := ⟨gb538, 1, none⟩) (Kd.R_far (p := ⟨gb538, 0, none⟩) (Kd.R_types HO536.out BK538.out (by decide)) (fun _ hk => hk.2) (.int .i64 t532)) (fun _ hk => hk.2) (.int .i64 t533)) (fun _ hk => hk.2) (.slice Ao93 t534.length co93)) (fun _ h_ => h_.1))) hb); have n2_ := Aside0.mk (blk_below (g := gb515) (o := .cells #[.int .i64 a0_0, .int .i64 a0_1, .slice (some ad519) l0_2.length c0_2] 24 (0, 0)) (by (with_reducible repeat (first | refine blk_drewN ?_ _ | refine blk_drew ?_ | refine blk_alloc ?_ _)); refine blk_far ?_ NB515_538.out _; (with_reducible repeat (first | refine blk_drewN ?_ _ | refine blk_drew ?_ | refine blk_alloc ?_ _)); refine blk_far ?_ NB515_538.out _; (with_reducible repeat (first | refine blk_drewN ?_ _ | refine blk_drew ?_ | refine blk_alloc ?_ _)); refine blk_far ?_ NB515_538.out _; (with_reducible repeat (first | refine blk_drewN ?_ _ | refine blk_drew ?_ | refine blk_alloc ?_ _)); exact BK515.out) hb); have n3_ := Aside0.mk (blk_below (g := gb521) (o := .cells #[.int .u8 x522000_2, .int .u8 x522001_2, .int .u8 x522002_2, .int .u8 x522003_2] 43 (0, 0)) (by (with_reducible repeat (first | refine blk_drewN ?_ _ | refine blk_drew ?_ | refine blk_alloc ?_ _)); refine blk_far ?_ NB521_538.out _; (with_reducible repeat (first | refine blk_drewN ?_ _ | refine blk_drew ?_ | refine blk_alloc ?_ _)); refine blk_far ?_ NB521_538.out _; (with_reducible repeat (first | refine blk_drewN ?_ _ | refine blk_drew ?_ | refine blk_alloc ?_ _)); refine blk_far ?_ NB521_538.out _; (with_reducible repeat (first | refine blk_drewN ?_ _ | refine blk_drew ?_ | refine blk_alloc ?_ _)); exact BK521.out) hb); have n4_ := Aside0.mk (blk_below (g := gb522) (o := .cells #[.int .u8 x523000_2, .int .u8 x523001_2, .int .u8 x523002_2, .int .u8 x523003_2] 43 (0, 0)) (by (with_reducible repeat (first | refine blk_drewN ?_ _ | refine blk_drew ?_ | refine blk_alloc ?_ _)); refine blk_far ?_ NB522_538.out _; (with_reducible repeat (first | refine blk_drewN ?_ _ | refine blk_drew ?_ | refine blk_alloc ?_ _)); refine blk_far ?_ NB522_538.out _; (with_reducible repeat (first | refine blk_drewN ?_ _ | refine blk_drew ?_ | refine blk_alloc ?_ _)); refine blk_far ?_ NB522_538.out _; (with_reducible repeat (first | refine blk_drewN ?_ _ | refine blk_drew ?_ | refine blk_alloc ?_ _)); exact BK522.out) hb); have n5_ := Aside0.mk (blk_below (g := gb531) (o := .cells #[.int .i64 t525, .int .i64 t526, .slice Ao84 t527.length co84] 24 (0, 0)) (by (with_reducible repeat (first | refine blk_drewN ?_ _ | refine blk_drew ?_ | refine blk_alloc ?_ _)); refine blk_far ?_ NB531_538.out _; (with_reducible repeat (first | refine blk_drewN ?_ _ | refine blk_drew ?_ | refine blk_alloc ?_ _)); refine blk_far ?_ NB531_538.out _; (with_reducible repeat (first | refine blk_drewN ?_ _ | refine blk_drew ?_ | refine blk_alloc ?_ _)); refine blk_far ?_ NB531_538.out _; (with_reducible repeat (first | refine blk_drewN ?_ _ | refine blk_drew ?_ | refine blk_alloc ?_ _)); exact BK531.out) hb); have n6_ := Aside0.mk (blk_below (g := gb538) (o := .cells #[.int .i64 t532, .int .i64 t533, .slice Ao93 t534.length co93] 24 (0, 0)) (by (with_reducible repeat (first | refine blk_drewN ?_ _ | refine blk_drew ?_ | refine blk_alloc ?_ _)); refine blk_put (cs := #[.int .i64 t532, .int .i64 t533, .slice none 0 0]) ?_ 2 _ rfl; (with_reducible repeat (first | refine blk_drewN ?_ _ | refine blk_drew ?_ | refine blk_alloc ?_ _)); refine blk_put (cs := #[.int .i64 t532, .int .i64 0, .slice none 0 0]) ?_ 1 _ rfl; (with_reducible repeat (first | refine blk_drewN ?_ _ | refine blk_drew ?_ | refine blk_alloc ?_ _)); refine blk_put (cs := #[.int .i64 0, .int .i64 0, .slice none 0 0]) ?_ 0 _ rfl; (with_reducible repeat (first | refine blk_drewN ?_ _ | refine blk_drew ?_ | refine blk_alloc ?_ _)); exact BK538.out) hb); have n7_ := hb_ HB hb; clear HO529; clear HO536; clear BK515; clear BK521; clear BK522; clear BK531; clear BK538; clear HB; have HO529 := n0_; have HO536 := n1_; have BK515 := n2_; have BK521 := n3_; have BK522 := n4_; have BK531 := n5_; have BK538 := n6_; have HB := n7_; clear n0_ n1_ n2_ n3_ n4_ n5_ n6_ n7_; (try clear hb); (try clear hb2); (try clear hk); (try clear hi); have hnb135 := NB538_515.out; have hnc135 := NB515_538.out; have hnb136 := NB538_521.out; have hnc136 := NB521_538.out; have hnb137 := NB538_522.out; have hnc137 := NB522_538.out; have hcz138_0 : w134.cell? ⟨gb538, 0, none⟩ = some (.int .i64 t532) := (blk_cell BK538.out 0).trans rfl; have hcz138_1 : w134.cell? ⟨gb538, 1, none⟩ = some (.int .i64 t533) := (blk_cell BK538.out 1).trans rfl; have hcz138_2 : w134.cell? ⟨gb538, 2, none⟩ = some (.slice Ao93 t534.length co93) := (blk_cell BK538.out 2).trans rfl; have hfz138_0 := blk_frozen BK538.out 0; have hfz138_1 := blk_frozen BK538.out 1; have hfz138_2 := blk_frozen BK538.out 2) | (go_at_call 24; (with_reducible refine (compositorref10_Valid.calls k2 t532 t533 _ _ t534 true _ ?side1 ?side2 A98.out).mono ?_); (case side1 => repeat (first | exact (Kd.R_reads' HO536.out).2.2 | (with_reducible refine Kd.C_alloc ?_ _) | (with_reducible refine Kd.C_drewN ?_ _) | (with_reducible refine Kd.C_drew ?_))); (case side2 => exact (Kd.R_reads' HO536.out).2.1); rintro e w139 ⟨rfl, hb⟩; have n0_ := Aside0.mk (Kd.R_below (by (with_reducible repeat (first | apply Kd.R_alloc | apply Kd.R_drewN | apply Kd.R_drew)); exact HO529.out) hb); have n1_ := Aside0.mk (Kd.R_below (by (with_reducible repeat (first | apply Kd.R_alloc | apply Kd.R_drewN | apply Kd.R_drew)); exact HO536.out) hb); have n2_ := bb_ BK515 hb; have n3_ := bb_ BK521 hb; have n4_ := bb_ BK522 hb; have n5_ := bb_ BK531 hb; have n6_ := bb_ BK538 hb; have n7_ := hb_ HB hb; clear HO529; clear HO536; clear BK515; clear BK521; clear BK522; clear BK531; clear BK538; clear HB; have HO529 := n0_; have HO536 := n1_; have BK515 := n2_; have BK521 := n3_; have BK522 := n4_; have BK531 := n5_; have BK538 := n6_; have HB := n7_; clear n0_ n1_ n2_ n3_ n4_ n5_ n6_ n7_; (try clear hb); (try clear hb2); (try clear hk); (try clear hi); have hcz140_0 : w139.cell? ⟨gb531, 0, none⟩ = some (.int .i64 t525) := (blk_cell BK531.out 0).trans rfl; have hcz140_1 : w139.cell? ⟨gb531, 1, none⟩ = some (.int .i64 t526) := (blk_cell BK531.out 1).trans rfl; have hcz140_2 : w139.cell? ⟨gb531, 2, none⟩ = some (.slice Ao84 t527.length co84) := (blk_cell BK531.out 2).trans rfl; have hfz140_0 := blk_frozen BK531.out 0; have hfz140_1 := blk_frozen BK531.out 1; have hfz140_2 := blk_frozen BK531.out 2))
               go_meet
               case rel => exact ⟨_, (true), (by first | rfl | (simp; done) | (simp [*]; done)), H', ⟨by have := HJ3.out; have := HK2.out; first | omega | exact Nat.le_refl _⟩, ⟨by (with_reducible repeat (first | apply Kd.R_alloc | apply Kd.R_drewN | apply Kd.R_drew)); exact Kd.R_mono HO529.out (fun _ hk => ⟨hk.2, ⟨hk.1.1.2, hk.1.2⟩⟩)⟩, ⟨by (with_reducible repeat (first | apply Kd.R_alloc | apply Kd.R_drewN | apply Kd.R_drew)); exact Kd.R_mono HO536.out (fun _ hk => ⟨hk.1.1.2, ⟨hk.1.2, hk.2⟩⟩)⟩, bf_ BK515, bf_ BK521, bf_ BK522, bf_ BK531, bf_ BK538, ⟨by repeat (first | (with_reducible first | exact HB.out | apply below_alloc | apply pw_below_drewN | apply below_drew1 | refine below_set ?_ GE515.out | refine below_set ?_ GE521.out | refine below_set ?_ GE522.out | refine below_set ?_ GE531.out | refine below_set ?_ GE538.out) | exact HB.out)⟩⟩
             ·
              rw [if_neg c100] at H
              have c100b0 : (t525 == a1) = false := beq_eq_false_iff_ne.mpr c100
              have c100b1 : (t525 != a1) = true := bne_iff_ne.mpr c100
              have H' := Aside0.mk H
              clear H
              have hnb141 := NB531_515.out
              have hnc141 := NB515_531.out
              have hnb142 := NB531_521.out
              have hnc142 := NB521_531.out
              have hnb143 := NB531_522.out
              have hnc143 := NB522_531.out
              have hnb144 := NB531_538.out
              have hnc144 := NB538_531.out
              have hcz145_0 : w87.cell? ⟨gb531, 0, none⟩ = some (.int .i64 t525) := (blk_cell BK531.out 0).trans rfl
              have hcz145_1 : w87.cell? ⟨gb531, 1, none⟩ = some (.int .i64 t526) := (blk_cell BK531.out 1).trans rfl
              have hcz145_2 : w87.cell? ⟨gb531, 2, none⟩ = some (.slice Ao84 t527.length co84) := (blk_cell BK531.out 2).trans rfl
              have hfz145_0 := blk_frozen BK531.out 0
              have hfz145_1 := blk_frozen BK531.out 1
              have hfz145_2 := blk_frozen BK531.out 2
              go_wp2_with (first | (go_at_call 24; (with_reducible refine (compositorref10_Valid.calls k2 t525 t526 _ _ t527 true _ ?side1 ?side2 A96.out).mono ?_); (case side1 => refine (Kd.R_reads' (e := 43) (base := w.heap.size) (ok := fun k_ => (((True ∧ k_ ≠ gb521) ∧ k_ ≠ gb522) ∧ some k_ ≠ (.slice Ao93 t534.length co93 : Value).ownBlock)) (n := t527.length) (c := co84) ?_).2.2; exact (by (with_reducible repeat (first | apply Kd.R_alloc | apply Kd.R_drewN | apply Kd.R_drew)); exact (Kd.R_mono (Kd.R_far (p := ⟨gb538, 2, none⟩) (Kd.R_far (p := ⟨gb538, 1, none⟩) (Kd.R_far (p := ⟨gb538, 0, none⟩) (Kd.R_types HO529.out BK538.out (by decide)) (fun _ hk => hk.2) (.int .i64 t532)) (fun _ hk => hk.2) (.int .i64 t533)) (fun _ hk => hk.2) (.slice Ao93 t534.length co93)) (fun _ h_ => h_.1)))); (case side2 => exact (Kd.R_reads' HO529.out).2.1); rintro e w146 ⟨rfl, hb⟩; have n0_ := Aside0.mk (Kd.R_below (by (with_reducible repeat (first | apply Kd.R_alloc | apply Kd.R_drewN | apply Kd.R_drew)); exact (Kd.R_mono (Kd.R_far (p := ⟨gb538, 2, none⟩) (Kd.R_far (p := ⟨gb538, 1, none⟩) (Kd.R_far (p := ⟨gb538, 0, none⟩) (Kd.R_types HO529.out BK538.out (by decide)) (fun _ hk => hk.2) (.int .i64 t532)) (fun _ hk => hk.2) (.int .i64 t533)) (fun _ hk => hk.2) (.slice Ao93 t534.length co93)) (fun _ h_ => h_.1))) hb); have n1_ := Aside0.mk (Kd.R_below (by (with_reducible repeat (first | apply Kd.R_alloc | apply Kd.R_drewN | apply Kd.R_drew)); exact (Kd.R_mono (Kd.R_far (p := ⟨gb538, 2, none⟩) (Kd.R_far (p := ⟨gb538, 1, none⟩) (Kd.R_far (p := ⟨gb538, 0, none⟩) (Kd.R_types HO536.out BK538.out (by decide)) (fun _ hk => hk.2) (.int .i64 t532)) (fun _ hk => hk.2) (.int .i64 t533)) (fun _ hk => hk.2) (.slice Ao93 t534.length co93)) (fun _ h_ => h_.1))) hb); have n2_ := Aside0.mk (blk_below (g := gb515) (o := .cells #[.int .i64 a0_0, .int .i64 a0_1, .slice (some ad519) l0_2.length c0_2] 24 (0, 0)) (by (with_reducible repeat (first | refine blk_drewN ?_ _ | refine blk_drew ?_ | refine blk_alloc ?_ _)); refine blk_far ?_ NB515_538.out _; (with_reducible repeat (first | refine blk_drewN ?_ _ | refine blk_drew ?_ | refine blk_alloc ?_ _)); refine blk_far ?_ NB515_538.out _; (with_reducible repeat (first | refine blk_drewN ?_ _ | refine blk_drew ?_ | refine blk_alloc ?_ _)); refine blk_far ?_ NB515_538.out _; (with_reducible repeat (first | refine blk_drewN ?_ _ | refine blk_drew ?_ | refine blk_alloc ?_ _)); exact BK515.out) hb); have n3_ := Aside0.mk (blk_below (g := gb521) (o := .cells #[.int .u8 x522000_2, .int .u8 x522001_2, .int .u8 x522002_2, .int .u8 x522003_2] 43 (0, 0)) (by (with_reducible repeat (first | refine blk_drewN ?_ _ | refine blk_drew ?_ | refine blk_alloc ?_ _)); refine blk_far ?_ NB521_538.out _; (with_reducible repeat (first | refine blk_drewN ?_ _ | refine blk_drew ?_ | refine blk_alloc ?_ _)); refine blk_far ?_ NB521_538.out _; (with_reducible repeat (first | refine blk_drewN ?_ _ | refine blk_drew ?_ | refine blk_alloc ?_ _)); refine blk_far ?_ NB521_538.out _; (with_reducible repeat (first | refine blk_drewN ?_ _ | refine blk_drew ?_ | refine blk_alloc ?_ _)); exact BK521.out) hb); have n4_ := Aside0.mk (blk_below (g := gb522) (o := .cells #[.int .u8 x523000_2, .int .u8 x523001_2, .int .u8 x523002_2, .int .u8 x523003_2] 43 (0, 0)) (by (with_reducible repeat (first | refine blk_drewN ?_ _ | refine blk_drew ?_ | refine blk_alloc ?_ _)); refine blk_far ?_ NB522_538.out _; (with_reducible repeat (first | refine blk_drewN ?_ _ | refine blk_drew ?_ | refine blk_alloc ?_ _)); refine blk_far ?_ NB522_538.out _; (with_reducible repeat (first | refine blk_drewN ?_ _ | refine blk_drew ?_ | refine blk_alloc ?_ _)); refine blk_far ?_ NB522_538.out _; (with_reducible repeat (first | refine blk_drewN ?_ _ | refine blk_drew ?_ | refine blk_alloc ?_ _)); exact BK522.out) hb); have n5_ := Aside0.mk (blk_below (g := gb531) (o := .cells #[.int .i64 t525, .int .i64 t526, .slice Ao84 t527.length co84] 24 (0, 0)) (by (with_reducible repeat (first | refine blk_drewN ?_ _ | refine blk_drew ?_ | refine blk_alloc ?_ _)); refine blk_far ?_ NB531_538.out _; (with_reducible repeat (first | refine blk_drewN ?_ _ | refine blk_drew ?_ | refine blk_alloc ?_ _)); refine blk_far ?_ NB531_538.out _; (with_reducible repeat (first | refine blk_drewN ?_ _ | refine blk_drew ?_ | refine blk_alloc ?_ _)); refine blk_far ?_ NB531_538.out _; (with_reducible repeat (first | refine blk_drewN ?_ _ | refine blk_drew ?_ | refine blk_alloc ?_ _)); exact BK531.out) hb); have n6_ := Aside0.mk (blk_below (g := gb538) (o := .cells #[.int .i64 t532, .int .i64 t533, .slice Ao93 t534.length co93] 24 (0, 0)) (by (with_reducible repeat (first | refine blk_drewN ?_ _ | refine blk_drew ?_ | refine blk_alloc ?_ _)); refine blk_put (cs := #[.int .i64 t532, .int .i64 t533, .slice none 0 0]) ?_ 2 _ rfl; (with_reducible repeat (first | refine blk_drewN ?_ _ | refine blk_drew ?_ | refine blk_alloc ?_ _)); refine blk_put (cs := #[.int .i64 t532, .int .i64 0, .slice none 0 0]) ?_ 1 _ rfl; (with_reducible repeat (first | refine blk_drewN ?_ _ | refine blk_drew ?_ | refine blk_alloc ?_ _)); refine blk_put (cs := #[.int .i64 0, .int .i64 0, .slice none 0 0]) ?_ 0 _ rfl; (with_reducible repeat (first | refine blk_drewN ?_ _ | refine blk_drew ?_ | refine blk_alloc ?_ _)); exact BK538.out) hb); have n7_ := hb_ HB hb; clear HO529; clear HO536; clear BK515; clear BK521; clear BK522; clear BK531; clear BK538; clear HB; have HO529 := n0_; have HO536 := n1_; have BK515 := n2_; have BK521 := n3_; have BK522 := n4_; have BK531 := n5_; have BK538 := n6_; have HB := n7_; clear n0_ n1_ n2_ n3_ n4_ n5_ n6_ n7_; (try clear hb); (try clear hb2); (try clear hk); (try clear hi); have hnb147 := NB538_515.out; have hnc147 := NB515_538.out; have hnb148 := NB538_521.out; have hnc148 := NB521_538.out; have hnb149 := NB538_522.out; have hnc149 := NB522_538.out; have hcz150_0 : w146.cell? ⟨gb538, 0, none⟩ = some (.int .i64 t532) := (blk_cell BK538.out 0).trans rfl; have hcz150_1 : w146.cell? ⟨gb538, 1, none⟩ = some (.int .i64 t533) := (blk_cell BK538.out 1).trans rfl; have hcz150_2 : w146.cell? ⟨gb538, 2, none⟩ = some (.slice Ao93 t534.length co93) := (blk_cell BK538.out 2).trans rfl; have hfz150_0 := blk_frozen BK538.out 0; have hfz150_1 := blk_frozen BK538.out 1; have hfz150_2 := blk_frozen BK538.out 2) | (go_at_call 24; (with_reducible refine (compositorref10_Valid.calls k2 t532 t533 _ _ t534 true _ ?side1 ?side2 A98.out).mono ?_); (case side1 => repeat (first | exact (Kd.R_reads' HO536.out).2.2 | (with_reducible refine Kd.C_alloc ?_ _) | (with_reducible refine Kd.C_drewN ?_ _) | (with_reducible refine Kd.C_drew ?_))); (case side2 => exact (Kd.R_reads' HO536.out).2.1); rintro e w151 ⟨rfl, hb⟩; have n0_ := Aside0.mk (Kd.R_below (by (with_reducible repeat (first | apply Kd.R_alloc | apply Kd.R_drewN | apply Kd.R_drew)); exact HO529.out) hb); have n1_ := Aside0.mk (Kd.R_below (by (with_reducible repeat (first | apply Kd.R_alloc | apply Kd.R_drewN | apply Kd.R_drew)); exact HO536.out) hb); have n2_ := bb_ BK515 hb; have n3_ := bb_ BK521 hb; have n4_ := bb_ BK522 hb; have n5_ := bb_ BK531 hb; have n6_ := bb_ BK538 hb; have n7_ := hb_ HB hb; clear HO529; clear HO536; clear BK515; clear BK521; clear BK522; clear BK531; clear BK538; clear HB; have HO529 := n0_; have HO536 := n1_; have BK515 := n2_; have BK521 := n3_; have BK522 := n4_; have BK531 := n5_; have BK538 := n6_; have HB := n7_; clear n0_ n1_ n2_ n3_ n4_ n5_ n6_ n7_; (try clear hb); (try clear hb2); (try clear hk); (try clear hi); have hcz152_0 : w151.cell? ⟨gb531, 0, none⟩ = some (.int .i64 t525) := (blk_cell BK531.out 0).trans rfl; have hcz152_1 : w151.cell? ⟨gb531, 1, none⟩ = some (.int .i64 t526) := (blk_cell BK531.out 1).trans rfl; have hcz152_2 : w151.cell? ⟨gb531, 2, none⟩ = some (.slice Ao84 t527.length co84) := (blk_cell BK531.out 2).trans rfl; have hfz152_0 := blk_frozen BK531.out 0; have hfz152_1 := blk_frozen BK531.out 1; have hfz152_2 := blk_frozen BK531.out 2))
              go_meet
              case rel => exact ⟨_, (true), (by first | rfl | (simp; done) | (simp [*]; done)), H', ⟨by have := HJ3.out; have := HK2.out; first | omega | exact Nat.le_refl _⟩, ⟨by (with_reducible repeat (first | apply Kd.R_alloc | apply Kd.R_drewN | apply Kd.R_drew)); exact Kd.R_mono HO529.out (fun _ hk => ⟨hk.2, ⟨hk.1.1.2, hk.1.2⟩⟩)⟩, ⟨by (with_reducible repeat (first | apply Kd.R_alloc | apply Kd.R_drewN | apply Kd.R_drew)); exact Kd.R_mono HO536.out (fun _ hk => ⟨hk.1.1.2, ⟨hk.1.2, hk.2⟩⟩)⟩, bf_ BK515, bf_ BK521, bf_ BK522, bf_ BK531, bf_ BK538, ⟨by repeat (first | (with_reducible first | exact HB.out | apply below_alloc | apply pw_below_drewN | apply below_drew1 | refine below_set ?_ GE515.out | refine below_set ?_ GE521.out | refine below_set ?_ GE522.out | refine below_set ?_ GE531.out | refine below_set ?_ GE538.out) | exact HB.out)⟩⟩
            ·
             replace c99 := Bool.eq_false_iff.mpr c99
             subst c99
             have H1 : (compositorlaw10_ScaleUniform.j2 k2 a1 a2 true x522000_2 x522001_2 x522002_2 x522003_2 x523000_2 x523001_2 x523002_2 x523003_2 t525 t526 t527 t532 t533 t534) = some true := by rw [if_neg (show ¬ (false = true) by decide)] at H; exact H
             clear H
             have H := H1
             clear H1
             have H' := Aside0.mk H
             clear H
             have hnb153 := NB531_515.out
             have hnc153 := NB515_531.out
             have hnb154 := NB531_521.out
             have hnc154 := NB521_531.out
             have hnb155 := NB531_522.out
             have hnc155 := NB522_531.out
             have hnb156 := NB531_538.out
             have hnc156 := NB538_531.out
             have hcz157_0 : w87.cell? ⟨gb531, 0, none⟩ = some (.int .i64 t525) := (blk_cell BK531.out 0).trans rfl
             have hcz157_1 : w87.cell? ⟨gb531, 1, none⟩ = some (.int .i64 t526) := (blk_cell BK531.out 1).trans rfl
             have hcz157_2 : w87.cell? ⟨gb531, 2, none⟩ = some (.slice Ao84 t527.length co84) := (blk_cell BK531.out 2).trans rfl
             have hfz157_0 := blk_frozen BK531.out 0
             have hfz157_1 := blk_frozen BK531.out 1
             have hfz157_2 := blk_frozen BK531.out 2
             go_wp2_with (first | (go_at_call 24; (with_reducible refine (compositorref10_Valid.calls k2 t525 t526 _ _ t527 true _ ?side1 ?side2 A96.out).mono ?_); (case side1 => refine (Kd.R_reads' (e := 43) (base := w.heap.size) (ok := fun k_ => (((True ∧ k_ ≠ gb521) ∧ k_ ≠ gb522) ∧ some k_ ≠ (.slice Ao93 t534.length co93 : Value).ownBlock)) (n := t527.length) (c := co84) ?_).2.2; exact (by (with_reducible repeat (first | apply Kd.R_alloc | apply Kd.R_drewN | apply Kd.R_drew)); exact (Kd.R_mono (Kd.R_far (p := ⟨gb538, 2, none⟩) (Kd.R_far (p := ⟨gb538, 1, none⟩) (Kd.R_far (p := ⟨gb538, 0, none⟩) (Kd.R_types HO529.out BK538.out (by decide)) (fun _ hk => hk.2) (.int .i64 t532)) (fun _ hk => hk.2) (.int .i64 t533)) (fun _ hk => hk.2) (.slice Ao93 t534.length co93)) (fun _ h_ => h_.1)))); (case side2 => exact (Kd.R_reads' HO529.out).2.1); rintro e w158 ⟨rfl, hb⟩; have n0_ := Aside0.mk (Kd.R_below (by (with_reducible repeat (first | apply Kd.R_alloc | apply Kd.R_drewN | apply Kd.R_drew)); exact (Kd.R_mono (Kd.R_far (p := ⟨gb538, 2, none⟩) (Kd.R_far (p := ⟨gb538, 1, none⟩) (Kd.R_far (p := ⟨gb538, 0, none⟩) (Kd.R_types HO529.out BK538.out (by decide)) (fun _ hk => hk.2) (.int .i64 t532)) (fun _ hk => hk.2) (.int .i64 t533)) (fun _ hk => hk.2) (.slice Ao93 t534.length co93)) (fun _ h_ => h_.1))) hb); have n1_ := Aside0.mk (Kd.R_below (by (with_reducible repeat (first | apply Kd.R_alloc | apply Kd.R_drewN | apply Kd.R_drew)); exact (Kd.R_mono (Kd.R_far (p := ⟨gb538, 2, none⟩) (Kd.R_far (p := ⟨gb538, 1, none⟩) (Kd.R_far (p := ⟨gb538, 0, none⟩) (Kd.R_types HO536.out BK538.out (by decide)) (fun _ hk => hk.2) (.int .i64 t532)) (fun _ hk => hk.2) (.int .i64 t533)) (fun _ hk => hk.2) (.slice Ao93 t534.length co93)) (fun _ h_ => h_.1))) hb); have n2_ := Aside0.mk (blk_below (g := gb515) (o := .cells #[.int .i64 a0_0, .int .i64 a0_1, .slice (some ad519) l0_2.length c0_2] 24 (0, 0)) (by (with_reducible repeat (first | refine blk_drewN ?_ _ | refine blk_drew ?_ | refine blk_alloc ?_ _)); refine blk_far ?_ NB515_538.out _; (with_reducible repeat (first | refine blk_drewN ?_ _ | refine blk_drew ?_ | refine blk_alloc ?_ _)); refine blk_far ?_ NB515_538.out _; (with_reducible repeat (first | refine blk_drewN ?_ _ | refine blk_drew ?_ | refine blk_alloc ?_ _)); refine blk_far ?_ NB515_538.out _; (with_reducible repeat (first | refine blk_drewN ?_ _ | refine blk_drew ?_ | refine blk_alloc ?_ _)); exact BK515.out) hb); have n3_ := Aside0.mk (blk_below (g := gb521) (o := .cells #[.int .u8 x522000_2, .int .u8 x522001_2, .int .u8 x522002_2, .int .u8 x522003_2] 43 (0, 0)) (by (with_reducible repeat (first | refine blk_drewN ?_ _ | refine blk_drew ?_ | refine blk_alloc ?_ _)); refine blk_far ?_ NB521_538.out _; (with_reducible repeat (first | refine blk_drewN ?_ _ | refine blk_drew ?_ | refine blk_alloc ?_ _)); refine blk_far ?_ NB521_538.out _; (with_reducible repeat (first | refine blk_drewN ?_ _ | refine blk_drew ?_ | refine blk_alloc ?_ _)); refine blk_far ?_ NB521_538.out _; (with_reducible repeat (first | refine blk_drewN ?_ _ | refine blk_drew ?_ | refine blk_alloc ?_ _)); exact BK521.out) hb); have n4_ := Aside0.mk (blk_below (g := gb522) (o := .cells #[.int .u8 x523000_2, .int .u8 x523001_2, .int .u8 x523002_2, .int .u8 x523003_2] 43 (0, 0)) (by (with_reducible repeat (first | refine blk_drewN ?_ _ | refine blk_drew ?_ | refine blk_alloc ?_ _)); refine blk_far ?_ NB522_538.out _; (with_reducible repeat (first | refine blk_drewN ?_ _ | refine blk_drew ?_ | refine blk_alloc ?_ _)); refine blk_far ?_ NB522_538.out _; (with_reducible repeat (first | refine blk_drewN ?_ _ | refine blk_drew ?_ | refine blk_alloc ?_ _)); refine blk_far ?_ NB522_538.out _; (with_reducible repeat (first | refine blk_drewN ?_ _ | refine blk_drew ?_ | refine blk_alloc ?_ _)); exact BK522.out) hb); have n5_ := Aside0.mk (blk_below (g := gb531) (o := .cells #[.int .i64 t525, .int .i64 t526, .slice Ao84 t527.length co84] 24 (0, 0)) (by (with_reducible repeat (first | refine blk_drewN ?_ _ | refine blk_drew ?_ | refine blk_alloc ?_ _)); refine blk_far ?_ NB531_538.out _; (with_reducible repeat (first | refine blk_drewN ?_ _ | refine blk_drew ?_ | refine blk_alloc ?_ _)); refine blk_far ?_ NB531_538.out _; (with_reducible repeat (first | refine blk_drewN ?_ _ | refine blk_drew ?_ | refine blk_alloc ?_ _)); refine blk_far ?_ NB531_538.out _; (with_reducible repeat (first | refine blk_drewN ?_ _ | refine blk_drew ?_ | refine blk_alloc ?_ _)); exact BK531.out) hb); have n6_ := Aside0.mk (blk_below (g := gb538) (o := .cells #[.int .i64 t532, .int .i64 t533, .slice Ao93 t534.length co93] 24 (0, 0)) (by (with_reducible repeat (first | refine blk_drewN ?_ _ | refine blk_drew ?_ | refine blk_alloc ?_ _)); refine blk_put (cs := #[.int .i64 t532, .int .i64 t533, .slice none 0 0]) ?_ 2 _ rfl; (with_reducible repeat (first | refine blk_drewN ?_ _ | refine blk_drew ?_ | refine blk_alloc ?_ _)); refine blk_put (cs := #[.int .i64 t532, .int .i64 0, .slice none 0 0]) ?_ 1 _ rfl; (with_reducible repeat (first | refine blk_drewN ?_ _ | refine blk_drew ?_ | refine blk_alloc ?_ _)); refine blk_put (cs := #[.int .i64 0, .int .i64 0, .slice none 0 0]) ?_ 0 _ rfl; (with_reducible repeat (first | refine blk_drewN ?_ _ | refine blk_drew ?_ | refine blk_alloc ?_ _)); exact BK538.out) hb); have n7_ := hb_ HB hb; clear HO529; clear HO536; clear BK515; clear BK521; clear BK522; clear BK531; clear BK538; clear HB; have HO529 := n0_; have HO536 := n1_; have BK515 := n2_; have BK521 := n3_; have BK522 := n4_; have BK531 := n5_; have BK538 := n6_; have HB := n7_; clear n0_ n1_ n2_ n3_ n4_ n5_ n6_ n7_; (try clear hb); (try clear hb2); (try clear hk); (try clear hi); have hnb159 := NB538_515.out; have hnc159 := NB515_538.out; have hnb160 := NB538_521.out; have hnc160 := NB521_538.out; have hnb161 := NB538_522.out; have hnc161 := NB522_538.out; have hcz162_0 : w158.cell? ⟨gb538, 0, none⟩ = some (.int .i64 t532) := (blk_cell BK538.out 0).trans rfl; have hcz162_1 : w158.cell? ⟨gb538, 1, none⟩ = some (.int .i64 t533) := (blk_cell BK538.out 1).trans rfl; have hcz162_2 : w158.cell? ⟨gb538, 2, none⟩ = some (.slice Ao93 t534.length co93) := (blk_cell BK538.out 2).trans rfl; have hfz162_0 := blk_frozen BK538.out 0; have hfz162_1 := blk_frozen BK538.out 1; have hfz162_2 := blk_frozen BK538.out 2) | (go_at_call 24; (with_reducible refine (compositorref10_Valid.calls k2 t532 t533 _ _ t534 false _ ?side1 ?side2 A98.out).mono ?_); (case side1 => repeat (first | exact (Kd.R_reads' HO536.out).2.2 | (with_reducible refine Kd.C_alloc ?_ _) | (with_reducible refine Kd.C_drewN ?_ _) | (with_reducible refine Kd.C_drew ?_))); (case side2 => exact (Kd.R_reads' HO536.out).2.1); rintro e w163 ⟨rfl, hb⟩; have n0_ := Aside0.mk (Kd.R_below (by (with_reducible repeat (first | apply Kd.R_alloc | apply Kd.R_drewN | apply Kd.R_drew)); exact HO529.out) hb); have n1_ := Aside0.mk (Kd.R_below (by (with_reducible repeat (first | apply Kd.R_alloc | apply Kd.R_drewN | apply Kd.R_drew)); exact HO536.out) hb); have n2_ := bb_ BK515 hb; have n3_ := bb_ BK521 hb; have n4_ := bb_ BK522 hb; have n5_ := bb_ BK531 hb; have n6_ := bb_ BK538 hb; have n7_ := hb_ HB hb; clear HO529; clear HO536; clear BK515; clear BK521; clear BK522; clear BK531; clear BK538; clear HB; have HO529 := n0_; have HO536 := n1_; have BK515 := n2_; have BK521 := n3_; have BK522 := n4_; have BK531 := n5_; have BK538 := n6_; have HB := n7_; clear n0_ n1_ n2_ n3_ n4_ n5_ n6_ n7_; (try clear hb); (try clear hb2); (try clear hk); (try clear hi)))
             go_meet
             case rel => exact ⟨_, (true), (by first | rfl | (simp; done) | (simp [*]; done)), H', ⟨by have := HJ3.out; have := HK2.out; first | omega | exact Nat.le_refl _⟩, ⟨by (with_reducible repeat (first | apply Kd.R_alloc | apply Kd.R_drewN | apply Kd.R_drew)); exact Kd.R_mono HO529.out (fun _ hk => ⟨hk.2, ⟨hk.1.1.2, hk.1.2⟩⟩)⟩, ⟨by (with_reducible repeat (first | apply Kd.R_alloc | apply Kd.R_drewN | apply Kd.R_drew)); exact Kd.R_mono HO536.out (fun _ hk => ⟨hk.1.1.2, ⟨hk.1.2, hk.2⟩⟩)⟩, bf_ BK515, bf_ BK521, bf_ BK522, bf_ BK531, bf_ BK538, ⟨by repeat (first | (with_reducible first | exact HB.out | apply below_alloc | apply pw_below_drewN | apply below_drew1 | refine below_set ?_ GE515.out | refine below_set ?_ GE521.out | refine below_set ?_ GE522.out | refine below_set ?_ GE531.out | refine below_set ?_ GE538.out) | exact HB.out)⟩⟩
           ·
            replace c97 := Bool.eq_false_iff.mpr c97
            subst c97
            have H1 : (compositorlaw10_ScaleUniform.j2 k2 a1 a2 true x522000_2 x522001_2 x522002_2 x522003_2 x523000_2 x523001_2 x523002_2 x523003_2 t525 t526 t527 t532 t533 t534) = some true := by rw [if_neg (show ¬ (false = true) by decide)] at H; exact H
            clear H
            have H := H1
            clear H1
            have H' := Aside0.mk H
            clear H
            have hnb164 := NB531_515.out
            have hnc164 := NB515_531.out
            have hnb165 := NB531_521.out
            have hnc165 := NB521_531.out
            have hnb166 := NB531_522.out
            have hnc166 := NB522_531.out
            have hnb167 := NB531_538.out
            have hnc167 := NB538_531.out
            have hcz168_0 : w87.cell? ⟨gb531, 0, none⟩ = some (.int .i64 t525) := (blk_cell BK531.out 0).trans rfl
            have hcz168_1 : w87.cell? ⟨gb531, 1, none⟩ = some (.int .i64 t526) := (blk_cell BK531.out 1).trans rfl
            have hcz168_2 : w87.cell? ⟨gb531, 2, none⟩ = some (.slice Ao84 t527.length co84) := (blk_cell BK531.out 2).trans rfl
            have hfz168_0 := blk_frozen BK531.out 0
            have hfz168_1 := blk_frozen BK531.out 1
            have hfz168_2 := blk_frozen BK531.out 2
            go_wp2_with (first | (go_at_call 24; (with_reducible refine (compositorref10_Valid.calls k2 t525 t526 _ _ t527 false _ ?side1 ?side2 A96.out).mono ?_); (case side1 => refine (Kd.R_reads' (e := 43) (base := w.heap.size) (ok := fun k_ => (((True ∧ k_ ≠ gb521) ∧ k_ ≠ gb522) ∧ some k_ ≠ (.slice Ao93 t534.length co93 : Value).ownBlock)) (n := t527.length) (c := co84) ?_).2.2; exact (by (with_reducible repeat (first | apply Kd.R_alloc | apply Kd.R_drewN | apply Kd.R_drew)); exact (Kd.R_mono (Kd.R_far (p := ⟨gb538, 2, none⟩) (Kd.R_far (p := ⟨gb538, 1, none⟩) (Kd.R_far (p := ⟨gb538, 0, none⟩) (Kd.R_types HO529.out BK538.out (by decide)) (fun _ hk => hk.2) (.int .i64 t532)) (fun _ hk => hk.2) (.int .i64 t533)) (fun _ hk => hk.2) (.slice Ao93 t534.length co93)) (fun _ h_ => h_.1)))); (case side2 => exact (Kd.R_reads' HO529.out).2.1); rintro e w169 ⟨rfl, hb⟩; have n0_ := Aside0.mk (Kd.R_below (by (with_reducible repeat (first | apply Kd.R_alloc | apply Kd.R_drewN | apply Kd.R_drew)); exact (Kd.R_mono (Kd.R_far (p := ⟨gb538, 2, none⟩) (Kd.R_far (p := ⟨gb538, 1, none⟩) (Kd.R_far (p := ⟨gb538, 0, none⟩) (Kd.R_types HO529.out BK538.out (by decide)) (fun _ hk => hk.2) (.int .i64 t532)) (fun _ hk => hk.2) (.int .i64 t533)) (fun _ hk => hk.2) (.slice Ao93 t534.length co93)) (fun _ h_ => h_.1))) hb); have n1_ := Aside0.mk (Kd.R_below (by (with_reducible repeat (first | apply Kd.R_alloc | apply Kd.R_drewN | apply Kd.R_drew)); exact (Kd.R_mono (Kd.R_far (p := ⟨gb538, 2, none⟩) (Kd.R_far (p := ⟨gb538, 1, none⟩) (Kd.R_far (p := ⟨gb538, 0, none⟩) (Kd.R_types HO536.out BK538.out (by decide)) (fun _ hk => hk.2) (.int .i64 t532)) (fun _ hk => hk.2) (.int .i64 t533)) (fun _ hk => hk.2) (.slice Ao93 t534.length co93)) (fun _ h_ => h_.1))) hb); have n2_ := Aside0.mk (blk_below (g := gb515) (o := .cells #[.int .i64 a0_0, .int .i64 a0_1, .slice (some ad519) l0_2.length c0_2] 24 (0, 0)) (by (with_reducible repeat (first | refine blk_drewN ?_ _ | refine blk_drew ?_ | refine blk_alloc ?_ _)); refine blk_far ?_ NB515_538.out _; (with_reducible repeat (first | refine blk_drewN ?_ _ | refine blk_drew ?_ | refine blk_alloc ?_ _)); refine blk_far ?_ NB515_538.out _; (with_reducible repeat (first | refine blk_drewN ?_ _ | refine blk_drew ?_ | refine blk_alloc ?_ _)); refine blk_far ?_ NB515_538.out _; (with_reducible repeat (first | refine blk_drewN ?_ _ | refine blk_drew ?_ | refine blk_alloc ?_ _)); exact BK515.out) hb); have n3_ := Aside0.mk (blk_below (g := gb521) (o := .cells #[.int .u8 x522000_2, .int .u8 x522001_2, .int .u8 x522002_2, .int .u8 x522003_2] 43 (0, 0)) (by (with_reducible repeat (first | refine blk_drewN ?_ _ | refine blk_drew ?_ | refine blk_alloc ?_ _)); refine blk_far ?_ NB521_538.out _; (with_reducible repeat (first | refine blk_drewN ?_ _ | refine blk_drew ?_ | refine blk_alloc ?_ _)); refine blk_far ?_ NB521_538.out _; (with_reducible repeat (first | refine blk_drewN ?_ _ | refine blk_drew ?_ | refine blk_alloc ?_ _)); refine blk_far ?_ NB521_538.out _; (with_reducible repeat (first | refine blk_drewN ?_ _ | refine blk_drew ?_ | refine blk_alloc ?_ _)); exact BK521.out) hb); have n4_ := Aside0.mk (blk_below (g := gb522) (o := .cells #[.int .u8 x523000_2, .int .u8 x523001_2, .int .u8 x523002_2, .int .u8 x523003_2] 43 (0, 0)) (by (with_reducible repeat (first | refine blk_drewN ?_ _ | refine blk_drew ?_ | refine blk_alloc ?_ _)); refine blk_far ?_ NB522_538.out _; (with_reducible repeat (first | refine blk_drewN ?_ _ | refine blk_drew ?_ | refine blk_alloc ?_ _)); refine blk_far ?_ NB522_538.out _; (with_reducible repeat (first | refine blk_drewN ?_ _ | refine blk_drew ?_ | refine blk_alloc ?_ _)); refine blk_far ?_ NB522_538.out _; (with_reducible repeat (first | refine blk_drewN ?_ _ | refine blk_drew ?_ | refine blk_alloc ?_ _)); exact BK522.out) hb); have n5_ := Aside0.mk (blk_below (g := gb531) (o := .cells #[.int .i64 t525, .int .i64 t526, .slice Ao84 t527.length co84] 24 (0, 0)) (by (with_reducible repeat (first | refine blk_drewN ?_ _ | refine blk_drew ?_ | refine blk_alloc ?_ _)); refine blk_far ?_ NB531_538.out _; (with_reducible repeat (first | refine blk_drewN ?_ _ | refine blk_drew ?_ | refine blk_alloc ?_ _)); refine blk_far ?_ NB531_538.out _; (with_reducible repeat (first | refine blk_drewN ?_ _ | refine blk_drew ?_ | refine blk_alloc ?_ _)); refine blk_far ?_ NB531_538.out _; (with_reducible repeat (first | refine blk_drewN ?_ _ | refine blk_drew ?_ | refine blk_alloc ?_ _)); exact BK531.out) hb); have n6_ := Aside0.mk (blk_below (g := gb538) (o := .cells #[.int .i64 t532, .int .i64 t533, .slice Ao93 t534.length co93] 24 (0, 0)) (by (with_reducible repeat (first | refine blk_drewN ?_ _ | refine blk_drew ?_ | refine blk_alloc ?_ _)); refine blk_put (cs := #[.int .i64 t532, .int .i64 t533, .slice none 0 0]) ?_ 2 _ rfl; (with_reducible repeat (first | refine blk_drewN ?_ _ | refine blk_drew ?_ | refine blk_alloc ?_ _)); refine blk_put (cs := #[.int .i64 t532, .int .i64 0, .slice none 0 0]) ?_ 1 _ rfl; (with_reducible repeat (first | refine blk_drewN ?_ _ | refine blk_drew ?_ | refine blk_alloc ?_ _)); refine blk_put (cs := #[.int .i64 0, .int .i64 0, .slice none 0 0]) ?_ 0 _ rfl; (with_reducible repeat (first | refine blk_drewN ?_ _ | refine blk_drew ?_ | refine blk_alloc ?_ _)); exact BK538.out) hb); have n7_ := hb_ HB hb; clear HO529; clear HO536; clear BK515; clear BK521; clear BK522; clear BK531; clear BK538; clear HB; have HO529 := n0_; have HO536 := n1_; have BK515 := n2_; have BK521 := n3_; have BK522 := n4_; have BK531 := n5_; have BK538 := n6_; have HB := n7_; clear n0_ n1_ n2_ n3_ n4_ n5_ n6_ n7_; (try clear hb); (try clear hb2); (try clear hk); (try clear hi)))
            go_meet
            case rel => exact ⟨_, (true), (by first | rfl | (simp; done) | (simp [*]; done)), H', ⟨by have := HJ3.out; have := HK2.out; first | omega | exact Nat.le_refl _⟩, ⟨by (with_reducible repeat (first | apply Kd.R_alloc | apply Kd.R_drewN | apply Kd.R_drew)); exact Kd.R_mono HO529.out (fun _ hk => ⟨hk.2, ⟨hk.1.1.2, hk.1.2⟩⟩)⟩, ⟨by (with_reducible repeat (first | apply Kd.R_alloc | apply Kd.R_drewN | apply Kd.R_drew)); exact Kd.R_mono HO536.out (fun _ hk => ⟨hk.1.1.2, ⟨hk.1.2, hk.2⟩⟩)⟩, bf_ BK515, bf_ BK521, bf_ BK522, bf_ BK531, bf_ BK538, ⟨by repeat (first | (with_reducible first | exact HB.out | apply below_alloc | apply pw_below_drewN | apply below_drew1 | refine below_set ?_ GE515.out | refine below_set ?_ GE521.out | refine below_set ?_ GE522.out | refine below_set ?_ GE531.out | refine below_set ?_ GE538.out) | exact HB.out)⟩⟩
          ·
           rw [if_neg c95] at H
           have c95b0 : (t537 == 0) = false := beq_eq_false_iff_ne.mpr c95
           have c95b1 : (t537 != 0) = true := bne_iff_ne.mpr c95
           have H' := Aside0.mk H
           clear H
           go_wp2
           go_meet
           case rel => exact ⟨_, (true), (by first | rfl | (simp; done) | (simp [*]; done)), H', ⟨by have := HJ3.out; have := HK2.out; first | omega | exact Nat.le_refl _⟩, ⟨by (with_reducible repeat (first | apply Kd.R_alloc | apply Kd.R_drewN | apply Kd.R_drew)); exact Kd.R_mono (Kd.R_far (p := ⟨gb538, 2, none⟩) (Kd.R_far (p := ⟨gb538, 1, none⟩) (Kd.R_far (p := ⟨gb538, 0, none⟩) (Kd.R_types HO529.out BK538.out (by decide)) (fun _ hk => hk.2) (.int .i64 t532)) (fun _ hk => hk.2) (.int .i64 t533)) (fun _ hk => hk.2) (.slice Ao93 t534.length co93)) (fun _ hk => ⟨hk.1.2, ⟨hk.1.1.1.2, hk.1.1.2⟩⟩)⟩, ⟨by (with_reducible repeat (first | apply Kd.R_alloc | apply Kd.R_drewN | apply Kd.R_drew)); exact Kd.R_mono (Kd.R_far (p := ⟨gb538, 2, none⟩) (Kd.R_far (p := ⟨gb538, 1, none⟩) (Kd.R_far (p := ⟨gb538, 0, none⟩) (Kd.R_types HO536.out BK538.out (by decide)) (fun _ hk => hk.2) (.int .i64 t532)) (fun _ hk => hk.2) (.int .i64 t533)) (fun _ hk => hk.2) (.slice Ao93 t534.length co93)) (fun _ hk => ⟨hk.1.1.1.2, ⟨hk.1.1.2, hk.1.2⟩⟩)⟩, bf_ BK515, bf_ BK521, bf_ BK522, bf_ BK531, ⟨by (with_reducible repeat (first | refine blk_drewN ?_ _ | refine blk_drew ?_ | refine blk_alloc ?_ _)); refine blk_put (cs := #[.int .i64 t532, .int .i64 t533, .slice none 0 0]) ?_ 2 _ rfl; (with_reducible repeat (first | refine blk_drewN ?_ _ | refine blk_drew ?_ | refine blk_alloc ?_ _)); refine blk_put (cs := #[.int .i64 t532, .int .i64 0, .slice none 0 0]) ?_ 1 _ rfl; (with_reducible repeat (first | refine blk_drewN ?_ _ | refine blk_drew ?_ | refine blk_alloc ?_ _)); refine blk_put (cs := #[.int .i64 0, .int .i64 0, .slice none 0 0]) ?_ 0 _ rfl; (with_reducible repeat (first | refine blk_drewN ?_ _ | refine blk_drew ?_ | refine blk_alloc ?_ _)); exact BK538.out⟩, ⟨by repeat (first | (with_reducible first | exact HB.out | apply below_alloc | apply pw_below_drewN | apply below_drew1 | refine below_set ?_ GE515.out | refine below_set ?_ GE521.out | refine below_set ?_ GE522.out | refine below_set ?_ GE531.out | refine below_set ?_ GE538.out) | exact HB.out)⟩⟩
         ·
          rw [if_neg c94] at H
          have c94b0 : (t530 == 0) = false := beq_eq_false_iff_ne.mpr c94
          have c94b1 : (t530 != 0) = true := bne_iff_ne.mpr c94
          (first | rw [c94b0] | (simp only [i64_w, i32_w]; rw [c94b0]) | skip)
          have H' := Aside0.mk H
          clear H
          go_wp2
          go_meet
          case rel => exact ⟨_, (true), (by first | rfl | (simp; done) | (simp [*]; done)), H', ⟨by have := HJ3.out; have := HK2.out; first | omega | exact Nat.le_refl _⟩, ⟨by (with_reducible repeat (first | apply Kd.R_alloc | apply Kd.R_drewN | apply Kd.R_drew)); exact Kd.R_mono (Kd.R_far (p := ⟨gb538, 2, none⟩) (Kd.R_far (p := ⟨gb538, 1, none⟩) (Kd.R_far (p := ⟨gb538, 0, none⟩) (Kd.R_types HO529.out BK538.out (by decide)) (fun _ hk => hk.2) (.int .i64 t532)) (fun _ hk => hk.2) (.int .i64 t533)) (fun _ hk => hk.2) (.slice Ao93 t534.length co93)) (fun _ hk => ⟨hk.1.2, ⟨hk.1.1.1.2, hk.1.1.2⟩⟩)⟩, ⟨by (with_reducible repeat (first | apply Kd.R_alloc | apply Kd.R_drewN | apply Kd.R_drew)); exact Kd.R_mono (Kd.R_far (p := ⟨gb538, 2, none⟩) (Kd.R_far (p := ⟨gb538, 1, none⟩) (Kd.R_far (p := ⟨gb538, 0, none⟩) (Kd.R_types HO536.out BK538.out (by decide)) (fun _ hk => hk.2) (.int .i64 t532)) (fun _ hk => hk.2) (.int .i64 t533)) (fun _ hk => hk.2) (.slice Ao93 t534.length co93)) (fun _ hk => ⟨hk.1.1.1.2, ⟨hk.1.1.2, hk.1.2⟩⟩)⟩, bf_ BK515, bf_ BK521, bf_ BK522, bf_ BK531, ⟨by (with_reducible repeat (first | refine blk_drewN ?_ _ | refine blk_drew ?_ | refine blk_alloc ?_ _)); refine blk_put (cs := #[.int .i64 t532, .int .i64 t533, .slice none 0 0]) ?_ 2 _ rfl; (with_reducible repeat (first | refine blk_drewN ?_ _ | refine blk_drew ?_ | refine blk_alloc ?_ _)); refine blk_put (cs := #[.int .i64 t532, .int .i64 0, .slice none 0 0]) ?_ 1 _ rfl; (with_reducible repeat (first | refine blk_drewN ?_ _ | refine blk_drew ?_ | refine blk_alloc ?_ _)); refine blk_put (cs := #[.int .i64 0, .int .i64 0, .slice none 0 0]) ?_ 0 _ rfl; (with_reducible repeat (first | refine blk_drewN ?_ _ | refine blk_drew ?_ | refine blk_alloc ?_ _)); exact BK538.out⟩, ⟨by repeat (first | (with_reducible first | exact HB.out | apply below_alloc | apply pw_below_drewN | apply below_drew1 | refine below_set ?_ GE515.out | refine below_set ?_ GE521.out | refine below_set ?_ GE522.out | refine below_set ?_ GE531.out | refine below_set ?_ GE538.out) | exact HB.out)⟩⟩
        case rest =>
         clear HC74
         try clear c1
         try clear c2
         try clear p2
         try clear c3
         try clear c5
         try clear p5
         try clear q5
         try clear hx5
         try clear qi5
         try clear c6
         try clear p6
         try clear c7
         try clear c8
         try clear c9
         try clear c10
         try clear c10b0
         try clear c11
         try clear c12
         try clear c13
         try clear c14
         try clear c15
         try clear c15b0
         try clear c16
         try clear c20
         try clear c20b0
         try clear c35
         try clear c38
         try clear c38b0
         try clear c38b1
         try clear c51
         try clear c51b0
         try clear p51
         try clear q51
         try clear hx51
         try clear c52
         try clear c52b0
         try clear p52
         try clear q52
         try clear hx52
         try clear c61
         try clear c62
         try clear p64
         try clear c65
         try clear c66
         try clear c67
         try clear c69
         try clear c75
         try clear c76
         try clear c80
         try clear c81
         try clear c82
         try clear c88
         try clear c89
         try clear c90
         try clear c91
         try clear c94
         try clear c94b0
         try clear c94b1
         try clear c95
         try clear c95b0
         try clear c95b1
         try clear c97
         try clear c99
         try clear c100
         try clear c100b0
         try clear c100b1
         try clear c101
         try clear c101b0
         try clear c101b1
         try clear c102
         try clear c102b0
         try clear c102b1
         try clear c103
         try clear c104
         try clear c105
         try clear c106
         try clear c109
         try clear c110
         try clear c111
         try clear c116
         try clear c117
         try clear c118
         try clear c119
         try clear c122
         try clear c123
         try clear c124
         try clear c129
         try clear c130
         try clear c131
         try clear c132
         try clear c135
         try clear c136
         try clear c137
         try clear c141
         try clear c142
         try clear c143
         try clear c144
         try clear c147
         try clear c148
         try clear c149
         try clear c153
         try clear c154
         try clear c155
         try clear c156
         try clear c159
         try clear c160
         try clear c161
         try clear c164
         try clear c165
         try clear c166
         try clear c167
         try clear hcz107_0
         try clear hcz107_1
         try clear hcz107_2
         try clear hcz112_0
         try clear hcz112_1
         try clear hcz112_2
         try clear hcz114_0
         try clear hcz114_1
         try clear hcz114_2
         try clear hcz115_0
         try clear hcz115_1
         try clear hcz115_2
         try clear hcz11_0
         try clear hcz11_1
         try clear hcz11_2
         try clear hcz120_0
         try clear hcz120_1
         try clear hcz120_2
         try clear hcz125_0
         try clear hcz125_1
         try clear hcz125_2
         try clear hcz127_0
         try clear hcz127_1
         try clear hcz127_2
         try clear hcz128_0
         try clear hcz128_1
         try clear hcz128_2
         try clear hcz133_0
         try clear hcz133_1
         try clear hcz133_2
         try clear hcz138_0
         try clear hcz138_1
         try clear hcz138_2
         try clear hcz13_0
         try clear hcz13_1
         try clear hcz13_2
         try clear hcz140_0
         try clear hcz140_1
         try clear hcz140_2
         try clear hcz145_0
         try clear hcz145_1
         try clear hcz145_2
         try clear hcz150_0
         try clear hcz150_1
         try clear hcz150_2
         try clear hcz152_0
         try clear hcz152_1
         try clear hcz152_2
         try clear hcz157_0
         try clear hcz157_1
         try clear hcz157_2
         try clear hcz162_0
         try clear hcz162_1
         try clear hcz162_2
         try clear hcz168_0
         try clear hcz168_1
         try clear hcz168_2
         try clear hcz16_0
         try clear hcz16_1
         try clear hcz16_2
         try clear hcz18_0
         try clear hcz18_1
         try clear hcz18_2
         try clear hcz21_0
         try clear hcz21_1
         try clear hcz21_2
         try clear hcz23_0
         try clear hcz23_1
         try clear hcz23_2
         try clear hcz25_0
         try clear hcz25_1
         try clear hcz25_2
         try clear hcz27_0
         try clear hcz27_1
         try clear hcz27_2
         try clear hcz29_0
         try clear hcz29_1
         try clear hcz29_2
         try clear hcz31_0
         try clear hcz31_1
         try clear hcz31_2
         try clear hcz33_0
         try clear hcz33_1
         try clear hcz33_2
         try clear hcz63_0
         try clear hcz63_1
         try clear hcz63_2
         try clear hcz68_0
         try clear hcz68_1
         try clear hcz68_2
         try clear hcz68_3
         try clear hcz70_0
         try clear hcz70_1
         try clear hcz70_2
         try clear hcz70_3
         try clear hcz71_0
         try clear hcz71_1
         try clear hcz71_2
         try clear hcz71_3
         try clear hcz77_0
         try clear hcz77_1
         try clear hcz77_2
         try clear hcz83_0
         try clear hcz83_1
         try clear hcz83_2
         try clear hcz85_0
         try clear hcz85_1
         try clear hcz85_2
         try clear hcz92_0
         try clear hcz92_1
         try clear hcz92_2
         try clear hfz107_0
         try clear hfz107_1
         try clear hfz107_2
         try clear hfz112_0
         try clear hfz112_1
         try clear hfz112_2
         try clear hfz114_0
         try clear hfz114_1
         try clear hfz114_2
         try clear hfz115_0
         try clear hfz115_1
         try clear hfz115_2
         try clear hfz11_0
         try clear hfz11_1
         try clear hfz11_2
         try clear hfz120_0
         try clear hfz120_1
         try clear hfz120_2
         try clear hfz125_0
         try clear hfz125_1
         try clear hfz125_2
         try clear hfz127_0
         try clear hfz127_1
         try clear hfz127_2
         try clear hfz128_0
         try clear hfz128_1
         try clear hfz128_2
         try clear hfz133_0
         try clear hfz133_1
         try clear hfz133_2
         try clear hfz138_0
         try clear hfz138_1
         try clear hfz138_2
         try clear hfz13_0
         try clear hfz13_1
         try clear hfz13_2
         try clear hfz140_0
         try clear hfz140_1
         try clear hfz140_2
         try clear hfz145_0
         try clear hfz145_1
         try clear hfz145_2
         try clear hfz150_0
         try clear hfz150_1
         try clear hfz150_2
         try clear hfz152_0
         try clear hfz152_1
         try clear hfz152_2
         try clear hfz157_0
         try clear hfz157_1
         try clear hfz157_2
         try clear hfz162_0
         try clear hfz162_1
         try clear hfz162_2
         try clear hfz168_0
         try clear hfz168_1
         try clear hfz168_2
         try clear hfz16_0
         try clear hfz16_1
         try clear hfz16_2
         try clear hfz18_0
         try clear hfz18_1
         try clear hfz18_2
         try clear hfz21_0
         try clear hfz21_1
         try clear hfz21_2
         try clear hfz23_0
         try clear hfz23_1
         try clear hfz23_2
         try clear hfz25_0
         try clear hfz25_1
         try clear hfz25_2
         try clear hfz27_0
         try clear hfz27_1
         try clear hfz27_2
         try clear hfz29_0
         try clear hfz29_1
         try clear hfz29_2
         try clear hfz31_0
         try clear hfz31_1
         try clear hfz31_2
         try clear hfz33_0
         try clear hfz33_1
         try clear hfz33_2
         try clear hfz63_0
         try clear hfz63_1
         try clear hfz63_2
         try clear hfz68_0
         try clear hfz68_1
         try clear hfz68_2
         try clear hfz68_3
         try clear hfz70_0
         try clear hfz70_1
         try clear hfz70_2
         try clear hfz70_3
         try clear hfz71_0
         try clear hfz71_1
         try clear hfz71_2
         try clear hfz71_3
         try clear hfz77_0
         try clear hfz77_1
         try clear hfz77_2
         try clear hfz83_0
         try clear hfz83_1
         try clear hfz83_2
         try clear hfz85_0
         try clear hfz85_1
         try clear hfz85_2
         try clear hfz92_0
         try clear hfz92_1
         try clear hfz92_2
         try clear hx519_0
         try clear hx519_1
         try clear hx519_2
         try clear hx519_3
         try clear hx520_0
         try clear hx520_1
         try clear hx520_2
         try clear hx520_3
         try clear hx523_0
         try clear hx523_1
         try clear hx523_2
         try clear hx523_3
         try clear p2
         try clear p5
         try clear p519
         try clear p520
         try clear p523
         try clear q5
         try clear q519
         try clear q520
         try clear q523
         obtain ⟨kq, x158_73, rfl, HA, HJ73, HO_532002, HO_539002, BK515, BK521, BK522, BK531, BK538, HB⟩ := hcut
         cases kq with
         | zero => exact absurd HA.out (by simp [compositorlaw10_ScaleUniform.j2])
         | succ kj73 =>
          have H := HA.out
          clear HA
          simp only [compositorlaw10_ScaleUniform.j2] at H
          by_cases c170 : x158_73 = true
          ·
           subst c170
           have H1 : (some false) = some true := by rw [if_pos rfl] at H; exact H
           clear H
           have H := H1
           clear H1
           exact absurd H (by simp)
          ·
           replace c170 := Bool.eq_false_iff.mpr c170
           subst c170
           have H1 : (compositorlaw10_ScaleUniform.l1 kj73 a1 a2 0 x522000_2 x522001_2 x522002_2 x522003_2 x523000_2 x523001_2 x523002_2 x523003_2 t525 t526 t527 t532 t533 t534) = some true := by rw [if_neg (show ¬ (false = true) by decide)] at H; exact H
           clear H
           have H := H1
           clear H1
           have H' := Aside0.mk H
           clear H
           go_wp2
           go_loopg [15] kj73 (fun kq v15 w' => ∃ (x15_4 : Int), v15 = .int .i64 x15_4 ∧ Aside0 (compositorlaw10_ScaleUniform.l1 kq a1 a2 x15_4 x522000_2 x522001_2 x522002_2 x522003_2 x523000_2 x523001_2 x523002_2 x523003_2 t525 t526 t527 t532 t533 t534 = some true) ∧ Aside0 (kq ≤ kj73) ∧ Aside0 (Kd.R k43 43 w' w.heap.size (fun k_ => some k_ ≠ ((.slice Ao93 t534.length co93) : Value).ownBlock ∧ k_ ≠ gb521 ∧ k_ ≠ gb522) (.slice Ao84 t527.length co84) t527) ∧ Aside0 (Kd.R k43 43 w' w.heap.size (fun k_ => some k_ ≠ ((.slice Ao84 t527.length co84) : Value).ownBlock ∧ k_ ≠ gb521 ∧ k_ ≠ gb522) (.slice Ao93 t534.length co93) t534) ∧ Aside0 (w'.heap[gb515]? = some (.cells #[.int .i64 a0_0, .int .i64 a0_1, (.slice (some ad519) l0_2.length c0_2)] 24 (0, 0))) ∧ Aside0 (w'.heap[gb521]? = some (.cells #[.int .u8 x522000_2, .int .u8 x522001_2, .int .u8 x522002_2, .int .u8 x522003_2] 43 (0, 0))) ∧ Aside0 (w'.heap[gb522]? = some (.cells #[.int .u8 x523000_2, .int .u8 x523001_2, .int .u8 x523002_2, .int .u8 x523003_2] 43 (0, 0))) ∧ Aside0 (w'.heap[gb531]? = some (.cells #[.int .i64 t525, .int .i64 t526, (.slice Ao84 t527.length co84)] 24 (0, 0))) ∧ Aside0 (w'.heap[gb538]? = some (.cells #[.int .i64 t532, .int .i64 t533, (.slice Ao93 t534.length co93)] 24 (0, 0))) ∧ Aside0 (Below w.heap.size w w'))
           case atStart => exact ⟨(0), (by first | rfl | (simp; done) | (simp [*]; done)), H', ⟨Nat.le_refl _⟩, ⟨by (with_reducible repeat (first | apply Kd.R_alloc | apply Kd.R_drewN | apply Kd.R_drew)); exact HO_532002.out⟩, ⟨by (with_reducible repeat (first | apply Kd.R_alloc | apply Kd.R_drewN | apply Kd.R_drew)); exact HO_539002.out⟩, bf_ BK515, bf_ BK521, bf_ BK522, bf_ BK531, bf_ BK538, ⟨by repeat (first | (with_reducible first | exact HB.out | apply below_alloc | apply pw_below_drewN | apply below_drew1 | refine below_set ?_ GE515.out | refine below_set ?_ GE521.out | refine below_set ?_ GE522.out | refine below_set ?_ GE531.out | refine below_set ?_ GE538.out) | exact HB.out)⟩⟩
           case round =>
            clear H'
            try clear c1
            try clear c2
            try clear p2
            try clear c3
            try clear c5
            try clear p5
            try clear q5
            try clear hx5
            try clear qi5
            try clear c6
            try clear p6
            try clear c7
            try clear c8
            try clear c9
            try clear c10
            try clear c10b0
            try clear c11
            try clear c12
            try clear c13
            try clear c14
            try clear c15
            try clear c15b0
            try clear c16
            try clear c17
            try clear c20
            try clear c20b0
            try clear c35
            try clear c38
            try clear c38b0
            try clear c38b1
            try clear c51
            try clear c51b0
            try clear p51
            try clear q51
            try clear hx51
            try clear c52
            try clear c52b0
            try clear p52
            try clear q52
            try clear hx52
            try clear c61
            try clear c62
            try clear p64
            try clear c65
            try clear c66
            try clear c67
            try clear c69
            try clear c75
            try clear c76
            try clear c80
            try clear c81
            try clear c82
            try clear c88
            try clear c89
            try clear c90
            try clear c91
            try clear c94
            try clear c94b0
            try clear c94b1
            try clear c95
            try clear c95b0
            try clear c95b1
            try clear c97
            try clear c99
            try clear c100
            try clear c100b0
            try clear c100b1
            try clear c101
            try clear c101b0
            try clear c101b1
            try clear c102
            try clear c102b0
            try clear c102b1
            try clear c103
            try clear c104
            try clear c105
            try clear c106
            try clear c109
            try clear c110
            try clear c111
            try clear c116
            try clear c117
            try clear c118
            try clear c119
            try clear c122
            try clear c123
            try clear c124
            try clear c129
            try clear c130
            try clear c131
            try clear c132
            try clear c135
            try clear c136
            try clear c137
            try clear c141
            try clear c142
            try clear c143
            try clear c144
            try clear c147
            try clear c148
            try clear c149
            try clear c153
            try clear c154
            try clear c155
            try clear c156
            try clear c159
            try clear c160
            try clear c161
            try clear c164
            try clear c165
            try clear c166
            try clear c167
            try clear c170
            try clear hcz107_0
            try clear hcz107_1
            try clear hcz107_2
            try clear hcz112_0
            try clear hcz112_1
            try clear hcz112_2
            try clear hcz114_0
            try clear hcz114_1
            try clear hcz114_2
            try clear hcz115_0
            try clear hcz115_1
            try clear hcz115_2
            try clear hcz11_0
            try clear hcz11_1
            try clear hcz11_2
            try clear hcz120_0
            try clear hcz120_1
            try clear hcz120_2
            try clear hcz125_0
            try clear hcz125_1
            try clear hcz125_2
            try clear hcz127_0
            try clear hcz127_1
            try clear hcz127_2
            try clear hcz128_0
            try clear hcz128_1
            try clear hcz128_2
            try clear hcz133_0
            try clear hcz133_1
            try clear hcz133_2
            try clear hcz138_0
            try clear hcz138_1
            try clear hcz138_2
            try clear hcz13_0
            try clear hcz13_1
            try clear hcz13_2
            try clear hcz140_0
            try clear hcz140_1
            try clear hcz140_2
            try clear hcz145_0
            try clear hcz145_1
            try clear hcz145_2
            try clear hcz150_0
            try clear hcz150_1
            try clear hcz150_2
            try clear hcz152_0
            try clear hcz152_1
            try clear hcz152_2
            try clear hcz157_0
            try clear hcz157_1
            try clear hcz157_2
            try clear hcz162_0
            try clear hcz162_1
            try clear hcz162_2
            try clear hcz168_0
            try clear hcz168_1
            try clear hcz168_2
            try clear hcz16_0
            try clear hcz16_1
            try clear hcz16_2
            try clear hcz18_0
            try clear hcz18_1
            try clear hcz18_2
            try clear hcz21_0
            try clear hcz21_1
            try clear hcz21_2
            try clear hcz23_0
            try clear hcz23_1
            try clear hcz23_2
            try clear hcz25_0
            try clear hcz25_1
            try clear hcz25_2
            try clear hcz27_0
            try clear hcz27_1
            try clear hcz27_2
            try clear hcz29_0
            try clear hcz29_1
            try clear hcz29_2
            try clear hcz31_0
            try clear hcz31_1
            try clear hcz31_2
            try clear hcz33_0
            try clear hcz33_1
            try clear hcz33_2
            try clear hcz63_0
            try clear hcz63_1
            try clear hcz63_2
            try clear hcz68_0
            try clear hcz68_1
            try clear hcz68_2
            try clear hcz68_3
            try clear hcz70_0
            try clear hcz70_1
            try clear hcz70_2
            try clear hcz70_3
            try clear hcz71_0
            try clear hcz71_1
            try clear hcz71_2
            try clear hcz71_3
            try clear hcz77_0
            try clear hcz77_1
            try clear hcz77_2
            try clear hcz83_0
            try clear hcz83_1
            try clear hcz83_2
            try clear hcz85_0
            try clear hcz85_1
            try clear hcz85_2
            try clear hcz92_0
            try clear hcz92_1
            try clear hcz92_2
            try clear hfz107_0
            try clear hfz107_1
            try clear hfz107_2
            try clear hfz112_0
            try clear hfz112_1
            try clear hfz112_2
            try clear hfz114_0
            try clear hfz114_1
            try clear hfz114_2
            try clear hfz115_0
            try clear hfz115_1
            try clear hfz115_2
            try clear hfz11_0
            try clear hfz11_1
            try clear hfz11_2
            try clear hfz120_0
            try clear hfz120_1
            try clear hfz120_2
            try clear hfz125_0
            try clear hfz125_1
            try clear hfz125_2
            try clear hfz127_0
            try clear hfz127_1
            try clear hfz127_2
            try clear hfz128_0
            try clear hfz128_1
            try clear hfz128_2
            try clear hfz133_0
            try clear hfz133_1
            try clear hfz133_2
            try clear hfz138_0
            try clear hfz138_1
            try clear hfz138_2
            try clear hfz13_0
            try clear hfz13_1
            try clear hfz13_2
            try clear hfz140_0
            try clear hfz140_1
            try clear hfz140_2
            try clear hfz145_0
            try clear hfz145_1
            try clear hfz145_2
            try clear hfz150_0
            try clear hfz150_1
            try clear hfz150_2
            try clear hfz152_0
            try clear hfz152_1
            try clear hfz152_2
            try clear hfz157_0
            try clear hfz157_1
            try clear hfz157_2
            try clear hfz162_0
            try clear hfz162_1
            try clear hfz162_2
            try clear hfz168_0
            try clear hfz168_1
            try clear hfz168_2
            try clear hfz16_0
            try clear hfz16_1
            try clear hfz16_2
            try clear hfz18_0
            try clear hfz18_1
            try clear hfz18_2
            try clear hfz21_0
            try clear hfz21_1
            try clear hfz21_2
            try clear hfz23_0
            try clear hfz23_1
            try clear hfz23_2
            try clear hfz25_0
            try clear hfz25_1
            try clear hfz25_2
            try clear hfz27_0
            try clear hfz27_1
            try clear hfz27_2
            try clear hfz29_0
            try clear hfz29_1
            try clear hfz29_2
            try clear hfz31_0
            try clear hfz31_1
            try clear hfz31_2
            try clear hfz33_0
            try clear hfz33_1
            try clear hfz33_2
            try clear hfz63_0
            try clear hfz63_1
            try clear hfz63_2
            try clear hfz68_0
            try clear hfz68_1
            try clear hfz68_2
            try clear hfz68_3
            try clear hfz70_0
            try clear hfz70_1
            try clear hfz70_2
            try clear hfz70_3
            try clear hfz71_0
            try clear hfz71_1
            try clear hfz71_2
            try clear hfz71_3
            try clear hfz77_0
            try clear hfz77_1
            try clear hfz77_2
            try clear hfz83_0
            try clear hfz83_1
            try clear hfz83_2
            try clear hfz85_0
            try clear hfz85_1
            try clear hfz85_2
            try clear hfz92_0
            try clear hfz92_1
            try clear hfz92_2
            try clear hx519_0
            try clear hx519_1
            try clear hx519_2
            try clear hx519_3
            try clear hx520_0
            try clear hx520_1
            try clear hx520_2
            try clear hx520_3
            try clear hx523_0
            try clear hx523_1
            try clear hx523_2
            try clear hx523_3
            try clear p2
            try clear p5
            try clear p51
            try clear p519
            try clear p52
            try clear p520
            try clear p523
            try clear p6
            try clear p64
            try clear q5
            try clear q51
            try clear q519
            try clear q52
            try clear q520
            try clear q523
            obtain ⟨x15_4, rfl, HA, HK4, HO_532002, HO_539002, BK515, BK521, BK522, BK531, BK538, HB⟩ := hrel
            cases gk with
            | zero => exact absurd HA.out (by simp [compositorlaw10_ScaleUniform.l1])
            | succ k4 =>
             have H := HA.out
             clear HA
             simp only [compositorlaw10_ScaleUniform.l1] at H
             by_cases c171 : x15_4 < (wrap64 (a1 * a2))
             ·
              rw [if_pos c171] at H
              have c171b0 : decide (x15_4 < (wrap64 (a1 * a2))) = true := decide_eq_true c171
              clear c171
              by_cases c172 : 0 ≤ x15_4
              ·
               rw [if_pos c172] at H
               have c172b0 : decide (0 ≤ x15_4) = true := decide_eq_true c172
               clear c172
               by_cases c173 : x15_4 < (t527.length : Int)
               ·
                rw [if_pos c173] at H
                have c173b0 : decide (x15_4 < (t527.length : Int)) = true := decide_eq_true c173
                clear c173
                replace H := Option.bind_eq_some_iff.mp H
                obtain ⟨t543, A1740, H⟩ := H
                try dsimp only at H
                have A174 := Aside0.mk A1740
                clear A1740
                by_cases c175 : t543 = true
                ·
                 subst c175
                 have H1 : (if x15_4 < (t534.length : Int) then ((compositorlaw10_between.f ((rd_T43 t534 x15_4).f0) ((rd_T43 t534 x15_4).f1) ((rd_T43 t534 x15_4).f2) ((rd_T43 t534 x15_4).f3) x522000_2 x522001_2 x522002_2 x522003_2 x523000_2 x523001_2 x523002_2 x523003_2).bind fun t545 => (if t545 = true then (compositorlaw10_ScaleUniform.l1 k4 a1 a2 (wrap64 (x15_4 + 1)) x522000_2 x522001_2 x522002_2 x522003_2 x523000_2 x523001_2 x523002_2 x523003_2 t525 t526 t527 t532 t533 t534) else (some false))) else (none)) = some true := by rw [if_pos rfl] at H; exact H
                 clear H
                 have H := H1
                 clear H1
                 by_cases c176 : x15_4 < (t534.length : Int)
                 ·
                  rw [if_pos c176] at H
                  have c176b0 : decide (x15_4 < (t534.length : Int)) = true := decide_eq_true c176
                  clear c176
                  replace H := Option.bind_eq_some_iff.mp H
                  obtain ⟨t545, A1770, H⟩ := H
                  try dsimp only at H
                  have A177 := Aside0.mk A1770
                  clear A1770
                  by_cases c178 : t545 = true
                  ·
                   subst c178
                   have H1 : (compositorlaw10_ScaleUniform.l1 k4 a1 a2 (wrap64 (x15_4 + 1)) x522000_2 x522001_2 x522002_2 x522003_2 x523000_2 x523001_2 x523002_2 x523003_2 t525 t526 t527 t532 t533 t534) = some true := by rw [if_pos rfl] at H; exact H
                   clear H
                   have H := H1
                   clear H1
                   have H' := Aside0.mk H
                   clear H
                   try go_wp2
                   replace HO_532002 := Aside0.mk (Kd.R_drew HO_532002.out)
                   replace HO_539002 := Aside0.mk (Kd.R_drew HO_539002.out)
                   replace BK515 := Aside0.mk (blk_drew BK515.out)
                   replace BK521 := Aside0.mk (blk_drew BK521.out)
                   replace BK522 := Aside0.mk (blk_drew BK522.out)
                   replace BK531 := Aside0.mk (blk_drew BK531.out)
                   replace BK538 := Aside0.mk (blk_drew BK538.out)
                   replace HB := Aside0.mk (below_drew1 HB.out)
                   have p542 : 0 ≤ (x15_4 : Int) := of_decide_eq_true (by first | (with_reducible assumption) | assumption)
                   have q542 : x15_4 < (t527.length : Int) := of_decide_eq_true (by first | (with_reducible assumption) | assumption)
                   obtain ⟨ad542, e542, hx542_0, hx542_1, hx542_2, hx542_3⟩ := at_T43 (Kd.R_reads' HO_532002.out).2.2 x15_4 p542 q542
                   cases e542
                   replace p542 := eq_true p542
                   replace q542 := eq_true q542
                   have p544 : 0 ≤ (x15_4 : Int) := of_decide_eq_true (by first | (with_reducible assumption) | assumption)
                   have q544 : x15_4 < (t534.length : Int) := of_decide_eq_true (by first | (with_reducible assumption) | assumption)
                   obtain ⟨ad544, e544, hx544_0, hx544_1, hx544_2, hx544_3⟩ := at_T43 (Kd.R_reads' HO_539002.out).2.2 x15_4 p544 q544
                   cases e544
                   replace p544 := eq_true p544
                   replace q544 := eq_true q544
                   refine start_ (n := 20) (S := fun w' => w'.cell? ⟨gb531, 0, none⟩ = some (.int .i64 t525) ∧ w'.cell? ⟨gb531, 1, none⟩ = some (.int .i64 t526) ∧ w'.cell? ⟨gb531, 2, none⟩ = some (.slice (some ad542) t527.length co84) ∧ w'.cell? ⟨gb521, 0, none⟩ = some (.int .u8 x522000_2) ∧ w'.cell? ⟨gb521, 1, none⟩ = some (.int .u8 x522001_2) ∧ w'.cell? ⟨gb521, 2, none⟩ = some (.int .u8 x522002_2) ∧ w'.cell? ⟨gb521, 3, none⟩ = some (.int .u8 x522003_2) ∧ w'.cell? ⟨gb522, 0, none⟩ = some (.int .u8 x523000_2) ∧ w'.cell? ⟨gb522, 1, none⟩ = some (.int .u8 x523001_2) ∧ w'.cell? ⟨gb522, 2, none⟩ = some (.int .u8 x523002_2) ∧ w'.cell? ⟨gb522, 3, none⟩ = some (.int .u8 x523003_2) ∧ w'.cell? ⟨gb538, 0, none⟩ = some (.int .i64 t532) ∧ w'.cell? ⟨gb538, 1, none⟩ = some (.int .i64 t533) ∧ w'.cell? ⟨gb538, 2, none⟩ = some (.slice (some ad544) t534.length co93) ∧ w'.cell? (ad542.add ((x15_4).toNat * 4)) = some (.int .u8 ((rd_T43 t527 x15_4).f0)) ∧ w'.cell? ⟨(ad542.add ((x15_4).toNat * 4)).block, (ad542.add ((x15_4).toNat * 4)).off + 1, none⟩ = some (.int .u8 ((rd_T43 t527 x15_4).f1)) ∧ w'.cell? ⟨(ad542.add ((x15_4).toNat * 4)).block, (ad542.add ((x15_4).toNat * 4)).off + 2, none⟩ = some (.int .u8 ((rd_T43 t527 x15_4).f2)) ∧ w'.cell? ⟨(ad542.add ((x15_4).toNat * 4)).block, (ad542.add ((x15_4).toNat * 4)).off + 3, none⟩ = some (.int .u8 ((rd_T43 t527 x15_4).f3)) ∧ w'.cell? (ad544.add ((x15_4).toNat * 4)) = some (.int .u8 ((rd_T43 t534 x15_4).f0)) ∧ w'.cell? ⟨(ad544.add ((x15_4).toNat * 4)).block, (ad544.add ((x15_4).toNat * 4)).off + 1, none⟩ = some (.int .u8 ((rd_T43 t534 x15_4).f1)) ∧ w'.cell? ⟨(ad544.add ((x15_4).toNat * 4)).block, (ad544.add ((x15_4).toNat * 4)).off + 2, none⟩ = some (.int .u8 ((rd_T43 t534 x15_4).f2)) ∧ w'.cell? ⟨(ad544.add ((x15_4).toNat * 4)).block, (ad544.add ((x15_4).toNat * 4)).off + 3, none⟩ = some (.int .u8 ((rd_T43 t534 x15_4).f3))) (ds := []) zq9.q14 (by kernel_rfl) rfl rfl ⟨(blk_cell BK531.out 0).trans rfl, (blk_cell BK531.out 1).trans rfl, (blk_cell BK531.out 2).trans rfl, (blk_cell BK521.out 0).trans rfl, (blk_cell BK521.out 1).trans rfl, (blk_cell BK521.out 2).trans rfl, (blk_cell BK521.out 3).trans rfl, (blk_cell BK522.out 0).trans rfl, (blk_cell BK522.out 1).trans rfl, (blk_cell BK522.out 2).trans rfl, (blk_cell BK522.out 3).trans rfl, (blk_cell BK538.out 0).trans rfl, (blk_cell BK538.out 1).trans rfl, (blk_cell BK538.out 2).trans rfl, hx542_0, hx542_1, hx542_2, hx542_3, hx544_0, hx544_1, hx544_2, hx544_3⟩ (fun hHeld => ?_); refine with_tabW compositorlaw10_ScaleUniform.tab17 compositorlaw10_ScaleUniform.bits17 (fun HT_ HW_ => ?_)
                   generalize wr.drew = w179 at HO_532002 HO_539002 BK515 BK521 BK522 BK531 BK538 HB hx542_0 hx542_1 hx542_2 hx542_3 hx544_0 hx544_1 hx544_2 hx544_3 hHeld ⊢
                   refine pv_ 0 166 zq9.q15 HT_ ?_
                   refine pv_ 2 168 zq9.q16 HT_ ?_
                   refine take_ (i := 1) (N := some 167) (v := ?_) (a' := ?_) zq9.q17 rfl rfl (take_ofW HT_.out HW_.out (by kernel_rfl)) (fun _ _ _ h => h) (Or.inl ⟨by rfl, ?_⟩) hHeld ?_ ?_
                   rotate_left
                   ·
                    rintro w' ⟨s0, s1, s2, s3, s4, s5, s6, s7, s8, s9, s10, s11, s12, s13, s14, s15, s16, s17, s18, s19, s20, s21⟩
                    go_simp
                    with_reducible rfl
                   rotate_left
                   ·
                    simp only [Act.put, List.setIfInBounds_toArray, List.set_cons_zero, List.set_cons_succ, i64_w, i32_w]
                    rfl
                   refine pv_ 3 169 zq9.q18 HT_ ?_
                   refine take_ (i := 4) (N := some 170) (v := ?_) (a' := ?_) zq9.q19 rfl rfl (take_ofW HT_.out HW_.out (by kernel_rfl)) (fun _ _ _ h => h) (Or.inl ⟨by rfl, ?_⟩) hHeld ?_ ?_
                   rotate_left
                   ·
                    rintro w' ⟨s0, s1, s2, s3, s4, s5, s6, s7, s8, s9, s10, s11, s12, s13, s14, s15, s16, s17, s18, s19, s20, s21⟩
                    go_simp
                    with_reducible rfl
                   rotate_left
                   ·
                    simp only [Act.put, List.setIfInBounds_toArray, List.set_cons_zero, List.set_cons_succ, i64_w, i32_w]
                    rfl
                   refine take_ (i := 5) (N := some 171) (v := ?_) (a' := ?_) zq9.q20 rfl rfl (take_ofW HT_.out HW_.out (by kernel_rfl)) (fun _ _ _ h => h) (Or.inl ⟨by rfl, ?_⟩) hHeld ?_ ?_
                   rotate_left
                   ·
                    rintro w' ⟨s0, s1, s2, s3, s4, s5, s6, s7, s8, s9, s10, s11, s12, s13, s14, s15, s16, s17, s18, s19, s20, s21⟩
                    go_simp
                    with_reducible rfl
                   rotate_left
                   ·
                    simp only [Act.put, List.setIfInBounds_toArray, List.set_cons_zero, List.set_cons_succ, i64_w, i32_w]
                    rfl
                   refine take_ (i := 6) (N := some 172) (v := ?_) (a' := ?_) zq9.q21 rfl rfl (take_ofW HT_.out HW_.out (by kernel_rfl)) (fun _ _ _ h => h) (Or.inl ⟨by rfl, ?_⟩) hHeld ?_ ?_
                   rotate_left
                   ·
                    rintro w' ⟨s0, s1, s2, s3, s4, s5, s6, s7, s8, s9, s10, s11, s12, s13, s14, s15, s16, s17, s18, s19, s20, s21⟩
                    go_simp
                    with_reducible rfl
                   rotate_left
                   ·
                    simp only [Act.put, List.setIfInBounds_toArray, List.set_cons_zero, List.set_cons_succ, i64_w, i32_w]
                    rfl
                   refine one_ (i := 7) (N := some 173) zq9.q22 rfl rfl (one_of HT_.out (by kernel_rfl)) (by decide) (fun K hK => ?_)
                   refine gs_ Try.func26 #[.agg #[.int .u8 ((rd_T43 t527 x15_4).f0), .int .u8 ((rd_T43 t527 x15_4).f1), .int .u8 ((rd_T43 t527 x15_4).f2), .int .u8 ((rd_T43 t527 x15_4).f3)], .agg #[.int .u8 x522000_2, .int .u8 x522001_2, .int .u8 x522002_2, .int .u8 x522003_2], .agg #[.int .u8 x523000_2, .int .u8 x523001_2, .int .u8 x523002_2, .int .u8 x523003_2]] ?_
                   with_reducible refine (compositorlaw10_between.calls ((rd_T43 t527 x15_4).f0) ((rd_T43 t527 x15_4).f1) ((rd_T43 t527 x15_4).f2) ((rd_T43 t527 x15_4).f3) x522000_2 x522001_2 x522002_2 x522003_2 x523000_2 x523001_2 x523002_2 x523003_2 true _ A174.out).mono ?_
                   rintro e w180 ⟨rfl, hb⟩
                   have HS14_ := (hb.cell (World.block_lt_of_cell? _ _ (hHeld.2.2.2.2.2.2.2.2.2.2.2.2.2.2.1))).trans (hHeld.2.2.2.2.2.2.2.2.2.2.2.2.2.2.1)
                   have HS15_ := (hb.cell (World.block_lt_of_cell? _ _ (hHeld.2.2.2.2.2.2.2.2.2.2.2.2.2.2.2.1))).trans (hHeld.2.2.2.2.2.2.2.2.2.2.2.2.2.2.2.1)
                   have HS16_ := (hb.cell (World.block_lt_of_cell? _ _ (hHeld.2.2.2.2.2.2.2.2.2.2.2.2.2.2.2.2.1))).trans (hHeld.2.2.2.2.2.2.2.2.2.2.2.2.2.2.2.2.1)
                   have HS17_ := (hb.cell (World.block_lt_of_cell? _ _ (hHeld.2.2.2.2.2.2.2.2.2.2.2.2.2.2.2.2.2.1))).trans (hHeld.2.2.2.2.2.2.2.2.2.2.2.2.2.2.2.2.2.1)
                   have HS18_ := (hb.cell (World.block_lt_of_cell? _ _ (hHeld.2.2.2.2.2.2.2.2.2.2.2.2.2.2.2.2.2.2.1))).trans (hHeld.2.2.2.2.2.2.2.2.2.2.2.2.2.2.2.2.2.2.1)
                   have HS19_ := (hb.cell (World.block_lt_of_cell? _ _ (hHeld.2.2.2.2.2.2.2.2.2.2.2.2.2.2.2.2.2.2.2.1))).trans (hHeld.2.2.2.2.2.2.2.2.2.2.2.2.2.2.2.2.2.2.2.1)
                   have HS20_ := (hb.cell (World.block_lt_of_cell? _ _ (hHeld.2.2.2.2.2.2.2.2.2.2.2.2.2.2.2.2.2.2.2.2.1))).trans (hHeld.2.2.2.2.2.2.2.2.2.2.2.2.2.2.2.2.2.2.2.2.1)
                   have HS21_ := (hb.cell (World.block_lt_of_cell? _ _ (hHeld.2.2.2.2.2.2.2.2.2.2.2.2.2.2.2.2.2.2.2.2.2))).trans (hHeld.2.2.2.2.2.2.2.2.2.2.2.2.2.2.2.2.2.2.2.2.2)
                   refine ⟨_, rfl, ?_⟩
                   replace HO_532002 := Aside0.mk (Kd.R_below (by (with_reducible repeat (first | apply Kd.R_alloc | apply Kd.R_drewN | apply Kd.R_drew)); exact HO_532002.out) hb)
                   replace HO_539002 := Aside0.mk (Kd.R_below (by (with_reducible repeat (first | apply Kd.R_alloc | apply Kd.R_drewN | apply Kd.R_drew)); exact HO_539002.out) hb)
                   replace BK515 := bb_ BK515 hb
                   replace BK521 := bb_ BK521 hb
                   replace BK522 := bb_ BK522 hb
                   replace BK531 := bb_ BK531 hb
                   replace BK538 := bb_ BK538 hb
                   replace HB := hb_ HB hb
                   (try clear hb); (try clear hb2); (try clear hk); (try clear hi)
                   refine hK.out _ _ ⟨(blk_cell BK531.out 0).trans rfl, (blk_cell BK531.out 1).trans rfl, (blk_cell BK531.out 2).trans rfl, (blk_cell BK521.out 0).trans rfl, (blk_cell BK521.out 1).trans rfl, (blk_cell BK521.out 2).trans rfl, (blk_cell BK521.out 3).trans rfl, (blk_cell BK522.out 0).trans rfl, (blk_cell BK522.out 1).trans rfl, (blk_cell BK522.out 2).trans rfl, (blk_cell BK522.out 3).trans rfl, (blk_cell BK538.out 0).trans rfl, (blk_cell BK538.out 1).trans rfl, (blk_cell BK538.out 2).trans rfl, HS14_, HS15_, HS16_, HS17_, HS18_, HS19_, HS20_, HS21_⟩ (fun hHeld => ?_)
                   clear hK K
                   refine norm_ (a' := ?_) ?_ ?_
                   rotate_left
                   ·
                    show Act.put _ (some 173) _ = _
                    simp only [Act.put, List.setIfInBounds_toArray, List.set_cons_zero, List.set_cons_succ, i64_w, i32_w]
                    rfl
                   refine pv_ 8 174 zq9.q23 HT_ ?_
                   refine pv_ 9 175 zq9.q24 HT_ ?_
                   refine pv_ 10 176 zq9.q25 HT_ ?_
                   refine pv_ 12 178 zq9.q26 HT_ ?_
                   refine take_ (i := 11) (N := some 177) (v := ?_) (a' := ?_) zq9.q27 rfl rfl (take_ofW HT_.out HW_.out (by kernel_rfl)) (fun _ _ _ h => h) (Or.inl ⟨by rfl, ?_⟩) hHeld ?_ ?_
                   rotate_left
                   ·
                    rintro w' ⟨s0, s1, s2, s3, s4, s5, s6, s7, s8, s9, s10, s11, s12, s13, s14, s15, s16, s17, s18, s19, s20, s21⟩
                    go_simp
                    with_reducible rfl
                   rotate_left
                   ·
                    simp only [Act.put, List.setIfInBounds_toArray, List.set_cons_zero, List.set_cons_succ, i64_w, i32_w]
                    rfl
                   refine pv_ 13 179 zq9.q28 HT_ ?_
                   refine take_ (i := 14) (N := some 180) (v := ?_) (a' := ?_) zq9.q29 rfl rfl (take_ofW HT_.out HW_.out (by kernel_rfl)) (fun _ _ _ h => h) (Or.inl ⟨by rfl, ?_⟩) hHeld ?_ ?_
                   rotate_left
                   ·
                    rintro w' ⟨s0, s1, s2, s3, s4, s5, s6, s7, s8, s9, s10, s11, s12, s13, s14, s15, s16, s17, s18, s19, s20, s21⟩
                    go_simp
                    with_reducible rfl
                   rotate_left
                   ·
                    simp only [Act.put, List.setIfInBounds_toArray, List.set_cons_zero, List.set_cons_succ, i64_w, i32_w]
                    rfl
                   refine take_ (i := 15) (N := some 181) (v := ?_) (a' := ?_) zq9.q30 rfl rfl (take_ofW HT_.out HW_.out (by kernel_rfl)) (fun _ _ _ h => h) (Or.inl ⟨by rfl, ?_⟩) hHeld ?_ ?_
                   rotate_left
                   ·
                    rintro w' ⟨s0, s1, s2, s3, s4, s5, s6, s7, s8, s9, s10, s11, s12, s13, s14, s15, s16, s17, s18, s19, s20, s21⟩
                    go_simp
                    with_reducible rfl
                   rotate_left
                   ·
                    simp only [Act.put, List.setIfInBounds_toArray, List.set_cons_zero, List.set_cons_succ, i64_w, i32_w]
                    rfl
                   refine take_ (i := 16) (N := some 182) (v := ?_) (a' := ?_) zq9.q31 rfl rfl (take_ofW HT_.out HW_.out (by kernel_rfl)) (fun _ _ _ h => h) (Or.inl ⟨by rfl, ?_⟩) hHeld ?_ ?_
                   rotate_left
                   ·
                    rintro w' ⟨s0, s1, s2, s3, s4, s5, s6, s7, s8, s9, s10, s11, s12, s13, s14, s15, s16, s17, s18, s19, s20, s21⟩
                    go_simp
                    with_reducible rfl
                   rotate_left
                   ·
                    simp only [Act.put, List.setIfInBounds_toArray, List.set_cons_zero, List.set_cons_succ, i64_w, i32_w]
                    rfl
                   refine one_ (i := 17) (N := some 183) zq9.q32 rfl rfl (one_of HT_.out (by kernel_rfl)) (by decide) (fun K hK => ?_)
                   refine gs_ Try.func26 #[.agg #[.int .u8 ((rd_T43 t534 x15_4).f0), .int .u8 ((rd_T43 t534 x15_4).f1), .int .u8 ((rd_T43 t534 x15_4).f2), .int .u8 ((rd_T43 t534 x15_4).f3)], .agg #[.int .u8 x522000_2, .int .u8 x522001_2, .int .u8 x522002_2, .int .u8 x522003_2], .agg #[.int .u8 x523000_2, .int .u8 x523001_2, .int .u8 x523002_2, .int .u8 x523003_2]] ?_
                   with_reducible refine (compositorlaw10_between.calls ((rd_T43 t534 x15_4).f0) ((rd_T43 t534 x15_4).f1) ((rd_T43 t534 x15_4).f2) ((rd_T43 t534 x15_4).f3) x522000_2 x522001_2 x522002_2 x522003_2 x523000_2 x523001_2 x523002_2 x523003_2 true _ A177.out).mono ?_
                   rintro e w181 ⟨rfl, hb⟩
                   have HS14_ := (hb.cell (World.block_lt_of_cell? _ _ (hHeld.2.2.2.2.2.2.2.2.2.2.2.2.2.2.1))).trans (hHeld.2.2.2.2.2.2.2.2.2.2.2.2.2.2.1)
                   have HS15_ := (hb.cell (World.block_lt_of_cell? _ _ (hHeld.2.2.2.2.2.2.2.2.2.2.2.2.2.2.2.1))).trans (hHeld.2.2.2.2.2.2.2.2.2.2.2.2.2.2.2.1)
                   have HS16_ := (hb.cell (World.block_lt_of_cell? _ _ (hHeld.2.2.2.2.2.2.2.2.2.2.2.2.2.2.2.2.1))).trans (hHeld.2.2.2.2.2.2.2.2.2.2.2.2.2.2.2.2.1)
                   have HS17_ := (hb.cell (World.block_lt_of_cell? _ _ (hHeld.2.2.2.2.2.2.2.2.2.2.2.2.2.2.2.2.2.1))).trans (hHeld.2.2.2.2.2.2.2.2.2.2.2.2.2.2.2.2.2.1)
                   have HS18_ := (hb.cell (World.block_lt_of_cell? _ _ (hHeld.2.2.2.2.2.2.2.2.2.2.2.2.2.2.2.2.2.2.1))).trans (hHeld.2.2.2.2.2.2.2.2.2.2.2.2.2.2.2.2.2.2.1)
                   have HS19_ := (hb.cell (World.block_lt_of_cell? _ _ (hHeld.2.2.2.2.2.2.2.2.2.2.2.2.2.2.2.2.2.2.2.1))).trans (hHeld.2.2.2.2.2.2.2.2.2.2.2.2.2.2.2.2.2.2.2.1)
                   have HS20_ := (hb.cell (World.block_lt_of_cell? _ _ (hHeld.2.2.2.2.2.2.2.2.2.2.2.2.2.2.2.2.2.2.2.2.1))).trans (hHeld.2.2.2.2.2.2.2.2.2.2.2.2.2.2.2.2.2.2.2.2.1)
                   have HS21_ := (hb.cell (World.block_lt_of_cell? _ _ (hHeld.2.2.2.2.2.2.2.2.2.2.2.2.2.2.2.2.2.2.2.2.2))).trans (hHeld.2.2.2.2.2.2.2.2.2.2.2.2.2.2.2.2.2.2.2.2.2)
                   refine ⟨_, rfl, ?_⟩
                   replace HO_532002 := Aside0.mk (Kd.R_below (by (with_reducible repeat (first | apply Kd.R_alloc | apply Kd.R_drewN | apply Kd.R_drew)); exact HO_532002.out) hb)
                   replace HO_539002 := Aside0.mk (Kd.R_below (by (with_reducible repeat (first | apply Kd.R_alloc | apply Kd.R_drewN | apply Kd.R_drew)); exact HO_539002.out) hb)
                   replace BK515 := bb_ BK515 hb
                   replace BK521 := bb_ BK521 hb
                   replace BK522 := bb_ BK522 hb
                   replace BK531 := bb_ BK531 hb
                   replace BK538 := bb_ BK538 hb
                   replace HB := hb_ HB hb
                   (try clear hb); (try clear hb2); (try clear hk); (try clear hi)
                   refine hK.out _ _ ⟨(blk_cell BK531.out 0).trans rfl, (blk_cell BK531.out 1).trans rfl, (blk_cell BK531.out 2).trans rfl, (blk_cell BK521.out 0).trans rfl, (blk_cell BK521.out 1).trans rfl, (blk_cell BK521.out 2).trans rfl, (blk_cell BK521.out 3).trans rfl, (blk_cell BK522.out 0).trans rfl, (blk_cell BK522.out 1).trans rfl, (blk_cell BK522.out 2).trans rfl, (blk_cell BK522.out 3).trans rfl, (blk_cell BK538.out 0).trans rfl, (blk_cell BK538.out 1).trans rfl, (blk_cell BK538.out 2).trans rfl, HS14_, HS15_, HS16_, HS17_, HS18_, HS19_, HS20_, HS21_⟩ (fun hHeld => ?_)
                   clear hK K
                   refine norm_ (a' := ?_) ?_ ?_
                   rotate_left
                   ·
                    show Act.put _ (some 183) _ = _
                    simp only [Act.put, List.setIfInBounds_toArray, List.set_cons_zero, List.set_cons_succ, i64_w, i32_w]
                    rfl
                   refine pv_ 18 184 zq9.q33 HT_ ?_
                   refine pv_ 19 185 zq9.q34 HT_ ?_
                   refine done_ (done_of HT_.out (by kernel_rfl)) ?_
                   try go_wp2
                   go_roundg k4
                   case measure => have := HJ3.out; have := HK2.out; have := HJ73.out; have := HK4.out; omega
                   case rel => exact ⟨(wrap64 (x15_4 + 1)), (by first | rfl | (simp; done) | (simp [*]; done)), H', ⟨by have := HJ3.out; have := HK2.out; have := HJ73.out; have := HK4.out; omega⟩, ⟨by (with_reducible repeat (first | apply Kd.R_alloc | apply Kd.R_drewN | apply Kd.R_drew)); exact HO_532002.out⟩, ⟨by (with_reducible repeat (first | apply Kd.R_alloc | apply Kd.R_drewN | apply Kd.R_drew)); exact HO_539002.out⟩, bf_ BK515, bf_ BK521, bf_ BK522, bf_ BK531, bf_ BK538, ⟨by repeat (first | (with_reducible first | exact HB.out | apply below_alloc | apply pw_below_drewN | apply below_drew1 | refine below_set ?_ GE515.out | refine below_set ?_ GE521.out | refine below_set ?_ GE522.out | refine below_set ?_ GE531.out | refine below_set ?_ GE538.out) | exact HB.out)⟩⟩
                  ·
                   replace c178 := Bool.eq_false_iff.mpr c178
                   subst c178
                   have H1 : (some false) = some true := by rw [if_neg (show ¬ (false = true) by decide)] at H; exact H
                   clear H
                   have H := H1
                   clear H1
                   exact absurd H (by simp)
                 ·
                  rw [if_neg c176] at H
                  exact absurd H (by simp)
                ·
                 replace c175 := Bool.eq_false_iff.mpr c175
                 subst c175
                 have H1 : (some false) = some true := by rw [if_neg (show ¬ (false = true) by decide)] at H; exact H
                 clear H
                 have H := H1
                 clear H1
                 exact absurd H (by simp)
               ·
                rw [if_neg c173] at H
                exact absurd H (by simp)
              ·
               rw [if_neg c172] at H
               exact absurd H (by simp)
             ·
              rw [if_neg c171] at H
              have c171b0 : decide (x15_4 < (wrap64 (a1 * a2))) = false := decide_eq_false c171
              clear c171
              replace H := Option.bind_eq_some_iff.mp H
              obtain ⟨t541, A1820, H⟩ := H
              try dsimp only at H
              have A182 := Aside0.mk A1820
              clear A1820
              have Hq_ := Option.some.inj H
              go_wp2_with (first | ((with_reducible refine gate_callee (f := 12) rfl ?_); refine goesL_ (some 186) rfl rfl Try.func12 (by kernel_rfl) rfl #[] rfl (by (try simp only [List.map_toArray, List.map_cons, List.map_nil]) <;> rfl) ?_; (with_reducible refine (compositorlaw10_exampleHolds.calls k4  t541 _ A182.out).mono ?_); rintro e w183 ⟨rfl, hb⟩; refine ⟨_, rfl, ?_⟩; have n0_ := Aside0.mk (Kd.R_below (by (with_reducible repeat (first | apply Kd.R_alloc | apply Kd.R_drewN | apply Kd.R_drew)); exact HO_532002.out) hb); have n1_ := Aside0.mk (Kd.R_below (by (with_reducible repeat (first | apply Kd.R_alloc | apply Kd.R_drewN | apply Kd.R_drew)); exact HO_539002.out) hb); have n2_ := bb_ BK515 hb; have n3_ := bb_ BK521 hb; have n4_ := bb_ BK522 hb; have n5_ := bb_ BK531 hb; have n6_ := bb_ BK538 hb; have n7_ := hb_ HB hb; clear HO_532002; clear HO_539002; clear BK515; clear BK521; clear BK522; clear BK531; clear BK538; clear HB; have HO_532002 := n0_; have HO_539002 := n1_; have BK515 := n2_; have BK521 := n3_; have BK522 := n4_; have BK531 := n5_; have BK538 := n6_; have HB := n7_; clear n0_ n1_ n2_ n3_ n4_ n5_ n6_ n7_; (try clear hb); (try clear hb2); (try clear hk); (try clear hi)))
              go_ret
              exact ⟨by first | rfl | (simp [errW_none, errW_some] <;> rfl) | (simp [*, errW_none, errW_some] <;> rfl), by repeat (first | (with_reducible first | exact HB.out | apply below_alloc | apply pw_below_drewN | apply below_drew1 | refine below_set ?_ GE515.out | refine below_set ?_ GE521.out | refine below_set ?_ GE522.out | refine below_set ?_ GE531.out | refine below_set ?_ GE538.out) | exact HB.out)⟩
    ·
     rw [if_neg c38] at H
     exact absurd H (by simp)

end Go.Proofs.Ythpmfhfnkgbkjaa.All
