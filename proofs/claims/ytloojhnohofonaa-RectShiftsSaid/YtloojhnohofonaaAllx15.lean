-- Written by a program of this session, which runs the kit's print.py and puts in functions that this session typed. Not trusted: Lean checks it.
import Derived.Test.YtloojhnohofonaaSq
import Derived.Test.YtloojhnohofonaaAllx0
import Derived.Test.YtloojhnohofonaaAllx1
import Derived.Test.YtloojhnohofonaaAllx2
import Derived.Test.YtloojhnohofonaaAllx6
import Derived.Test.YtloojhnohofonaaAllx9
import Derived.Test.YtloojhnohofonaaAllx11
import Derived.Test.YtloojhnohofonaaAllx13
namespace Go.Proofs.Ytloojhnohofonaa.All
open Go.RowKit Go.Proofs.YtloojhnohofonaaW.PrintWords Go.Proofs.YtloojhnohofonaaW.PrintLast Go.Proofs.YtloojhnohofonaaW.PrintMore
attribute [local go_sem] max2_int min2_int max_two min_two max_three min_three max_four min_four   -- for this text's walks alone
set_option linter.unusedVariables false
set_option linter.unusedSimpArgs false

attribute [local go_sem high] eqA23
/-! ### compositorlaw04_RectShifts: function 4 -/
abbrev zq4.q0 : Array Bool := #[false, false, false, false, false, false, false, false, false, false, false, false]
abbrev zq4.q1 : Array Bool := #[false, true, false, false, false, false, false, false, false, false, false, false]
abbrev zq4.q2 : Array Bool := #[false, true, true, false, false, false, false, false, false, false, false, false]
abbrev zq4.q3 : Array Bool := #[false, true, true, false, false, true, false, false, false, false, false, false]
abbrev zq4.q4 : Array Bool := #[false, true, true, false, false, true, true, false, false, false, false, false]
abbrev zq4.q5 : Array Bool := #[true, true, true, false, false, true, true, false, false, false, false, false]
abbrev zq4.q6 : Array Bool := #[true, true, true, false, true, true, true, false, false, false, false, false]
abbrev zq4.q7 : Array Bool := #[true, true, true, true, true, true, true, true, true, true, false, false]
abbrev zq4.q8 : Array Bool := #[true, true, true, true, true, true, true, true, true, false, false, false]
abbrev zq4.q9 : Array Bool := #[true, true, true, true, true, true, true, true, false, true, false, false]
abbrev zq4.q10 : Array Bool := #[true, true, true, true, true, true, true, false, true, true, false, false]
abbrev zq4.q11 : Array Bool := #[true, true, true, true, true, true, true, true, false, false, false, false]
abbrev zq4.q12 : Array Bool := #[true, true, true, true, true, true, true, false, true, false, false, false]
abbrev zq4.q13 : Array Bool := #[true, true, true, true, true, true, true, false, false, true, false, false]
abbrev zq4.q14 : Array Bool := #[true, true, true, false, true, true, true, false, true, true, false, false]
abbrev zq4.q15 : Array Bool := #[true, true, true, true, true, true, true, false, false, false, false, false]
abbrev zq4.q16 : Array Bool := #[true, true, true, false, true, true, true, false, true, false, false, false]
abbrev zq4.q17 : Array Bool := #[true, true, true, false, true, true, true, false, false, true, false, false]
abbrev zq4.q18 : Array Bool := #[true, true, true, true, true, true, true, true, true, true, true, false]
abbrev zq4.q19 : Array Bool := #[true, true, true, true, true, true, true, true, true, true, true, true]
abbrev zq4.q20 : Array Bool := #[false, false, false, false, false, false, false, false, false, false, false, false, false, false, false, false, false, false, false, false, false, false, false, false, false, false, false, false, false, false, false]
abbrev zq4.q21 : Array Bool := #[false, true, false, false, false, false, false, false, false, false, false, false, false, false, false, false, false, false, false, false, false, false, false, false, false, false, false, false, false, false, false]
abbrev zq4.q22 : Array Bool := #[false, true, true, false, false, false, false, false, false, false, false, false, false, false, false, false, false, false, false, false, false, false, false, false, false, false, false, false, false, false, false]
abbrev zq4.q23 : Array Bool := #[false, true, true, true, false, false, false, false, false, false, false, false, false, false, false, false, false, false, false, false, false, false, false, false, false, false, false, false, false, false, false]
abbrev zq4.q24 : Array Bool := #[false, true, true, true, true, false, false, false, false, false, false, false, false, false, false, false, false, false, false, false, false, false, false, false, false, false, false, false, false, false, false]
abbrev zq4.q25 : Array Bool := #[true, true, true, true, true, false, false, false, false, false, false, false, false, false, false, false, false, false, false, false, false, false, false, false, false, false, false, false, false, false, false]
abbrev zq4.q26 : Array Bool := #[true, true, true, true, true, false, true, false, false, false, false, false, false, false, false, false, false, false, false, false, false, false, false, false, false, false, false, false, false, false, false]
abbrev zq4.q27 : Array Bool := #[true, true, true, true, true, true, true, false, false, false, false, false, false, false, false, false, false, false, false, false, false, false, false, false, false, false, false, false, false, false, false]
abbrev zq4.q28 : Array Bool := #[true, true, true, true, true, true, true, true, false, false, false, false, false, false, false, false, false, false, false, false, false, false, false, false, false, false, false, false, false, false, false]
abbrev zq4.q29 : Array Bool := #[true, true, true, true, true, true, true, true, true, false, false, false, false, false, false, false, false, false, false, false, false, false, false, false, false, false, false, false, false, false, false]
abbrev zq4.q30 : Array Bool := #[true, true, true, true, true, true, true, true, true, true, false, false, false, false, false, false, false, false, false, false, false, false, false, false, false, false, false, false, false, false, false]
abbrev zq4.q31 : Array Bool := #[true, true, true, true, true, true, true, true, true, true, false, true, false, false, false, false, false, false, false, false, false, false, false, false, false, false, false, false, false, false, false]
abbrev zq4.q32 : Array Bool := #[true, true, true, true, true, true, true, true, true, true, true, true, false, false, false, false, false, false, false, false, false, false, false, false, false, false, false, false, false, false, false]
abbrev zq4.q33 : Array Bool := #[true, true, true, true, true, true, true, true, true, true, true, true, true, false, false, false, false, false, false, false, false, false, false, false, false, false, false, false, false, false, false]
abbrev zq4.q34 : Array Bool := #[true, true, true, true, true, true, true, true, true, true, true, true, true, true, false, false, false, false, false, false, false, false, false, false, false, false, false, false, false, false, false]
abbrev zq4.q35 : Array Bool := #[true, true, true, true, true, true, true, true, true, true, true, true, true, true, true, false, false, false, false, false, false, false, false, false, false, false, false, false, false, false, false]
abbrev zq4.q36 : Array Bool := #[true, true, true, true, true, true, true, true, true, true, true, true, true, true, true, true, false, false, false, false, false, false, false, false, false, false, false, false, false, false, false]
abbrev zq4.q37 : Array Bool := #[true, true, true, true, true, true, true, true, true, true, true, true, true, true, true, true, false, false, false, false, false, false, true, false, false, false, false, false, false, false, false]
abbrev zq4.q38 : Array Bool := #[true, true, true, true, true, true, true, true, true, true, true, true, true, true, true, true, false, false, false, false, false, false, true, true, false, false, false, false, false, false, false]
abbrev zq4.q39 : Array Bool := #[true, true, true, true, true, true, true, true, true, true, true, true, true, true, true, true, true, false, false, false, false, false, true, true, false, false, false, false, false, false, false]
abbrev zq4.q40 : Array Bool := #[true, true, true, true, true, true, true, true, true, true, true, true, true, true, true, true, true, true, false, false, false, false, true, true, false, false, false, false, false, false, false]
abbrev zq4.q41 : Array Bool := #[true, true, true, true, true, true, true, true, true, true, true, true, true, true, true, true, true, true, false, true, false, false, true, true, false, false, false, false, false, false, false]
abbrev zq4.q42 : Array Bool := #[true, true, true, true, true, true, true, true, true, true, true, true, true, true, true, true, true, true, false, true, true, false, true, true, false, false, false, false, false, false, false]
abbrev zq4.q43 : Array Bool := #[true, true, true, true, true, true, true, true, true, true, true, true, true, true, true, true, true, true, true, true, true, false, true, true, false, false, false, false, false, false, false]
abbrev zq4.q44 : Array Bool := #[true, true, true, true, true, true, true, true, true, true, true, true, true, true, true, true, true, true, true, true, true, true, true, true, false, false, false, false, false, false, false]
abbrev zq4.q45 : Array Bool := #[true, true, true, true, true, true, true, true, true, true, true, true, true, true, true, true, true, true, true, true, true, true, true, true, true, false, false, false, false, false, false]
abbrev zq4.q46 : Array Bool := #[true, true, true, true, true, true, true, true, true, true, true, true, true, true, true, true, true, true, true, true, true, true, true, true, true, true, false, false, false, false, false]
abbrev zq4.q47 : Array Bool := #[true, true, true, true, true, true, true, true, true, true, true, true, true, true, true, true, true, true, true, true, true, true, true, true, true, true, true, false, false, false, false]
abbrev zq4.q48 : Array Bool := #[true, true, true, true, true, true, true, true, true, true, true, true, true, true, true, true, true, true, true, true, true, true, true, true, true, true, true, true, false, false, false]
abbrev zq4.q49 : Array Bool := #[true, true, true, true, true, true, true, true, true, true, true, true, true, true, true, true, true, true, true, true, true, true, true, true, true, true, true, true, true, false, false]
abbrev zq4.q50 : Array Bool := #[true, true, true, true, true, true, true, true, true, true, true, true, true, true, true, true, true, true, true, true, true, true, true, true, true, true, true, true, true, true, false]
abbrev zq4.q51 : Array Bool := #[true, true, true, true, true, true, true, true, true, true, true, true, true, true, true, true, true, true, true, true, true, true, true, true, true, true, true, true, true, true, true]
def compositorlaw04_RectShifts.j0 : Nat → Int → Int → Bool → Int → Int → Int → Int → Int → Int → Int → Int → Option (Bool)
 | 0, _, _, _, _, _, _, _, _, _, _, _ => none
 | k + 1, x7, x8, x37, x268000, x268001, x268002, x268003, x269000, x269001, x269002, x269003 => if x37 = true then ((compositorlaw04_exampleHolds.f k).bind fun t272 => (some t272)) else ((rect_Union.f x268000 x268001 x268002 x268003 x269000 x269001 x269002 x269003).bind fun bt273 => ((compositorlaw04_box.f (wrap64 (bt273.1 + x7)) (wrap64 (bt273.2.1 + x8)) (wrap64 (bt273.2.2.1 + x7)) (wrap64 (bt273.2.2.2 + x8))).bind fun bt278 => ((rect_Valid.f bt278.1 bt278.2.1 bt278.2.2.1 bt278.2.2.2).bind fun t282 => (if t282 = true then ((rect_Translate.f x268000 x268001 x268002 x268003 x7 x8).bind fun bt284 => ((rect_Translate.f x269000 x269001 x269002 x269003 x7 x8).bind fun bt288 => ((rect_Translate.f bt284.1 bt284.2.1 bt284.2.2.1 bt284.2.2.2 (wrap64 (-x7)) (wrap64 (-x8))).bind fun bt294 => (if (bt294.1 == x268000 && (bt294.2.1 == x268001 && (bt294.2.2.1 == x268002 && (bt294.2.2.2 == x268003)))) = true then ((rect_Area.f bt284.1 bt284.2.1 bt284.2.2.1 bt284.2.2.2).bind fun t298 => ((rect_Area.f x268000 x268001 x268002 x268003).bind fun t299 => (if t298 = t299 then ((rect_Intersect.f bt284.1 bt284.2.1 bt284.2.2.1 bt284.2.2.2 bt288.1 bt288.2.1 bt288.2.2.1 bt288.2.2.2).bind fun bt300 => ((rect_Intersect.f x268000 x268001 x268002 x268003 x269000 x269001 x269002 x269003).bind fun bt304 => ((rect_Translate.f bt304.1 bt304.2.1 bt304.2.2.1 bt304.2.2.2 x7 x8).bind fun bt308 => (if (bt300.1 == bt308.1 && (bt300.2.1 == bt308.2.1 && (bt300.2.2.1 == bt308.2.2.1 && (bt300.2.2.2 == bt308.2.2.2)))) = true then ((compositorlaw04_exampleHolds.f k).bind fun t312 => (some t312)) else (some false))))) else (some false)))) else (some false))))) else ((compositorlaw04_exampleHolds.f k).bind fun t283 => (some t283))))))
def compositorlaw04_RectShifts.f (k : Nat) (a0_0 : Int) (a0_1 : Int) (a0_2 : Int) (a0_3 : Int) (a1_0 : Int) (a1_1 : Int) (a1_2 : Int) (a1_3 : Int) (a2_0 : Int) (a2_1 : Int) : Option (Bool) := (rect_Empty.f a0_0 a0_1 a0_2 a0_3).bind fun t270 => (if t270 = true then (compositorlaw04_RectShifts.j0 k a2_0 a2_1 true a0_0 a0_1 a0_2 a0_3 a1_0 a1_1 a1_2 a1_3) else ((rect_Empty.f a1_0 a1_1 a1_2 a1_3).bind fun t271 => (if t271 = true then (compositorlaw04_RectShifts.j0 k a2_0 a2_1 true a0_0 a0_1 a0_2 a0_3 a1_0 a1_1 a1_2 a1_3) else (if a2_0 < (-32768) then (compositorlaw04_RectShifts.j0 k a2_0 a2_1 true a0_0 a0_1 a0_2 a0_3 a1_0 a1_1 a1_2 a1_3) else (if a2_0 > 32768 then (compositorlaw04_RectShifts.j0 k a2_0 a2_1 true a0_0 a0_1 a0_2 a0_3 a1_0 a1_1 a1_2 a1_3) else (if a2_1 < (-32768) then (compositorlaw04_RectShifts.j0 k a2_0 a2_1 true a0_0 a0_1 a0_2 a0_3 a1_0 a1_1 a1_2 a1_3) else (compositorlaw04_RectShifts.j0 k a2_0 a2_1 (decide (a2_1 > 32768)) a0_0 a0_1 a0_2 a0_3 a1_0 a1_1 a1_2 a1_3)))))))
theorem compositorlaw04_RectShifts.mono_l : ∀ k, (∀ y0 y1 y2 y3 y4 y5 y6 y7 y8 y9 y10, LeO (compositorlaw04_RectShifts.j0 k y0 y1 y2 y3 y4 y5 y6 y7 y8 y9 y10) (compositorlaw04_RectShifts.j0 (k + 1) y0 y1 y2 y3 y4 y5 y6 y7 y8 y9 y10))
 | 0 => fun _ _ _ _ _ _ _ _ _ _ _ r h => by simp [compositorlaw04_RectShifts.j0] at h
 | k + 1 => by
  have ih0 := compositorlaw04_RectShifts.mono_l k
  ·
   intro y0 y1 y2 y3 y4 y5 y6 y7 y8 y9 y10
   unfold compositorlaw04_RectShifts.j0
   repeat' first
   | (with_reducible exact ih0 _ _ _ _ _ _ _ _ _ _ _)
   | (with_reducible exact compositorlaw04_exampleHolds.mono _)
   | (with_reducible exact LeO.refl _)
   | (with_reducible exact LeO.none _)
   | (with_reducible refine LeO.ite ?_ ?_)
   | (with_reducible refine LeO.bind ?_ (fun _ => ?_))
   | exact ih0 _ _ _ _ _ _ _ _ _ _ _
   | exact compositorlaw04_exampleHolds.mono _
   | exact LeO.none _
   | refine LeO.ite ?_ ?_
   | refine LeO.bind ?_ (fun _ => ?_)
theorem compositorlaw04_RectShifts.mono : ∀ a0 a1 a2 a3 a4 a5 a6 a7 a8 a9 k, LeO (compositorlaw04_RectShifts.f k a0 a1 a2 a3 a4 a5 a6 a7 a8 a9) (compositorlaw04_RectShifts.f (k + 1) a0 a1 a2 a3 a4 a5 a6 a7 a8 a9) := by
 intro a0 a1 a2 a3 a4 a5 a6 a7 a8 a9 k
 have ih0 := compositorlaw04_RectShifts.mono_l k
 unfold compositorlaw04_RectShifts.f
 repeat' first
   | (with_reducible exact ih0 _ _ _ _ _ _ _ _ _ _ _)
   | (with_reducible exact compositorlaw04_exampleHolds.mono _)
   | (with_reducible exact LeO.refl _)
   | (with_reducible exact LeO.none _)
   | (with_reducible refine LeO.ite ?_ ?_)
   | (with_reducible refine LeO.bind ?_ (fun _ => ?_))
   | exact ih0 _ _ _ _ _ _ _ _ _ _ _
   | exact compositorlaw04_exampleHolds.mono _
   | exact LeO.none _
   | refine LeO.ite ?_ ?_
   | refine LeO.bind ?_ (fun _ => ?_)
def compositorlaw04_RectShifts.T7 : Bool × List (List Nat × List Nat) := (true, [([], []), ([], []), ([], []), ([0, 1, 2], [0, 1, 2]), ([], []), ([], []), ([], []), ([4, 5, 6, 3], [4, 5, 6]), ([], []), ([], []), ([8, 3, 7, 0, 1, 2, 3, 8, 9], [3, 8]), ([9, 7, 10, 0, 1, 2, 3, 4, 5, 6, 7, 8, 9, 10], [7, 9])])
def compositorlaw04_RectShifts.B7 : List Nat := [0, 0, 0, 7, 0, 0, 0, 127, 0, 0, 1023, 2047]
theorem compositorlaw04_RectShifts.tab7 : rtab .any (opsOf Try.f4 7) = compositorlaw04_RectShifts.T7 := by kernel_rfl
theorem compositorlaw04_RectShifts.bits7 : waitsOk compositorlaw04_RectShifts.T7.2 compositorlaw04_RectShifts.B7 = true := by kernel_rfl
def compositorlaw04_RectShifts.T8 : Bool × List (List Nat × List Nat) := (true, [([], []), ([], []), ([1], [1]), ([], []), ([3], [3]), ([0, 2, 4], [0, 2, 4]), ([], []), ([5, 6], [5, 6]), ([7, 5], [7]), ([8], [8]), ([9, 8, 8], [8, 9]), ([8], [8]), ([11, 10, 8], [8, 11]), ([10, 12, 8], [8, 10, 12]), ([8, 13], [8, 13]), ([14, 12], [14]), ([15], [15]), ([15], [15]), ([16, 17, 15, 15], [15, 16, 17]), ([15], [15]), ([15], [15]), ([19, 20, 18, 15], [15, 19, 20]), ([15], [15]), ([15], [15]), ([21, 22, 23, 21, 15], [15, 21, 22, 23]), ([18, 24, 15], [15, 18, 24]), ([15, 25], [15, 25]), ([26, 24], [26]), ([27, 27], [27]), ([27, 28], [27, 28]), ([29, 28, 0, 1, 2, 3, 4, 5, 6, 7, 8, 9, 10, 11, 12, 13, 14, 15, 16, 17, 18, 19, 20, 21, 22, 23, 24, 25, 26, 27, 28, 29], [29])])
def compositorlaw04_RectShifts.B8 : List Nat := [0, 0, 2, 0, 8, 31, 0, 127, 255, 511, 1023, 511, 4095, 8191, 16383, 32767, 65535, 65535, 262143, 65535, 65535, 2097151, 65535, 65535, 16777215, 33554431, 67108863, 134217727, 268435455, 536870911, 1073741823]
theorem compositorlaw04_RectShifts.tab8 : rtab .any (opsOf Try.f4 8) = compositorlaw04_RectShifts.T8 := by kernel_rfl
theorem compositorlaw04_RectShifts.bits8 : waitsOk compositorlaw04_RectShifts.T8.2 compositorlaw04_RectShifts.B8 = true := by kernel_rfl
set_option maxHeartbeats 8000000 in
set_option maxRecDepth 100000 in
theorem compositorlaw04_RectShifts.calls (k : Nat) (a0_0 : Int) (a0_1 : Int) (a0_2 : Int) (a0_3 : Int) (a1_0 : Int) (a1_1 : Int) (a1_2 : Int) (a1_3 : Int) (a2_0 : Int) (a2_1 : Int) (w : World) (h : compositorlaw04_RectShifts.f k a0_0 a0_1 a0_2 a0_3 a1_0 a1_1 a1_2 a1_3 a2_0 a2_1 = some true) :
  Calls Try.prog 4 #[.agg #[.int .i64 a0_0, .int .i64 a0_1, .int .i64 a0_2, .int .i64 a0_3], .agg #[.int .i64 a1_0, .int .i64 a1_1, .int .i64 a1_2, .int .i64 a1_3], .agg #[.int .i64 a2_0, .int .i64 a2_1]] w fun e w' => e = .returned (.bool true) ∧ Below w.heap.size w w' := by
 have hu23 := Try.underlying23
 have hu30 := Try.underlying30
 have HB := Aside0.mk (Below.refl w.heap.size w)
 have H : ((rect_Empty.f a0_0 a0_1 a0_2 a0_3).bind fun t270 => (if t270 = true then (compositorlaw04_RectShifts.j0 k a2_0 a2_1 true a0_0 a0_1 a0_2 a0_3 a1_0 a1_1 a1_2 a1_3) else ((rect_Empty.f a1_0 a1_1 a1_2 a1_3).bind fun t271 => (if t271 = true then (compositorlaw04_RectShifts.j0 k a2_0 a2_1 true a0_0 a0_1 a0_2 a0_3 a1_0 a1_1 a1_2 a1_3) else (if a2_0 < (-32768) then (compositorlaw04_RectShifts.j0 k a2_0 a2_1 true a0_0 a0_1 a0_2 a0_3 a1_0 a1_1 a1_2 a1_3) else (if a2_0 > 32768 then (compositorlaw04_RectShifts.j0 k a2_0 a2_1 true a0_0 a0_1 a0_2 a0_3 a1_0 a1_1 a1_2 a1_3) else (if a2_1 < (-32768) then (compositorlaw04_RectShifts.j0 k a2_0 a2_1 true a0_0 a0_1 a0_2 a0_3 a1_0 a1_1 a1_2 a1_3) else (compositorlaw04_RectShifts.j0 k a2_0 a2_1 (decide (a2_1 > 32768)) a0_0 a0_1 a0_2 a0_3 a1_0 a1_1 a1_2 a1_3)))))))) = some true := h
 clear h
 have HC4 := Aside0.mk H
 clear H
 go_enter Try.func4, Try.ntmps4
 try go_wp2_with (first | ((with_reducible refine gate_dst (N := 3) rfl ?_); refine box_event ?hg (N := 3) ?hd (cs := #[.int .i64 a0_0, .int .i64 a0_1, .int .i64 a0_2, .int .i64 a0_3]) (t := 23) ?hr ?_; (case hd => rfl); (case hg => rfl); (case hr => first | (go_simp; done) | (go_simp; rfl)); intro gb267 hg w5 hbox hb; have n0_ := Aside0.mk (below_step (by repeat (first | (with_reducible first | exact HB.out | apply below_alloc | apply pw_below_drewN | apply below_drew1) | exact HB.out)) hb); have n1_ := Aside0.mk (hbox); have n2_ := Aside0.mk ((by rw [hg]; exact (below_size (by repeat (first | (with_reducible first | exact HB.out | apply below_alloc | apply pw_below_drewN | apply below_drew1) | exact HB.out))) : w.heap.size ≤ gb267)); have n3_ := Aside0.mk ((by rw [hg]; exact (below_size (by repeat (first | (with_reducible first | exact HB.out | apply below_alloc | apply pw_below_drewN | apply below_drew1) | exact HB.out))) : w.heap.size ≤ gb267)); clear HB; have HB := n0_; have BK267 := n1_; have GW267 := n2_; have GE267 := n3_; clear n0_ n1_ n2_ n3_; clear hb hbox hg) | ((with_reducible refine gate_dst (N := 4) rfl ?_); refine box_event ?hg (N := 4) ?hd (cs := #[.int .i64 a1_0, .int .i64 a1_1, .int .i64 a1_2, .int .i64 a1_3]) (t := 23) ?hr ?_; (case hd => rfl); (case hg => rfl); (case hr => first | (go_simp; done) | (go_simp; rfl)); intro gb268 hg w6 hbox hb; have n0_ := YtloojhnohofonaaSq.bb BK267 hb; have n1_ := Aside0.mk (below_step (by repeat (first | (with_reducible first | exact HB.out | apply below_alloc | apply pw_below_drewN | apply below_drew1 | refine below_set ?_ GE267.out) | exact HB.out)) hb); have n2_ := Aside0.mk (hbox); have n3_ := Aside0.mk ((by rw [hg]; exact (below_size (by repeat (first | (with_reducible first | exact HB.out | apply below_alloc | apply pw_below_drewN | apply below_drew1 | refine below_set ?_ GE267.out) | exact HB.out))) : w.heap.size ≤ gb268)); have n4_ := Aside0.mk ((by rw [hg]; exact (below_size (by repeat (first | (with_reducible first | exact HB.out | apply below_alloc | apply pw_below_drewN | apply below_drew1 | refine below_set ?_ GE267.out) | exact HB.out))) : w.heap.size ≤ gb268)); have n5_ := Aside0.mk ((by rw [hg]; exact Nat.ne_of_lt (blk_lt (g := gb267) (o := .cells #[.int .i64 a0_0, .int .i64 a0_1, .int .i64 a0_2, .int .i64 a0_3] 23 (0, 0)) (YtloojhnohofonaaSq.bq BK267)) : gb267 ≠ gb268)); have n6_ := Aside0.mk ((by rw [hg]; exact Nat.ne_of_gt (blk_lt (g := gb267) (o := .cells #[.int .i64 a0_0, .int .i64 a0_1, .int .i64 a0_2, .int .i64 a0_3] 23 (0, 0)) (YtloojhnohofonaaSq.bq BK267)) : gb268 ≠ gb267)); clear BK267; clear HB; have BK267 := n0_; have HB := n1_; have BK268 := n2_; have GW268 := n3_; have GE268 := n4_; have NB267_268 := n5_; have NB268_267 := n6_; clear n0_ n1_ n2_ n3_ n4_ n5_ n6_; clear hb hbox hg) | ((with_reducible refine gate_dst (N := 5) rfl ?_); refine box_event ?hg (N := 5) ?hd (cs := #[.int .i64 a2_0, .int .i64 a2_1]) (t := 30) ?hr ?_; (case hd => rfl); (case hg => rfl); (case hr => first | (go_simp; done) | (go_simp; rfl)); intro gb269 hg w7 hbox hb; have n0_ := YtloojhnohofonaaSq.bb BK267 hb; have n1_ := YtloojhnohofonaaSq.bb BK268 hb; have n2_ := Aside0.mk (below_step (by repeat (first | (with_reducible first | exact HB.out | apply below_alloc | apply pw_below_drewN | apply below_drew1 | refine below_set ?_ GE267.out | refine below_set ?_ GE268.out) | exact HB.out)) hb); have n3_ := Aside0.mk (hbox); have n4_ := Aside0.mk ((by rw [hg]; exact (below_size (by repeat (first | (with_reducible first | exact HB.out | apply below_alloc | apply pw_below_drewN | apply below_drew1 | refine below_set ?_ GE267.out | refine below_set ?_ GE268.out) | exact HB.out))) : w.heap.size ≤ gb269)); have n5_ := Aside0.mk ((by rw [hg]; exact (below_size (by repeat (first | (with_reducible first | exact HB.out | apply below_alloc | apply pw_below_drewN | apply below_drew1 | refine below_set ?_ GE267.out | refine below_set ?_ GE268.out) | exact HB.out))) : w.heap.size ≤ gb269)); have n6_ := Aside0.mk ((by rw [hg]; exact Nat.ne_of_lt (blk_lt (g := gb267) (o := .cells #[.int .i64 a0_0, .int .i64 a0_1, .int .i64 a0_2, .int .i64 a0_3] 23 (0, 0)) (YtloojhnohofonaaSq.bq BK267)) : gb267 ≠ gb269)); have n7_ := Aside0.mk ((by rw [hg]; exact Nat.ne_of_gt (blk_lt (g := gb267) (o := .cells #[.int .i64 a0_0, .int .i64 a0_1, .int .i64 a0_2, .int .i64 a0_3] 23 (0, 0)) (YtloojhnohofonaaSq.bq BK267)) : gb269 ≠ gb267)); have n8_ := Aside0.mk ((by rw [hg]; exact Nat.ne_of_lt (blk_lt (g := gb268) (o := .cells #[.int .i64 a1_0, .int .i64 a1_1, .int .i64 a1_2, .int .i64 a1_3] 23 (0, 0)) (YtloojhnohofonaaSq.bq BK268)) : gb268 ≠ gb269)); have n9_ := Aside0.mk ((by rw [hg]; exact Nat.ne_of_gt (blk_lt (g := gb268) (o := .cells #[.int .i64 a1_0, .int .i64 a1_1, .int .i64 a1_2, .int .i64 a1_3] 23 (0, 0)) (YtloojhnohofonaaSq.bq BK268)) : gb269 ≠ gb268)); clear BK267; clear BK268; clear HB; have BK267 := n0_; have BK268 := n1_; have HB := n2_; have BK269 := n3_; have GW269 := n4_; have GE269 := n5_; have NB267_269 := n6_; have NB269_267 := n7_; have NB268_269 := n8_; have NB269_268 := n9_; clear n0_ n1_ n2_ n3_ n4_ n5_ n6_ n7_ n8_ n9_; clear hb hbox hg))
 replace BK267 := Aside0.mk (blk_drew BK267.out)
 replace BK268 := Aside0.mk (blk_drew BK268.out)
 replace BK269 := Aside0.mk (blk_drew BK269.out)
 replace HB := Aside0.mk (below_drew1 HB.out)
 refine start_ (n := 6) (S := fun w' => w'.cell? ⟨gb269, 0, none⟩ = some (.int .i64 a2_0) ∧ w'.cell? ⟨gb269, 1, none⟩ = some (.int .i64 a2_1)) (ds := []) #[false, false, false, false, false, false] (by kernel_rfl) rfl rfl ⟨(blk_cell BK269.out 0).trans rfl, (blk_cell BK269.out 1).trans rfl⟩ (fun hHeld => ?_)
 generalize w7.drew = w8 at BK267 BK268 BK269 HB hHeld ⊢
 refine pure_ (i := 0) (N := some 12) (v := ?_) (a' := ?_) #[true, false, false, false, false, false] rfl rfl (by kernel_rfl) (fun _ _ _ h => h) (Or.inl ⟨by rfl, ?_⟩) ?_ ?_
 rotate_left
 ·
  intro w'
  go_simp
  with_reducible rfl
 rotate_left
 ·
  simp only [Act.put, List.setIfInBounds_toArray, List.set_cons_zero, List.set_cons_succ, i64_w, i32_w]
  rfl
 refine pure_ (i := 2) (N := some 14) (v := ?_) (a' := ?_) #[true, false, true, false, false, false] rfl rfl (by kernel_rfl) (fun _ _ _ h => h) (Or.inl ⟨by rfl, ?_⟩) ?_ ?_
 rotate_left
 ·
  intro w'
  go_simp
  with_reducible rfl
 rotate_left
 ·
  simp only [Act.put, List.setIfInBounds_toArray, List.set_cons_zero, List.set_cons_succ, i64_w, i32_w]
  rfl
 refine take_ (i := 1) (N := some 13) (v := ?_) (a' := ?_) #[true, true, true, false, false, false] rfl rfl (by kernel_rfl) (fun _ _ _ h => h) (Or.inl ⟨by rfl, ?_⟩) hHeld ?_ ?_
 rotate_left
 ·
  rintro w' ⟨s0, s1⟩
  go_simp
  with_reducible rfl
 rotate_left
 ·
  simp only [Act.put, List.setIfInBounds_toArray, List.set_cons_zero, List.set_cons_succ, i64_w, i32_w]
  rfl
 refine pure_ (i := 4) (N := some 7) (v := ?_) (a' := ?_) #[true, true, true, false, true, false] rfl rfl (by kernel_rfl) (fun _ _ _ h => h) (Or.inl ⟨by rfl, ?_⟩) ?_ ?_
 rotate_left
 ·
  intro w'
  go_simp
  with_reducible rfl
 rotate_left
 ·
  simp only [Act.put, List.setIfInBounds_toArray, List.set_cons_zero, List.set_cons_succ, i64_w, i32_w]
  rfl
 refine take_ (i := 3) (N := some 15) (v := ?_) (a' := ?_) #[true, true, true, true, true, false] rfl rfl (by kernel_rfl) (fun _ _ _ h => h) (Or.inl ⟨by rfl, ?_⟩) hHeld ?_ ?_
 rotate_left
 ·
  rintro w' ⟨s0, s1⟩
  go_simp
  with_reducible rfl
 rotate_left
 ·
  simp only [Act.put, List.setIfInBounds_toArray, List.set_cons_zero, List.set_cons_succ, i64_w, i32_w]
  rfl
 refine pure_ (i := 5) (N := some 8) (v := ?_) (a' := ?_) #[true, true, true, true, true, true] rfl rfl (by kernel_rfl) (fun _ _ _ h => h) (Or.inl ⟨by rfl, ?_⟩) ?_ ?_
 rotate_left
 ·
  intro w'
  go_simp
  with_reducible rfl
 rotate_left
 ·
  simp only [Act.put, List.setIfInBounds_toArray, List.set_cons_zero, List.set_cons_succ, i64_w, i32_w]
  rfl
 refine done_ (by kernel_rfl) ?_
 go_upto_region 2 with (fail)
 go_cut [37] (fun v37 wc => ∃ (kq : Nat) (x37_3 : Bool), v37 = .bool x37_3 ∧ Aside0 (compositorlaw04_RectShifts.j0 kq a2_0 a2_1 x37_3 a0_0 a0_1 a0_2 a0_3 a1_0 a1_1 a1_2 a1_3 = some true) ∧ Aside0 (kq ≤ k) ∧ Aside0 (wc.heap[gb267]? = some (.cells #[.int .i64 a0_0, .int .i64 a0_1, .int .i64 a0_2, .int .i64 a0_3] 23 (0, 0))) ∧ Aside0 (wc.heap[gb268]? = some (.cells #[.int .i64 a1_0, .int .i64 a1_1, .int .i64 a1_2, .int .i64 a1_3] 23 (0, 0))) ∧ Aside0 (wc.heap[gb269]? = some (.cells #[.int .i64 a2_0, .int .i64 a2_1] 30 (0, 0))) ∧ Aside0 (Below w.heap.size w wc))
 case first =>
  have H := HC4.out
  clear HC4
  replace H := Option.bind_eq_some_iff.mp H
  obtain ⟨t270, A90, H⟩ := H
  replace H : (if t270 = true then (compositorlaw04_RectShifts.j0 k a2_0 a2_1 true a0_0 a0_1 a0_2 a0_3 a1_0 a1_1 a1_2 a1_3) else ((rect_Empty.f a1_0 a1_1 a1_2 a1_3).bind fun t271 => (if t271 = true then (compositorlaw04_RectShifts.j0 k a2_0 a2_1 true a0_0 a0_1 a0_2 a0_3 a1_0 a1_1 a1_2 a1_3) else (if a2_0 < (-32768) then (compositorlaw04_RectShifts.j0 k a2_0 a2_1 true a0_0 a0_1 a0_2 a0_3 a1_0 a1_1 a1_2 a1_3) else (if a2_0 > 32768 then (compositorlaw04_RectShifts.j0 k a2_0 a2_1 true a0_0 a0_1 a0_2 a0_3 a1_0 a1_1 a1_2 a1_3) else (if a2_1 < (-32768) then (compositorlaw04_RectShifts.j0 k a2_0 a2_1 true a0_0 a0_1 a0_2 a0_3 a1_0 a1_1 a1_2 a1_3) else (compositorlaw04_RectShifts.j0 k a2_0 a2_1 (decide (a2_1 > 32768)) a0_0 a0_1 a0_2 a0_3 a1_0 a1_1 a1_2 a1_3))))))) = some true := H
  have A9 := Aside0.mk A90
  clear A90
  by_cases c10 : t270 = true
  ·
   subst c10
   have H1 : (compositorlaw04_RectShifts.j0 k a2_0 a2_1 true a0_0 a0_1 a0_2 a0_3 a1_0 a1_1 a1_2 a1_3) = some true := by rw [if_pos rfl] at H; exact H
   clear H
   have H := H1
   clear H1
   have H' := Aside0.mk H
   clear H
   have hnb11 := NB267_268.out
   have hnc11 := NB268_267.out
   have hnb12 := NB267_269.out
   have hnc12 := NB269_267.out
   have hcz13_0 : w8.cell? ⟨gb267, 0, none⟩ = some (.int .i64 a0_0) := (blk_cell BK267.out 0).trans rfl
   have hcz13_1 : w8.cell? ⟨gb267, 1, none⟩ = some (.int .i64 a0_1) := (blk_cell BK267.out 1).trans rfl
   have hcz13_2 : w8.cell? ⟨gb267, 2, none⟩ = some (.int .i64 a0_2) := (blk_cell BK267.out 2).trans rfl
   have hcz13_3 : w8.cell? ⟨gb267, 3, none⟩ = some (.int .i64 a0_3) := (blk_cell BK267.out 3).trans rfl
   have hfz13_0 := blk_frozen BK267.out 0
   have hfz13_1 := blk_frozen BK267.out 1
   have hfz13_2 := blk_frozen BK267.out 2
   have hfz13_3 := blk_frozen BK267.out 3
   go_wp2_with (first | ((with_reducible refine gate_callee (f := 16) rfl ?_); refine goesL_ (some 17) rfl rfl Try.func16 (by kernel_rfl) rfl #[.agg #[.int .i64 a0_0, .int .i64 a0_1, .int .i64 a0_2, .int .i64 a0_3]] rfl (by (try simp only [List.map_toArray, List.map_cons, List.map_nil]); first | done | rfl | (simp only [List.length_drop, List.length_take]; rfl)) ?_; (with_reducible refine (rect_Empty.calls a0_0 a0_1 a0_2 a0_3 true _ A9.out).mono ?_); rintro e w14 ⟨rfl, hb⟩; refine ⟨_, rfl, ?_⟩; have n0_ := YtloojhnohofonaaSq.bb BK267 hb; have n1_ := YtloojhnohofonaaSq.bb BK268 hb; have n2_ := YtloojhnohofonaaSq.bb BK269 hb; have n3_ := Aside0.mk (below_step (by repeat (first | (with_reducible first | exact HB.out | apply below_alloc | apply pw_below_drewN | apply below_drew1 | refine below_set ?_ GE267.out | refine below_set ?_ GE268.out | refine below_set ?_ GE269.out) | exact HB.out)) hb); clear BK267; clear BK268; clear BK269; clear HB; have BK267 := n0_; have BK268 := n1_; have BK269 := n2_; have HB := n3_; clear n0_ n1_ n2_ n3_; (try clear hb); (try clear hb2); (try clear hk); (try clear hi)))
   go_meet
   case rel => exact ⟨_, (true), (by first | rfl | (simp; done) | (simp [*]; done)), H', ⟨by first | omega | exact Nat.le_refl _⟩, ⟨by (with_reducible repeat (first | refine blk_drewN ?_ _ | refine blk_drew ?_ | refine blk_alloc ?_ _)); exact BK267.out⟩, ⟨by (with_reducible repeat (first | refine blk_drewN ?_ _ | refine blk_drew ?_ | refine blk_alloc ?_ _)); exact BK268.out⟩, ⟨by (with_reducible repeat (first | refine blk_drewN ?_ _ | refine blk_drew ?_ | refine blk_alloc ?_ _)); exact BK269.out⟩, ⟨by repeat (first | (with_reducible first | exact HB.out | apply below_alloc | apply pw_below_drewN | apply below_drew1 | refine below_set ?_ GE267.out | refine below_set ?_ GE268.out | refine below_set ?_ GE269.out) | exact HB.out)⟩⟩
  ·
   replace c10 := Bool.eq_false_iff.mpr c10
   subst c10
   have H1 : ((rect_Empty.f a1_0 a1_1 a1_2 a1_3).bind fun t271 => (if t271 = true then (compositorlaw04_RectShifts.j0 k a2_0 a2_1 true a0_0 a0_1 a0_2 a0_3 a1_0 a1_1 a1_2 a1_3) else (if a2_0 < (-32768) then (compositorlaw04_RectShifts.j0 k a2_0 a2_1 true a0_0 a0_1 a0_2 a0_3 a1_0 a1_1 a1_2 a1_3) else (if a2_0 > 32768 then (compositorlaw04_RectShifts.j0 k a2_0 a2_1 true a0_0 a0_1 a0_2 a0_3 a1_0 a1_1 a1_2 a1_3) else (if a2_1 < (-32768) then (compositorlaw04_RectShifts.j0 k a2_0 a2_1 true a0_0 a0_1 a0_2 a0_3 a1_0 a1_1 a1_2 a1_3) else (compositorlaw04_RectShifts.j0 k a2_0 a2_1 (decide (a2_1 > 32768)) a0_0 a0_1 a0_2 a0_3 a1_0 a1_1 a1_2 a1_3)))))) = some true := by rw [if_neg (show ¬ (false = true) by decide)] at H; exact H
   clear H
   have H := H1
   clear H1
   replace H := Option.bind_eq_some_iff.mp H
   obtain ⟨t271, A150, H⟩ := H
   replace H : (if t271 = true then (compositorlaw04_RectShifts.j0 k a2_0 a2_1 true a0_0 a0_1 a0_2 a0_3 a1_0 a1_1 a1_2 a1_3) else (if a2_0 < (-32768) then (compositorlaw04_RectShifts.j0 k a2_0 a2_1 true a0_0 a0_1 a0_2 a0_3 a1_0 a1_1 a1_2 a1_3) else (if a2_0 > 32768 then (compositorlaw04_RectShifts.j0 k a2_0 a2_1 true a0_0 a0_1 a0_2 a0_3 a1_0 a1_1 a1_2 a1_3) else (if a2_1 < (-32768) then (compositorlaw04_RectShifts.j0 k a2_0 a2_1 true a0_0 a0_1 a0_2 a0_3 a1_0 a1_1 a1_2 a1_3) else (compositorlaw04_RectShifts.j0 k a2_0 a2_1 (decide (a2_1 > 32768)) a0_0 a0_1 a0_2 a0_3 a1_0 a1_1 a1_2 a1_3))))) = some true := H
   have A15 := Aside0.mk A150
   clear A150
   by_cases c16 : t271 = true
   ·
    subst c16
    have H1 : (compositorlaw04_RectShifts.j0 k a2_0 a2_1 true a0_0 a0_1 a0_2 a0_3 a1_0 a1_1 a1_2 a1_3) = some true := by rw [if_pos rfl] at H; exact H
    clear H
    have H := H1
    clear H1
    have H' := Aside0.mk H
    clear H
    have hnb17 := NB267_268.out
    have hnc17 := NB268_267.out
    have hnb18 := NB267_269.out
    have hnc18 := NB269_267.out
    have hcz19_0 : w8.cell? ⟨gb267, 0, none⟩ = some (.int .i64 a0_0) := (blk_cell BK267.out 0).trans rfl
    have hcz19_1 : w8.cell? ⟨gb267, 1, none⟩ = some (.int .i64 a0_1) := (blk_cell BK267.out 1).trans rfl
    have hcz19_2 : w8.cell? ⟨gb267, 2, none⟩ = some (.int .i64 a0_2) := (blk_cell BK267.out 2).trans rfl
    have hcz19_3 : w8.cell? ⟨gb267, 3, none⟩ = some (.int .i64 a0_3) := (blk_cell BK267.out 3).trans rfl
    have hfz19_0 := blk_frozen BK267.out 0
    have hfz19_1 := blk_frozen BK267.out 1
    have hfz19_2 := blk_frozen BK267.out 2
    have hfz19_3 := blk_frozen BK267.out 3
    go_wp2_with (first | ((with_reducible refine gate_callee (f := 16) rfl ?_); refine goesL_ (some 17) rfl rfl Try.func16 (by kernel_rfl) rfl #[.agg #[.int .i64 a0_0, .int .i64 a0_1, .int .i64 a0_2, .int .i64 a0_3]] rfl (by (try simp only [List.map_toArray, List.map_cons, List.map_nil]); first | done | rfl | (simp only [List.length_drop, List.length_take]; rfl)) ?_; (with_reducible refine (rect_Empty.calls a0_0 a0_1 a0_2 a0_3 false _ A9.out).mono ?_); rintro e w20 ⟨rfl, hb⟩; refine ⟨_, rfl, ?_⟩; have n0_ := YtloojhnohofonaaSq.bb BK267 hb; have n1_ := YtloojhnohofonaaSq.bb BK268 hb; have n2_ := YtloojhnohofonaaSq.bb BK269 hb; have n3_ := Aside0.mk (below_step (by repeat (first | (with_reducible first | exact HB.out | apply below_alloc | apply pw_below_drewN | apply below_drew1 | refine below_set ?_ GE267.out | refine below_set ?_ GE268.out | refine below_set ?_ GE269.out) | exact HB.out)) hb); clear BK267; clear BK268; clear BK269; clear HB; have BK267 := n0_; have BK268 := n1_; have BK269 := n2_; have HB := n3_; clear n0_ n1_ n2_ n3_; (try clear hb); (try clear hb2); (try clear hk); (try clear hi); have hnb21 := NB268_269.out; have hnc21 := NB269_268.out; have hcz22_0 : w20.cell? ⟨gb268, 0, none⟩ = some (.int .i64 a1_0) := (blk_cell BK268.out 0).trans rfl; have hcz22_1 : w20.cell? ⟨gb268, 1, none⟩ = some (.int .i64 a1_1) := (blk_cell BK268.out 1).trans rfl; have hcz22_2 : w20.cell? ⟨gb268, 2, none⟩ = some (.int .i64 a1_2) := (blk_cell BK268.out 2).trans rfl; have hcz22_3 : w20.cell? ⟨gb268, 3, none⟩ = some (.int .i64 a1_3) := (blk_cell BK268.out 3).trans rfl; have hfz22_0 := blk_frozen BK268.out 0; have hfz22_1 := blk_frozen BK268.out 1; have hfz22_2 := blk_frozen BK268.out 2; have hfz22_3 := blk_frozen BK268.out 3) | (go_at_call 16; (with_reducible refine (rect_Empty.calls a1_0 a1_1 a1_2 a1_3 true _ A15.out).mono ?_); rintro e w23 ⟨rfl, hb⟩; have n0_ := YtloojhnohofonaaSq.bb BK267 hb; have n1_ := YtloojhnohofonaaSq.bb BK268 hb; have n2_ := YtloojhnohofonaaSq.bb BK269 hb; have n3_ := Aside0.mk (below_step (by repeat (first | (with_reducible first | exact HB.out | apply below_alloc | apply pw_below_drewN | apply below_drew1 | refine below_set ?_ GE267.out | refine below_set ?_ GE268.out | refine below_set ?_ GE269.out) | exact HB.out)) hb); clear BK267; clear BK268; clear BK269; clear HB; have BK267 := n0_; have BK268 := n1_; have BK269 := n2_; have HB := n3_; clear n0_ n1_ n2_ n3_; (try clear hb); (try clear hb2); (try clear hk); (try clear hi)))
    go_meet
    case rel => exact ⟨_, (true), (by first | rfl | (simp; done) | (simp [*]; done)), H', ⟨by first | omega | exact Nat.le_refl _⟩, ⟨by (with_reducible repeat (first | refine blk_drewN ?_ _ | refine blk_drew ?_ | refine blk_alloc ?_ _)); exact BK267.out⟩, ⟨by (with_reducible repeat (first | refine blk_drewN ?_ _ | refine blk_drew ?_ | refine blk_alloc ?_ _)); exact BK268.out⟩, ⟨by (with_reducible repeat (first | refine blk_drewN ?_ _ | refine blk_drew ?_ | refine blk_alloc ?_ _)); exact BK269.out⟩, ⟨by repeat (first | (with_reducible first | exact HB.out | apply below_alloc | apply pw_below_drewN | apply below_drew1 | refine below_set ?_ GE267.out | refine below_set ?_ GE268.out | refine below_set ?_ GE269.out) | exact HB.out)⟩⟩
   ·
    replace c16 := Bool.eq_false_iff.mpr c16
    subst c16
    have H1 : (if a2_0 < (-32768) then (compositorlaw04_RectShifts.j0 k a2_0 a2_1 true a0_0 a0_1 a0_2 a0_3 a1_0 a1_1 a1_2 a1_3) else (if a2_0 > 32768 then (compositorlaw04_RectShifts.j0 k a2_0 a2_1 true a0_0 a0_1 a0_2 a0_3 a1_0 a1_1 a1_2 a1_3) else (if a2_1 < (-32768) then (compositorlaw04_RectShifts.j0 k a2_0 a2_1 true a0_0 a0_1 a0_2 a0_3 a1_0 a1_1 a1_2 a1_3) else (compositorlaw04_RectShifts.j0 k a2_0 a2_1 (decide (a2_1 > 32768)) a0_0 a0_1 a0_2 a0_3 a1_0 a1_1 a1_2 a1_3)))) = some true := by rw [if_neg (show ¬ (false = true) by decide)] at H; exact H
    clear H
    have H := H1
    clear H1
    by_cases c24 : a2_0 < (-32768)
    ·
     rw [if_pos c24] at H
     have c24b0 : decide (a2_0 < (-32768)) = true := decide_eq_true c24
     clear c24
     (first | rw [c24b0] | (simp only [i64_w, i32_w]; rw [c24b0]) | skip)
     have H' := Aside0.mk H
     clear H
     have hnb25 := NB267_268.out
     have hnc25 := NB268_267.out
     have hnb26 := NB267_269.out
     have hnc26 := NB269_267.out
     have hcz27_0 : w8.cell? ⟨gb267, 0, none⟩ = some (.int .i64 a0_0) := (blk_cell BK267.out 0).trans rfl
     have hcz27_1 : w8.cell? ⟨gb267, 1, none⟩ = some (.int .i64 a0_1) := (blk_cell BK267.out 1).trans rfl
     have hcz27_2 : w8.cell? ⟨gb267, 2, none⟩ = some (.int .i64 a0_2) := (blk_cell BK267.out 2).trans rfl
     have hcz27_3 : w8.cell? ⟨gb267, 3, none⟩ = some (.int .i64 a0_3) := (blk_cell BK267.out 3).trans rfl
     have hfz27_0 := blk_frozen BK267.out 0
     have hfz27_1 := blk_frozen BK267.out 1
     have hfz27_2 := blk_frozen BK267.out 2
     have hfz27_3 := blk_frozen BK267.out 3
     go_wp2_with (first | ((with_reducible refine gate_callee (f := 16) rfl ?_); refine goesL_ (some 17) rfl rfl Try.func16 (by kernel_rfl) rfl #[.agg #[.int .i64 a0_0, .int .i64 a0_1, .int .i64 a0_2, .int .i64 a0_3]] rfl (by (try simp only [List.map_toArray, List.map_cons, List.map_nil]); first | done | rfl | (simp only [List.length_drop, List.length_take]; rfl)) ?_; (with_reducible refine (rect_Empty.calls a0_0 a0_1 a0_2 a0_3 false _ A9.out).mono ?_); rintro e w28 ⟨rfl, hb⟩; refine ⟨_, rfl, ?_⟩; have n0_ := YtloojhnohofonaaSq.bb BK267 hb; have n1_ := YtloojhnohofonaaSq.bb BK268 hb; have n2_ := YtloojhnohofonaaSq.bb BK269 hb; have n3_ := Aside0.mk (below_step (by repeat (first | (with_reducible first | exact HB.out | apply below_alloc | apply pw_below_drewN | apply below_drew1 | refine below_set ?_ GE267.out | refine below_set ?_ GE268.out | refine below_set ?_ GE269.out) | exact HB.out)) hb); clear BK267; clear BK268; clear BK269; clear HB; have BK267 := n0_; have BK268 := n1_; have BK269 := n2_; have HB := n3_; clear n0_ n1_ n2_ n3_; (try clear hb); (try clear hb2); (try clear hk); (try clear hi); have hnb29 := NB268_269.out; have hnc29 := NB269_268.out; have hcz30_0 : w28.cell? ⟨gb268, 0, none⟩ = some (.int .i64 a1_0) := (blk_cell BK268.out 0).trans rfl; have hcz30_1 : w28.cell? ⟨gb268, 1, none⟩ = some (.int .i64 a1_1) := (blk_cell BK268.out 1).trans rfl; have hcz30_2 : w28.cell? ⟨gb268, 2, none⟩ = some (.int .i64 a1_2) := (blk_cell BK268.out 2).trans rfl; have hcz30_3 : w28.cell? ⟨gb268, 3, none⟩ = some (.int .i64 a1_3) := (blk_cell BK268.out 3).trans rfl; have hfz30_0 := blk_frozen BK268.out 0; have hfz30_1 := blk_frozen BK268.out 1; have hfz30_2 := blk_frozen BK268.out 2; have hfz30_3 := blk_frozen BK268.out 3) | (go_at_call 16; (with_reducible refine (rect_Empty.calls a1_0 a1_1 a1_2 a1_3 false _ A15.out).mono ?_); rintro e w31 ⟨rfl, hb⟩; have n0_ := YtloojhnohofonaaSq.bb BK267 hb; have n1_ := YtloojhnohofonaaSq.bb BK268 hb; have n2_ := YtloojhnohofonaaSq.bb BK269 hb; have n3_ := Aside0.mk (below_step (by repeat (first | (with_reducible first | exact HB.out | apply below_alloc | apply pw_below_drewN | apply below_drew1 | refine below_set ?_ GE267.out | refine below_set ?_ GE268.out | refine below_set ?_ GE269.out) | exact HB.out)) hb); clear BK267; clear BK268; clear BK269; clear HB; have BK267 := n0_; have BK268 := n1_; have BK269 := n2_; have HB := n3_; clear n0_ n1_ n2_ n3_; (try clear hb); (try clear hb2); (try clear hk); (try clear hi)))
     go_meet
     case rel => exact ⟨_, (true), (by first | rfl | (simp; done) | (simp [*]; done)), H', ⟨by first | omega | exact Nat.le_refl _⟩, ⟨by (with_reducible repeat (first | refine blk_drewN ?_ _ | refine blk_drew ?_ | refine blk_alloc ?_ _)); exact BK267.out⟩, ⟨by (with_reducible repeat (first | refine blk_drewN ?_ _ | refine blk_drew ?_ | refine blk_alloc ?_ _)); exact BK268.out⟩, ⟨by (with_reducible repeat (first | refine blk_drewN ?_ _ | refine blk_drew ?_ | refine blk_alloc ?_ _)); exact BK269.out⟩, ⟨by repeat (first | (with_reducible first | exact HB.out | apply below_alloc | apply pw_below_drewN | apply below_drew1 | refine below_set ?_ GE267.out | refine below_set ?_ GE268.out | refine below_set ?_ GE269.out) | exact HB.out)⟩⟩
    ·
     rw [if_neg c24] at H
     have c24b0 : decide (a2_0 < (-32768)) = false := decide_eq_false c24
     clear c24
     (first | rw [c24b0] | (simp only [i64_w, i32_w]; rw [c24b0]) | skip)
     by_cases c32 : a2_0 > 32768
     ·
      rw [if_pos c32] at H
      have c32b0 : decide (32768 < a2_0) = true := decide_eq_true c32
      clear c32
      have H' := Aside0.mk H
      clear H
      have hnb33 := NB267_268.out
      have hnc33 := NB268_267.out
      have hnb34 := NB267_269.out
      have hnc34 := NB269_267.out
      have hcz35_0 : w8.cell? ⟨gb267, 0, none⟩ = some (.int .i64 a0_0) := (blk_cell BK267.out 0).trans rfl
      have hcz35_1 : w8.cell? ⟨gb267, 1, none⟩ = some (.int .i64 a0_1) := (blk_cell BK267.out 1).trans rfl
      have hcz35_2 : w8.cell? ⟨gb267, 2, none⟩ = some (.int .i64 a0_2) := (blk_cell BK267.out 2).trans rfl
      have hcz35_3 : w8.cell? ⟨gb267, 3, none⟩ = some (.int .i64 a0_3) := (blk_cell BK267.out 3).trans rfl
      have hfz35_0 := blk_frozen BK267.out 0
      have hfz35_1 := blk_frozen BK267.out 1
      have hfz35_2 := blk_frozen BK267.out 2
      have hfz35_3 := blk_frozen BK267.out 3
      go_wp2_with (first | ((with_reducible refine gate_callee (f := 16) rfl ?_); refine goesL_ (some 17) rfl rfl Try.func16 (by kernel_rfl) rfl #[.agg #[.int .i64 a0_0, .int .i64 a0_1, .int .i64 a0_2, .int .i64 a0_3]] rfl (by (try simp only [List.map_toArray, List.map_cons, List.map_nil]); first | done | rfl | (simp only [List.length_drop, List.length_take]; rfl)) ?_; (with_reducible refine (rect_Empty.calls a0_0 a0_1 a0_2 a0_3 false _ A9.out).mono ?_); rintro e w36 ⟨rfl, hb⟩; refine ⟨_, rfl, ?_⟩; have n0_ := YtloojhnohofonaaSq.bb BK267 hb; have n1_ := YtloojhnohofonaaSq.bb BK268 hb; have n2_ := YtloojhnohofonaaSq.bb BK269 hb; have n3_ := Aside0.mk (below_step (by repeat (first | (with_reducible first | exact HB.out | apply below_alloc | apply pw_below_drewN | apply below_drew1 | refine below_set ?_ GE267.out | refine below_set ?_ GE268.out | refine below_set ?_ GE269.out) | exact HB.out)) hb); clear BK267; clear BK268; clear BK269; clear HB; have BK267 := n0_; have BK268 := n1_; have BK269 := n2_; have HB := n3_; clear n0_ n1_ n2_ n3_; (try clear hb); (try clear hb2); (try clear hk); (try clear hi); have hnb37 := NB268_269.out; have hnc37 := NB269_268.out; have hcz38_0 : w36.cell? ⟨gb268, 0, none⟩ = some (.int .i64 a1_0) := (blk_cell BK268.out 0).trans rfl; have hcz38_1 : w36.cell? ⟨gb268, 1, none⟩ = some (.int .i64 a1_1) := (blk_cell BK268.out 1).trans rfl; have hcz38_2 : w36.cell? ⟨gb268, 2, none⟩ = some (.int .i64 a1_2) := (blk_cell BK268.out 2).trans rfl; have hcz38_3 : w36.cell? ⟨gb268, 3, none⟩ = some (.int .i64 a1_3) := (blk_cell BK268.out 3).trans rfl; have hfz38_0 := blk_frozen BK268.out 0; have hfz38_1 := blk_frozen BK268.out 1; have hfz38_2 := blk_frozen BK268.out 2; have hfz38_3 := blk_frozen BK268.out 3) | (go_at_call 16; (with_reducible refine (rect_Empty.calls a1_0 a1_1 a1_2 a1_3 false _ A15.out).mono ?_); rintro e w39 ⟨rfl, hb⟩; have n0_ := YtloojhnohofonaaSq.bb BK267 hb; have n1_ := YtloojhnohofonaaSq.bb BK268 hb; have n2_ := YtloojhnohofonaaSq.bb BK269 hb; have n3_ := Aside0.mk (below_step (by repeat (first | (with_reducible first | exact HB.out | apply below_alloc | apply pw_below_drewN | apply below_drew1 | refine below_set ?_ GE267.out | refine below_set ?_ GE268.out | refine below_set ?_ GE269.out) | exact HB.out)) hb); clear BK267; clear BK268; clear BK269; clear HB; have BK267 := n0_; have BK268 := n1_; have BK269 := n2_; have HB := n3_; clear n0_ n1_ n2_ n3_; (try clear hb); (try clear hb2); (try clear hk); (try clear hi)))
      go_meet
      case rel => exact ⟨_, (true), (by first | rfl | (simp; done) | (simp [*]; done)), H', ⟨by first | omega | exact Nat.le_refl _⟩, ⟨by (with_reducible repeat (first | refine blk_drewN ?_ _ | refine blk_drew ?_ | refine blk_alloc ?_ _)); exact BK267.out⟩, ⟨by (with_reducible repeat (first | refine blk_drewN ?_ _ | refine blk_drew ?_ | refine blk_alloc ?_ _)); exact BK268.out⟩, ⟨by (with_reducible repeat (first | refine blk_drewN ?_ _ | refine blk_drew ?_ | refine blk_alloc ?_ _)); exact BK269.out⟩, ⟨by repeat (first | (with_reducible first | exact HB.out | apply below_alloc | apply pw_below_drewN | apply below_drew1 | refine below_set ?_ GE267.out | refine below_set ?_ GE268.out | refine below_set ?_ GE269.out) | exact HB.out)⟩⟩
     ·
      rw [if_neg c32] at H
      have c32b0 : decide (32768 < a2_0) = false := decide_eq_false c32
      clear c32
      by_cases c40 : a2_1 < (-32768)
      ·
       rw [if_pos c40] at H
       have c40b0 : decide (a2_1 < (-32768)) = true := decide_eq_true c40
       clear c40
       have H' := Aside0.mk H
       clear H
       have hnb41 := NB267_268.out
       have hnc41 := NB268_267.out
       have hnb42 := NB267_269.out
       have hnc42 := NB269_267.out
       have hcz43_0 : w8.cell? ⟨gb267, 0, none⟩ = some (.int .i64 a0_0) := (blk_cell BK267.out 0).trans rfl
       have hcz43_1 : w8.cell? ⟨gb267, 1, none⟩ = some (.int .i64 a0_1) := (blk_cell BK267.out 1).trans rfl
       have hcz43_2 : w8.cell? ⟨gb267, 2, none⟩ = some (.int .i64 a0_2) := (blk_cell BK267.out 2).trans rfl
       have hcz43_3 : w8.cell? ⟨gb267, 3, none⟩ = some (.int .i64 a0_3) := (blk_cell BK267.out 3).trans rfl
       have hfz43_0 := blk_frozen BK267.out 0
       have hfz43_1 := blk_frozen BK267.out 1
       have hfz43_2 := blk_frozen BK267.out 2
       have hfz43_3 := blk_frozen BK267.out 3
       go_wp2_with (first | ((with_reducible refine gate_callee (f := 16) rfl ?_); refine goesL_ (some 17) rfl rfl Try.func16 (by kernel_rfl) rfl #[.agg #[.int .i64 a0_0, .int .i64 a0_1, .int .i64 a0_2, .int .i64 a0_3]] rfl (by (try simp only [List.map_toArray, List.map_cons, List.map_nil]); first | done | rfl | (simp only [List.length_drop, List.length_take]; rfl)) ?_; (with_reducible refine (rect_Empty.calls a0_0 a0_1 a0_2 a0_3 false _ A9.out).mono ?_); rintro e w44 ⟨rfl, hb⟩; refine ⟨_, rfl, ?_⟩; have n0_ := YtloojhnohofonaaSq.bb BK267 hb; have n1_ := YtloojhnohofonaaSq.bb BK268 hb; have n2_ := YtloojhnohofonaaSq.bb BK269 hb; have n3_ := Aside0.mk (below_step (by repeat (first | (with_reducible first | exact HB.out | apply below_alloc | apply pw_below_drewN | apply below_drew1 | refine below_set ?_ GE267.out | refine below_set ?_ GE268.out | refine below_set ?_ GE269.out) | exact HB.out)) hb); clear BK267; clear BK268; clear BK269; clear HB; have BK267 := n0_; have BK268 := n1_; have BK269 := n2_; have HB := n3_; clear n0_ n1_ n2_ n3_; (try clear hb); (try clear hb2); (try clear hk); (try clear hi); have hnb45 := NB268_269.out; have hnc45 := NB269_268.out; have hcz46_0 : w44.cell? ⟨gb268, 0, none⟩ = some (.int .i64 a1_0) := (blk_cell BK268.out 0).trans rfl; have hcz46_1 : w44.cell? ⟨gb268, 1, none⟩ = some (.int .i64 a1_1) := (blk_cell BK268.out 1).trans rfl; have hcz46_2 : w44.cell? ⟨gb268, 2, none⟩ = some (.int .i64 a1_2) := (blk_cell BK268.out 2).trans rfl; have hcz46_3 : w44.cell? ⟨gb268, 3, none⟩ = some (.int .i64 a1_3) := (blk_cell BK268.out 3).trans rfl; have hfz46_0 := blk_frozen BK268.out 0; have hfz46_1 := blk_frozen BK268.out 1; have hfz46_2 := blk_frozen BK268.out 2; have hfz46_3 := blk_frozen BK268.out 3) | (go_at_call 16; (with_reducible refine (rect_Empty.calls a1_0 a1_1 a1_2 a1_3 false _ A15.out).mono ?_); rintro e w47 ⟨rfl, hb⟩; have n0_ := YtloojhnohofonaaSq.bb BK267 hb; have n1_ := YtloojhnohofonaaSq.bb BK268 hb; have n2_ := YtloojhnohofonaaSq.bb BK269 hb; have n3_ := Aside0.mk (below_step (by repeat (first | (with_reducible first | exact HB.out | apply below_alloc | apply pw_below_drewN | apply below_drew1 | refine below_set ?_ GE267.out | refine below_set ?_ GE268.out | refine below_set ?_ GE269.out) | exact HB.out)) hb); clear BK267; clear BK268; clear BK269; clear HB; have BK267 := n0_; have BK268 := n1_; have BK269 := n2_; have HB := n3_; clear n0_ n1_ n2_ n3_; (try clear hb); (try clear hb2); (try clear hk); (try clear hi)))
       go_meet
       case rel => exact ⟨_, (true), (by first | rfl | (simp; done) | (simp [*]; done)), H', ⟨by first | omega | exact Nat.le_refl _⟩, ⟨by (with_reducible repeat (first | refine blk_drewN ?_ _ | refine blk_drew ?_ | refine blk_alloc ?_ _)); exact BK267.out⟩, ⟨by (with_reducible repeat (first | refine blk_drewN ?_ _ | refine blk_drew ?_ | refine blk_alloc ?_ _)); exact BK268.out⟩, ⟨by (with_reducible repeat (first | refine blk_drewN ?_ _ | refine blk_drew ?_ | refine blk_alloc ?_ _)); exact BK269.out⟩, ⟨by repeat (first | (with_reducible first | exact HB.out | apply below_alloc | apply pw_below_drewN | apply below_drew1 | refine below_set ?_ GE267.out | refine below_set ?_ GE268.out | refine below_set ?_ GE269.out) | exact HB.out)⟩⟩
      ·
       rw [if_neg c40] at H
       have c40b0 : decide (a2_1 < (-32768)) = false := decide_eq_false c40
       clear c40
       have H' := Aside0.mk H
       clear H
       have hnb48 := NB267_268.out
       have hnc48 := NB268_267.out
       have hnb49 := NB267_269.out
       have hnc49 := NB269_267.out
       have hcz50_0 : w8.cell? ⟨gb267, 0, none⟩ = some (.int .i64 a0_0) := (blk_cell BK267.out 0).trans rfl
       have hcz50_1 : w8.cell? ⟨gb267, 1, none⟩ = some (.int .i64 a0_1) := (blk_cell BK267.out 1).trans rfl
       have hcz50_2 : w8.cell? ⟨gb267, 2, none⟩ = some (.int .i64 a0_2) := (blk_cell BK267.out 2).trans rfl
       have hcz50_3 : w8.cell? ⟨gb267, 3, none⟩ = some (.int .i64 a0_3) := (blk_cell BK267.out 3).trans rfl
       have hfz50_0 := blk_frozen BK267.out 0
       have hfz50_1 := blk_frozen BK267.out 1
       have hfz50_2 := blk_frozen BK267.out 2
       have hfz50_3 := blk_frozen BK267.out 3
       go_wp2_with (first | ((with_reducible refine gate_callee (f := 16) rfl ?_); refine goesL_ (some 17) rfl rfl Try.func16 (by kernel_rfl) rfl #[.agg #[.int .i64 a0_0, .int .i64 a0_1, .int .i64 a0_2, .int .i64 a0_3]] rfl (by (try simp only [List.map_toArray, List.map_cons, List.map_nil]); first | done | rfl | (simp only [List.length_drop, List.length_take]; rfl)) ?_; (with_reducible refine (rect_Empty.calls a0_0 a0_1 a0_2 a0_3 false _ A9.out).mono ?_); rintro e w51 ⟨rfl, hb⟩; refine ⟨_, rfl, ?_⟩; have n0_ := YtloojhnohofonaaSq.bb BK267 hb; have n1_ := YtloojhnohofonaaSq.bb BK268 hb; have n2_ := YtloojhnohofonaaSq.bb BK269 hb; have n3_ := Aside0.mk (below_step (by repeat (first | (with_reducible first | exact HB.out | apply below_alloc | apply pw_below_drewN | apply below_drew1 | refine below_set ?_ GE267.out | refine below_set ?_ GE268.out | refine below_set ?_ GE269.out) | exact HB.out)) hb); clear BK267; clear BK268; clear BK269; clear HB; have BK267 := n0_; have BK268 := n1_; have BK269 := n2_; have HB := n3_; clear n0_ n1_ n2_ n3_; (try clear hb); (try clear hb2); (try clear hk); (try clear hi); have hnb52 := NB268_269.out; have hnc52 := NB269_268.out; have hcz53_0 : w51.cell? ⟨gb268, 0, none⟩ = some (.int .i64 a1_0) := (blk_cell BK268.out 0).trans rfl; have hcz53_1 : w51.cell? ⟨gb268, 1, none⟩ = some (.int .i64 a1_1) := (blk_cell BK268.out 1).trans rfl; have hcz53_2 : w51.cell? ⟨gb268, 2, none⟩ = some (.int .i64 a1_2) := (blk_cell BK268.out 2).trans rfl; have hcz53_3 : w51.cell? ⟨gb268, 3, none⟩ = some (.int .i64 a1_3) := (blk_cell BK268.out 3).trans rfl; have hfz53_0 := blk_frozen BK268.out 0; have hfz53_1 := blk_frozen BK268.out 1; have hfz53_2 := blk_frozen BK268.out 2; have hfz53_3 := blk_frozen BK268.out 3) | (go_at_call 16; (with_reducible refine (rect_Empty.calls a1_0 a1_1 a1_2 a1_3 false _ A15.out).mono ?_); rintro e w54 ⟨rfl, hb⟩; have n0_ := YtloojhnohofonaaSq.bb BK267 hb; have n1_ := YtloojhnohofonaaSq.bb BK268 hb; have n2_ := YtloojhnohofonaaSq.bb BK269 hb; have n3_ := Aside0.mk (below_step (by repeat (first | (with_reducible first | exact HB.out | apply below_alloc | apply pw_below_drewN | apply below_drew1 | refine below_set ?_ GE267.out | refine below_set ?_ GE268.out | refine below_set ?_ GE269.out) | exact HB.out)) hb); clear BK267; clear BK268; clear BK269; clear HB; have BK267 := n0_; have BK268 := n1_; have BK269 := n2_; have HB := n3_; clear n0_ n1_ n2_ n3_; (try clear hb); (try clear hb2); (try clear hk); (try clear hi)))
       go_meet
       case rel => exact ⟨_, (decide (a2_1 > 32768)), (by first | rfl | (simp; done) | (simp [*]; done)), H', ⟨by first | omega | exact Nat.le_refl _⟩, ⟨by (with_reducible repeat (first | refine blk_drewN ?_ _ | refine blk_drew ?_ | refine blk_alloc ?_ _)); exact BK267.out⟩, ⟨by (with_reducible repeat (first | refine blk_drewN ?_ _ | refine blk_drew ?_ | refine blk_alloc ?_ _)); exact BK268.out⟩, ⟨by (with_reducible repeat (first | refine blk_drewN ?_ _ | refine blk_drew ?_ | refine blk_alloc ?_ _)); exact BK269.out⟩, ⟨by repeat (first | (with_reducible first | exact HB.out | apply below_alloc | apply pw_below_drewN | apply below_drew1 | refine below_set ?_ GE267.out | refine below_set ?_ GE268.out | refine below_set ?_ GE269.out) | exact HB.out)⟩⟩
 case rest =>
  clear HC4
  try clear c1
  try clear c2
  try clear p2
  try clear c3
  try clear c4
  try clear c5
  try clear c10
  try clear c11
  try clear c12
  try clear c16
  try clear c17
  try clear c18
  try clear c21
  try clear c24
  try clear c24b0
  try clear c25
  try clear c26
  try clear c29
  try clear c32
  try clear c32b0
  try clear c33
  try clear c34
  try clear c37
  try clear c40
  try clear c40b0
  try clear c41
  try clear c42
  try clear c45
  try clear c48
  try clear c49
  try clear c52
  try clear hcz13_0
  try clear hcz13_1
  try clear hcz13_2
  try clear hcz13_3
  try clear hcz19_0
  try clear hcz19_1
  try clear hcz19_2
  try clear hcz19_3
  try clear hcz22_0
  try clear hcz22_1
  try clear hcz22_2
  try clear hcz22_3
  try clear hcz27_0
  try clear hcz27_1
  try clear hcz27_2
  try clear hcz27_3
  try clear hcz30_0
  try clear hcz30_1
  try clear hcz30_2
  try clear hcz30_3
  try clear hcz35_0
  try clear hcz35_1
  try clear hcz35_2
  try clear hcz35_3
  try clear hcz38_0
  try clear hcz38_1
  try clear hcz38_2
  try clear hcz38_3
  try clear hcz43_0
  try clear hcz43_1
  try clear hcz43_2
  try clear hcz43_3
  try clear hcz46_0
  try clear hcz46_1
  try clear hcz46_2
  try clear hcz46_3
  try clear hcz50_0
  try clear hcz50_1
  try clear hcz50_2
  try clear hcz50_3
  try clear hcz53_0
  try clear hcz53_1
  try clear hcz53_2
  try clear hcz53_3
  try clear hfz13_0
  try clear hfz13_1
  try clear hfz13_2
  try clear hfz13_3
  try clear hfz19_0
  try clear hfz19_1
  try clear hfz19_2
  try clear hfz19_3
  try clear hfz22_0
  try clear hfz22_1
  try clear hfz22_2
  try clear hfz22_3
  try clear hfz27_0
  try clear hfz27_1
  try clear hfz27_2
  try clear hfz27_3
  try clear hfz30_0
  try clear hfz30_1
  try clear hfz30_2
  try clear hfz30_3
  try clear hfz35_0
  try clear hfz35_1
  try clear hfz35_2
  try clear hfz35_3
  try clear hfz38_0
  try clear hfz38_1
  try clear hfz38_2
  try clear hfz38_3
  try clear hfz43_0
  try clear hfz43_1
  try clear hfz43_2
  try clear hfz43_3
  try clear hfz46_0
  try clear hfz46_1
  try clear hfz46_2
  try clear hfz46_3
  try clear hfz50_0
  try clear hfz50_1
  try clear hfz50_2
  try clear hfz50_3
  try clear hfz53_0
  try clear hfz53_1
  try clear hfz53_2
  try clear hfz53_3
  obtain ⟨kq, x37_3, rfl, HA, HJ3, BK267, BK268, BK269, HB⟩ := hcut
  cases kq with
  | zero => exact absurd HA.out (by simp [compositorlaw04_RectShifts.j0])
  | succ kj3 =>
   have H := HA.out
   clear HA
   simp only [compositorlaw04_RectShifts.j0] at H
   by_cases c55 : x37_3 = true
   ·
    subst c55
    have H1 : ((compositorlaw04_exampleHolds.f kj3).bind fun t272 => (some t272)) = some true := by rw [if_pos rfl] at H; exact H
    clear H
    have H := H1
    clear H1
    replace H := Option.bind_eq_some_iff.mp H
    obtain ⟨t272, A560, H⟩ := H
    replace H : (some t272) = some true := H
    have A56 := Aside0.mk A560
    clear A560
    have Hq_ := Option.some.inj H
    go_wp2_with (first | ((with_reducible refine gate_callee (f := 15) rfl ?_); refine goesL_ (some 38) rfl rfl Try.func15 (by kernel_rfl) rfl #[] rfl (by (try simp only [List.map_toArray, List.map_cons, List.map_nil]); first | done | rfl | (simp only [List.length_drop, List.length_take]; rfl)) ?_; (with_reducible refine (compositorlaw04_exampleHolds.calls kj3  t272 _ A56.out).mono ?_); rintro e w57 ⟨rfl, hb⟩; refine ⟨_, rfl, ?_⟩; have n0_ := YtloojhnohofonaaSq.bb BK267 hb; have n1_ := YtloojhnohofonaaSq.bb BK268 hb; have n2_ := YtloojhnohofonaaSq.bb BK269 hb; have n3_ := Aside0.mk (below_step (by repeat (first | (with_reducible first | exact HB.out | apply below_alloc | apply pw_below_drewN | apply below_drew1 | refine below_set ?_ GE267.out | refine below_set ?_ GE268.out | refine below_set ?_ GE269.out) | exact HB.out)) hb); clear BK267; clear BK268; clear BK269; clear HB; have BK267 := n0_; have BK268 := n1_; have BK269 := n2_; have HB := n3_; clear n0_ n1_ n2_ n3_; (try clear hb); (try clear hb2); (try clear hk); (try clear hi)))
    go_ret
    exact ⟨by first | rfl | (simp [errW_none, errW_some] <;> rfl) | (simp [*, errW_none, errW_some] <;> rfl), by repeat (first | (with_reducible first | exact HB.out | apply below_alloc | apply pw_below_drewN | apply below_drew1 | refine below_set ?_ GE267.out | refine below_set ?_ GE268.out | refine below_set ?_ GE269.out) | exact HB.out)⟩
   ·
    replace c55 := Bool.eq_false_iff.mpr c55
    subst c55
    have H1 : ((rect_Union.f a0_0 a0_1 a0_2 a0_3 a1_0 a1_1 a1_2 a1_3).bind fun bt273 => ((compositorlaw04_box.f (wrap64 (bt273.1 + a2_0)) (wrap64 (bt273.2.1 + a2_1)) (wrap64 (bt273.2.2.1 + a2_0)) (wrap64 (bt273.2.2.2 + a2_1))).bind fun bt278 => ((rect_Valid.f bt278.1 bt278.2.1 bt278.2.2.1 bt278.2.2.2).bind fun t282 => (if t282 = true then ((rect_Translate.f a0_0 a0_1 a0_2 a0_3 a2_0 a2_1).bind fun bt284 => ((rect_Translate.f a1_0 a1_1 a1_2 a1_3 a2_0 a2_1).bind fun bt288 => ((rect_Translate.f bt284.1 bt284.2.1 bt284.2.2.1 bt284.2.2.2 (wrap64 (-a2_0)) (wrap64 (-a2_1))).bind fun bt294 => (if (bt294.1 == a0_0 && (bt294.2.1 == a0_1 && (bt294.2.2.1 == a0_2 && (bt294.2.2.2 == a0_3)))) = true then ((rect_Area.f bt284.1 bt284.2.1 bt284.2.2.1 bt284.2.2.2).bind fun t298 => ((rect_Area.f a0_0 a0_1 a0_2 a0_3).bind fun t299 => (if t298 = t299 then ((rect_Intersect.f bt284.1 bt284.2.1 bt284.2.2.1 bt284.2.2.2 bt288.1 bt288.2.1 bt288.2.2.1 bt288.2.2.2).bind fun bt300 => ((rect_Intersect.f a0_0 a0_1 a0_2 a0_3 a1_0 a1_1 a1_2 a1_3).bind fun bt304 => ((rect_Translate.f bt304.1 bt304.2.1 bt304.2.2.1 bt304.2.2.2 a2_0 a2_1).bind fun bt308 => (if (bt300.1 == bt308.1 && (bt300.2.1 == bt308.2.1 && (bt300.2.2.1 == bt308.2.2.1 && (bt300.2.2.2 == bt308.2.2.2)))) = true then ((compositorlaw04_exampleHolds.f kj3).bind fun t312 => (some t312)) else (some false))))) else (some false)))) else (some false))))) else ((compositorlaw04_exampleHolds.f kj3).bind fun t283 => (some t283)))))) = some true := by rw [if_neg (show ¬ (false = true) by decide)] at H; exact H
    clear H
    have H := H1
    clear H1
    replace H := Option.bind_eq_some_iff.mp H
    obtain ⟨⟨t273, t274, t275, t276⟩, A580, H⟩ := H
    replace H : ((compositorlaw04_box.f (wrap64 (t273 + a2_0)) (wrap64 (t274 + a2_1)) (wrap64 (t275 + a2_0)) (wrap64 (t276 + a2_1))).bind fun bt278 => ((rect_Valid.f bt278.1 bt278.2.1 bt278.2.2.1 bt278.2.2.2).bind fun t282 => (if t282 = true then ((rect_Translate.f a0_0 a0_1 a0_2 a0_3 a2_0 a2_1).bind fun bt284 => ((rect_Translate.f a1_0 a1_1 a1_2 a1_3 a2_0 a2_1).bind fun bt288 => ((rect_Translate.f bt284.1 bt284.2.1 bt284.2.2.1 bt284.2.2.2 (wrap64 (-a2_0)) (wrap64 (-a2_1))).bind fun bt294 => (if (bt294.1 == a0_0 && (bt294.2.1 == a0_1 && (bt294.2.2.1 == a0_2 && (bt294.2.2.2 == a0_3)))) = true then ((rect_Area.f bt284.1 bt284.2.1 bt284.2.2.1 bt284.2.2.2).bind fun t298 => ((rect_Area.f a0_0 a0_1 a0_2 a0_3).bind fun t299 => (if t298 = t299 then ((rect_Intersect.f bt284.1 bt284.2.1 bt284.2.2.1 bt284.2.2.2 bt288.1 bt288.2.1 bt288.2.2.1 bt288.2.2.2).bind fun bt300 => ((rect_Intersect.f a0_0 a0_1 a0_2 a0_3 a1_0 a1_1 a1_2 a1_3).bind fun bt304 => ((rect_Translate.f bt304.1 bt304.2.1 bt304.2.2.1 bt304.2.2.2 a2_0 a2_1).bind fun bt308 => (if (bt300.1 == bt308.1 && (bt300.2.1 == bt308.2.1 && (bt300.2.2.1 == bt308.2.2.1 && (bt300.2.2.2 == bt308.2.2.2)))) = true then ((compositorlaw04_exampleHolds.f kj3).bind fun t312 => (some t312)) else (some false))))) else (some false)))) else (some false))))) else ((compositorlaw04_exampleHolds.f kj3).bind fun t283 => (some t283))))) = some true := H
    have A58 := Aside0.mk A580
    clear A580
    replace H := Option.bind_eq_some_iff.mp H
    obtain ⟨⟨t278, t279, t280, t281⟩, A590, H⟩ := H
    replace H : ((rect_Valid.f t278 t279 t280 t281).bind fun t282 => (if t282 = true then ((rect_Translate.f a0_0 a0_1 a0_2 a0_3 a2_0 a2_1).bind fun bt284 => ((rect_Translate.f a1_0 a1_1 a1_2 a1_3 a2_0 a2_1).bind fun bt288 => ((rect_Translate.f bt284.1 bt284.2.1 bt284.2.2.1 bt284.2.2.2 (wrap64 (-a2_0)) (wrap64 (-a2_1))).bind fun bt294 => (if (bt294.1 == a0_0 && (bt294.2.1 == a0_1 && (bt294.2.2.1 == a0_2 && (bt294.2.2.2 == a0_3)))) = true then ((rect_Area.f bt284.1 bt284.2.1 bt284.2.2.1 bt284.2.2.2).bind fun t298 => ((rect_Area.f a0_0 a0_1 a0_2 a0_3).bind fun t299 => (if t298 = t299 then ((rect_Intersect.f bt284.1 bt284.2.1 bt284.2.2.1 bt284.2.2.2 bt288.1 bt288.2.1 bt288.2.2.1 bt288.2.2.2).bind fun bt300 => ((rect_Intersect.f a0_0 a0_1 a0_2 a0_3 a1_0 a1_1 a1_2 a1_3).bind fun bt304 => ((rect_Translate.f bt304.1 bt304.2.1 bt304.2.2.1 bt304.2.2.2 a2_0 a2_1).bind fun bt308 => (if (bt300.1 == bt308.1 && (bt300.2.1 == bt308.2.1 && (bt300.2.2.1 == bt308.2.2.1 && (bt300.2.2.2 == bt308.2.2.2)))) = true then ((compositorlaw04_exampleHolds.f kj3).bind fun t312 => (some t312)) else (some false))))) else (some false)))) else (some false))))) else ((compositorlaw04_exampleHolds.f kj3).bind fun t283 => (some t283)))) = some true := H
    have A59 := Aside0.mk A590
    clear A590
    replace H := Option.bind_eq_some_iff.mp H
    obtain ⟨t282, A600, H⟩ := H
    replace H : (if t282 = true then ((rect_Translate.f a0_0 a0_1 a0_2 a0_3 a2_0 a2_1).bind fun bt284 => ((rect_Translate.f a1_0 a1_1 a1_2 a1_3 a2_0 a2_1).bind fun bt288 => ((rect_Translate.f bt284.1 bt284.2.1 bt284.2.2.1 bt284.2.2.2 (wrap64 (-a2_0)) (wrap64 (-a2_1))).bind fun bt294 => (if (bt294.1 == a0_0 && (bt294.2.1 == a0_1 && (bt294.2.2.1 == a0_2 && (bt294.2.2.2 == a0_3)))) = true then ((rect_Area.f bt284.1 bt284.2.1 bt284.2.2.1 bt284.2.2.2).bind fun t298 => ((rect_Area.f a0_0 a0_1 a0_2 a0_3).bind fun t299 => (if t298 = t299 then ((rect_Intersect.f bt284.1 bt284.2.1 bt284.2.2.1 bt284.2.2.2 bt288.1 bt288.2.1 bt288.2.2.1 bt288.2.2.2).bind fun bt300 => ((rect_Intersect.f a0_0 a0_1 a0_2 a0_3 a1_0 a1_1 a1_2 a1_3).bind fun bt304 => ((rect_Translate.f bt304.1 bt304.2.1 bt304.2.2.1 bt304.2.2.2 a2_0 a2_1).bind fun bt308 => (if (bt300.1 == bt308.1 && (bt300.2.1 == bt308.2.1 && (bt300.2.2.1 == bt308.2.2.1 && (bt300.2.2.2 == bt308.2.2.2)))) = true then ((compositorlaw04_exampleHolds.f kj3).bind fun t312 => (some t312)) else (some false))))) else (some false)))) else (some false))))) else ((compositorlaw04_exampleHolds.f kj3).bind fun t283 => (some t283))) = some true := H
    have A60 := Aside0.mk A600
    clear A600
    by_cases c61 : t282 = true
    ·
     subst c61
     have H1 : ((rect_Translate.f a0_0 a0_1 a0_2 a0_3 a2_0 a2_1).bind fun bt284 => ((rect_Translate.f a1_0 a1_1 a1_2 a1_3 a2_0 a2_1).bind fun bt288 => ((rect_Translate.f bt284.1 bt284.2.1 bt284.2.2.1 bt284.2.2.2 (wrap64 (-a2_0)) (wrap64 (-a2_1))).bind fun bt294 => (if (bt294.1 == a0_0 && (bt294.2.1 == a0_1 && (bt294.2.2.1 == a0_2 && (bt294.2.2.2 == a0_3)))) = true then ((rect_Area.f bt284.1 bt284.2.1 bt284.2.2.1 bt284.2.2.2).bind fun t298 => ((rect_Area.f a0_0 a0_1 a0_2 a0_3).bind fun t299 => (if t298 = t299 then ((rect_Intersect.f bt284.1 bt284.2.1 bt284.2.2.1 bt284.2.2.2 bt288.1 bt288.2.1 bt288.2.2.1 bt288.2.2.2).bind fun bt300 => ((rect_Intersect.f a0_0 a0_1 a0_2 a0_3 a1_0 a1_1 a1_2 a1_3).bind fun bt304 => ((rect_Translate.f bt304.1 bt304.2.1 bt304.2.2.1 bt304.2.2.2 a2_0 a2_1).bind fun bt308 => (if (bt300.1 == bt308.1 && (bt300.2.1 == bt308.2.1 && (bt300.2.2.1 == bt308.2.2.1 && (bt300.2.2.2 == bt308.2.2.2)))) = true then ((compositorlaw04_exampleHolds.f kj3).bind fun t312 => (some t312)) else (some false))))) else (some false)))) else (some false))))) = some true := by rw [if_pos rfl] at H; exact H
     clear H
     have H := H1
     clear H1
     replace H := Option.bind_eq_some_iff.mp H
     obtain ⟨⟨t284, t285, t286, t287⟩, A620, H⟩ := H
     replace H : ((rect_Translate.f a1_0 a1_1 a1_2 a1_3 a2_0 a2_1).bind fun bt288 => ((rect_Translate.f t284 t285 t286 t287 (wrap64 (-a2_0)) (wrap64 (-a2_1))).bind fun bt294 => (if (bt294.1 == a0_0 && (bt294.2.1 == a0_1 && (bt294.2.2.1 == a0_2 && (bt294.2.2.2 == a0_3)))) = true then ((rect_Area.f t284 t285 t286 t287).bind fun t298 => ((rect_Area.f a0_0 a0_1 a0_2 a0_3).bind fun t299 => (if t298 = t299 then ((rect_Intersect.f t284 t285 t286 t287 bt288.1 bt288.2.1 bt288.2.2.1 bt288.2.2.2).bind fun bt300 => ((rect_Intersect.f a0_0 a0_1 a0_2 a0_3 a1_0 a1_1 a1_2 a1_3).bind fun bt304 => ((rect_Translate.f bt304.1 bt304.2.1 bt304.2.2.1 bt304.2.2.2 a2_0 a2_1).bind fun bt308 => (if (bt300.1 == bt308.1 && (bt300.2.1 == bt308.2.1 && (bt300.2.2.1 == bt308.2.2.1 && (bt300.2.2.2 == bt308.2.2.2)))) = true then ((compositorlaw04_exampleHolds.f kj3).bind fun t312 => (some t312)) else (some false))))) else (some false)))) else (some false)))) = some true := H
     have A62 := Aside0.mk A620
     clear A620
     replace H := Option.bind_eq_some_iff.mp H
     obtain ⟨⟨t288, t289, t290, t291⟩, A630, H⟩ := H
     replace H : ((rect_Translate.f t284 t285 t286 t287 (wrap64 (-a2_0)) (wrap64 (-a2_1))).bind fun bt294 => (if (bt294.1 == a0_0 && (bt294.2.1 == a0_1 && (bt294.2.2.1 == a0_2 && (bt294.2.2.2 == a0_3)))) = true then ((rect_Area.f t284 t285 t286 t287).bind fun t298 => ((rect_Area.f a0_0 a0_1 a0_2 a0_3).bind fun t299 => (if t298 = t299 then ((rect_Intersect.f t284 t285 t286 t287 t288 t289 t290 t291).bind fun bt300 => ((rect_Intersect.f a0_0 a0_1 a0_2 a0_3 a1_0 a1_1 a1_2 a1_3).bind fun bt304 => ((rect_Translate.f bt304.1 bt304.2.1 bt304.2.2.1 bt304.2.2.2 a2_0 a2_1).bind fun bt308 => (if (bt300.1 == bt308.1 && (bt300.2.1 == bt308.2.1 && (bt300.2.2.1 == bt308.2.2.1 && (bt300.2.2.2 == bt308.2.2.2)))) = true then ((compositorlaw04_exampleHolds.f kj3).bind fun t312 => (some t312)) else (some false))))) else (some false)))) else (some false))) = some true := H
     have A63 := Aside0.mk A630
     clear A630
     replace H := Option.bind_eq_some_iff.mp H
     obtain ⟨⟨t294, t295, t296, t297⟩, A640, H⟩ := H
     replace H : (if (t294 == a0_0 && (t295 == a0_1 && (t296 == a0_2 && (t297 == a0_3)))) = true then ((rect_Area.f t284 t285 t286 t287).bind fun t298 => ((rect_Area.f a0_0 a0_1 a0_2 a0_3).bind fun t299 => (if t298 = t299 then ((rect_Intersect.f t284 t285 t286 t287 t288 t289 t290 t291).bind fun bt300 => ((rect_Intersect.f a0_0 a0_1 a0_2 a0_3 a1_0 a1_1 a1_2 a1_3).bind fun bt304 => ((rect_Translate.f bt304.1 bt304.2.1 bt304.2.2.1 bt304.2.2.2 a2_0 a2_1).bind fun bt308 => (if (bt300.1 == bt308.1 && (bt300.2.1 == bt308.2.1 && (bt300.2.2.1 == bt308.2.2.1 && (bt300.2.2.2 == bt308.2.2.2)))) = true then ((compositorlaw04_exampleHolds.f kj3).bind fun t312 => (some t312)) else (some false))))) else (some false)))) else (some false)) = some true := H
     have A64 := Aside0.mk A640
     clear A640
     by_cases c65 : (t294 == a0_0 && (t295 == a0_1 && (t296 == a0_2 && (t297 == a0_3)))) = true
     ·
      rw [if_pos c65] at H
      have c65b0 : (t294 == a0_0 && (t295 == a0_1 && (t296 == a0_2 && (t297 == a0_3)))) = true := c65
      (try (have c65b1 : decide (t294 = a0_0 && (t295 == a0_1 && (t296 == a0_2 && (t297 == a0_3)))) = true := by simpa using c65))
      (try (have c65b2 : (t294 == a0_0 && (t295 == a0_1 && (t296 == a0_2 && (t297 == a0_3)))) = true := by simpa using c65))
      clear c65
      replace H := Option.bind_eq_some_iff.mp H
      obtain ⟨t298, A660, H⟩ := H
      replace H : ((rect_Area.f a0_0 a0_1 a0_2 a0_3).bind fun t299 => (if t298 = t299 then ((rect_Intersect.f t284 t285 t286 t287 t288 t289 t290 t291).bind fun bt300 => ((rect_Intersect.f a0_0 a0_1 a0_2 a0_3 a1_0 a1_1 a1_2 a1_3).bind fun bt304 => ((rect_Translate.f bt304.1 bt304.2.1 bt304.2.2.1 bt304.2.2.2 a2_0 a2_1).bind fun bt308 => (if (bt300.1 == bt308.1 && (bt300.2.1 == bt308.2.1 && (bt300.2.2.1 == bt308.2.2.1 && (bt300.2.2.2 == bt308.2.2.2)))) = true then ((compositorlaw04_exampleHolds.f kj3).bind fun t312 => (some t312)) else (some false))))) else (some false))) = some true := H
      have A66 := Aside0.mk A660
      clear A660
      replace H := Option.bind_eq_some_iff.mp H
      obtain ⟨t299, A670, H⟩ := H
      replace H : (if t298 = t299 then ((rect_Intersect.f t284 t285 t286 t287 t288 t289 t290 t291).bind fun bt300 => ((rect_Intersect.f a0_0 a0_1 a0_2 a0_3 a1_0 a1_1 a1_2 a1_3).bind fun bt304 => ((rect_Translate.f bt304.1 bt304.2.1 bt304.2.2.1 bt304.2.2.2 a2_0 a2_1).bind fun bt308 => (if (bt300.1 == bt308.1 && (bt300.2.1 == bt308.2.1 && (bt300.2.2.1 == bt308.2.2.1 && (bt300.2.2.2 == bt308.2.2.2)))) = true then ((compositorlaw04_exampleHolds.f kj3).bind fun t312 => (some t312)) else (some false))))) else (some false)) = some true := H
      have A67 := Aside0.mk A670
      clear A670
      by_cases c68 : t298 = t299
      ·
       rw [if_pos c68] at H
       have c68b0 : (t298 == t299) = true := beq_iff_eq.mpr c68
       have c68b1 : (t298 != t299) = false := bne_eq_false_iff_eq.mpr c68
       clear c68
       replace H := Option.bind_eq_some_iff.mp H
       obtain ⟨⟨t300, t301, t302, t303⟩, A690, H⟩ := H
       replace H : ((rect_Intersect.f a0_0 a0_1 a0_2 a0_3 a1_0 a1_1 a1_2 a1_3).bind fun bt304 => ((rect_Translate.f bt304.1 bt304.2.1 bt304.2.2.1 bt304.2.2.2 a2_0 a2_1).bind fun bt308 => (if (t300 == bt308.1 && (t301 == bt308.2.1 && (t302 == bt308.2.2.1 && (t303 == bt308.2.2.2)))) = true then ((compositorlaw04_exampleHolds.f kj3).bind fun t312 => (some t312)) else (some false)))) = some true := H
       have A69 := Aside0.mk A690
       clear A690
       replace H := Option.bind_eq_some_iff.mp H
       obtain ⟨⟨t304, t305, t306, t307⟩, A700, H⟩ := H
       replace H : ((rect_Translate.f t304 t305 t306 t307 a2_0 a2_1).bind fun bt308 => (if (t300 == bt308.1 && (t301 == bt308.2.1 && (t302 == bt308.2.2.1 && (t303 == bt308.2.2.2)))) = true then ((compositorlaw04_exampleHolds.f kj3).bind fun t312 => (some t312)) else (some false))) = some true := H
       have A70 := Aside0.mk A700
       clear A700
       replace H := Option.bind_eq_some_iff.mp H
       obtain ⟨⟨t308, t309, t310, t311⟩, A710, H⟩ := H
       replace H : (if (t300 == t308 && (t301 == t309 && (t302 == t310 && (t303 == t311)))) = true then ((compositorlaw04_exampleHolds.f kj3).bind fun t312 => (some t312)) else (some false)) = some true := H
       have A71 := Aside0.mk A710
       clear A710
       by_cases c72 : (t300 == t308 && (t301 == t309 && (t302 == t310 && (t303 == t311)))) = true
       ·
        rw [if_pos c72] at H
        have c72b0 : (t300 == t308 && (t301 == t309 && (t302 == t310 && (t303 == t311)))) = true := c72
        (try (have c72b1 : decide (t300 = t308 && (t301 == t309 && (t302 == t310 && (t303 == t311)))) = true := by simpa using c72))
        (try (have c72b2 : (t300 == t308 && (t301 == t309 && (t302 == t310 && (t303 == t311)))) = true := by simpa using c72))
        clear c72
        replace H := Option.bind_eq_some_iff.mp H
        obtain ⟨t312, A730, H⟩ := H
        replace H : (some t312) = some true := H
        have A73 := Aside0.mk A730
        clear A730
        have Hq_ := Option.some.inj H
        have hnb74 := NB267_268.out
        have hnc74 := NB268_267.out
        have hnb75 := NB267_269.out
        have hnc75 := NB269_267.out
        have hcz76_0 : wc.cell? ⟨gb267, 0, none⟩ = some (.int .i64 a0_0) := (blk_cell BK267.out 0).trans rfl
        have hcz76_1 : wc.cell? ⟨gb267, 1, none⟩ = some (.int .i64 a0_1) := (blk_cell BK267.out 1).trans rfl
        have hcz76_2 : wc.cell? ⟨gb267, 2, none⟩ = some (.int .i64 a0_2) := (blk_cell BK267.out 2).trans rfl
        have hcz76_3 : wc.cell? ⟨gb267, 3, none⟩ = some (.int .i64 a0_3) := (blk_cell BK267.out 3).trans rfl
        have hfz76_0 := blk_frozen BK267.out 0
        have hfz76_1 := blk_frozen BK267.out 1
        have hfz76_2 := blk_frozen BK267.out 2
        have hfz76_3 := blk_frozen BK267.out 3
        have hnb77 := NB268_269.out
        have hnc77 := NB269_268.out
        have hcz78_0 : wc.cell? ⟨gb268, 0, none⟩ = some (.int .i64 a1_0) := (blk_cell BK268.out 0).trans rfl
        have hcz78_1 : wc.cell? ⟨gb268, 1, none⟩ = some (.int .i64 a1_1) := (blk_cell BK268.out 1).trans rfl
        have hcz78_2 : wc.cell? ⟨gb268, 2, none⟩ = some (.int .i64 a1_2) := (blk_cell BK268.out 2).trans rfl
        have hcz78_3 : wc.cell? ⟨gb268, 3, none⟩ = some (.int .i64 a1_3) := (blk_cell BK268.out 3).trans rfl
        have hfz78_0 := blk_frozen BK268.out 0
        have hfz78_1 := blk_frozen BK268.out 1
        have hfz78_2 := blk_frozen BK268.out 2
        have hfz78_3 := blk_frozen BK268.out 3
        try go_wp2_with (first | ((with_reducible refine gate_callee (f := 17) rfl ?_); refine goesL_ (some 41) rfl rfl Try.func17 (by kernel_rfl) rfl #[.agg #[.int .i64 a0_0, .int .i64 a0_1, .int .i64 a0_2, .int .i64 a0_3], .agg #[.int .i64 a1_0, .int .i64 a1_1, .int .i64 a1_2, .int .i64 a1_3]] rfl (by (try simp only [List.map_toArray, List.map_cons, List.map_nil]); first | done | rfl | (simp only [List.length_drop, List.length_take]; rfl)) ?_; (with_reducible refine (rect_Union.calls a0_0 a0_1 a0_2 a0_3 a1_0 a1_1 a1_2 a1_3 t273 t274 t275 t276 _ A58.out).mono ?_); rintro e w79 ⟨rfl, hb⟩; refine ⟨_, rfl, ?_⟩; have n0_ := YtloojhnohofonaaSq.bb BK267 hb; have n1_ := YtloojhnohofonaaSq.bb BK268 hb; have n2_ := YtloojhnohofonaaSq.bb BK269 hb; have n3_ := Aside0.mk (below_step (by repeat (first | (with_reducible first | exact HB.out | apply below_alloc | apply pw_below_drewN | apply below_drew1 | refine below_set ?_ GE267.out | refine below_set ?_ GE268.out | refine below_set ?_ GE269.out) | exact HB.out)) hb); clear BK267; clear BK268; clear BK269; clear HB; have BK267 := n0_; have BK268 := n1_; have BK269 := n2_; have HB := n3_; clear n0_ n1_ n2_ n3_; (try clear hb); (try clear hb2); (try clear hk); (try clear hi)) | ((with_reducible refine gate_dst (N := 9) rfl ?_); refine box_event ?hg (N := 9) ?hd (cs := #[.int .i64 0, .int .i64 0, .int .i64 0, .int .i64 0]) (t := 23) ?hr ?_; (case hd => rfl); (case hg => rfl); (case hr => first | (go_simp; done) | (go_simp; rfl)); intro gb277 hg w80 hbox hb; have n0_ := YtloojhnohofonaaSq.bb BK267 hb; have n1_ := YtloojhnohofonaaSq.bb BK268 hb; have n2_ := YtloojhnohofonaaSq.bb BK269 hb; have n3_ := Aside0.mk (below_step (by repeat (first | (with_reducible first | exact HB.out | apply below_alloc | apply pw_below_drewN | apply below_drew1 | refine below_set ?_ GE267.out | refine below_set ?_ GE268.out | refine below_set ?_ GE269.out) | exact HB.out)) hb); have n4_ := Aside0.mk (hbox); have n5_ := Aside0.mk ((by rw [hg]; exact (below_size (by repeat (first | (with_reducible first | exact HB.out | apply below_alloc | apply pw_below_drewN | apply below_drew1 | refine below_set ?_ GE267.out | refine below_set ?_ GE268.out | refine below_set ?_ GE269.out) | exact HB.out))) : w.heap.size ≤ gb277)); have n6_ := Aside0.mk ((by rw [hg]; exact (below_size (by repeat (first | (with_reducible first | exact HB.out | apply below_alloc | apply pw_below_drewN | apply below_drew1 | refine below_set ?_ GE267.out | refine below_set ?_ GE268.out | refine below_set ?_ GE269.out) | exact HB.out))) : w.heap.size ≤ gb277)); have n7_ := Aside0.mk ((by rw [hg]; exact Nat.ne_of_lt (blk_lt (g := gb267) (o := .cells #[.int .i64 a0_0, .int .i64 a0_1, .int .i64 a0_2, .int .i64 a0_3] 23 (0, 0)) (YtloojhnohofonaaSq.bq BK267)) : gb267 ≠ gb277)); have n8_ := Aside0.mk ((by rw [hg]; exact Nat.ne_of_gt (blk_lt (g := gb267) (o := .cells #[.int .i64 a0_0, .int .i64 a0_1, .int .i64 a0_2, .int .i64 a0_3] 23 (0, 0)) (YtloojhnohofonaaSq.bq BK267)) : gb277 ≠ gb267)); have n9_ := Aside0.mk ((by rw [hg]; exact Nat.ne_of_lt (blk_lt (g := gb268) (o := .cells #[.int .i64 a1_0, .int .i64 a1_1, .int .i64 a1_2, .int .i64 a1_3] 23 (0, 0)) (YtloojhnohofonaaSq.bq BK268)) : gb268 ≠ gb277)); have n10_ := Aside0.mk ((by rw [hg]; exact Nat.ne_of_gt (blk_lt (g := gb268) (o := .cells #[.int .i64 a1_0, .int .i64 a1_1, .int .i64 a1_2, .int .i64 a1_3] 23 (0, 0)) (YtloojhnohofonaaSq.bq BK268)) : gb277 ≠ gb268)); have n11_ := Aside0.mk ((by rw [hg]; exact Nat.ne_of_lt (blk_lt (g := gb269) (o := .cells #[.int .i64 a2_0, .int .i64 a2_1] 30 (0, 0)) (YtloojhnohofonaaSq.bq BK269)) : gb269 ≠ gb277)); have n12_ := Aside0.mk ((by rw [hg]; exact Nat.ne_of_gt (blk_lt (g := gb269) (o := .cells #[.int .i64 a2_0, .int .i64 a2_1] 30 (0, 0)) (YtloojhnohofonaaSq.bq BK269)) : gb277 ≠ gb269)); clear BK267; clear BK268; clear BK269; clear HB; have BK267 := n0_; have BK268 := n1_; have BK269 := n2_; have HB := n3_; have BK277 := n4_; have GW277 := n5_; have GE277 := n6_; have NB267_277 := n7_; have NB277_267 := n8_; have NB268_277 := n9_; have NB277_268 := n10_; have NB269_277 := n11_; have NB277_269 := n12_; clear n0_ n1_ n2_ n3_ n4_ n5_ n6_ n7_ n8_ n9_ n10_ n11_ n12_; clear hb hbox hg; have hnb81 := NB277_267.out; have hnc81 := NB267_277.out; have hnb82 := NB277_268.out; have hnc82 := NB268_277.out; have hnb83 := NB277_269.out; have hnc83 := NB269_277.out; have hcz84_0 : w80.cell? ⟨gb277, 0, none⟩ = some (.int .i64 0) := (blk_cell BK277.out 0).trans rfl; have hcz84_1 : w80.cell? ⟨gb277, 1, none⟩ = some (.int .i64 0) := (blk_cell BK277.out 1).trans rfl; have hcz84_2 : w80.cell? ⟨gb277, 2, none⟩ = some (.int .i64 0) := (blk_cell BK277.out 2).trans rfl; have hcz84_3 : w80.cell? ⟨gb277, 3, none⟩ = some (.int .i64 0) := (blk_cell BK277.out 3).trans rfl; have hfz84_0 := blk_frozen BK277.out 0; have hfz84_1 := blk_frozen BK277.out 1; have hfz84_2 := blk_frozen BK277.out 2; have hfz84_3 := blk_frozen BK277.out 3) | ((with_reducible refine gate_callee (f := 19) rfl ?_); refine goesL_ (some 58) rfl rfl Try.func19 (by kernel_rfl) rfl #[.int .i64 (wrap64 (t273 + a2_0)), .int .i64 (wrap64 (t274 + a2_1)), .int .i64 (wrap64 (t275 + a2_0)), .int .i64 (wrap64 (t276 + a2_1))] rfl (by (try simp only [List.map_toArray, List.map_cons, List.map_nil]); first | done | rfl | (simp only [List.length_drop, List.length_take]; rfl)) ?_; (with_reducible refine (compositorlaw04_box.calls (wrap64 (t273 + a2_0)) (wrap64 (t274 + a2_1)) (wrap64 (t275 + a2_0)) (wrap64 (t276 + a2_1)) t278 t279 t280 t281 _ A59.out).mono ?_); rintro e w85 ⟨rfl, hb⟩; refine ⟨_, rfl, ?_⟩; have n0_ := Aside0.mk (blk_below (g := gb267) (o := .cells #[.int .i64 a0_0, .int .i64 a0_1, .int .i64 a0_2, .int .i64 a0_3] 23 (0, 0)) (by (with_reducible repeat (first | refine blk_drewN ?_ _ | refine blk_drew ?_ | refine blk_alloc ?_ _)); refine blk_far ?_ NB267_277.out _; (with_reducible repeat (first | refine blk_drewN ?_ _ | refine blk_drew ?_ | refine blk_alloc ?_ _)); refine blk_far ?_ NB267_277.out _; (with_reducible repeat (first | refine blk_drewN ?_ _ | refine blk_drew ?_ | refine blk_alloc ?_ _)); refine blk_far ?_ NB267_277.out _; (with_reducible repeat (first | refine blk_drewN ?_ _ | refine blk_drew ?_ | refine blk_alloc ?_ _)); refine blk_far ?_ NB267_277.out _; (with_reducible repeat (first | refine blk_drewN ?_ _ | refine blk_drew ?_ | refine blk_alloc ?_ _)); exact BK267.out) hb); have n1_ := Aside0.mk (blk_below (g := gb268) (o := .cells #[.int .i64 a1_0, .int .i64 a1_1, .int .i64 a1_2, .int .i64 a1_3] 23 (0, 0)) (by (with_reducible repeat (first | refine blk_drewN ?_ _ | refine blk_drew ?_ | refine blk_alloc ?_ _)); refine blk_far ?_ NB268_277.out _; (with_reducible repeat (first | refine blk_drewN ?_ _ | refine blk_drew ?_ | refine blk_alloc ?_ _)); refine blk_far ?_ NB268_277.out _; (with_reducible repeat (first | refine blk_drewN ?_ _ | refine blk_drew ?_ | refine blk_alloc ?_ _)); refine blk_far ?_ NB268_277.out _; (with_reducible repeat (first | refine blk_drewN ?_ _ | refine blk_drew ?_ | refine blk_alloc ?_ _)); refine blk_far ?_ NB268_277.out _; (with_reducible repeat (first | refine blk_drewN ?_ _ | refine blk_drew ?_ | refine blk_alloc ?_ _)); exact BK268.out) hb); have n2_ := Aside0.mk (blk_below (g := gb269) (o := .cells #[.int .i64 a2_0, .int .i64 a2_1] 30 (0, 0)) (by (with_reducible repeat (first | refine blk_drewN ?_ _ | refine blk_drew ?_ | refine blk_alloc ?_ _)); refine blk_far ?_ NB269_277.out _; (with_reducible repeat (first | refine blk_drewN ?_ _ | refine blk_drew ?_ | refine blk_alloc ?_ _)); refine blk_far ?_ NB269_277.out _; (with_reducible repeat (first | refine blk_drewN ?_ _ | refine blk_drew ?_ | refine blk_alloc ?_ _)); refine blk_far ?_ NB269_277.out _; (with_reducible repeat (first | refine blk_drewN ?_ _ | refine blk_drew ?_ | refine blk_alloc ?_ _)); refine blk_far ?_ NB269_277.out _; (with_reducible repeat (first | refine blk_drewN ?_ _ | refine blk_drew ?_ | refine blk_alloc ?_ _)); exact BK269.out) hb); have n3_ := Aside0.mk (blk_below (g := gb277) (o := .cells #[.int .i64 t273, .int .i64 t274, .int .i64 t275, .int .i64 t276] 23 (0, 0)) (by (with_reducible repeat (first | refine blk_drewN ?_ _ | refine blk_drew ?_ | refine blk_alloc ?_ _)); refine blk_put (cs := #[.int .i64 t273, .int .i64 t274, .int .i64 t275, .int .i64 0]) ?_ 3 _ rfl; (with_reducible repeat (first | refine blk_drewN ?_ _ | refine blk_drew ?_ | refine blk_alloc ?_ _)); refine blk_put (cs := #[.int .i64 t273, .int .i64 t274, .int .i64 0, .int .i64 0]) ?_ 2 _ rfl; (with_reducible repeat (first | refine blk_drewN ?_ _ | refine blk_drew ?_ | refine blk_alloc ?_ _)); refine blk_put (cs := #[.int .i64 t273, .int .i64 0, .int .i64 0, .int .i64 0]) ?_ 1 _ rfl; (with_reducible repeat (first | refine blk_drewN ?_ _ | refine blk_drew ?_ | refine blk_alloc ?_ _)); refine blk_put (cs := #[.int .i64 0, .int .i64 0, .int .i64 0, .int .i64 0]) ?_ 0 _ rfl; (with_reducible repeat (first | refine blk_drewN ?_ _ | refine blk_drew ?_ | refine blk_alloc ?_ _)); exact BK277.out) hb); have n4_ := Aside0.mk (below_step (by repeat (first | (with_reducible first | exact HB.out | apply below_alloc | apply pw_below_drewN | apply below_drew1 | refine below_set ?_ GE267.out | refine below_set ?_ GE268.out | refine below_set ?_ GE269.out | refine below_set ?_ GE277.out) | exact HB.out)) hb); clear BK267; clear BK268; clear BK269; clear BK277; clear HB; have BK267 := n0_; have BK268 := n1_; have BK269 := n2_; have BK277 := n3_; have HB := n4_; clear n0_ n1_ n2_ n3_ n4_; (try clear hb); (try clear hb2); (try clear hk); (try clear hi)) | ((with_reducible refine gate_callee (f := 18) rfl ?_); refine goesL_ (some 59) rfl rfl Try.func18 (by kernel_rfl) rfl #[.agg #[.int .i64 t278, .int .i64 t279, .int .i64 t280, .int .i64 t281]] rfl (by (try simp only [List.map_toArray, List.map_cons, List.map_nil]); first | done | rfl | (simp only [List.length_drop, List.length_take]; rfl)) ?_; (with_reducible refine (rect_Valid.calls t278 t279 t280 t281 true _ A60.out).mono ?_); rintro e w86 ⟨rfl, hb⟩; refine ⟨_, rfl, ?_⟩; have n0_ := YtloojhnohofonaaSq.bb BK267 hb; have n1_ := YtloojhnohofonaaSq.bb BK268 hb; have n2_ := YtloojhnohofonaaSq.bb BK269 hb; have n3_ := YtloojhnohofonaaSq.bb BK277 hb; have n4_ := Aside0.mk (below_step (by repeat (first | (with_reducible first | exact HB.out | apply below_alloc | apply pw_below_drewN | apply below_drew1 | refine below_set ?_ GE267.out | refine below_set ?_ GE268.out | refine below_set ?_ GE269.out | refine below_set ?_ GE277.out) | exact HB.out)) hb); clear BK267; clear BK268; clear BK269; clear BK277; clear HB; have BK267 := n0_; have BK268 := n1_; have BK269 := n2_; have BK277 := n3_; have HB := n4_; clear n0_ n1_ n2_ n3_ n4_; (try clear hb); (try clear hb2); (try clear hk); (try clear hi)))
        replace BK267 := Aside0.mk (blk_drew BK267.out)
        replace BK268 := Aside0.mk (blk_drew BK268.out)
        replace BK269 := Aside0.mk (blk_drew BK269.out)
        replace BK277 := Aside0.mk (blk_drew BK277.out)
        replace HB := Aside0.mk (below_drew1 HB.out)
        refine start_ (n := 12) (S := fun w' => w'.cell? ⟨gb267, 0, none⟩ = some (.int .i64 a0_0) ∧ w'.cell? ⟨gb267, 1, none⟩ = some (.int .i64 a0_1) ∧ w'.cell? ⟨gb267, 2, none⟩ = some (.int .i64 a0_2) ∧ w'.cell? ⟨gb267, 3, none⟩ = some (.int .i64 a0_3) ∧ w'.cell? ⟨gb268, 0, none⟩ = some (.int .i64 a1_0) ∧ w'.cell? ⟨gb268, 1, none⟩ = some (.int .i64 a1_1) ∧ w'.cell? ⟨gb268, 2, none⟩ = some (.int .i64 a1_2) ∧ w'.cell? ⟨gb268, 3, none⟩ = some (.int .i64 a1_3)) (ds := []) zq4.q0 (by kernel_rfl) rfl rfl ⟨(blk_cell BK267.out 0).trans rfl, (blk_cell BK267.out 1).trans rfl, (blk_cell BK267.out 2).trans rfl, (blk_cell BK267.out 3).trans rfl, (blk_cell BK268.out 0).trans rfl, (blk_cell BK268.out 1).trans rfl, (blk_cell BK268.out 2).trans rfl, (blk_cell BK268.out 3).trans rfl⟩ (fun hHeld => ?_); refine with_tabW compositorlaw04_RectShifts.tab7 compositorlaw04_RectShifts.bits7 (fun HT_ HW_ => ?_)
        generalize w86.drew = w87 at BK267 BK268 BK269 BK277 HB hHeld ⊢
        refine pure_ (i := 1) (N := some 63) (v := ?_) (a' := ?_) zq4.q1 rfl rfl (any_of HT_.out (by kernel_rfl)) (fun _ _ _ h => h) (Or.inl ⟨by rfl, ?_⟩) ?_ ?_
        rotate_left
        ·
         intro w'
         go_simp
         with_reducible rfl
        rotate_left
        ·
         simp only [Act.put, List.setIfInBounds_toArray, List.set_cons_zero, List.set_cons_succ, i64_w, i32_w]
         rfl
        refine pure_ (i := 2) (N := some 64) (v := ?_) (a' := ?_) zq4.q2 rfl rfl (any_of HT_.out (by kernel_rfl)) (fun _ _ _ h => h) (Or.inl ⟨by rfl, ?_⟩) ?_ ?_
        rotate_left
        ·
         intro w'
         go_simp
         with_reducible rfl
        rotate_left
        ·
         simp only [Act.put, List.setIfInBounds_toArray, List.set_cons_zero, List.set_cons_succ, i64_w, i32_w]
         rfl
        refine pure_ (i := 5) (N := some 67) (v := ?_) (a' := ?_) zq4.q3 rfl rfl (any_of HT_.out (by kernel_rfl)) (fun _ _ _ h => h) (Or.inl ⟨by rfl, ?_⟩) ?_ ?_
        rotate_left
        ·
         intro w'
         go_simp
         with_reducible rfl
        rotate_left
        ·
         simp only [Act.put, List.setIfInBounds_toArray, List.set_cons_zero, List.set_cons_succ, i64_w, i32_w]
         rfl
        refine pure_ (i := 6) (N := some 68) (v := ?_) (a' := ?_) zq4.q4 rfl rfl (any_of HT_.out (by kernel_rfl)) (fun _ _ _ h => h) (Or.inl ⟨by rfl, ?_⟩) ?_ ?_
        rotate_left
        ·
         intro w'
         go_simp
         with_reducible rfl
        rotate_left
        ·
         simp only [Act.put, List.setIfInBounds_toArray, List.set_cons_zero, List.set_cons_succ, i64_w, i32_w]
         rfl
        refine take_ (i := 0) (N := some 62) (v := ?_) (a' := ?_) zq4.q5 rfl rfl (take_ofW HT_.out HW_.out (by kernel_rfl)) (fun _ _ _ h => h) (Or.inl ⟨by rfl, ?_⟩) hHeld ?_ ?_
        rotate_left
        ·
         rintro w' ⟨s0, s1, s2, s3, s4, s5, s6, s7⟩
         go_simp
         with_reducible rfl
        rotate_left
        ·
         simp only [Act.put, List.setIfInBounds_toArray, List.set_cons_zero, List.set_cons_succ, i64_w, i32_w]
         rfl
        refine take_ (i := 4) (N := some 66) (v := ?_) (a' := ?_) zq4.q6 rfl rfl (take_ofW HT_.out HW_.out (by kernel_rfl)) (fun _ _ _ h => h) (Or.inl ⟨by rfl, ?_⟩) hHeld ?_ ?_
        rotate_left
        ·
         rintro w' ⟨s0, s1, s2, s3, s4, s5, s6, s7⟩
         go_simp
         with_reducible rfl
        rotate_left
        ·
         simp only [Act.put, List.setIfInBounds_toArray, List.set_cons_zero, List.set_cons_succ, i64_w, i32_w]
         rfl
        refine join_ (σ := Nat × Nat) 2 zq4.q7 (fun s_ => [(65, .agg #[.int .i64 t284, .int .i64 t285, .int .i64 t286, .int .i64 t287]), (69, .agg #[.int .i64 t288, .int .i64 t289, .int .i64 t290, .int .i64 t291]), (10, .pointer (some ⟨s_.1, 0, none⟩)), (11, .pointer (some ⟨s_.2, 0, none⟩))]) (fun s_ w' => (w'.cell? ⟨gb267, 0, none⟩ = some (.int .i64 a0_0) ∧ w'.cell? ⟨gb267, 1, none⟩ = some (.int .i64 a0_1) ∧ w'.cell? ⟨gb267, 2, none⟩ = some (.int .i64 a0_2) ∧ w'.cell? ⟨gb267, 3, none⟩ = some (.int .i64 a0_3) ∧ w'.cell? ⟨gb268, 0, none⟩ = some (.int .i64 a1_0) ∧ w'.cell? ⟨gb268, 1, none⟩ = some (.int .i64 a1_1) ∧ w'.cell? ⟨gb268, 2, none⟩ = some (.int .i64 a1_2) ∧ w'.cell? ⟨gb268, 3, none⟩ = some (.int .i64 a1_3)) ∧ (w'.heap[gb267]? = some (.cells #[.int .i64 a0_0, .int .i64 a0_1, .int .i64 a0_2, .int .i64 a0_3] 23 (0, 0))) ∧ (w'.heap[gb268]? = some (.cells #[.int .i64 a1_0, .int .i64 a1_1, .int .i64 a1_2, .int .i64 a1_3] 23 (0, 0))) ∧ (w'.heap[gb269]? = some (.cells #[.int .i64 a2_0, .int .i64 a2_1] 30 (0, 0))) ∧ (w'.heap[gb277]? = some (.cells #[.int .i64 t273, .int .i64 t274, .int .i64 t275, .int .i64 t276] 23 (0, 0))) ∧ (w'.heap[s_.1]? = some (.cells #[.int .i64 0, .int .i64 0, .int .i64 0, .int .i64 0] 23 (0, 0))) ∧ (w'.heap[s_.2]? = some (.cells #[.int .i64 0, .int .i64 0, .int .i64 0, .int .i64 0] 23 (0, 0))) ∧ (w.heap.size ≤ s_.1) ∧ (w.heap.size ≤ s_.1) ∧ (gb267 ≠ s_.1) ∧ (s_.1 ≠ gb267) ∧ (gb268 ≠ s_.1) ∧ (s_.1 ≠ gb268) ∧ (gb269 ≠ s_.1) ∧ (s_.1 ≠ gb269) ∧ (gb277 ≠ s_.1) ∧ (s_.1 ≠ gb277) ∧ (s_.2 ≠ s_.1) ∧ (s_.1 ≠ s_.2) ∧ (w.heap.size ≤ s_.2) ∧ (w.heap.size ≤ s_.2) ∧ (gb267 ≠ s_.2) ∧ (s_.2 ≠ gb267) ∧ (gb268 ≠ s_.2) ∧ (s_.2 ≠ gb268) ∧ (gb269 ≠ s_.2) ∧ (s_.2 ≠ gb269) ∧ (gb277 ≠ s_.2) ∧ (s_.2 ≠ gb277) ∧ (Below w.heap.size w w')) ?_ ?_
        rotate_left
        ·
         intro hJ3_7_8_9
         refine join_ (σ := Nat) 3 zq4.q8 (fun s_ => [(65, .agg #[.int .i64 t284, .int .i64 t285, .int .i64 t286, .int .i64 t287]), (69, .agg #[.int .i64 t288, .int .i64 t289, .int .i64 t290, .int .i64 t291]), (10, .pointer (some ⟨s_, 0, none⟩))]) (fun s_ w' => (w'.cell? ⟨gb267, 0, none⟩ = some (.int .i64 a0_0) ∧ w'.cell? ⟨gb267, 1, none⟩ = some (.int .i64 a0_1) ∧ w'.cell? ⟨gb267, 2, none⟩ = some (.int .i64 a0_2) ∧ w'.cell? ⟨gb267, 3, none⟩ = some (.int .i64 a0_3) ∧ w'.cell? ⟨gb268, 0, none⟩ = some (.int .i64 a1_0) ∧ w'.cell? ⟨gb268, 1, none⟩ = some (.int .i64 a1_1) ∧ w'.cell? ⟨gb268, 2, none⟩ = some (.int .i64 a1_2) ∧ w'.cell? ⟨gb268, 3, none⟩ = some (.int .i64 a1_3)) ∧ (w'.heap[gb267]? = some (.cells #[.int .i64 a0_0, .int .i64 a0_1, .int .i64 a0_2, .int .i64 a0_3] 23 (0, 0))) ∧ (w'.heap[gb268]? = some (.cells #[.int .i64 a1_0, .int .i64 a1_1, .int .i64 a1_2, .int .i64 a1_3] 23 (0, 0))) ∧ (w'.heap[gb269]? = some (.cells #[.int .i64 a2_0, .int .i64 a2_1] 30 (0, 0))) ∧ (w'.heap[gb277]? = some (.cells #[.int .i64 t273, .int .i64 t274, .int .i64 t275, .int .i64 t276] 23 (0, 0))) ∧ (w'.heap[s_]? = some (.cells #[.int .i64 0, .int .i64 0, .int .i64 0, .int .i64 0] 23 (0, 0))) ∧ (w.heap.size ≤ s_) ∧ (w.heap.size ≤ s_) ∧ (gb267 ≠ s_) ∧ (s_ ≠ gb267) ∧ (gb268 ≠ s_) ∧ (s_ ≠ gb268) ∧ (gb269 ≠ s_) ∧ (s_ ≠ gb269) ∧ (gb277 ≠ s_) ∧ (s_ ≠ gb277) ∧ (Below w.heap.size w w')) ?_ ?_
         rotate_left
         ·
          intro hJ3_7_8
          refine join_ (σ := Nat) 3 zq4.q9 (fun s_ => [(65, .agg #[.int .i64 t284, .int .i64 t285, .int .i64 t286, .int .i64 t287]), (69, .agg #[.int .i64 t288, .int .i64 t289, .int .i64 t290, .int .i64 t291]), (11, .pointer (some ⟨s_, 0, none⟩))]) (fun s_ w' => (w'.cell? ⟨gb267, 0, none⟩ = some (.int .i64 a0_0) ∧ w'.cell? ⟨gb267, 1, none⟩ = some (.int .i64 a0_1) ∧ w'.cell? ⟨gb267, 2, none⟩ = some (.int .i64 a0_2) ∧ w'.cell? ⟨gb267, 3, none⟩ = some (.int .i64 a0_3) ∧ w'.cell? ⟨gb268, 0, none⟩ = some (.int .i64 a1_0) ∧ w'.cell? ⟨gb268, 1, none⟩ = some (.int .i64 a1_1) ∧ w'.cell? ⟨gb268, 2, none⟩ = some (.int .i64 a1_2) ∧ w'.cell? ⟨gb268, 3, none⟩ = some (.int .i64 a1_3)) ∧ (w'.heap[gb267]? = some (.cells #[.int .i64 a0_0, .int .i64 a0_1, .int .i64 a0_2, .int .i64 a0_3] 23 (0, 0))) ∧ (w'.heap[gb268]? = some (.cells #[.int .i64 a1_0, .int .i64 a1_1, .int .i64 a1_2, .int .i64 a1_3] 23 (0, 0))) ∧ (w'.heap[gb269]? = some (.cells #[.int .i64 a2_0, .int .i64 a2_1] 30 (0, 0))) ∧ (w'.heap[gb277]? = some (.cells #[.int .i64 t273, .int .i64 t274, .int .i64 t275, .int .i64 t276] 23 (0, 0))) ∧ (w'.heap[s_]? = some (.cells #[.int .i64 0, .int .i64 0, .int .i64 0, .int .i64 0] 23 (0, 0))) ∧ (w.heap.size ≤ s_) ∧ (w.heap.size ≤ s_) ∧ (gb267 ≠ s_) ∧ (s_ ≠ gb267) ∧ (gb268 ≠ s_) ∧ (s_ ≠ gb268) ∧ (gb269 ≠ s_) ∧ (s_ ≠ gb269) ∧ (gb277 ≠ s_) ∧ (s_ ≠ gb277) ∧ (Below w.heap.size w w')) ?_ ?_
          rotate_left
          ·
           intro hJ3_7_9
           refine join_ (σ := Nat × Nat) 3 zq4.q10 (fun s_ => [(65, .agg #[.int .i64 t284, .int .i64 t285, .int .i64 t286, .int .i64 t287]), (10, .pointer (some ⟨s_.1, 0, none⟩)), (11, .pointer (some ⟨s_.2, 0, none⟩))]) (fun s_ w' => (w'.cell? ⟨gb267, 0, none⟩ = some (.int .i64 a0_0) ∧ w'.cell? ⟨gb267, 1, none⟩ = some (.int .i64 a0_1) ∧ w'.cell? ⟨gb267, 2, none⟩ = some (.int .i64 a0_2) ∧ w'.cell? ⟨gb267, 3, none⟩ = some (.int .i64 a0_3) ∧ w'.cell? ⟨gb268, 0, none⟩ = some (.int .i64 a1_0) ∧ w'.cell? ⟨gb268, 1, none⟩ = some (.int .i64 a1_1) ∧ w'.cell? ⟨gb268, 2, none⟩ = some (.int .i64 a1_2) ∧ w'.cell? ⟨gb268, 3, none⟩ = some (.int .i64 a1_3)) ∧ (w'.heap[gb267]? = some (.cells #[.int .i64 a0_0, .int .i64 a0_1, .int .i64 a0_2, .int .i64 a0_3] 23 (0, 0))) ∧ (w'.heap[gb268]? = some (.cells #[.int .i64 a1_0, .int .i64 a1_1, .int .i64 a1_2, .int .i64 a1_3] 23 (0, 0))) ∧ (w'.heap[gb269]? = some (.cells #[.int .i64 a2_0, .int .i64 a2_1] 30 (0, 0))) ∧ (w'.heap[gb277]? = some (.cells #[.int .i64 t273, .int .i64 t274, .int .i64 t275, .int .i64 t276] 23 (0, 0))) ∧ (w'.heap[s_.1]? = some (.cells #[.int .i64 0, .int .i64 0, .int .i64 0, .int .i64 0] 23 (0, 0))) ∧ (w'.heap[s_.2]? = some (.cells #[.int .i64 0, .int .i64 0, .int .i64 0, .int .i64 0] 23 (0, 0))) ∧ (w.heap.size ≤ s_.1) ∧ (w.heap.size ≤ s_.1) ∧ (gb267 ≠ s_.1) ∧ (s_.1 ≠ gb267) ∧ (gb268 ≠ s_.1) ∧ (s_.1 ≠ gb268) ∧ (gb269 ≠ s_.1) ∧ (s_.1 ≠ gb269) ∧ (gb277 ≠ s_.1) ∧ (s_.1 ≠ gb277) ∧ (s_.2 ≠ s_.1) ∧ (s_.1 ≠ s_.2) ∧ (w.heap.size ≤ s_.2) ∧ (w.heap.size ≤ s_.2) ∧ (gb267 ≠ s_.2) ∧ (s_.2 ≠ gb267) ∧ (gb268 ≠ s_.2) ∧ (s_.2 ≠ gb268) ∧ (gb269 ≠ s_.2) ∧ (s_.2 ≠ gb269) ∧ (gb277 ≠ s_.2) ∧ (s_.2 ≠ gb277) ∧ (Below w.heap.size w w')) ?_ ?_
           rotate_left
           ·
            intro hJ3_8_9
            refine join_ (σ := Unit) 4 zq4.q11 (fun s_ => [(65, .agg #[.int .i64 t284, .int .i64 t285, .int .i64 t286, .int .i64 t287]), (69, .agg #[.int .i64 t288, .int .i64 t289, .int .i64 t290, .int .i64 t291])]) (fun s_ w' => (w'.cell? ⟨gb267, 0, none⟩ = some (.int .i64 a0_0) ∧ w'.cell? ⟨gb267, 1, none⟩ = some (.int .i64 a0_1) ∧ w'.cell? ⟨gb267, 2, none⟩ = some (.int .i64 a0_2) ∧ w'.cell? ⟨gb267, 3, none⟩ = some (.int .i64 a0_3) ∧ w'.cell? ⟨gb268, 0, none⟩ = some (.int .i64 a1_0) ∧ w'.cell? ⟨gb268, 1, none⟩ = some (.int .i64 a1_1) ∧ w'.cell? ⟨gb268, 2, none⟩ = some (.int .i64 a1_2) ∧ w'.cell? ⟨gb268, 3, none⟩ = some (.int .i64 a1_3)) ∧ (w'.heap[gb267]? = some (.cells #[.int .i64 a0_0, .int .i64 a0_1, .int .i64 a0_2, .int .i64 a0_3] 23 (0, 0))) ∧ (w'.heap[gb268]? = some (.cells #[.int .i64 a1_0, .int .i64 a1_1, .int .i64 a1_2, .int .i64 a1_3] 23 (0, 0))) ∧ (w'.heap[gb269]? = some (.cells #[.int .i64 a2_0, .int .i64 a2_1] 30 (0, 0))) ∧ (w'.heap[gb277]? = some (.cells #[.int .i64 t273, .int .i64 t274, .int .i64 t275, .int .i64 t276] 23 (0, 0))) ∧ (Below w.heap.size w w')) ?_ ?_
            rotate_left
            ·
             intro hJ3_7
             refine join_ (σ := Nat) 4 zq4.q12 (fun s_ => [(65, .agg #[.int .i64 t284, .int .i64 t285, .int .i64 t286, .int .i64 t287]), (10, .pointer (some ⟨s_, 0, none⟩))]) (fun s_ w' => (w'.cell? ⟨gb267, 0, none⟩ = some (.int .i64 a0_0) ∧ w'.cell? ⟨gb267, 1, none⟩ = some (.int .i64 a0_1) ∧ w'.cell? ⟨gb267, 2, none⟩ = some (.int .i64 a0_2) ∧ w'.cell? ⟨gb267, 3, none⟩ = some (.int .i64 a0_3) ∧ w'.cell? ⟨gb268, 0, none⟩ = some (.int .i64 a1_0) ∧ w'.cell? ⟨gb268, 1, none⟩ = some (.int .i64 a1_1) ∧ w'.cell? ⟨gb268, 2, none⟩ = some (.int .i64 a1_2) ∧ w'.cell? ⟨gb268, 3, none⟩ = some (.int .i64 a1_3)) ∧ (w'.heap[gb267]? = some (.cells #[.int .i64 a0_0, .int .i64 a0_1, .int .i64 a0_2, .int .i64 a0_3] 23 (0, 0))) ∧ (w'.heap[gb268]? = some (.cells #[.int .i64 a1_0, .int .i64 a1_1, .int .i64 a1_2, .int .i64 a1_3] 23 (0, 0))) ∧ (w'.heap[gb269]? = some (.cells #[.int .i64 a2_0, .int .i64 a2_1] 30 (0, 0))) ∧ (w'.heap[gb277]? = some (.cells #[.int .i64 t273, .int .i64 t274, .int .i64 t275, .int .i64 t276] 23 (0, 0))) ∧ (w'.heap[s_]? = some (.cells #[.int .i64 0, .int .i64 0, .int .i64 0, .int .i64 0] 23 (0, 0))) ∧ (w.heap.size ≤ s_) ∧ (w.heap.size ≤ s_) ∧ (gb267 ≠ s_) ∧ (s_ ≠ gb267) ∧ (gb268 ≠ s_) ∧ (s_ ≠ gb268) ∧ (gb269 ≠ s_) ∧ (s_ ≠ gb269) ∧ (gb277 ≠ s_) ∧ (s_ ≠ gb277) ∧ (Below w.heap.size w w')) ?_ ?_
             rotate_left
             ·
              intro hJ3_8
              refine join_ (σ := Nat) 4 zq4.q13 (fun s_ => [(65, .agg #[.int .i64 t284, .int .i64 t285, .int .i64 t286, .int .i64 t287]), (11, .pointer (some ⟨s_, 0, none⟩))]) (fun s_ w' => (w'.cell? ⟨gb267, 0, none⟩ = some (.int .i64 a0_0) ∧ w'.cell? ⟨gb267, 1, none⟩ = some (.int .i64 a0_1) ∧ w'.cell? ⟨gb267, 2, none⟩ = some (.int .i64 a0_2) ∧ w'.cell? ⟨gb267, 3, none⟩ = some (.int .i64 a0_3) ∧ w'.cell? ⟨gb268, 0, none⟩ = some (.int .i64 a1_0) ∧ w'.cell? ⟨gb268, 1, none⟩ = some (.int .i64 a1_1) ∧ w'.cell? ⟨gb268, 2, none⟩ = some (.int .i64 a1_2) ∧ w'.cell? ⟨gb268, 3, none⟩ = some (.int .i64 a1_3)) ∧ (w'.heap[gb267]? = some (.cells #[.int .i64 a0_0, .int .i64 a0_1, .int .i64 a0_2, .int .i64 a0_3] 23 (0, 0))) ∧ (w'.heap[gb268]? = some (.cells #[.int .i64 a1_0, .int .i64 a1_1, .int .i64 a1_2, .int .i64 a1_3] 23 (0, 0))) ∧ (w'.heap[gb269]? = some (.cells #[.int .i64 a2_0, .int .i64 a2_1] 30 (0, 0))) ∧ (w'.heap[gb277]? = some (.cells #[.int .i64 t273, .int .i64 t274, .int .i64 t275, .int .i64 t276] 23 (0, 0))) ∧ (w'.heap[s_]? = some (.cells #[.int .i64 0, .int .i64 0, .int .i64 0, .int .i64 0] 23 (0, 0))) ∧ (w.heap.size ≤ s_) ∧ (w.heap.size ≤ s_) ∧ (gb267 ≠ s_) ∧ (s_ ≠ gb267) ∧ (gb268 ≠ s_) ∧ (s_ ≠ gb268) ∧ (gb269 ≠ s_) ∧ (s_ ≠ gb269) ∧ (gb277 ≠ s_) ∧ (s_ ≠ gb277) ∧ (Below w.heap.size w w')) ?_ ?_
              rotate_left
              ·
               intro hJ3_9
               refine join_ (σ := Nat × Nat) 4 zq4.q14 (fun s_ => [(10, .pointer (some ⟨s_.1, 0, none⟩)), (11, .pointer (some ⟨s_.2, 0, none⟩))]) (fun s_ w' => (w'.cell? ⟨gb267, 0, none⟩ = some (.int .i64 a0_0) ∧ w'.cell? ⟨gb267, 1, none⟩ = some (.int .i64 a0_1) ∧ w'.cell? ⟨gb267, 2, none⟩ = some (.int .i64 a0_2) ∧ w'.cell? ⟨gb267, 3, none⟩ = some (.int .i64 a0_3) ∧ w'.cell? ⟨gb268, 0, none⟩ = some (.int .i64 a1_0) ∧ w'.cell? ⟨gb268, 1, none⟩ = some (.int .i64 a1_1) ∧ w'.cell? ⟨gb268, 2, none⟩ = some (.int .i64 a1_2) ∧ w'.cell? ⟨gb268, 3, none⟩ = some (.int .i64 a1_3)) ∧ (w'.heap[gb267]? = some (.cells #[.int .i64 a0_0, .int .i64 a0_1, .int .i64 a0_2, .int .i64 a0_3] 23 (0, 0))) ∧ (w'.heap[gb268]? = some (.cells #[.int .i64 a1_0, .int .i64 a1_1, .int .i64 a1_2, .int .i64 a1_3] 23 (0, 0))) ∧ (w'.heap[gb269]? = some (.cells #[.int .i64 a2_0, .int .i64 a2_1] 30 (0, 0))) ∧ (w'.heap[gb277]? = some (.cells #[.int .i64 t273, .int .i64 t274, .int .i64 t275, .int .i64 t276] 23 (0, 0))) ∧ (w'.heap[s_.1]? = some (.cells #[.int .i64 0, .int .i64 0, .int .i64 0, .int .i64 0] 23 (0, 0))) ∧ (w'.heap[s_.2]? = some (.cells #[.int .i64 0, .int .i64 0, .int .i64 0, .int .i64 0] 23 (0, 0))) ∧ (w.heap.size ≤ s_.1) ∧ (w.heap.size ≤ s_.1) ∧ (gb267 ≠ s_.1) ∧ (s_.1 ≠ gb267) ∧ (gb268 ≠ s_.1) ∧ (s_.1 ≠ gb268) ∧ (gb269 ≠ s_.1) ∧ (s_.1 ≠ gb269) ∧ (gb277 ≠ s_.1) ∧ (s_.1 ≠ gb277) ∧ (s_.2 ≠ s_.1) ∧ (s_.1 ≠ s_.2) ∧ (w.heap.size ≤ s_.2) ∧ (w.heap.size ≤ s_.2) ∧ (gb267 ≠ s_.2) ∧ (s_.2 ≠ gb267) ∧ (gb268 ≠ s_.2) ∧ (s_.2 ≠ gb268) ∧ (gb269 ≠ s_.2) ∧ (s_.2 ≠ gb269) ∧ (gb277 ≠ s_.2) ∧ (s_.2 ≠ gb277) ∧ (Below w.heap.size w w')) ?_ ?_
               rotate_left
               ·
                intro hJ8_9
                refine join_ (σ := Unit) 5 zq4.q15 (fun s_ => [(65, .agg #[.int .i64 t284, .int .i64 t285, .int .i64 t286, .int .i64 t287])]) (fun s_ w' => (w'.cell? ⟨gb267, 0, none⟩ = some (.int .i64 a0_0) ∧ w'.cell? ⟨gb267, 1, none⟩ = some (.int .i64 a0_1) ∧ w'.cell? ⟨gb267, 2, none⟩ = some (.int .i64 a0_2) ∧ w'.cell? ⟨gb267, 3, none⟩ = some (.int .i64 a0_3) ∧ w'.cell? ⟨gb268, 0, none⟩ = some (.int .i64 a1_0) ∧ w'.cell? ⟨gb268, 1, none⟩ = some (.int .i64 a1_1) ∧ w'.cell? ⟨gb268, 2, none⟩ = some (.int .i64 a1_2) ∧ w'.cell? ⟨gb268, 3, none⟩ = some (.int .i64 a1_3)) ∧ (w'.heap[gb267]? = some (.cells #[.int .i64 a0_0, .int .i64 a0_1, .int .i64 a0_2, .int .i64 a0_3] 23 (0, 0))) ∧ (w'.heap[gb268]? = some (.cells #[.int .i64 a1_0, .int .i64 a1_1, .int .i64 a1_2, .int .i64 a1_3] 23 (0, 0))) ∧ (w'.heap[gb269]? = some (.cells #[.int .i64 a2_0, .int .i64 a2_1] 30 (0, 0))) ∧ (w'.heap[gb277]? = some (.cells #[.int .i64 t273, .int .i64 t274, .int .i64 t275, .int .i64 t276] 23 (0, 0))) ∧ (Below w.heap.size w w')) ?_ ?_
                rotate_left
                ·
                 intro hJ3
                 refine join_ (σ := Nat) 5 zq4.q16 (fun s_ => [(10, .pointer (some ⟨s_, 0, none⟩))]) (fun s_ w' => (w'.cell? ⟨gb267, 0, none⟩ = some (.int .i64 a0_0) ∧ w'.cell? ⟨gb267, 1, none⟩ = some (.int .i64 a0_1) ∧ w'.cell? ⟨gb267, 2, none⟩ = some (.int .i64 a0_2) ∧ w'.cell? ⟨gb267, 3, none⟩ = some (.int .i64 a0_3) ∧ w'.cell? ⟨gb268, 0, none⟩ = some (.int .i64 a1_0) ∧ w'.cell? ⟨gb268, 1, none⟩ = some (.int .i64 a1_1) ∧ w'.cell? ⟨gb268, 2, none⟩ = some (.int .i64 a1_2) ∧ w'.cell? ⟨gb268, 3, none⟩ = some (.int .i64 a1_3)) ∧ (w'.heap[gb267]? = some (.cells #[.int .i64 a0_0, .int .i64 a0_1, .int .i64 a0_2, .int .i64 a0_3] 23 (0, 0))) ∧ (w'.heap[gb268]? = some (.cells #[.int .i64 a1_0, .int .i64 a1_1, .int .i64 a1_2, .int .i64 a1_3] 23 (0, 0))) ∧ (w'.heap[gb269]? = some (.cells #[.int .i64 a2_0, .int .i64 a2_1] 30 (0, 0))) ∧ (w'.heap[gb277]? = some (.cells #[.int .i64 t273, .int .i64 t274, .int .i64 t275, .int .i64 t276] 23 (0, 0))) ∧ (w'.heap[s_]? = some (.cells #[.int .i64 0, .int .i64 0, .int .i64 0, .int .i64 0] 23 (0, 0))) ∧ (w.heap.size ≤ s_) ∧ (w.heap.size ≤ s_) ∧ (gb267 ≠ s_) ∧ (s_ ≠ gb267) ∧ (gb268 ≠ s_) ∧ (s_ ≠ gb268) ∧ (gb269 ≠ s_) ∧ (s_ ≠ gb269) ∧ (gb277 ≠ s_) ∧ (s_ ≠ gb277) ∧ (Below w.heap.size w w')) ?_ ?_
                 rotate_left
                 ·
                  intro hJ8
                  refine join_ (σ := Nat) 5 zq4.q17 (fun s_ => [(11, .pointer (some ⟨s_, 0, none⟩))]) (fun s_ w' => (w'.cell? ⟨gb267, 0, none⟩ = some (.int .i64 a0_0) ∧ w'.cell? ⟨gb267, 1, none⟩ = some (.int .i64 a0_1) ∧ w'.cell? ⟨gb267, 2, none⟩ = some (.int .i64 a0_2) ∧ w'.cell? ⟨gb267, 3, none⟩ = some (.int .i64 a0_3) ∧ w'.cell? ⟨gb268, 0, none⟩ = some (.int .i64 a1_0) ∧ w'.cell? ⟨gb268, 1, none⟩ = some (.int .i64 a1_1) ∧ w'.cell? ⟨gb268, 2, none⟩ = some (.int .i64 a1_2) ∧ w'.cell? ⟨gb268, 3, none⟩ = some (.int .i64 a1_3)) ∧ (w'.heap[gb267]? = some (.cells #[.int .i64 a0_0, .int .i64 a0_1, .int .i64 a0_2, .int .i64 a0_3] 23 (0, 0))) ∧ (w'.heap[gb268]? = some (.cells #[.int .i64 a1_0, .int .i64 a1_1, .int .i64 a1_2, .int .i64 a1_3] 23 (0, 0))) ∧ (w'.heap[gb269]? = some (.cells #[.int .i64 a2_0, .int .i64 a2_1] 30 (0, 0))) ∧ (w'.heap[gb277]? = some (.cells #[.int .i64 t273, .int .i64 t274, .int .i64 t275, .int .i64 t276] 23 (0, 0))) ∧ (w'.heap[s_]? = some (.cells #[.int .i64 0, .int .i64 0, .int .i64 0, .int .i64 0] 23 (0, 0))) ∧ (w.heap.size ≤ s_) ∧ (w.heap.size ≤ s_) ∧ (gb267 ≠ s_) ∧ (s_ ≠ gb267) ∧ (gb268 ≠ s_) ∧ (s_ ≠ gb268) ∧ (gb269 ≠ s_) ∧ (s_ ≠ gb269) ∧ (gb277 ≠ s_) ∧ (s_ ≠ gb277) ∧ (Below w.heap.size w w')) ?_ ?_
                  rotate_left
                  ·
                   intro hJ9
                   refine three_ (i := 3) (j := 8) (k := 9) (Ni := some 65) (Nj := some 10) (Nk := some 11) zq4.q15 zq4.q16 zq4.q17 rfl rfl rfl rfl rfl rfl (three_of HT_.out (by kernel_rfl)) (by decide) (by decide) (by decide) (fun K hK => ?_) (fun K hK => ?_) (fun K hK => ?_)
                   ·
                    refine goes_ Try.func13 (by kernel_rfl) rfl #[.agg #[.int .i64 a0_0, .int .i64 a0_1, .int .i64 a0_2, .int .i64 a0_3], .int .i64 a2_0, .int .i64 a2_1] (by rfl) rfl rfl (by (try simp only [List.map_toArray, List.map_cons, List.map_nil]); first | done | rfl | (simp only [List.length_drop, List.length_take]; rfl)) ?_
                    with_reducible refine (rect_Translate.calls a0_0 a0_1 a0_2 a0_3 a2_0 a2_1 t284 t285 t286 t287 _ A62.out).mono ?_
                    rintro e w88 ⟨rfl, hb⟩
                    refine ⟨_, rfl, ?_⟩
                    replace BK267 := YtloojhnohofonaaSq.bb BK267 hb
                    replace BK268 := YtloojhnohofonaaSq.bb BK268 hb
                    replace BK269 := YtloojhnohofonaaSq.bb BK269 hb
                    replace BK277 := YtloojhnohofonaaSq.bb BK277 hb
                    replace HB := Aside0.mk (below_step (by repeat (first | (with_reducible first | exact HB.out | apply below_alloc | apply pw_below_drewN | apply below_drew1 | refine below_set ?_ GE267.out | refine below_set ?_ GE268.out | refine below_set ?_ GE269.out | refine below_set ?_ GE277.out) | exact HB.out)) hb)
                    (try clear hb); (try clear hb2); (try clear hk); (try clear hi)
                    refine hK.out _ _ ⟨(blk_cell BK267.out 0).trans rfl, (blk_cell BK267.out 1).trans rfl, (blk_cell BK267.out 2).trans rfl, (blk_cell BK267.out 3).trans rfl, (blk_cell BK268.out 0).trans rfl, (blk_cell BK268.out 1).trans rfl, (blk_cell BK268.out 2).trans rfl, (blk_cell BK268.out 3).trans rfl⟩ (fun hHeld => ?_)
                    clear hK K
                    refine norm_ (a' := ?_) ?_ ?_
                    rotate_left
                    ·
                     show Act.put _ (some 65) _ = _
                     simp only [Act.put, List.setIfInBounds_toArray, List.set_cons_zero, List.set_cons_succ, i64_w, i32_w]
                     rfl
                    exact norm_ (by simp only [putAll, Act.put, List.setIfInBounds_toArray, List.set_cons_zero, List.set_cons_succ] <;> rfl) (hJ3 () _ ⟨hHeld, (YtloojhnohofonaaSq.bq BK267), (YtloojhnohofonaaSq.bq BK268), (YtloojhnohofonaaSq.bq BK269), (YtloojhnohofonaaSq.bq BK277), (by repeat (first | (with_reducible first | exact HB.out | apply below_alloc | apply pw_below_drewN | apply below_drew1 | refine below_set ?_ GE267.out | refine below_set ?_ GE268.out | refine below_set ?_ GE269.out | refine below_set ?_ GE277.out) | exact HB.out))⟩)
                   ·
                    refine box_step ?hg (N := 10) ?hd (cs := #[.int .i64 0, .int .i64 0, .int .i64 0, .int .i64 0]) (t := 23) ?hr ?_; (case hd => rfl); (case hg => rfl); (case hr => first | (go_simp; done) | (go_simp; rfl))
                    intro gb292 hg w88 hbox hb
                    have BK292 := Aside0.mk (hbox)
                    have GW292 := Aside0.mk ((by rw [hg]; exact (below_size (by repeat (first | (with_reducible first | exact HB.out | apply below_alloc | apply pw_below_drewN | apply below_drew1 | refine below_set ?_ GE267.out | refine below_set ?_ GE268.out | refine below_set ?_ GE269.out | refine below_set ?_ GE277.out) | exact HB.out))) : w.heap.size ≤ gb292))
                    have GE292 := Aside0.mk ((by rw [hg]; exact (below_size (by repeat (first | (with_reducible first | exact HB.out | apply below_alloc | apply pw_below_drewN | apply below_drew1 | refine below_set ?_ GE267.out | refine below_set ?_ GE268.out | refine below_set ?_ GE269.out | refine below_set ?_ GE277.out) | exact HB.out))) : w.heap.size ≤ gb292))
                    replace HB := Aside0.mk (below_step (by repeat (first | (with_reducible first | exact HB.out | apply below_alloc | apply pw_below_drewN | apply below_drew1 | refine below_set ?_ GE267.out | refine below_set ?_ GE268.out | refine below_set ?_ GE269.out | refine below_set ?_ GE277.out) | exact HB.out)) hb)
                    have NB267_292 := Aside0.mk ((by rw [hg]; exact Nat.ne_of_lt (blk_lt (g := gb267) (o := .cells #[.int .i64 a0_0, .int .i64 a0_1, .int .i64 a0_2, .int .i64 a0_3] 23 (0, 0)) (YtloojhnohofonaaSq.bq BK267)) : gb267 ≠ gb292))
                    have NB292_267 := Aside0.mk ((by rw [hg]; exact Nat.ne_of_gt (blk_lt (g := gb267) (o := .cells #[.int .i64 a0_0, .int .i64 a0_1, .int .i64 a0_2, .int .i64 a0_3] 23 (0, 0)) (YtloojhnohofonaaSq.bq BK267)) : gb292 ≠ gb267))
                    replace BK267 := YtloojhnohofonaaSq.bb BK267 hb
                    have NB268_292 := Aside0.mk ((by rw [hg]; exact Nat.ne_of_lt (blk_lt (g := gb268) (o := .cells #[.int .i64 a1_0, .int .i64 a1_1, .int .i64 a1_2, .int .i64 a1_3] 23 (0, 0)) (YtloojhnohofonaaSq.bq BK268)) : gb268 ≠ gb292))
                    have NB292_268 := Aside0.mk ((by rw [hg]; exact Nat.ne_of_gt (blk_lt (g := gb268) (o := .cells #[.int .i64 a1_0, .int .i64 a1_1, .int .i64 a1_2, .int .i64 a1_3] 23 (0, 0)) (YtloojhnohofonaaSq.bq BK268)) : gb292 ≠ gb268))
                    replace BK268 := YtloojhnohofonaaSq.bb BK268 hb
                    have NB269_292 := Aside0.mk ((by rw [hg]; exact Nat.ne_of_lt (blk_lt (g := gb269) (o := .cells #[.int .i64 a2_0, .int .i64 a2_1] 30 (0, 0)) (YtloojhnohofonaaSq.bq BK269)) : gb269 ≠ gb292))
                    have NB292_269 := Aside0.mk ((by rw [hg]; exact Nat.ne_of_gt (blk_lt (g := gb269) (o := .cells #[.int .i64 a2_0, .int .i64 a2_1] 30 (0, 0)) (YtloojhnohofonaaSq.bq BK269)) : gb292 ≠ gb269))
                    replace BK269 := YtloojhnohofonaaSq.bb BK269 hb
                    have NB277_292 := Aside0.mk ((by rw [hg]; exact Nat.ne_of_lt (blk_lt (g := gb277) (o := .cells #[.int .i64 t273, .int .i64 t274, .int .i64 t275, .int .i64 t276] 23 (0, 0)) (YtloojhnohofonaaSq.bq BK277)) : gb277 ≠ gb292))
                    have NB292_277 := Aside0.mk ((by rw [hg]; exact Nat.ne_of_gt (blk_lt (g := gb277) (o := .cells #[.int .i64 t273, .int .i64 t274, .int .i64 t275, .int .i64 t276] 23 (0, 0)) (YtloojhnohofonaaSq.bq BK277)) : gb292 ≠ gb277))
                    replace BK277 := YtloojhnohofonaaSq.bb BK277 hb
                    clear hb hbox hg
                    refine hK.out _ _ ⟨(blk_cell BK267.out 0).trans rfl, (blk_cell BK267.out 1).trans rfl, (blk_cell BK267.out 2).trans rfl, (blk_cell BK267.out 3).trans rfl, (blk_cell BK268.out 0).trans rfl, (blk_cell BK268.out 1).trans rfl, (blk_cell BK268.out 2).trans rfl, (blk_cell BK268.out 3).trans rfl⟩ (fun hHeld => ?_)
                    clear hK K
                    refine norm_ (a' := ?_) ?_ ?_
                    rotate_left
                    ·
                     show Act.put _ (some 10) _ = _
                     simp only [Act.put, List.setIfInBounds_toArray, List.set_cons_zero, List.set_cons_succ, i64_w, i32_w]
                     rfl
                    exact norm_ (by simp only [putAll, Act.put, List.setIfInBounds_toArray, List.set_cons_zero, List.set_cons_succ] <;> rfl) (hJ8 (gb292) _ ⟨hHeld, (YtloojhnohofonaaSq.bq BK267), (YtloojhnohofonaaSq.bq BK268), (YtloojhnohofonaaSq.bq BK269), (YtloojhnohofonaaSq.bq BK277), (YtloojhnohofonaaSq.bq BK292), GW292.out, GE292.out, NB267_292.out, NB292_267.out, NB268_292.out, NB292_268.out, NB269_292.out, NB292_269.out, NB277_292.out, NB292_277.out, (by repeat (first | (with_reducible first | exact HB.out | apply below_alloc | apply pw_below_drewN | apply below_drew1 | refine below_set ?_ GE267.out | refine below_set ?_ GE268.out | refine below_set ?_ GE269.out | refine below_set ?_ GE277.out | refine below_set ?_ GE292.out) | exact HB.out))⟩)
                   ·
                    refine box_step ?hg (N := 11) ?hd (cs := #[.int .i64 0, .int .i64 0, .int .i64 0, .int .i64 0]) (t := 23) ?hr ?_; (case hd => rfl); (case hg => rfl); (case hr => first | (go_simp; done) | (go_simp; rfl))
                    intro gb293 hg w88 hbox hb
                    have BK293 := Aside0.mk (hbox)
                    have GW293 := Aside0.mk ((by rw [hg]; exact (below_size (by repeat (first | (with_reducible first | exact HB.out | apply below_alloc | apply pw_below_drewN | apply below_drew1 | refine below_set ?_ GE267.out | refine below_set ?_ GE268.out | refine below_set ?_ GE269.out | refine below_set ?_ GE277.out) | exact HB.out))) : w.heap.size ≤ gb293))
                    have GE293 := Aside0.mk ((by rw [hg]; exact (below_size (by repeat (first | (with_reducible first | exact HB.out | apply below_alloc | apply pw_below_drewN | apply below_drew1 | refine below_set ?_ GE267.out | refine below_set ?_ GE268.out | refine below_set ?_ GE269.out | refine below_set ?_ GE277.out) | exact HB.out))) : w.heap.size ≤ gb293))
                    replace HB := Aside0.mk (below_step (by repeat (first | (with_reducible first | exact HB.out | apply below_alloc | apply pw_below_drewN | apply below_drew1 | refine below_set ?_ GE267.out | refine below_set ?_ GE268.out | refine below_set ?_ GE269.out | refine below_set ?_ GE277.out) | exact HB.out)) hb)
                    have NB267_293 := Aside0.mk ((by rw [hg]; exact Nat.ne_of_lt (blk_lt (g := gb267) (o := .cells #[.int .i64 a0_0, .int .i64 a0_1, .int .i64 a0_2, .int .i64 a0_3] 23 (0, 0)) (YtloojhnohofonaaSq.bq BK267)) : gb267 ≠ gb293))
                    have NB293_267 := Aside0.mk ((by rw [hg]; exact Nat.ne_of_gt (blk_lt (g := gb267) (o := .cells #[.int .i64 a0_0, .int .i64 a0_1, .int .i64 a0_2, .int .i64 a0_3] 23 (0, 0)) (YtloojhnohofonaaSq.bq BK267)) : gb293 ≠ gb267))
                    replace BK267 := YtloojhnohofonaaSq.bb BK267 hb
                    have NB268_293 := Aside0.mk ((by rw [hg]; exact Nat.ne_of_lt (blk_lt (g := gb268) (o := .cells #[.int .i64 a1_0, .int .i64 a1_1, .int .i64 a1_2, .int .i64 a1_3] 23 (0, 0)) (YtloojhnohofonaaSq.bq BK268)) : gb268 ≠ gb293))
                    have NB293_268 := Aside0.mk ((by rw [hg]; exact Nat.ne_of_gt (blk_lt (g := gb268) (o := .cells #[.int .i64 a1_0, .int .i64 a1_1, .int .i64 a1_2, .int .i64 a1_3] 23 (0, 0)) (YtloojhnohofonaaSq.bq BK268)) : gb293 ≠ gb268))
                    replace BK268 := YtloojhnohofonaaSq.bb BK268 hb
                    have NB269_293 := Aside0.mk ((by rw [hg]; exact Nat.ne_of_lt (blk_lt (g := gb269) (o := .cells #[.int .i64 a2_0, .int .i64 a2_1] 30 (0, 0)) (YtloojhnohofonaaSq.bq BK269)) : gb269 ≠ gb293))
                    have NB293_269 := Aside0.mk ((by rw [hg]; exact Nat.ne_of_gt (blk_lt (g := gb269) (o := .cells #[.int .i64 a2_0, .int .i64 a2_1] 30 (0, 0)) (YtloojhnohofonaaSq.bq BK269)) : gb293 ≠ gb269))
                    replace BK269 := YtloojhnohofonaaSq.bb BK269 hb
                    have NB277_293 := Aside0.mk ((by rw [hg]; exact Nat.ne_of_lt (blk_lt (g := gb277) (o := .cells #[.int .i64 t273, .int .i64 t274, .int .i64 t275, .int .i64 t276] 23 (0, 0)) (YtloojhnohofonaaSq.bq BK277)) : gb277 ≠ gb293))
                    have NB293_277 := Aside0.mk ((by rw [hg]; exact Nat.ne_of_gt (blk_lt (g := gb277) (o := .cells #[.int .i64 t273, .int .i64 t274, .int .i64 t275, .int .i64 t276] 23 (0, 0)) (YtloojhnohofonaaSq.bq BK277)) : gb293 ≠ gb277))
                    replace BK277 := YtloojhnohofonaaSq.bb BK277 hb
                    clear hb hbox hg
                    refine hK.out _ _ ⟨(blk_cell BK267.out 0).trans rfl, (blk_cell BK267.out 1).trans rfl, (blk_cell BK267.out 2).trans rfl, (blk_cell BK267.out 3).trans rfl, (blk_cell BK268.out 0).trans rfl, (blk_cell BK268.out 1).trans rfl, (blk_cell BK268.out 2).trans rfl, (blk_cell BK268.out 3).trans rfl⟩ (fun hHeld => ?_)
                    clear hK K
                    refine norm_ (a' := ?_) ?_ ?_
                    rotate_left
                    ·
                     show Act.put _ (some 11) _ = _
                     simp only [Act.put, List.setIfInBounds_toArray, List.set_cons_zero, List.set_cons_succ, i64_w, i32_w]
                     rfl
                    exact norm_ (by simp only [putAll, Act.put, List.setIfInBounds_toArray, List.set_cons_zero, List.set_cons_succ] <;> rfl) (hJ9 (gb293) _ ⟨hHeld, (YtloojhnohofonaaSq.bq BK267), (YtloojhnohofonaaSq.bq BK268), (YtloojhnohofonaaSq.bq BK269), (YtloojhnohofonaaSq.bq BK277), (YtloojhnohofonaaSq.bq BK293), GW293.out, GE293.out, NB267_293.out, NB293_267.out, NB268_293.out, NB293_268.out, NB269_293.out, NB293_269.out, NB277_293.out, NB293_277.out, (by repeat (first | (with_reducible first | exact HB.out | apply below_alloc | apply pw_below_drewN | apply below_drew1 | refine below_set ?_ GE267.out | refine below_set ?_ GE268.out | refine below_set ?_ GE269.out | refine below_set ?_ GE277.out | refine below_set ?_ GE293.out) | exact HB.out))⟩)
                  ·
                   rintro gb293 w89 ⟨hS_, h0_, h1_, h2_, h3_, h4_, h5_, h6_, h7_, h8_, h9_, h10_, h11_, h12_, h13_, h14_, h15_⟩
                   replace BK267 := Aside0.mk h0_
                   replace BK268 := Aside0.mk h1_
                   replace BK269 := Aside0.mk h2_
                   replace BK277 := Aside0.mk h3_
                   have BK293 := Aside0.mk h4_
                   have GW293 := Aside0.mk h5_
                   have GE293 := Aside0.mk h6_
                   have NB267_293 := Aside0.mk h7_
                   have NB293_267 := Aside0.mk h8_
                   have NB268_293 := Aside0.mk h9_
                   have NB293_268 := Aside0.mk h10_
                   have NB269_293 := Aside0.mk h11_
                   have NB293_269 := Aside0.mk h12_
                   have NB277_293 := Aside0.mk h13_
                   have NB293_277 := Aside0.mk h14_
                   replace HB := Aside0.mk h15_
                   clear h0_ h1_ h2_ h3_ h4_ h5_ h6_ h7_ h8_ h9_ h10_ h11_ h12_ h13_ h14_ h15_
                   have hHeld : w89.cell? ⟨gb267, 0, none⟩ = some (.int .i64 a0_0) ∧ w89.cell? ⟨gb267, 1, none⟩ = some (.int .i64 a0_1) ∧ w89.cell? ⟨gb267, 2, none⟩ = some (.int .i64 a0_2) ∧ w89.cell? ⟨gb267, 3, none⟩ = some (.int .i64 a0_3) ∧ w89.cell? ⟨gb268, 0, none⟩ = some (.int .i64 a1_0) ∧ w89.cell? ⟨gb268, 1, none⟩ = some (.int .i64 a1_1) ∧ w89.cell? ⟨gb268, 2, none⟩ = some (.int .i64 a1_2) ∧ w89.cell? ⟨gb268, 3, none⟩ = some (.int .i64 a1_3) := hS_
                   refine norm_ (a' := ?_) ?_ ?_
                   rotate_left
                   ·
                    simp only [putAll, Act.put, List.setIfInBounds_toArray, List.set_cons_zero, List.set_cons_succ]
                    rfl
                   refine two_ (i := 3) (j := 8) (Ni := some 65) (Nj := some 10) zq4.q13 zq4.q14 rfl rfl rfl rfl (two_of HT_.out (by kernel_rfl)) (by decide) (by decide) (fun K hK => ?_) (fun K hK => ?_)
                   ·
                    refine goes_ Try.func13 (by kernel_rfl) rfl #[.agg #[.int .i64 a0_0, .int .i64 a0_1, .int .i64 a0_2, .int .i64 a0_3], .int .i64 a2_0, .int .i64 a2_1] (by rfl) rfl rfl (by (try simp only [List.map_toArray, List.map_cons, List.map_nil]); first | done | rfl | (simp only [List.length_drop, List.length_take]; rfl)) ?_
                    with_reducible refine (rect_Translate.calls a0_0 a0_1 a0_2 a0_3 a2_0 a2_1 t284 t285 t286 t287 _ A62.out).mono ?_
                    rintro e w90 ⟨rfl, hb⟩
                    refine ⟨_, rfl, ?_⟩
                    replace BK267 := YtloojhnohofonaaSq.bb BK267 hb
                    replace BK268 := YtloojhnohofonaaSq.bb BK268 hb
                    replace BK269 := YtloojhnohofonaaSq.bb BK269 hb
                    replace BK277 := YtloojhnohofonaaSq.bb BK277 hb
                    replace BK293 := YtloojhnohofonaaSq.bb BK293 hb
                    replace HB := Aside0.mk (below_step (by repeat (first | (with_reducible first | exact HB.out | apply below_alloc | apply pw_below_drewN | apply below_drew1 | refine below_set ?_ GE267.out | refine below_set ?_ GE268.out | refine below_set ?_ GE269.out | refine below_set ?_ GE277.out | refine below_set ?_ GE293.out) | exact HB.out)) hb)
                    (try clear hb); (try clear hb2); (try clear hk); (try clear hi)
                    refine hK.out _ _ ⟨(blk_cell BK267.out 0).trans rfl, (blk_cell BK267.out 1).trans rfl, (blk_cell BK267.out 2).trans rfl, (blk_cell BK267.out 3).trans rfl, (blk_cell BK268.out 0).trans rfl, (blk_cell BK268.out 1).trans rfl, (blk_cell BK268.out 2).trans rfl, (blk_cell BK268.out 3).trans rfl⟩ (fun hHeld => ?_)
                    clear hK K
                    refine norm_ (a' := ?_) ?_ ?_
                    rotate_left
                    ·
                     show Act.put _ (some 65) _ = _
                     simp only [Act.put, List.setIfInBounds_toArray, List.set_cons_zero, List.set_cons_succ, i64_w, i32_w]
                     rfl
                    exact norm_ (by simp only [putAll, Act.put, List.setIfInBounds_toArray, List.set_cons_zero, List.set_cons_succ] <;> rfl) (hJ3_9 (gb293) _ ⟨hHeld, (YtloojhnohofonaaSq.bq BK267), (YtloojhnohofonaaSq.bq BK268), (YtloojhnohofonaaSq.bq BK269), (YtloojhnohofonaaSq.bq BK277), (YtloojhnohofonaaSq.bq BK293), GW293.out, GE293.out, NB267_293.out, NB293_267.out, NB268_293.out, NB293_268.out, NB269_293.out, NB293_269.out, NB277_293.out, NB293_277.out, (by repeat (first | (with_reducible first | exact HB.out | apply below_alloc | apply pw_below_drewN | apply below_drew1 | refine below_set ?_ GE267.out | refine below_set ?_ GE268.out | refine below_set ?_ GE269.out | refine below_set ?_ GE277.out | refine below_set ?_ GE293.out) | exact HB.out))⟩)
                   ·
                    refine box_step ?hg (N := 10) ?hd (cs := #[.int .i64 0, .int .i64 0, .int .i64 0, .int .i64 0]) (t := 23) ?hr ?_; (case hd => rfl); (case hg => rfl); (case hr => first | (go_simp; done) | (go_simp; rfl))
                    intro gb292 hg w90 hbox hb
                    have BK292 := Aside0.mk (hbox)
                    have GW292 := Aside0.mk ((by rw [hg]; exact (below_size (by repeat (first | (with_reducible first | exact HB.out | apply below_alloc | apply pw_below_drewN | apply below_drew1 | refine below_set ?_ GE267.out | refine below_set ?_ GE268.out | refine below_set ?_ GE269.out | refine below_set ?_ GE277.out | refine below_set ?_ GE293.out) | exact HB.out))) : w.heap.size ≤ gb292))
                    have GE292 := Aside0.mk ((by rw [hg]; exact (below_size (by repeat (first | (with_reducible first | exact HB.out | apply below_alloc | apply pw_below_drewN | apply below_drew1 | refine below_set ?_ GE267.out | refine below_set ?_ GE268.out | refine below_set ?_ GE269.out | refine below_set ?_ GE277.out | refine below_set ?_ GE293.out) | exact HB.out))) : w.heap.size ≤ gb292))
                    replace HB := Aside0.mk (below_step (by repeat (first | (with_reducible first | exact HB.out | apply below_alloc | apply pw_below_drewN | apply below_drew1 | refine below_set ?_ GE267.out | refine below_set ?_ GE268.out | refine below_set ?_ GE269.out | refine below_set ?_ GE277.out | refine below_set ?_ GE293.out) | exact HB.out)) hb)
                    have NB267_292 := Aside0.mk ((by rw [hg]; exact Nat.ne_of_lt (blk_lt (g := gb267) (o := .cells #[.int .i64 a0_0, .int .i64 a0_1, .int .i64 a0_2, .int .i64 a0_3] 23 (0, 0)) (YtloojhnohofonaaSq.bq BK267)) : gb267 ≠ gb292))
                    have NB292_267 := Aside0.mk ((by rw [hg]; exact Nat.ne_of_gt (blk_lt (g := gb267) (o := .cells #[.int .i64 a0_0, .int .i64 a0_1, .int .i64 a0_2, .int .i64 a0_3] 23 (0, 0)) (YtloojhnohofonaaSq.bq BK267)) : gb292 ≠ gb267))
                    replace BK267 := YtloojhnohofonaaSq.bb BK267 hb
                    have NB268_292 := Aside0.mk ((by rw [hg]; exact Nat.ne_of_lt (blk_lt (g := gb268) (o := .cells #[.int .i64 a1_0, .int .i64 a1_1, .int .i64 a1_2, .int .i64 a1_3] 23 (0, 0)) (YtloojhnohofonaaSq.bq BK268)) : gb268 ≠ gb292))
                    have NB292_268 := Aside0.mk ((by rw [hg]; exact Nat.ne_of_gt (blk_lt (g := gb268) (o := .cells #[.int .i64 a1_0, .int .i64 a1_1, .int .i64 a1_2, .int .i64 a1_3] 23 (0, 0)) (YtloojhnohofonaaSq.bq BK268)) : gb292 ≠ gb268))
                    replace BK268 := YtloojhnohofonaaSq.bb BK268 hb
                    have NB269_292 := Aside0.mk ((by rw [hg]; exact Nat.ne_of_lt (blk_lt (g := gb269) (o := .cells #[.int .i64 a2_0, .int .i64 a2_1] 30 (0, 0)) (YtloojhnohofonaaSq.bq BK269)) : gb269 ≠ gb292))
                    have NB292_269 := Aside0.mk ((by rw [hg]; exact Nat.ne_of_gt (blk_lt (g := gb269) (o := .cells #[.int .i64 a2_0, .int .i64 a2_1] 30 (0, 0)) (YtloojhnohofonaaSq.bq BK269)) : gb292 ≠ gb269))
                    replace BK269 := YtloojhnohofonaaSq.bb BK269 hb
                    have NB277_292 := Aside0.mk ((by rw [hg]; exact Nat.ne_of_lt (blk_lt (g := gb277) (o := .cells #[.int .i64 t273, .int .i64 t274, .int .i64 t275, .int .i64 t276] 23 (0, 0)) (YtloojhnohofonaaSq.bq BK277)) : gb277 ≠ gb292))
                    have NB292_277 := Aside0.mk ((by rw [hg]; exact Nat.ne_of_gt (blk_lt (g := gb277) (o := .cells #[.int .i64 t273, .int .i64 t274, .int .i64 t275, .int .i64 t276] 23 (0, 0)) (YtloojhnohofonaaSq.bq BK277)) : gb292 ≠ gb277))
                    replace BK277 := YtloojhnohofonaaSq.bb BK277 hb
                    have NB293_292 := Aside0.mk ((by rw [hg]; exact Nat.ne_of_lt (blk_lt (g := gb293) (o := .cells #[.int .i64 0, .int .i64 0, .int .i64 0, .int .i64 0] 23 (0, 0)) (YtloojhnohofonaaSq.bq BK293)) : gb293 ≠ gb292))
                    have NB292_293 := Aside0.mk ((by rw [hg]; exact Nat.ne_of_gt (blk_lt (g := gb293) (o := .cells #[.int .i64 0, .int .i64 0, .int .i64 0, .int .i64 0] 23 (0, 0)) (YtloojhnohofonaaSq.bq BK293)) : gb292 ≠ gb293))
                    replace BK293 := YtloojhnohofonaaSq.bb BK293 hb
                    clear hb hbox hg
                    refine hK.out _ _ ⟨(blk_cell BK267.out 0).trans rfl, (blk_cell BK267.out 1).trans rfl, (blk_cell BK267.out 2).trans rfl, (blk_cell BK267.out 3).trans rfl, (blk_cell BK268.out 0).trans rfl, (blk_cell BK268.out 1).trans rfl, (blk_cell BK268.out 2).trans rfl, (blk_cell BK268.out 3).trans rfl⟩ (fun hHeld => ?_)
                    clear hK K
                    refine norm_ (a' := ?_) ?_ ?_
                    rotate_left
                    ·
                     show Act.put _ (some 10) _ = _
                     simp only [Act.put, List.setIfInBounds_toArray, List.set_cons_zero, List.set_cons_succ, i64_w, i32_w]
                     rfl
                    exact norm_ (by simp only [putAll, Act.put, List.setIfInBounds_toArray, List.set_cons_zero, List.set_cons_succ] <;> rfl) (hJ8_9 (gb292, gb293) _ ⟨hHeld, (YtloojhnohofonaaSq.bq BK267), (YtloojhnohofonaaSq.bq BK268), (YtloojhnohofonaaSq.bq BK269), (YtloojhnohofonaaSq.bq BK277), (YtloojhnohofonaaSq.bq BK292), (YtloojhnohofonaaSq.bq BK293), GW292.out, GE292.out, NB267_292.out, NB292_267.out, NB268_292.out, NB292_268.out, NB269_292.out, NB292_269.out, NB277_292.out, NB292_277.out, NB293_292.out, NB292_293.out, GW293.out, GE293.out, NB267_293.out, NB293_267.out, NB268_293.out, NB293_268.out, NB269_293.out, NB293_269.out, NB277_293.out, NB293_277.out, (by repeat (first | (with_reducible first | exact HB.out | apply below_alloc | apply pw_below_drewN | apply below_drew1 | refine below_set ?_ GE267.out | refine below_set ?_ GE268.out | refine below_set ?_ GE269.out | refine below_set ?_ GE277.out | refine below_set ?_ GE293.out | refine below_set ?_ GE292.out) | exact HB.out))⟩)
                 ·
                  rintro gb292 w89 ⟨hS_, h0_, h1_, h2_, h3_, h4_, h5_, h6_, h7_, h8_, h9_, h10_, h11_, h12_, h13_, h14_, h15_⟩
                  replace BK267 := Aside0.mk h0_
                  replace BK268 := Aside0.mk h1_
                  replace BK269 := Aside0.mk h2_
                  replace BK277 := Aside0.mk h3_
                  have BK292 := Aside0.mk h4_
                  have GW292 := Aside0.mk h5_
                  have GE292 := Aside0.mk h6_
                  have NB267_292 := Aside0.mk h7_
                  have NB292_267 := Aside0.mk h8_
                  have NB268_292 := Aside0.mk h9_
                  have NB292_268 := Aside0.mk h10_
                  have NB269_292 := Aside0.mk h11_
                  have NB292_269 := Aside0.mk h12_
                  have NB277_292 := Aside0.mk h13_
                  have NB292_277 := Aside0.mk h14_
                  replace HB := Aside0.mk h15_
                  clear h0_ h1_ h2_ h3_ h4_ h5_ h6_ h7_ h8_ h9_ h10_ h11_ h12_ h13_ h14_ h15_
                  have hHeld : w89.cell? ⟨gb267, 0, none⟩ = some (.int .i64 a0_0) ∧ w89.cell? ⟨gb267, 1, none⟩ = some (.int .i64 a0_1) ∧ w89.cell? ⟨gb267, 2, none⟩ = some (.int .i64 a0_2) ∧ w89.cell? ⟨gb267, 3, none⟩ = some (.int .i64 a0_3) ∧ w89.cell? ⟨gb268, 0, none⟩ = some (.int .i64 a1_0) ∧ w89.cell? ⟨gb268, 1, none⟩ = some (.int .i64 a1_1) ∧ w89.cell? ⟨gb268, 2, none⟩ = some (.int .i64 a1_2) ∧ w89.cell? ⟨gb268, 3, none⟩ = some (.int .i64 a1_3) := hS_
                  refine norm_ (a' := ?_) ?_ ?_
                  rotate_left
                  ·
                   simp only [putAll, Act.put, List.setIfInBounds_toArray, List.set_cons_zero, List.set_cons_succ]
                   rfl
                  refine two_ (i := 3) (j := 9) (Ni := some 65) (Nj := some 11) zq4.q12 zq4.q14 rfl rfl rfl rfl (two_of HT_.out (by kernel_rfl)) (by decide) (by decide) (fun K hK => ?_) (fun K hK => ?_)
                  ·
                   refine goes_ Try.func13 (by kernel_rfl) rfl #[.agg #[.int .i64 a0_0, .int .i64 a0_1, .int .i64 a0_2, .int .i64 a0_3], .int .i64 a2_0, .int .i64 a2_1] (by rfl) rfl rfl (by (try simp only [List.map_toArray, List.map_cons, List.map_nil]); first | done | rfl | (simp only [List.length_drop, List.length_take]; rfl)) ?_
                   with_reducible refine (rect_Translate.calls a0_0 a0_1 a0_2 a0_3 a2_0 a2_1 t284 t285 t286 t287 _ A62.out).mono ?_
                   rintro e w90 ⟨rfl, hb⟩
                   refine ⟨_, rfl, ?_⟩
                   replace BK267 := YtloojhnohofonaaSq.bb BK267 hb
                   replace BK268 := YtloojhnohofonaaSq.bb BK268 hb
                   replace BK269 := YtloojhnohofonaaSq.bb BK269 hb
                   replace BK277 := YtloojhnohofonaaSq.bb BK277 hb
                   replace BK292 := YtloojhnohofonaaSq.bb BK292 hb
                   replace HB := Aside0.mk (below_step (by repeat (first | (with_reducible first | exact HB.out | apply below_alloc | apply pw_below_drewN | apply below_drew1 | refine below_set ?_ GE267.out | refine below_set ?_ GE268.out | refine below_set ?_ GE269.out | refine below_set ?_ GE277.out | refine below_set ?_ GE292.out) | exact HB.out)) hb)
                   (try clear hb); (try clear hb2); (try clear hk); (try clear hi)
                   refine hK.out _ _ ⟨(blk_cell BK267.out 0).trans rfl, (blk_cell BK267.out 1).trans rfl, (blk_cell BK267.out 2).trans rfl, (blk_cell BK267.out 3).trans rfl, (blk_cell BK268.out 0).trans rfl, (blk_cell BK268.out 1).trans rfl, (blk_cell BK268.out 2).trans rfl, (blk_cell BK268.out 3).trans rfl⟩ (fun hHeld => ?_)
                   clear hK K
                   refine norm_ (a' := ?_) ?_ ?_
                   rotate_left
                   ·
                    show Act.put _ (some 65) _ = _
                    simp only [Act.put, List.setIfInBounds_toArray, List.set_cons_zero, List.set_cons_succ, i64_w, i32_w]
                    rfl
                   exact norm_ (by simp only [putAll, Act.put, List.setIfInBounds_toArray, List.set_cons_zero, List.set_cons_succ] <;> rfl) (hJ3_8 (gb292) _ ⟨hHeld, (YtloojhnohofonaaSq.bq BK267), (YtloojhnohofonaaSq.bq BK268), (YtloojhnohofonaaSq.bq BK269), (YtloojhnohofonaaSq.bq BK277), (YtloojhnohofonaaSq.bq BK292), GW292.out, GE292.out, NB267_292.out, NB292_267.out, NB268_292.out, NB292_268.out, NB269_292.out, NB292_269.out, NB277_292.out, NB292_277.out, (by repeat (first | (with_reducible first | exact HB.out | apply below_alloc | apply pw_below_drewN | apply below_drew1 | refine below_set ?_ GE267.out | refine below_set ?_ GE268.out | refine below_set ?_ GE269.out | refine below_set ?_ GE277.out | refine below_set ?_ GE292.out) | exact HB.out))⟩)
                  ·
                   refine box_step ?hg (N := 11) ?hd (cs := #[.int .i64 0, .int .i64 0, .int .i64 0, .int .i64 0]) (t := 23) ?hr ?_; (case hd => rfl); (case hg => rfl); (case hr => first | (go_simp; done) | (go_simp; rfl))
                   intro gb293 hg w90 hbox hb
                   have BK293 := Aside0.mk (hbox)
                   have GW293 := Aside0.mk ((by rw [hg]; exact (below_size (by repeat (first | (with_reducible first | exact HB.out | apply below_alloc | apply pw_below_drewN | apply below_drew1 | refine below_set ?_ GE267.out | refine below_set ?_ GE268.out | refine below_set ?_ GE269.out | refine below_set ?_ GE277.out | refine below_set ?_ GE292.out) | exact HB.out))) : w.heap.size ≤ gb293))
                   have GE293 := Aside0.mk ((by rw [hg]; exact (below_size (by repeat (first | (with_reducible first | exact HB.out | apply below_alloc | apply pw_below_drewN | apply below_drew1 | refine below_set ?_ GE267.out | refine below_set ?_ GE268.out | refine below_set ?_ GE269.out | refine below_set ?_ GE277.out | refine below_set ?_ GE292.out) | exact HB.out))) : w.heap.size ≤ gb293))
                   replace HB := Aside0.mk (below_step (by repeat (first | (with_reducible first | exact HB.out | apply below_alloc | apply pw_below_drewN | apply below_drew1 | refine below_set ?_ GE267.out | refine below_set ?_ GE268.out | refine below_set ?_ GE269.out | refine below_set ?_ GE277.out | refine below_set ?_ GE292.out) | exact HB.out)) hb)
                   have NB267_293 := Aside0.mk ((by rw [hg]; exact Nat.ne_of_lt (blk_lt (g := gb267) (o := .cells #[.int .i64 a0_0, .int .i64 a0_1, .int .i64 a0_2, .int .i64 a0_3] 23 (0, 0)) (YtloojhnohofonaaSq.bq BK267)) : gb267 ≠ gb293))
                   have NB293_267 := Aside0.mk ((by rw [hg]; exact Nat.ne_of_gt (blk_lt (g := gb267) (o := .cells #[.int .i64 a0_0, .int .i64 a0_1, .int .i64 a0_2, .int .i64 a0_3] 23 (0, 0)) (YtloojhnohofonaaSq.bq BK267)) : gb293 ≠ gb267))
                   replace BK267 := YtloojhnohofonaaSq.bb BK267 hb
                   have NB268_293 := Aside0.mk ((by rw [hg]; exact Nat.ne_of_lt (blk_lt (g := gb268) (o := .cells #[.int .i64 a1_0, .int .i64 a1_1, .int .i64 a1_2, .int .i64 a1_3] 23 (0, 0)) (YtloojhnohofonaaSq.bq BK268)) : gb268 ≠ gb293))
                   have NB293_268 := Aside0.mk ((by rw [hg]; exact Nat.ne_of_gt (blk_lt (g := gb268) (o := .cells #[.int .i64 a1_0, .int .i64 a1_1, .int .i64 a1_2, .int .i64 a1_3] 23 (0, 0)) (YtloojhnohofonaaSq.bq BK268)) : gb293 ≠ gb268))
                   replace BK268 := YtloojhnohofonaaSq.bb BK268 hb
                   have NB269_293 := Aside0.mk ((by rw [hg]; exact Nat.ne_of_lt (blk_lt (g := gb269) (o := .cells #[.int .i64 a2_0, .int .i64 a2_1] 30 (0, 0)) (YtloojhnohofonaaSq.bq BK269)) : gb269 ≠ gb293))
                   have NB293_269 := Aside0.mk ((by rw [hg]; exact Nat.ne_of_gt (blk_lt (g := gb269) (o := .cells #[.int .i64 a2_0, .int .i64 a2_1] 30 (0, 0)) (YtloojhnohofonaaSq.bq BK269)) : gb293 ≠ gb269))
                   replace BK269 := YtloojhnohofonaaSq.bb BK269 hb
                   have NB277_293 := Aside0.mk ((by rw [hg]; exact Nat.ne_of_lt (blk_lt (g := gb277) (o := .cells #[.int .i64 t273, .int .i64 t274, .int .i64 t275, .int .i64 t276] 23 (0, 0)) (YtloojhnohofonaaSq.bq BK277)) : gb277 ≠ gb293))
                   have NB293_277 := Aside0.mk ((by rw [hg]; exact Nat.ne_of_gt (blk_lt (g := gb277) (o := .cells #[.int .i64 t273, .int .i64 t274, .int .i64 t275, .int .i64 t276] 23 (0, 0)) (YtloojhnohofonaaSq.bq BK277)) : gb293 ≠ gb277))
                   replace BK277 := YtloojhnohofonaaSq.bb BK277 hb
                   have NB292_293 := Aside0.mk ((by rw [hg]; exact Nat.ne_of_lt (blk_lt (g := gb292) (o := .cells #[.int .i64 0, .int .i64 0, .int .i64 0, .int .i64 0] 23 (0, 0)) (YtloojhnohofonaaSq.bq BK292)) : gb292 ≠ gb293))
                   have NB293_292 := Aside0.mk ((by rw [hg]; exact Nat.ne_of_gt (blk_lt (g := gb292) (o := .cells #[.int .i64 0, .int .i64 0, .int .i64 0, .int .i64 0] 23 (0, 0)) (YtloojhnohofonaaSq.bq BK292)) : gb293 ≠ gb292))
                   replace BK292 := YtloojhnohofonaaSq.bb BK292 hb
                   clear hb hbox hg
                   refine hK.out _ _ ⟨(blk_cell BK267.out 0).trans rfl, (blk_cell BK267.out 1).trans rfl, (blk_cell BK267.out 2).trans rfl, (blk_cell BK267.out 3).trans rfl, (blk_cell BK268.out 0).trans rfl, (blk_cell BK268.out 1).trans rfl, (blk_cell BK268.out 2).trans rfl, (blk_cell BK268.out 3).trans rfl⟩ (fun hHeld => ?_)
                   clear hK K
                   refine norm_ (a' := ?_) ?_ ?_
                   rotate_left
                   ·
                    show Act.put _ (some 11) _ = _
                    simp only [Act.put, List.setIfInBounds_toArray, List.set_cons_zero, List.set_cons_succ, i64_w, i32_w]
                    rfl
                   exact norm_ (by simp only [putAll, Act.put, List.setIfInBounds_toArray, List.set_cons_zero, List.set_cons_succ] <;> rfl) (hJ8_9 (gb292, gb293) _ ⟨hHeld, (YtloojhnohofonaaSq.bq BK267), (YtloojhnohofonaaSq.bq BK268), (YtloojhnohofonaaSq.bq BK269), (YtloojhnohofonaaSq.bq BK277), (YtloojhnohofonaaSq.bq BK292), (YtloojhnohofonaaSq.bq BK293), GW292.out, GE292.out, NB267_292.out, NB292_267.out, NB268_292.out, NB292_268.out, NB269_292.out, NB292_269.out, NB277_292.out, NB292_277.out, NB293_292.out, NB292_293.out, GW293.out, GE293.out, NB267_293.out, NB293_267.out, NB268_293.out, NB293_268.out, NB269_293.out, NB293_269.out, NB277_293.out, NB293_277.out, (by repeat (first | (with_reducible first | exact HB.out | apply below_alloc | apply pw_below_drewN | apply below_drew1 | refine below_set ?_ GE267.out | refine below_set ?_ GE268.out | refine below_set ?_ GE269.out | refine below_set ?_ GE277.out | refine below_set ?_ GE292.out | refine below_set ?_ GE293.out) | exact HB.out))⟩)
                ·
                 rintro _ w89 ⟨hS_, h0_, h1_, h2_, h3_, h4_⟩
                 replace BK267 := Aside0.mk h0_
                 replace BK268 := Aside0.mk h1_
                 replace BK269 := Aside0.mk h2_
                 replace BK277 := Aside0.mk h3_
                 replace HB := Aside0.mk h4_
                 clear h0_ h1_ h2_ h3_ h4_
                 have hHeld : w89.cell? ⟨gb267, 0, none⟩ = some (.int .i64 a0_0) ∧ w89.cell? ⟨gb267, 1, none⟩ = some (.int .i64 a0_1) ∧ w89.cell? ⟨gb267, 2, none⟩ = some (.int .i64 a0_2) ∧ w89.cell? ⟨gb267, 3, none⟩ = some (.int .i64 a0_3) ∧ w89.cell? ⟨gb268, 0, none⟩ = some (.int .i64 a1_0) ∧ w89.cell? ⟨gb268, 1, none⟩ = some (.int .i64 a1_1) ∧ w89.cell? ⟨gb268, 2, none⟩ = some (.int .i64 a1_2) ∧ w89.cell? ⟨gb268, 3, none⟩ = some (.int .i64 a1_3) := hS_
                 refine norm_ (a' := ?_) ?_ ?_
                 rotate_left
                 ·
                  simp only [putAll, Act.put, List.setIfInBounds_toArray, List.set_cons_zero, List.set_cons_succ]
                  rfl
                 refine three_ (i := 7) (j := 8) (k := 9) (Ni := some 69) (Nj := some 10) (Nk := some 11) zq4.q11 zq4.q12 zq4.q13 rfl rfl rfl rfl rfl rfl (three_of HT_.out (by kernel_rfl)) (by decide) (by decide) (by decide) (fun K hK => ?_) (fun K hK => ?_) (fun K hK => ?_)
                 ·
                  refine goes_ Try.func13 (by kernel_rfl) rfl #[.agg #[.int .i64 a1_0, .int .i64 a1_1, .int .i64 a1_2, .int .i64 a1_3], .int .i64 a2_0, .int .i64 a2_1] (by rfl) rfl rfl (by (try simp only [List.map_toArray, List.map_cons, List.map_nil]); first | done | rfl | (simp only [List.length_drop, List.length_take]; rfl)) ?_
                  with_reducible refine (rect_Translate.calls a1_0 a1_1 a1_2 a1_3 a2_0 a2_1 t288 t289 t290 t291 _ A63.out).mono ?_
                  rintro e w90 ⟨rfl, hb⟩
                  refine ⟨_, rfl, ?_⟩
                  replace BK267 := YtloojhnohofonaaSq.bb BK267 hb
                  replace BK268 := YtloojhnohofonaaSq.bb BK268 hb
                  replace BK269 := YtloojhnohofonaaSq.bb BK269 hb
                  replace BK277 := YtloojhnohofonaaSq.bb BK277 hb
                  replace HB := Aside0.mk (below_step (by repeat (first | (with_reducible first | exact HB.out | apply below_alloc | apply pw_below_drewN | apply below_drew1 | refine below_set ?_ GE267.out | refine below_set ?_ GE268.out | refine below_set ?_ GE269.out | refine below_set ?_ GE277.out) | exact HB.out)) hb)
                  (try clear hb); (try clear hb2); (try clear hk); (try clear hi)
                  refine hK.out _ _ ⟨(blk_cell BK267.out 0).trans rfl, (blk_cell BK267.out 1).trans rfl, (blk_cell BK267.out 2).trans rfl, (blk_cell BK267.out 3).trans rfl, (blk_cell BK268.out 0).trans rfl, (blk_cell BK268.out 1).trans rfl, (blk_cell BK268.out 2).trans rfl, (blk_cell BK268.out 3).trans rfl⟩ (fun hHeld => ?_)
                  clear hK K
                  refine norm_ (a' := ?_) ?_ ?_
                  rotate_left
                  ·
                   show Act.put _ (some 69) _ = _
                   simp only [Act.put, List.setIfInBounds_toArray, List.set_cons_zero, List.set_cons_succ, i64_w, i32_w]
                   rfl
                  exact norm_ (by simp only [putAll, Act.put, List.setIfInBounds_toArray, List.set_cons_zero, List.set_cons_succ] <;> rfl) (hJ3_7 () _ ⟨hHeld, (YtloojhnohofonaaSq.bq BK267), (YtloojhnohofonaaSq.bq BK268), (YtloojhnohofonaaSq.bq BK269), (YtloojhnohofonaaSq.bq BK277), (by repeat (first | (with_reducible first | exact HB.out | apply below_alloc | apply pw_below_drewN | apply below_drew1 | refine below_set ?_ GE267.out | refine below_set ?_ GE268.out | refine below_set ?_ GE269.out | refine below_set ?_ GE277.out) | exact HB.out))⟩)
                 ·
                  refine box_step ?hg (N := 10) ?hd (cs := #[.int .i64 0, .int .i64 0, .int .i64 0, .int .i64 0]) (t := 23) ?hr ?_; (case hd => rfl); (case hg => rfl); (case hr => first | (go_simp; done) | (go_simp; rfl))
                  intro gb292 hg w90 hbox hb
                  have BK292 := Aside0.mk (hbox)
                  have GW292 := Aside0.mk ((by rw [hg]; exact (below_size (by repeat (first | (with_reducible first | exact HB.out | apply below_alloc | apply pw_below_drewN | apply below_drew1 | refine below_set ?_ GE267.out | refine below_set ?_ GE268.out | refine below_set ?_ GE269.out | refine below_set ?_ GE277.out) | exact HB.out))) : w.heap.size ≤ gb292))
                  have GE292 := Aside0.mk ((by rw [hg]; exact (below_size (by repeat (first | (with_reducible first | exact HB.out | apply below_alloc | apply pw_below_drewN | apply below_drew1 | refine below_set ?_ GE267.out | refine below_set ?_ GE268.out | refine below_set ?_ GE269.out | refine below_set ?_ GE277.out) | exact HB.out))) : w.heap.size ≤ gb292))
                  replace HB := Aside0.mk (below_step (by repeat (first | (with_reducible first | exact HB.out | apply below_alloc | apply pw_below_drewN | apply below_drew1 | refine below_set ?_ GE267.out | refine below_set ?_ GE268.out | refine below_set ?_ GE269.out | refine below_set ?_ GE277.out) | exact HB.out)) hb)
                  have NB267_292 := Aside0.mk ((by rw [hg]; exact Nat.ne_of_lt (blk_lt (g := gb267) (o := .cells #[.int .i64 a0_0, .int .i64 a0_1, .int .i64 a0_2, .int .i64 a0_3] 23 (0, 0)) (YtloojhnohofonaaSq.bq BK267)) : gb267 ≠ gb292))
                  have NB292_267 := Aside0.mk ((by rw [hg]; exact Nat.ne_of_gt (blk_lt (g := gb267) (o := .cells #[.int .i64 a0_0, .int .i64 a0_1, .int .i64 a0_2, .int .i64 a0_3] 23 (0, 0)) (YtloojhnohofonaaSq.bq BK267)) : gb292 ≠ gb267))
                  replace BK267 := YtloojhnohofonaaSq.bb BK267 hb
                  have NB268_292 := Aside0.mk ((by rw [hg]; exact Nat.ne_of_lt (blk_lt (g := gb268) (o := .cells #[.int .i64 a1_0, .int .i64 a1_1, .int .i64 a1_2, .int .i64 a1_3] 23 (0, 0)) (YtloojhnohofonaaSq.bq BK268)) : gb268 ≠ gb292))
                  have NB292_268 := Aside0.mk ((by rw [hg]; exact Nat.ne_of_gt (blk_lt (g := gb268) (o := .cells #[.int .i64 a1_0, .int .i64 a1_1, .int .i64 a1_2, .int .i64 a1_3] 23 (0, 0)) (YtloojhnohofonaaSq.bq BK268)) : gb292 ≠ gb268))
                  replace BK268 := YtloojhnohofonaaSq.bb BK268 hb
                  have NB269_292 := Aside0.mk ((by rw [hg]; exact Nat.ne_of_lt (blk_lt (g := gb269) (o := .cells #[.int .i64 a2_0, .int .i64 a2_1] 30 (0, 0)) (YtloojhnohofonaaSq.bq BK269)) : gb269 ≠ gb292))
                  have NB292_269 := Aside0.mk ((by rw [hg]; exact Nat.ne_of_gt (blk_lt (g := gb269) (o := .cells #[.int .i64 a2_0, .int .i64 a2_1] 30 (0, 0)) (YtloojhnohofonaaSq.bq BK269)) : gb292 ≠ gb269))
                  replace BK269 := YtloojhnohofonaaSq.bb BK269 hb
                  have NB277_292 := Aside0.mk ((by rw [hg]; exact Nat.ne_of_lt (blk_lt (g := gb277) (o := .cells #[.int .i64 t273, .int .i64 t274, .int .i64 t275, .int .i64 t276] 23 (0, 0)) (YtloojhnohofonaaSq.bq BK277)) : gb277 ≠ gb292))
                  have NB292_277 := Aside0.mk ((by rw [hg]; exact Nat.ne_of_gt (blk_lt (g := gb277) (o := .cells #[.int .i64 t273, .int .i64 t274, .int .i64 t275, .int .i64 t276] 23 (0, 0)) (YtloojhnohofonaaSq.bq BK277)) : gb292 ≠ gb277))
                  replace BK277 := YtloojhnohofonaaSq.bb BK277 hb
                  clear hb hbox hg
                  refine hK.out _ _ ⟨(blk_cell BK267.out 0).trans rfl, (blk_cell BK267.out 1).trans rfl, (blk_cell BK267.out 2).trans rfl, (blk_cell BK267.out 3).trans rfl, (blk_cell BK268.out 0).trans rfl, (blk_cell BK268.out 1).trans rfl, (blk_cell BK268.out 2).trans rfl, (blk_cell BK268.out 3).trans rfl⟩ (fun hHeld => ?_)
                  clear hK K
                  refine norm_ (a' := ?_) ?_ ?_
                  rotate_left
                  ·
                   show Act.put _ (some 10) _ = _
                   simp only [Act.put, List.setIfInBounds_toArray, List.set_cons_zero, List.set_cons_succ, i64_w, i32_w]
                   rfl
                  exact norm_ (by simp only [putAll, Act.put, List.setIfInBounds_toArray, List.set_cons_zero, List.set_cons_succ] <;> rfl) (hJ3_8 (gb292) _ ⟨hHeld, (YtloojhnohofonaaSq.bq BK267), (YtloojhnohofonaaSq.bq BK268), (YtloojhnohofonaaSq.bq BK269), (YtloojhnohofonaaSq.bq BK277), (YtloojhnohofonaaSq.bq BK292), GW292.out, GE292.out, NB267_292.out, NB292_267.out, NB268_292.out, NB292_268.out, NB269_292.out, NB292_269.out, NB277_292.out, NB292_277.out, (by repeat (first | (with_reducible first | exact HB.out | apply below_alloc | apply pw_below_drewN | apply below_drew1 | refine below_set ?_ GE267.out | refine below_set ?_ GE268.out | refine below_set ?_ GE269.out | refine below_set ?_ GE277.out | refine below_set ?_ GE292.out) | exact HB.out))⟩)
                 ·
                  refine box_step ?hg (N := 11) ?hd (cs := #[.int .i64 0, .int .i64 0, .int .i64 0, .int .i64 0]) (t := 23) ?hr ?_; (case hd => rfl); (case hg => rfl); (case hr => first | (go_simp; done) | (go_simp; rfl))
                  intro gb293 hg w90 hbox hb
                  have BK293 := Aside0.mk (hbox)
                  have GW293 := Aside0.mk ((by rw [hg]; exact (below_size (by repeat (first | (with_reducible first | exact HB.out | apply below_alloc | apply pw_below_drewN | apply below_drew1 | refine below_set ?_ GE267.out | refine below_set ?_ GE268.out | refine below_set ?_ GE269.out | refine below_set ?_ GE277.out) | exact HB.out))) : w.heap.size ≤ gb293))
                  have GE293 := Aside0.mk ((by rw [hg]; exact (below_size (by repeat (first | (with_reducible first | exact HB.out | apply below_alloc | apply pw_below_drewN | apply below_drew1 | refine below_set ?_ GE267.out | refine below_set ?_ GE268.out | refine below_set ?_ GE269.out | refine below_set ?_ GE277.out) | exact HB.out))) : w.heap.size ≤ gb293))
                  replace HB := Aside0.mk (below_step (by repeat (first | (with_reducible first | exact HB.out | apply below_alloc | apply pw_below_drewN | apply below_drew1 | refine below_set ?_ GE267.out | refine below_set ?_ GE268.out | refine below_set ?_ GE269.out | refine below_set ?_ GE277.out) | exact HB.out)) hb)
                  have NB267_293 := Aside0.mk ((by rw [hg]; exact Nat.ne_of_lt (blk_lt (g := gb267) (o := .cells #[.int .i64 a0_0, .int .i64 a0_1, .int .i64 a0_2, .int .i64 a0_3] 23 (0, 0)) (YtloojhnohofonaaSq.bq BK267)) : gb267 ≠ gb293))
                  have NB293_267 := Aside0.mk ((by rw [hg]; exact Nat.ne_of_gt (blk_lt (g := gb267) (o := .cells #[.int .i64 a0_0, .int .i64 a0_1, .int .i64 a0_2, .int .i64 a0_3] 23 (0, 0)) (YtloojhnohofonaaSq.bq BK267)) : gb293 ≠ gb267))
                  replace BK267 := YtloojhnohofonaaSq.bb BK267 hb
                  have NB268_293 := Aside0.mk ((by rw [hg]; exact Nat.ne_of_lt (blk_lt (g := gb268) (o := .cells #[.int .i64 a1_0, .int .i64 a1_1, .int .i64 a1_2, .int .i64 a1_3] 23 (0, 0)) (YtloojhnohofonaaSq.bq BK268)) : gb268 ≠ gb293))
                  have NB293_268 := Aside0.mk ((by rw [hg]; exact Nat.ne_of_gt (blk_lt (g := gb268) (o := .cells #[.int .i64 a1_0, .int .i64 a1_1, .int .i64 a1_2, .int .i64 a1_3] 23 (0, 0)) (YtloojhnohofonaaSq.bq BK268)) : gb293 ≠ gb268))
                  replace BK268 := YtloojhnohofonaaSq.bb BK268 hb
                  have NB269_293 := Aside0.mk ((by rw [hg]; exact Nat.ne_of_lt (blk_lt (g := gb269) (o := .cells #[.int .i64 a2_0, .int .i64 a2_1] 30 (0, 0)) (YtloojhnohofonaaSq.bq BK269)) : gb269 ≠ gb293))
                  have NB293_269 := Aside0.mk ((by rw [hg]; exact Nat.ne_of_gt (blk_lt (g := gb269) (o := .cells #[.int .i64 a2_0, .int .i64 a2_1] 30 (0, 0)) (YtloojhnohofonaaSq.bq BK269)) : gb293 ≠ gb269))
                  replace BK269 := YtloojhnohofonaaSq.bb BK269 hb
                  have NB277_293 := Aside0.mk ((by rw [hg]; exact Nat.ne_of_lt (blk_lt (g := gb277) (o := .cells #[.int .i64 t273, .int .i64 t274, .int .i64 t275, .int .i64 t276] 23 (0, 0)) (YtloojhnohofonaaSq.bq BK277)) : gb277 ≠ gb293))
                  have NB293_277 := Aside0.mk ((by rw [hg]; exact Nat.ne_of_gt (blk_lt (g := gb277) (o := .cells #[.int .i64 t273, .int .i64 t274, .int .i64 t275, .int .i64 t276] 23 (0, 0)) (YtloojhnohofonaaSq.bq BK277)) : gb293 ≠ gb277))
                  replace BK277 := YtloojhnohofonaaSq.bb BK277 hb
                  clear hb hbox hg
                  refine hK.out _ _ ⟨(blk_cell BK267.out 0).trans rfl, (blk_cell BK267.out 1).trans rfl, (blk_cell BK267.out 2).trans rfl, (blk_cell BK267.out 3).trans rfl, (blk_cell BK268.out 0).trans rfl, (blk_cell BK268.out 1).trans rfl, (blk_cell BK268.out 2).trans rfl, (blk_cell BK268.out 3).trans rfl⟩ (fun hHeld => ?_)
                  clear hK K
                  refine norm_ (a' := ?_) ?_ ?_
                  rotate_left
                  ·
                   show Act.put _ (some 11) _ = _
                   simp only [Act.put, List.setIfInBounds_toArray, List.set_cons_zero, List.set_cons_succ, i64_w, i32_w]
                   rfl
                  exact norm_ (by simp only [putAll, Act.put, List.setIfInBounds_toArray, List.set_cons_zero, List.set_cons_succ] <;> rfl) (hJ3_9 (gb293) _ ⟨hHeld, (YtloojhnohofonaaSq.bq BK267), (YtloojhnohofonaaSq.bq BK268), (YtloojhnohofonaaSq.bq BK269), (YtloojhnohofonaaSq.bq BK277), (YtloojhnohofonaaSq.bq BK293), GW293.out, GE293.out, NB267_293.out, NB293_267.out, NB268_293.out, NB293_268.out, NB269_293.out, NB293_269.out, NB277_293.out, NB293_277.out, (by repeat (first | (with_reducible first | exact HB.out | apply below_alloc | apply pw_below_drewN | apply below_drew1 | refine below_set ?_ GE267.out | refine below_set ?_ GE268.out | refine below_set ?_ GE269.out | refine below_set ?_ GE277.out | refine below_set ?_ GE293.out) | exact HB.out))⟩)
               ·
                rintro ⟨gb292, gb293⟩ w90 ⟨hS_, h0_, h1_, h2_, h3_, h4_, h5_, h6_, h7_, h8_, h9_, h10_, h11_, h12_, h13_, h14_, h15_, h16_, h17_, h18_, h19_, h20_, h21_, h22_, h23_, h24_, h25_, h26_, h27_, h28_⟩
                replace BK267 := Aside0.mk h0_
                replace BK268 := Aside0.mk h1_
                replace BK269 := Aside0.mk h2_
                replace BK277 := Aside0.mk h3_
                have BK292 := Aside0.mk h4_
                have BK293 := Aside0.mk h5_
                have GW292 := Aside0.mk h6_
                have GE292 := Aside0.mk h7_
                have NB267_292 := Aside0.mk h8_
                have NB292_267 := Aside0.mk h9_
                have NB268_292 := Aside0.mk h10_
                have NB292_268 := Aside0.mk h11_
                have NB269_292 := Aside0.mk h12_
                have NB292_269 := Aside0.mk h13_
                have NB277_292 := Aside0.mk h14_
                have NB292_277 := Aside0.mk h15_
                have NB293_292 := Aside0.mk h16_
                have NB292_293 := Aside0.mk h17_
                have GW293 := Aside0.mk h18_
                have GE293 := Aside0.mk h19_
                have NB267_293 := Aside0.mk h20_
                have NB293_267 := Aside0.mk h21_
                have NB268_293 := Aside0.mk h22_
                have NB293_268 := Aside0.mk h23_
                have NB269_293 := Aside0.mk h24_
                have NB293_269 := Aside0.mk h25_
                have NB277_293 := Aside0.mk h26_
                have NB293_277 := Aside0.mk h27_
                replace HB := Aside0.mk h28_
                clear h0_ h1_ h2_ h3_ h4_ h5_ h6_ h7_ h8_ h9_ h10_ h11_ h12_ h13_ h14_ h15_ h16_ h17_ h18_ h19_ h20_ h21_ h22_ h23_ h24_ h25_ h26_ h27_ h28_
                have hHeld : w90.cell? ⟨gb267, 0, none⟩ = some (.int .i64 a0_0) ∧ w90.cell? ⟨gb267, 1, none⟩ = some (.int .i64 a0_1) ∧ w90.cell? ⟨gb267, 2, none⟩ = some (.int .i64 a0_2) ∧ w90.cell? ⟨gb267, 3, none⟩ = some (.int .i64 a0_3) ∧ w90.cell? ⟨gb268, 0, none⟩ = some (.int .i64 a1_0) ∧ w90.cell? ⟨gb268, 1, none⟩ = some (.int .i64 a1_1) ∧ w90.cell? ⟨gb268, 2, none⟩ = some (.int .i64 a1_2) ∧ w90.cell? ⟨gb268, 3, none⟩ = some (.int .i64 a1_3) := hS_
                refine norm_ (a' := ?_) ?_ ?_
                rotate_left
                ·
                 simp only [putAll, Act.put, List.setIfInBounds_toArray, List.set_cons_zero, List.set_cons_succ]
                 rfl
                refine one_ (i := 3) (N := some 65) zq4.q10 rfl rfl (one_of HT_.out (by kernel_rfl)) (by decide) (fun K hK => ?_)
                refine goes_ Try.func13 (by kernel_rfl) rfl #[.agg #[.int .i64 a0_0, .int .i64 a0_1, .int .i64 a0_2, .int .i64 a0_3], .int .i64 a2_0, .int .i64 a2_1] (by rfl) rfl rfl (by (try simp only [List.map_toArray, List.map_cons, List.map_nil]); first | done | rfl | (simp only [List.length_drop, List.length_take]; rfl)) ?_
                with_reducible refine (rect_Translate.calls a0_0 a0_1 a0_2 a0_3 a2_0 a2_1 t284 t285 t286 t287 _ A62.out).mono ?_
                rintro e w91 ⟨rfl, hb⟩
                refine ⟨_, rfl, ?_⟩
                replace BK267 := YtloojhnohofonaaSq.bb BK267 hb
                replace BK268 := YtloojhnohofonaaSq.bb BK268 hb
                replace BK269 := YtloojhnohofonaaSq.bb BK269 hb
                replace BK277 := YtloojhnohofonaaSq.bb BK277 hb
                replace BK292 := YtloojhnohofonaaSq.bb BK292 hb
                replace BK293 := YtloojhnohofonaaSq.bb BK293 hb
                replace HB := Aside0.mk (below_step (by repeat (first | (with_reducible first | exact HB.out | apply below_alloc | apply pw_below_drewN | apply below_drew1 | refine below_set ?_ GE267.out | refine below_set ?_ GE268.out | refine below_set ?_ GE269.out | refine below_set ?_ GE277.out | refine below_set ?_ GE292.out | refine below_set ?_ GE293.out) | exact HB.out)) hb)
                (try clear hb); (try clear hb2); (try clear hk); (try clear hi)
                refine hK.out _ _ ⟨(blk_cell BK267.out 0).trans rfl, (blk_cell BK267.out 1).trans rfl, (blk_cell BK267.out 2).trans rfl, (blk_cell BK267.out 3).trans rfl, (blk_cell BK268.out 0).trans rfl, (blk_cell BK268.out 1).trans rfl, (blk_cell BK268.out 2).trans rfl, (blk_cell BK268.out 3).trans rfl⟩ (fun hHeld => ?_)
                clear hK K
                refine norm_ (a' := ?_) ?_ ?_
                rotate_left
                ·
                 show Act.put _ (some 65) _ = _
                 simp only [Act.put, List.setIfInBounds_toArray, List.set_cons_zero, List.set_cons_succ, i64_w, i32_w]
                 rfl
                exact norm_ (by simp only [putAll, Act.put, List.setIfInBounds_toArray, List.set_cons_zero, List.set_cons_succ] <;> rfl) (hJ3_8_9 (gb292, gb293) _ ⟨hHeld, (YtloojhnohofonaaSq.bq BK267), (YtloojhnohofonaaSq.bq BK268), (YtloojhnohofonaaSq.bq BK269), (YtloojhnohofonaaSq.bq BK277), (YtloojhnohofonaaSq.bq BK292), (YtloojhnohofonaaSq.bq BK293), GW292.out, GE292.out, NB267_292.out, NB292_267.out, NB268_292.out, NB292_268.out, NB269_292.out, NB292_269.out, NB277_292.out, NB292_277.out, NB293_292.out, NB292_293.out, GW293.out, GE293.out, NB267_293.out, NB293_267.out, NB268_293.out, NB293_268.out, NB269_293.out, NB293_269.out, NB277_293.out, NB293_277.out, (by repeat (first | (with_reducible first | exact HB.out | apply below_alloc | apply pw_below_drewN | apply below_drew1 | refine below_set ?_ GE267.out | refine below_set ?_ GE268.out | refine below_set ?_ GE269.out | refine below_set ?_ GE277.out | refine below_set ?_ GE292.out | refine below_set ?_ GE293.out) | exact HB.out))⟩)
              ·
               rintro gb293 w90 ⟨hS_, h0_, h1_, h2_, h3_, h4_, h5_, h6_, h7_, h8_, h9_, h10_, h11_, h12_, h13_, h14_, h15_⟩
               replace BK267 := Aside0.mk h0_
               replace BK268 := Aside0.mk h1_
               replace BK269 := Aside0.mk h2_
               replace BK277 := Aside0.mk h3_
               have BK293 := Aside0.mk h4_
               have GW293 := Aside0.mk h5_
               have GE293 := Aside0.mk h6_
               have NB267_293 := Aside0.mk h7_
               have NB293_267 := Aside0.mk h8_
               have NB268_293 := Aside0.mk h9_
               have NB293_268 := Aside0.mk h10_
               have NB269_293 := Aside0.mk h11_
               have NB293_269 := Aside0.mk h12_
               have NB277_293 := Aside0.mk h13_
               have NB293_277 := Aside0.mk h14_
               replace HB := Aside0.mk h15_
               clear h0_ h1_ h2_ h3_ h4_ h5_ h6_ h7_ h8_ h9_ h10_ h11_ h12_ h13_ h14_ h15_
               have hHeld : w90.cell? ⟨gb267, 0, none⟩ = some (.int .i64 a0_0) ∧ w90.cell? ⟨gb267, 1, none⟩ = some (.int .i64 a0_1) ∧ w90.cell? ⟨gb267, 2, none⟩ = some (.int .i64 a0_2) ∧ w90.cell? ⟨gb267, 3, none⟩ = some (.int .i64 a0_3) ∧ w90.cell? ⟨gb268, 0, none⟩ = some (.int .i64 a1_0) ∧ w90.cell? ⟨gb268, 1, none⟩ = some (.int .i64 a1_1) ∧ w90.cell? ⟨gb268, 2, none⟩ = some (.int .i64 a1_2) ∧ w90.cell? ⟨gb268, 3, none⟩ = some (.int .i64 a1_3) := hS_
               refine norm_ (a' := ?_) ?_ ?_
               rotate_left
               ·
                simp only [putAll, Act.put, List.setIfInBounds_toArray, List.set_cons_zero, List.set_cons_succ]
                rfl
               refine two_ (i := 7) (j := 8) (Ni := some 69) (Nj := some 10) zq4.q9 zq4.q10 rfl rfl rfl rfl (two_of HT_.out (by kernel_rfl)) (by decide) (by decide) (fun K hK => ?_) (fun K hK => ?_)
               ·
                refine goes_ Try.func13 (by kernel_rfl) rfl #[.agg #[.int .i64 a1_0, .int .i64 a1_1, .int .i64 a1_2, .int .i64 a1_3], .int .i64 a2_0, .int .i64 a2_1] (by rfl) rfl rfl (by (try simp only [List.map_toArray, List.map_cons, List.map_nil]); first | done | rfl | (simp only [List.length_drop, List.length_take]; rfl)) ?_
                with_reducible refine (rect_Translate.calls a1_0 a1_1 a1_2 a1_3 a2_0 a2_1 t288 t289 t290 t291 _ A63.out).mono ?_
                rintro e w91 ⟨rfl, hb⟩
                refine ⟨_, rfl, ?_⟩
                replace BK267 := YtloojhnohofonaaSq.bb BK267 hb
                replace BK268 := YtloojhnohofonaaSq.bb BK268 hb
                replace BK269 := YtloojhnohofonaaSq.bb BK269 hb
                replace BK277 := YtloojhnohofonaaSq.bb BK277 hb
                replace BK293 := YtloojhnohofonaaSq.bb BK293 hb
                replace HB := Aside0.mk (below_step (by repeat (first | (with_reducible first | exact HB.out | apply below_alloc | apply pw_below_drewN | apply below_drew1 | refine below_set ?_ GE267.out | refine below_set ?_ GE268.out | refine below_set ?_ GE269.out | refine below_set ?_ GE277.out | refine below_set ?_ GE293.out) | exact HB.out)) hb)
                (try clear hb); (try clear hb2); (try clear hk); (try clear hi)
                refine hK.out _ _ ⟨(blk_cell BK267.out 0).trans rfl, (blk_cell BK267.out 1).trans rfl, (blk_cell BK267.out 2).trans rfl, (blk_cell BK267.out 3).trans rfl, (blk_cell BK268.out 0).trans rfl, (blk_cell BK268.out 1).trans rfl, (blk_cell BK268.out 2).trans rfl, (blk_cell BK268.out 3).trans rfl⟩ (fun hHeld => ?_)
                clear hK K
                refine norm_ (a' := ?_) ?_ ?_
                rotate_left
                ·
                 show Act.put _ (some 69) _ = _
                 simp only [Act.put, List.setIfInBounds_toArray, List.set_cons_zero, List.set_cons_succ, i64_w, i32_w]
                 rfl
                exact norm_ (by simp only [putAll, Act.put, List.setIfInBounds_toArray, List.set_cons_zero, List.set_cons_succ] <;> rfl) (hJ3_7_9 (gb293) _ ⟨hHeld, (YtloojhnohofonaaSq.bq BK267), (YtloojhnohofonaaSq.bq BK268), (YtloojhnohofonaaSq.bq BK269), (YtloojhnohofonaaSq.bq BK277), (YtloojhnohofonaaSq.bq BK293), GW293.out, GE293.out, NB267_293.out, NB293_267.out, NB268_293.out, NB293_268.out, NB269_293.out, NB293_269.out, NB277_293.out, NB293_277.out, (by repeat (first | (with_reducible first | exact HB.out | apply below_alloc | apply pw_below_drewN | apply below_drew1 | refine below_set ?_ GE267.out | refine below_set ?_ GE268.out | refine below_set ?_ GE269.out | refine below_set ?_ GE277.out | refine below_set ?_ GE293.out) | exact HB.out))⟩)
               ·
                refine box_step ?hg (N := 10) ?hd (cs := #[.int .i64 0, .int .i64 0, .int .i64 0, .int .i64 0]) (t := 23) ?hr ?_; (case hd => rfl); (case hg => rfl); (case hr => first | (go_simp; done) | (go_simp; rfl))
                intro gb292 hg w91 hbox hb
                have BK292 := Aside0.mk (hbox)
                have GW292 := Aside0.mk ((by rw [hg]; exact (below_size (by repeat (first | (with_reducible first | exact HB.out | apply below_alloc | apply pw_below_drewN | apply below_drew1 | refine below_set ?_ GE267.out | refine below_set ?_ GE268.out | refine below_set ?_ GE269.out | refine below_set ?_ GE277.out | refine below_set ?_ GE293.out) | exact HB.out))) : w.heap.size ≤ gb292))
                have GE292 := Aside0.mk ((by rw [hg]; exact (below_size (by repeat (first | (with_reducible first | exact HB.out | apply below_alloc | apply pw_below_drewN | apply below_drew1 | refine below_set ?_ GE267.out | refine below_set ?_ GE268.out | refine below_set ?_ GE269.out | refine below_set ?_ GE277.out | refine below_set ?_ GE293.out) | exact HB.out))) : w.heap.size ≤ gb292))
                replace HB := Aside0.mk (below_step (by repeat (first | (with_reducible first | exact HB.out | apply below_alloc | apply pw_below_drewN | apply below_drew1 | refine below_set ?_ GE267.out | refine below_set ?_ GE268.out | refine below_set ?_ GE269.out | refine below_set ?_ GE277.out | refine below_set ?_ GE293.out) | exact HB.out)) hb)
                have NB267_292 := Aside0.mk ((by rw [hg]; exact Nat.ne_of_lt (blk_lt (g := gb267) (o := .cells #[.int .i64 a0_0, .int .i64 a0_1, .int .i64 a0_2, .int .i64 a0_3] 23 (0, 0)) (YtloojhnohofonaaSq.bq BK267)) : gb267 ≠ gb292))
                have NB292_267 := Aside0.mk ((by rw [hg]; exact Nat.ne_of_gt (blk_lt (g := gb267) (o := .cells #[.int .i64 a0_0, .int .i64 a0_1, .int .i64 a0_2, .int .i64 a0_3] 23 (0, 0)) (YtloojhnohofonaaSq.bq BK267)) : gb292 ≠ gb267))
                replace BK267 := YtloojhnohofonaaSq.bb BK267 hb
                have NB268_292 := Aside0.mk ((by rw [hg]; exact Nat.ne_of_lt (blk_lt (g := gb268) (o := .cells #[.int .i64 a1_0, .int .i64 a1_1, .int .i64 a1_2, .int .i64 a1_3] 23 (0, 0)) (YtloojhnohofonaaSq.bq BK268)) : gb268 ≠ gb292))
                have NB292_268 := Aside0.mk ((by rw [hg]; exact Nat.ne_of_gt (blk_lt (g := gb268) (o := .cells #[.int .i64 a1_0, .int .i64 a1_1, .int .i64 a1_2, .int .i64 a1_3] 23 (0, 0)) (YtloojhnohofonaaSq.bq BK268)) : gb292 ≠ gb268))
                replace BK268 := YtloojhnohofonaaSq.bb BK268 hb
                have NB269_292 := Aside0.mk ((by rw [hg]; exact Nat.ne_of_lt (blk_lt (g := gb269) (o := .cells #[.int .i64 a2_0, .int .i64 a2_1] 30 (0, 0)) (YtloojhnohofonaaSq.bq BK269)) : gb269 ≠ gb292))
                have NB292_269 := Aside0.mk ((by rw [hg]; exact Nat.ne_of_gt (blk_lt (g := gb269) (o := .cells #[.int .i64 a2_0, .int .i64 a2_1] 30 (0, 0)) (YtloojhnohofonaaSq.bq BK269)) : gb292 ≠ gb269))
                replace BK269 := YtloojhnohofonaaSq.bb BK269 hb
                have NB277_292 := Aside0.mk ((by rw [hg]; exact Nat.ne_of_lt (blk_lt (g := gb277) (o := .cells #[.int .i64 t273, .int .i64 t274, .int .i64 t275, .int .i64 t276] 23 (0, 0)) (YtloojhnohofonaaSq.bq BK277)) : gb277 ≠ gb292))
                have NB292_277 := Aside0.mk ((by rw [hg]; exact Nat.ne_of_gt (blk_lt (g := gb277) (o := .cells #[.int .i64 t273, .int .i64 t274, .int .i64 t275, .int .i64 t276] 23 (0, 0)) (YtloojhnohofonaaSq.bq BK277)) : gb292 ≠ gb277))
                replace BK277 := YtloojhnohofonaaSq.bb BK277 hb
                have NB293_292 := Aside0.mk ((by rw [hg]; exact Nat.ne_of_lt (blk_lt (g := gb293) (o := .cells #[.int .i64 0, .int .i64 0, .int .i64 0, .int .i64 0] 23 (0, 0)) (YtloojhnohofonaaSq.bq BK293)) : gb293 ≠ gb292))
                have NB292_293 := Aside0.mk ((by rw [hg]; exact Nat.ne_of_gt (blk_lt (g := gb293) (o := .cells #[.int .i64 0, .int .i64 0, .int .i64 0, .int .i64 0] 23 (0, 0)) (YtloojhnohofonaaSq.bq BK293)) : gb292 ≠ gb293))
                replace BK293 := YtloojhnohofonaaSq.bb BK293 hb
                clear hb hbox hg
                refine hK.out _ _ ⟨(blk_cell BK267.out 0).trans rfl, (blk_cell BK267.out 1).trans rfl, (blk_cell BK267.out 2).trans rfl, (blk_cell BK267.out 3).trans rfl, (blk_cell BK268.out 0).trans rfl, (blk_cell BK268.out 1).trans rfl, (blk_cell BK268.out 2).trans rfl, (blk_cell BK268.out 3).trans rfl⟩ (fun hHeld => ?_)
                clear hK K
                refine norm_ (a' := ?_) ?_ ?_
                rotate_left
                ·
                 show Act.put _ (some 10) _ = _
                 simp only [Act.put, List.setIfInBounds_toArray, List.set_cons_zero, List.set_cons_succ, i64_w, i32_w]
                 rfl
                exact norm_ (by simp only [putAll, Act.put, List.setIfInBounds_toArray, List.set_cons_zero, List.set_cons_succ] <;> rfl) (hJ3_8_9 (gb292, gb293) _ ⟨hHeld, (YtloojhnohofonaaSq.bq BK267), (YtloojhnohofonaaSq.bq BK268), (YtloojhnohofonaaSq.bq BK269), (YtloojhnohofonaaSq.bq BK277), (YtloojhnohofonaaSq.bq BK292), (YtloojhnohofonaaSq.bq BK293), GW292.out, GE292.out, NB267_292.out, NB292_267.out, NB268_292.out, NB292_268.out, NB269_292.out, NB292_269.out, NB277_292.out, NB292_277.out, NB293_292.out, NB292_293.out, GW293.out, GE293.out, NB267_293.out, NB293_267.out, NB268_293.out, NB293_268.out, NB269_293.out, NB293_269.out, NB277_293.out, NB293_277.out, (by repeat (first | (with_reducible first | exact HB.out | apply below_alloc | apply pw_below_drewN | apply below_drew1 | refine below_set ?_ GE267.out | refine below_set ?_ GE268.out | refine below_set ?_ GE269.out | refine below_set ?_ GE277.out | refine below_set ?_ GE293.out | refine below_set ?_ GE292.out) | exact HB.out))⟩)
             ·
              rintro gb292 w90 ⟨hS_, h0_, h1_, h2_, h3_, h4_, h5_, h6_, h7_, h8_, h9_, h10_, h11_, h12_, h13_, h14_, h15_⟩
              replace BK267 := Aside0.mk h0_
              replace BK268 := Aside0.mk h1_
              replace BK269 := Aside0.mk h2_
              replace BK277 := Aside0.mk h3_
              have BK292 := Aside0.mk h4_
              have GW292 := Aside0.mk h5_
              have GE292 := Aside0.mk h6_
              have NB267_292 := Aside0.mk h7_
              have NB292_267 := Aside0.mk h8_
              have NB268_292 := Aside0.mk h9_
              have NB292_268 := Aside0.mk h10_
              have NB269_292 := Aside0.mk h11_
              have NB292_269 := Aside0.mk h12_
              have NB277_292 := Aside0.mk h13_
              have NB292_277 := Aside0.mk h14_
              replace HB := Aside0.mk h15_
              clear h0_ h1_ h2_ h3_ h4_ h5_ h6_ h7_ h8_ h9_ h10_ h11_ h12_ h13_ h14_ h15_
              have hHeld : w90.cell? ⟨gb267, 0, none⟩ = some (.int .i64 a0_0) ∧ w90.cell? ⟨gb267, 1, none⟩ = some (.int .i64 a0_1) ∧ w90.cell? ⟨gb267, 2, none⟩ = some (.int .i64 a0_2) ∧ w90.cell? ⟨gb267, 3, none⟩ = some (.int .i64 a0_3) ∧ w90.cell? ⟨gb268, 0, none⟩ = some (.int .i64 a1_0) ∧ w90.cell? ⟨gb268, 1, none⟩ = some (.int .i64 a1_1) ∧ w90.cell? ⟨gb268, 2, none⟩ = some (.int .i64 a1_2) ∧ w90.cell? ⟨gb268, 3, none⟩ = some (.int .i64 a1_3) := hS_
              refine norm_ (a' := ?_) ?_ ?_
              rotate_left
              ·
               simp only [putAll, Act.put, List.setIfInBounds_toArray, List.set_cons_zero, List.set_cons_succ]
               rfl
              refine two_ (i := 7) (j := 9) (Ni := some 69) (Nj := some 11) zq4.q8 zq4.q10 rfl rfl rfl rfl (two_of HT_.out (by kernel_rfl)) (by decide) (by decide) (fun K hK => ?_) (fun K hK => ?_)
              ·
               refine goes_ Try.func13 (by kernel_rfl) rfl #[.agg #[.int .i64 a1_0, .int .i64 a1_1, .int .i64 a1_2, .int .i64 a1_3], .int .i64 a2_0, .int .i64 a2_1] (by rfl) rfl rfl (by (try simp only [List.map_toArray, List.map_cons, List.map_nil]); first | done | rfl | (simp only [List.length_drop, List.length_take]; rfl)) ?_
               with_reducible refine (rect_Translate.calls a1_0 a1_1 a1_2 a1_3 a2_0 a2_1 t288 t289 t290 t291 _ A63.out).mono ?_
               rintro e w91 ⟨rfl, hb⟩
               refine ⟨_, rfl, ?_⟩
               replace BK267 := YtloojhnohofonaaSq.bb BK267 hb
               replace BK268 := YtloojhnohofonaaSq.bb BK268 hb
               replace BK269 := YtloojhnohofonaaSq.bb BK269 hb
               replace BK277 := YtloojhnohofonaaSq.bb BK277 hb
               replace BK292 := YtloojhnohofonaaSq.bb BK292 hb
               replace HB := Aside0.mk (below_step (by repeat (first | (with_reducible first | exact HB.out | apply below_alloc | apply pw_below_drewN | apply below_drew1 | refine below_set ?_ GE267.out | refine below_set ?_ GE268.out | refine below_set ?_ GE269.out | refine below_set ?_ GE277.out | refine below_set ?_ GE292.out) | exact HB.out)) hb)
               (try clear hb); (try clear hb2); (try clear hk); (try clear hi)
               refine hK.out _ _ ⟨(blk_cell BK267.out 0).trans rfl, (blk_cell BK267.out 1).trans rfl, (blk_cell BK267.out 2).trans rfl, (blk_cell BK267.out 3).trans rfl, (blk_cell BK268.out 0).trans rfl, (blk_cell BK268.out 1).trans rfl, (blk_cell BK268.out 2).trans rfl, (blk_cell BK268.out 3).trans rfl⟩ (fun hHeld => ?_)
               clear hK K
               refine norm_ (a' := ?_) ?_ ?_
               rotate_left
               ·
                show Act.put _ (some 69) _ = _
                simp only [Act.put, List.setIfInBounds_toArray, List.set_cons_zero, List.set_cons_succ, i64_w, i32_w]
                rfl
               exact norm_ (by simp only [putAll, Act.put, List.setIfInBounds_toArray, List.set_cons_zero, List.set_cons_succ] <;> rfl) (hJ3_7_8 (gb292) _ ⟨hHeld, (YtloojhnohofonaaSq.bq BK267), (YtloojhnohofonaaSq.bq BK268), (YtloojhnohofonaaSq.bq BK269), (YtloojhnohofonaaSq.bq BK277), (YtloojhnohofonaaSq.bq BK292), GW292.out, GE292.out, NB267_292.out, NB292_267.out, NB268_292.out, NB292_268.out, NB269_292.out, NB292_269.out, NB277_292.out, NB292_277.out, (by repeat (first | (with_reducible first | exact HB.out | apply below_alloc | apply pw_below_drewN | apply below_drew1 | refine below_set ?_ GE267.out | refine below_set ?_ GE268.out | refine below_set ?_ GE269.out | refine below_set ?_ GE277.out | refine below_set ?_ GE292.out) | exact HB.out))⟩)
              ·
               refine box_step ?hg (N := 11) ?hd (cs := #[.int .i64 0, .int .i64 0, .int .i64 0, .int .i64 0]) (t := 23) ?hr ?_; (case hd => rfl); (case hg => rfl); (case hr => first | (go_simp; done) | (go_simp; rfl))
               intro gb293 hg w91 hbox hb
               have BK293 := Aside0.mk (hbox)
               have GW293 := Aside0.mk ((by rw [hg]; exact (below_size (by repeat (first | (with_reducible first | exact HB.out | apply below_alloc | apply pw_below_drewN | apply below_drew1 | refine below_set ?_ GE267.out | refine below_set ?_ GE268.out | refine below_set ?_ GE269.out | refine below_set ?_ GE277.out | refine below_set ?_ GE292.out) | exact HB.out))) : w.heap.size ≤ gb293))
               have GE293 := Aside0.mk ((by rw [hg]; exact (below_size (by repeat (first | (with_reducible first | exact HB.out | apply below_alloc | apply pw_below_drewN | apply below_drew1 | refine below_set ?_ GE267.out | refine below_set ?_ GE268.out | refine below_set ?_ GE269.out | refine below_set ?_ GE277.out | refine below_set ?_ GE292.out) | exact HB.out))) : w.heap.size ≤ gb293))
               replace HB := Aside0.mk (below_step (by repeat (first | (with_reducible first | exact HB.out | apply below_alloc | apply pw_below_drewN | apply below_drew1 | refine below_set ?_ GE267.out | refine below_set ?_ GE268.out | refine below_set ?_ GE269.out | refine below_set ?_ GE277.out | refine below_set ?_ GE292.out) | exact HB.out)) hb)
               have NB267_293 := Aside0.mk ((by rw [hg]; exact Nat.ne_of_lt (blk_lt (g := gb267) (o := .cells #[.int .i64 a0_0, .int .i64 a0_1, .int .i64 a0_2, .int .i64 a0_3] 23 (0, 0)) (YtloojhnohofonaaSq.bq BK267)) : gb267 ≠ gb293))
               have NB293_267 := Aside0.mk ((by rw [hg]; exact Nat.ne_of_gt (blk_lt (g := gb267) (o := .cells #[.int .i64 a0_0, .int .i64 a0_1, .int .i64 a0_2, .int .i64 a0_3] 23 (0, 0)) (YtloojhnohofonaaSq.bq BK267)) : gb293 ≠ gb267))
               replace BK267 := YtloojhnohofonaaSq.bb BK267 hb
               have NB268_293 := Aside0.mk ((by rw [hg]; exact Nat.ne_of_lt (blk_lt (g := gb268) (o := .cells #[.int .i64 a1_0, .int .i64 a1_1, .int .i64 a1_2, .int .i64 a1_3] 23 (0, 0)) (YtloojhnohofonaaSq.bq BK268)) : gb268 ≠ gb293))
               have NB293_268 := Aside0.mk ((by rw [hg]; exact Nat.ne_of_gt (blk_lt (g := gb268) (o := .cells #[.int .i64 a1_0, .int .i64 a1_1, .int .i64 a1_2, .int .i64 a1_3] 23 (0, 0)) (YtloojhnohofonaaSq.bq BK268)) : gb293 ≠ gb268))
               replace BK268 := YtloojhnohofonaaSq.bb BK268 hb
               have NB269_293 := Aside0.mk ((by rw [hg]; exact Nat.ne_of_lt (blk_lt (g := gb269) (o := .cells #[.int .i64 a2_0, .int .i64 a2_1] 30 (0, 0)) (YtloojhnohofonaaSq.bq BK269)) : gb269 ≠ gb293))
               have NB293_269 := Aside0.mk ((by rw [hg]; exact Nat.ne_of_gt (blk_lt (g := gb269) (o := .cells #[.int .i64 a2_0, .int .i64 a2_1] 30 (0, 0)) (YtloojhnohofonaaSq.bq BK269)) : gb293 ≠ gb269))
               replace BK269 := YtloojhnohofonaaSq.bb BK269 hb
               have NB277_293 := Aside0.mk ((by rw [hg]; exact Nat.ne_of_lt (blk_lt (g := gb277) (o := .cells #[.int .i64 t273, .int .i64 t274, .int .i64 t275, .int .i64 t276] 23 (0, 0)) (YtloojhnohofonaaSq.bq BK277)) : gb277 ≠ gb293))
               have NB293_277 := Aside0.mk ((by rw [hg]; exact Nat.ne_of_gt (blk_lt (g := gb277) (o := .cells #[.int .i64 t273, .int .i64 t274, .int .i64 t275, .int .i64 t276] 23 (0, 0)) (YtloojhnohofonaaSq.bq BK277)) : gb293 ≠ gb277))
               replace BK277 := YtloojhnohofonaaSq.bb BK277 hb
               have NB292_293 := Aside0.mk ((by rw [hg]; exact Nat.ne_of_lt (blk_lt (g := gb292) (o := .cells #[.int .i64 0, .int .i64 0, .int .i64 0, .int .i64 0] 23 (0, 0)) (YtloojhnohofonaaSq.bq BK292)) : gb292 ≠ gb293))
               have NB293_292 := Aside0.mk ((by rw [hg]; exact Nat.ne_of_gt (blk_lt (g := gb292) (o := .cells #[.int .i64 0, .int .i64 0, .int .i64 0, .int .i64 0] 23 (0, 0)) (YtloojhnohofonaaSq.bq BK292)) : gb293 ≠ gb292))
               replace BK292 := YtloojhnohofonaaSq.bb BK292 hb
               clear hb hbox hg
               refine hK.out _ _ ⟨(blk_cell BK267.out 0).trans rfl, (blk_cell BK267.out 1).trans rfl, (blk_cell BK267.out 2).trans rfl, (blk_cell BK267.out 3).trans rfl, (blk_cell BK268.out 0).trans rfl, (blk_cell BK268.out 1).trans rfl, (blk_cell BK268.out 2).trans rfl, (blk_cell BK268.out 3).trans rfl⟩ (fun hHeld => ?_)
               clear hK K
               refine norm_ (a' := ?_) ?_ ?_
               rotate_left
               ·
                show Act.put _ (some 11) _ = _
                simp only [Act.put, List.setIfInBounds_toArray, List.set_cons_zero, List.set_cons_succ, i64_w, i32_w]
                rfl
               exact norm_ (by simp only [putAll, Act.put, List.setIfInBounds_toArray, List.set_cons_zero, List.set_cons_succ] <;> rfl) (hJ3_8_9 (gb292, gb293) _ ⟨hHeld, (YtloojhnohofonaaSq.bq BK267), (YtloojhnohofonaaSq.bq BK268), (YtloojhnohofonaaSq.bq BK269), (YtloojhnohofonaaSq.bq BK277), (YtloojhnohofonaaSq.bq BK292), (YtloojhnohofonaaSq.bq BK293), GW292.out, GE292.out, NB267_292.out, NB292_267.out, NB268_292.out, NB292_268.out, NB269_292.out, NB292_269.out, NB277_292.out, NB292_277.out, NB293_292.out, NB292_293.out, GW293.out, GE293.out, NB267_293.out, NB293_267.out, NB268_293.out, NB293_268.out, NB269_293.out, NB293_269.out, NB277_293.out, NB293_277.out, (by repeat (first | (with_reducible first | exact HB.out | apply below_alloc | apply pw_below_drewN | apply below_drew1 | refine below_set ?_ GE267.out | refine below_set ?_ GE268.out | refine below_set ?_ GE269.out | refine below_set ?_ GE277.out | refine below_set ?_ GE292.out | refine below_set ?_ GE293.out) | exact HB.out))⟩)
            ·
             rintro _ w90 ⟨hS_, h0_, h1_, h2_, h3_, h4_⟩
             replace BK267 := Aside0.mk h0_
             replace BK268 := Aside0.mk h1_
             replace BK269 := Aside0.mk h2_
             replace BK277 := Aside0.mk h3_
             replace HB := Aside0.mk h4_
             clear h0_ h1_ h2_ h3_ h4_
             have hHeld : w90.cell? ⟨gb267, 0, none⟩ = some (.int .i64 a0_0) ∧ w90.cell? ⟨gb267, 1, none⟩ = some (.int .i64 a0_1) ∧ w90.cell? ⟨gb267, 2, none⟩ = some (.int .i64 a0_2) ∧ w90.cell? ⟨gb267, 3, none⟩ = some (.int .i64 a0_3) ∧ w90.cell? ⟨gb268, 0, none⟩ = some (.int .i64 a1_0) ∧ w90.cell? ⟨gb268, 1, none⟩ = some (.int .i64 a1_1) ∧ w90.cell? ⟨gb268, 2, none⟩ = some (.int .i64 a1_2) ∧ w90.cell? ⟨gb268, 3, none⟩ = some (.int .i64 a1_3) := hS_
             refine norm_ (a' := ?_) ?_ ?_
             rotate_left
             ·
              simp only [putAll, Act.put, List.setIfInBounds_toArray, List.set_cons_zero, List.set_cons_succ]
              rfl
             refine two_ (i := 8) (j := 9) (Ni := some 10) (Nj := some 11) zq4.q8 zq4.q9 rfl rfl rfl rfl (two_of HT_.out (by kernel_rfl)) (by decide) (by decide) (fun K hK => ?_) (fun K hK => ?_)
             ·
              refine box_step ?hg (N := 10) ?hd (cs := #[.int .i64 0, .int .i64 0, .int .i64 0, .int .i64 0]) (t := 23) ?hr ?_; (case hd => rfl); (case hg => rfl); (case hr => first | (go_simp; done) | (go_simp; rfl))
              intro gb292 hg w91 hbox hb
              have BK292 := Aside0.mk (hbox)
              have GW292 := Aside0.mk ((by rw [hg]; exact (below_size (by repeat (first | (with_reducible first | exact HB.out | apply below_alloc | apply pw_below_drewN | apply below_drew1 | refine below_set ?_ GE267.out | refine below_set ?_ GE268.out | refine below_set ?_ GE269.out | refine below_set ?_ GE277.out) | exact HB.out))) : w.heap.size ≤ gb292))
              have GE292 := Aside0.mk ((by rw [hg]; exact (below_size (by repeat (first | (with_reducible first | exact HB.out | apply below_alloc | apply pw_below_drewN | apply below_drew1 | refine below_set ?_ GE267.out | refine below_set ?_ GE268.out | refine below_set ?_ GE269.out | refine below_set ?_ GE277.out) | exact HB.out))) : w.heap.size ≤ gb292))
              replace HB := Aside0.mk (below_step (by repeat (first | (with_reducible first | exact HB.out | apply below_alloc | apply pw_below_drewN | apply below_drew1 | refine below_set ?_ GE267.out | refine below_set ?_ GE268.out | refine below_set ?_ GE269.out | refine below_set ?_ GE277.out) | exact HB.out)) hb)
              have NB267_292 := Aside0.mk ((by rw [hg]; exact Nat.ne_of_lt (blk_lt (g := gb267) (o := .cells #[.int .i64 a0_0, .int .i64 a0_1, .int .i64 a0_2, .int .i64 a0_3] 23 (0, 0)) (YtloojhnohofonaaSq.bq BK267)) : gb267 ≠ gb292))
              have NB292_267 := Aside0.mk ((by rw [hg]; exact Nat.ne_of_gt (blk_lt (g := gb267) (o := .cells #[.int .i64 a0_0, .int .i64 a0_1, .int .i64 a0_2, .int .i64 a0_3] 23 (0, 0)) (YtloojhnohofonaaSq.bq BK267)) : gb292 ≠ gb267))
              replace BK267 := YtloojhnohofonaaSq.bb BK267 hb
              have NB268_292 := Aside0.mk ((by rw [hg]; exact Nat.ne_of_lt (blk_lt (g := gb268) (o := .cells #[.int .i64 a1_0, .int .i64 a1_1, .int .i64 a1_2, .int .i64 a1_3] 23 (0, 0)) (YtloojhnohofonaaSq.bq BK268)) : gb268 ≠ gb292))
              have NB292_268 := Aside0.mk ((by rw [hg]; exact Nat.ne_of_gt (blk_lt (g := gb268) (o := .cells #[.int .i64 a1_0, .int .i64 a1_1, .int .i64 a1_2, .int .i64 a1_3] 23 (0, 0)) (YtloojhnohofonaaSq.bq BK268)) : gb292 ≠ gb268))
              replace BK268 := YtloojhnohofonaaSq.bb BK268 hb
              have NB269_292 := Aside0.mk ((by rw [hg]; exact Nat.ne_of_lt (blk_lt (g := gb269) (o := .cells #[.int .i64 a2_0, .int .i64 a2_1] 30 (0, 0)) (YtloojhnohofonaaSq.bq BK269)) : gb269 ≠ gb292))
              have NB292_269 := Aside0.mk ((by rw [hg]; exact Nat.ne_of_gt (blk_lt (g := gb269) (o := .cells #[.int .i64 a2_0, .int .i64 a2_1] 30 (0, 0)) (YtloojhnohofonaaSq.bq BK269)) : gb292 ≠ gb269))
              replace BK269 := YtloojhnohofonaaSq.bb BK269 hb
              have NB277_292 := Aside0.mk ((by rw [hg]; exact Nat.ne_of_lt (blk_lt (g := gb277) (o := .cells #[.int .i64 t273, .int .i64 t274, .int .i64 t275, .int .i64 t276] 23 (0, 0)) (YtloojhnohofonaaSq.bq BK277)) : gb277 ≠ gb292))
              have NB292_277 := Aside0.mk ((by rw [hg]; exact Nat.ne_of_gt (blk_lt (g := gb277) (o := .cells #[.int .i64 t273, .int .i64 t274, .int .i64 t275, .int .i64 t276] 23 (0, 0)) (YtloojhnohofonaaSq.bq BK277)) : gb292 ≠ gb277))
              replace BK277 := YtloojhnohofonaaSq.bb BK277 hb
              clear hb hbox hg
              refine hK.out _ _ ⟨(blk_cell BK267.out 0).trans rfl, (blk_cell BK267.out 1).trans rfl, (blk_cell BK267.out 2).trans rfl, (blk_cell BK267.out 3).trans rfl, (blk_cell BK268.out 0).trans rfl, (blk_cell BK268.out 1).trans rfl, (blk_cell BK268.out 2).trans rfl, (blk_cell BK268.out 3).trans rfl⟩ (fun hHeld => ?_)
              clear hK K
              refine norm_ (a' := ?_) ?_ ?_
              rotate_left
              ·
               show Act.put _ (some 10) _ = _
               simp only [Act.put, List.setIfInBounds_toArray, List.set_cons_zero, List.set_cons_succ, i64_w, i32_w]
               rfl
              exact norm_ (by simp only [putAll, Act.put, List.setIfInBounds_toArray, List.set_cons_zero, List.set_cons_succ] <;> rfl) (hJ3_7_8 (gb292) _ ⟨hHeld, (YtloojhnohofonaaSq.bq BK267), (YtloojhnohofonaaSq.bq BK268), (YtloojhnohofonaaSq.bq BK269), (YtloojhnohofonaaSq.bq BK277), (YtloojhnohofonaaSq.bq BK292), GW292.out, GE292.out, NB267_292.out, NB292_267.out, NB268_292.out, NB292_268.out, NB269_292.out, NB292_269.out, NB277_292.out, NB292_277.out, (by repeat (first | (with_reducible first | exact HB.out | apply below_alloc | apply pw_below_drewN | apply below_drew1 | refine below_set ?_ GE267.out | refine below_set ?_ GE268.out | refine below_set ?_ GE269.out | refine below_set ?_ GE277.out | refine below_set ?_ GE292.out) | exact HB.out))⟩)
             ·
              refine box_step ?hg (N := 11) ?hd (cs := #[.int .i64 0, .int .i64 0, .int .i64 0, .int .i64 0]) (t := 23) ?hr ?_; (case hd => rfl); (case hg => rfl); (case hr => first | (go_simp; done) | (go_simp; rfl))
              intro gb293 hg w91 hbox hb
              have BK293 := Aside0.mk (hbox)
              have GW293 := Aside0.mk ((by rw [hg]; exact (below_size (by repeat (first | (with_reducible first | exact HB.out | apply below_alloc | apply pw_below_drewN | apply below_drew1 | refine below_set ?_ GE267.out | refine below_set ?_ GE268.out | refine below_set ?_ GE269.out | refine below_set ?_ GE277.out) | exact HB.out))) : w.heap.size ≤ gb293))
              have GE293 := Aside0.mk ((by rw [hg]; exact (below_size (by repeat (first | (with_reducible first | exact HB.out | apply below_alloc | apply pw_below_drewN | apply below_drew1 | refine below_set ?_ GE267.out | refine below_set ?_ GE268.out | refine below_set ?_ GE269.out | refine below_set ?_ GE277.out) | exact HB.out))) : w.heap.size ≤ gb293))
              replace HB := Aside0.mk (below_step (by repeat (first | (with_reducible first | exact HB.out | apply below_alloc | apply pw_below_drewN | apply below_drew1 | refine below_set ?_ GE267.out | refine below_set ?_ GE268.out | refine below_set ?_ GE269.out | refine below_set ?_ GE277.out) | exact HB.out)) hb)
              have NB267_293 := Aside0.mk ((by rw [hg]; exact Nat.ne_of_lt (blk_lt (g := gb267) (o := .cells #[.int .i64 a0_0, .int .i64 a0_1, .int .i64 a0_2, .int .i64 a0_3] 23 (0, 0)) (YtloojhnohofonaaSq.bq BK267)) : gb267 ≠ gb293))
              have NB293_267 := Aside0.mk ((by rw [hg]; exact Nat.ne_of_gt (blk_lt (g := gb267) (o := .cells #[.int .i64 a0_0, .int .i64 a0_1, .int .i64 a0_2, .int .i64 a0_3] 23 (0, 0)) (YtloojhnohofonaaSq.bq BK267)) : gb293 ≠ gb267))
              replace BK267 := YtloojhnohofonaaSq.bb BK267 hb
              have NB268_293 := Aside0.mk ((by rw [hg]; exact Nat.ne_of_lt (blk_lt (g := gb268) (o := .cells #[.int .i64 a1_0, .int .i64 a1_1, .int .i64 a1_2, .int .i64 a1_3] 23 (0, 0)) (YtloojhnohofonaaSq.bq BK268)) : gb268 ≠ gb293))
              have NB293_268 := Aside0.mk ((by rw [hg]; exact Nat.ne_of_gt (blk_lt (g := gb268) (o := .cells #[.int .i64 a1_0, .int .i64 a1_1, .int .i64 a1_2, .int .i64 a1_3] 23 (0, 0)) (YtloojhnohofonaaSq.bq BK268)) : gb293 ≠ gb268))
              replace BK268 := YtloojhnohofonaaSq.bb BK268 hb
              have NB269_293 := Aside0.mk ((by rw [hg]; exact Nat.ne_of_lt (blk_lt (g := gb269) (o := .cells #[.int .i64 a2_0, .int .i64 a2_1] 30 (0, 0)) (YtloojhnohofonaaSq.bq BK269)) : gb269 ≠ gb293))
              have NB293_269 := Aside0.mk ((by rw [hg]; exact Nat.ne_of_gt (blk_lt (g := gb269) (o := .cells #[.int .i64 a2_0, .int .i64 a2_1] 30 (0, 0)) (YtloojhnohofonaaSq.bq BK269)) : gb293 ≠ gb269))
              replace BK269 := YtloojhnohofonaaSq.bb BK269 hb
              have NB277_293 := Aside0.mk ((by rw [hg]; exact Nat.ne_of_lt (blk_lt (g := gb277) (o := .cells #[.int .i64 t273, .int .i64 t274, .int .i64 t275, .int .i64 t276] 23 (0, 0)) (YtloojhnohofonaaSq.bq BK277)) : gb277 ≠ gb293))
              have NB293_277 := Aside0.mk ((by rw [hg]; exact Nat.ne_of_gt (blk_lt (g := gb277) (o := .cells #[.int .i64 t273, .int .i64 t274, .int .i64 t275, .int .i64 t276] 23 (0, 0)) (YtloojhnohofonaaSq.bq BK277)) : gb293 ≠ gb277))
              replace BK277 := YtloojhnohofonaaSq.bb BK277 hb
              clear hb hbox hg
              refine hK.out _ _ ⟨(blk_cell BK267.out 0).trans rfl, (blk_cell BK267.out 1).trans rfl, (blk_cell BK267.out 2).trans rfl, (blk_cell BK267.out 3).trans rfl, (blk_cell BK268.out 0).trans rfl, (blk_cell BK268.out 1).trans rfl, (blk_cell BK268.out 2).trans rfl, (blk_cell BK268.out 3).trans rfl⟩ (fun hHeld => ?_)
              clear hK K
              refine norm_ (a' := ?_) ?_ ?_
              rotate_left
              ·
               show Act.put _ (some 11) _ = _
               simp only [Act.put, List.setIfInBounds_toArray, List.set_cons_zero, List.set_cons_succ, i64_w, i32_w]
               rfl
              exact norm_ (by simp only [putAll, Act.put, List.setIfInBounds_toArray, List.set_cons_zero, List.set_cons_succ] <;> rfl) (hJ3_7_9 (gb293) _ ⟨hHeld, (YtloojhnohofonaaSq.bq BK267), (YtloojhnohofonaaSq.bq BK268), (YtloojhnohofonaaSq.bq BK269), (YtloojhnohofonaaSq.bq BK277), (YtloojhnohofonaaSq.bq BK293), GW293.out, GE293.out, NB267_293.out, NB293_267.out, NB268_293.out, NB293_268.out, NB269_293.out, NB293_269.out, NB277_293.out, NB293_277.out, (by repeat (first | (with_reducible first | exact HB.out | apply below_alloc | apply pw_below_drewN | apply below_drew1 | refine below_set ?_ GE267.out | refine below_set ?_ GE268.out | refine below_set ?_ GE269.out | refine below_set ?_ GE277.out | refine below_set ?_ GE293.out) | exact HB.out))⟩)
           ·
            rintro ⟨gb292, gb293⟩ w91 ⟨hS_, h0_, h1_, h2_, h3_, h4_, h5_, h6_, h7_, h8_, h9_, h10_, h11_, h12_, h13_, h14_, h15_, h16_, h17_, h18_, h19_, h20_, h21_, h22_, h23_, h24_, h25_, h26_, h27_, h28_⟩
            replace BK267 := Aside0.mk h0_
            replace BK268 := Aside0.mk h1_
            replace BK269 := Aside0.mk h2_
            replace BK277 := Aside0.mk h3_
            have BK292 := Aside0.mk h4_
            have BK293 := Aside0.mk h5_
            have GW292 := Aside0.mk h6_
            have GE292 := Aside0.mk h7_
            have NB267_292 := Aside0.mk h8_
            have NB292_267 := Aside0.mk h9_
            have NB268_292 := Aside0.mk h10_
            have NB292_268 := Aside0.mk h11_
            have NB269_292 := Aside0.mk h12_
            have NB292_269 := Aside0.mk h13_
            have NB277_292 := Aside0.mk h14_
            have NB292_277 := Aside0.mk h15_
            have NB293_292 := Aside0.mk h16_
            have NB292_293 := Aside0.mk h17_
            have GW293 := Aside0.mk h18_
            have GE293 := Aside0.mk h19_
            have NB267_293 := Aside0.mk h20_
            have NB293_267 := Aside0.mk h21_
            have NB268_293 := Aside0.mk h22_
            have NB293_268 := Aside0.mk h23_
            have NB269_293 := Aside0.mk h24_
            have NB293_269 := Aside0.mk h25_
            have NB277_293 := Aside0.mk h26_
            have NB293_277 := Aside0.mk h27_
            replace HB := Aside0.mk h28_
            clear h0_ h1_ h2_ h3_ h4_ h5_ h6_ h7_ h8_ h9_ h10_ h11_ h12_ h13_ h14_ h15_ h16_ h17_ h18_ h19_ h20_ h21_ h22_ h23_ h24_ h25_ h26_ h27_ h28_
            have hHeld : w91.cell? ⟨gb267, 0, none⟩ = some (.int .i64 a0_0) ∧ w91.cell? ⟨gb267, 1, none⟩ = some (.int .i64 a0_1) ∧ w91.cell? ⟨gb267, 2, none⟩ = some (.int .i64 a0_2) ∧ w91.cell? ⟨gb267, 3, none⟩ = some (.int .i64 a0_3) ∧ w91.cell? ⟨gb268, 0, none⟩ = some (.int .i64 a1_0) ∧ w91.cell? ⟨gb268, 1, none⟩ = some (.int .i64 a1_1) ∧ w91.cell? ⟨gb268, 2, none⟩ = some (.int .i64 a1_2) ∧ w91.cell? ⟨gb268, 3, none⟩ = some (.int .i64 a1_3) := hS_
            refine norm_ (a' := ?_) ?_ ?_
            rotate_left
            ·
             simp only [putAll, Act.put, List.setIfInBounds_toArray, List.set_cons_zero, List.set_cons_succ]
             rfl
            refine one_ (i := 7) (N := some 69) zq4.q7 rfl rfl (one_of HT_.out (by kernel_rfl)) (by decide) (fun K hK => ?_)
            refine goes_ Try.func13 (by kernel_rfl) rfl #[.agg #[.int .i64 a1_0, .int .i64 a1_1, .int .i64 a1_2, .int .i64 a1_3], .int .i64 a2_0, .int .i64 a2_1] (by rfl) rfl rfl (by (try simp only [List.map_toArray, List.map_cons, List.map_nil]); first | done | rfl | (simp only [List.length_drop, List.length_take]; rfl)) ?_
            with_reducible refine (rect_Translate.calls a1_0 a1_1 a1_2 a1_3 a2_0 a2_1 t288 t289 t290 t291 _ A63.out).mono ?_
            rintro e w92 ⟨rfl, hb⟩
            refine ⟨_, rfl, ?_⟩
            replace BK267 := YtloojhnohofonaaSq.bb BK267 hb
            replace BK268 := YtloojhnohofonaaSq.bb BK268 hb
            replace BK269 := YtloojhnohofonaaSq.bb BK269 hb
            replace BK277 := YtloojhnohofonaaSq.bb BK277 hb
            replace BK292 := YtloojhnohofonaaSq.bb BK292 hb
            replace BK293 := YtloojhnohofonaaSq.bb BK293 hb
            replace HB := Aside0.mk (below_step (by repeat (first | (with_reducible first | exact HB.out | apply below_alloc | apply pw_below_drewN | apply below_drew1 | refine below_set ?_ GE267.out | refine below_set ?_ GE268.out | refine below_set ?_ GE269.out | refine below_set ?_ GE277.out | refine below_set ?_ GE292.out | refine below_set ?_ GE293.out) | exact HB.out)) hb)
            (try clear hb); (try clear hb2); (try clear hk); (try clear hi)
            refine hK.out _ _ ⟨(blk_cell BK267.out 0).trans rfl, (blk_cell BK267.out 1).trans rfl, (blk_cell BK267.out 2).trans rfl, (blk_cell BK267.out 3).trans rfl, (blk_cell BK268.out 0).trans rfl, (blk_cell BK268.out 1).trans rfl, (blk_cell BK268.out 2).trans rfl, (blk_cell BK268.out 3).trans rfl⟩ (fun hHeld => ?_)
            clear hK K
            refine norm_ (a' := ?_) ?_ ?_
            rotate_left
            ·
             show Act.put _ (some 69) _ = _
             simp only [Act.put, List.setIfInBounds_toArray, List.set_cons_zero, List.set_cons_succ, i64_w, i32_w]
             rfl
            exact norm_ (by simp only [putAll, Act.put, List.setIfInBounds_toArray, List.set_cons_zero, List.set_cons_succ] <;> rfl) (hJ3_7_8_9 (gb292, gb293) _ ⟨hHeld, (YtloojhnohofonaaSq.bq BK267), (YtloojhnohofonaaSq.bq BK268), (YtloojhnohofonaaSq.bq BK269), (YtloojhnohofonaaSq.bq BK277), (YtloojhnohofonaaSq.bq BK292), (YtloojhnohofonaaSq.bq BK293), GW292.out, GE292.out, NB267_292.out, NB292_267.out, NB268_292.out, NB292_268.out, NB269_292.out, NB292_269.out, NB277_292.out, NB292_277.out, NB293_292.out, NB292_293.out, GW293.out, GE293.out, NB267_293.out, NB293_267.out, NB268_293.out, NB293_268.out, NB269_293.out, NB293_269.out, NB277_293.out, NB293_277.out, (by repeat (first | (with_reducible first | exact HB.out | apply below_alloc | apply pw_below_drewN | apply below_drew1 | refine below_set ?_ GE267.out | refine below_set ?_ GE268.out | refine below_set ?_ GE269.out | refine below_set ?_ GE277.out | refine below_set ?_ GE292.out | refine below_set ?_ GE293.out) | exact HB.out))⟩)
          ·
           rintro gb293 w91 ⟨hS_, h0_, h1_, h2_, h3_, h4_, h5_, h6_, h7_, h8_, h9_, h10_, h11_, h12_, h13_, h14_, h15_⟩
           replace BK267 := Aside0.mk h0_
           replace BK268 := Aside0.mk h1_
           replace BK269 := Aside0.mk h2_
           replace BK277 := Aside0.mk h3_
           have BK293 := Aside0.mk h4_
           have GW293 := Aside0.mk h5_
           have GE293 := Aside0.mk h6_
           have NB267_293 := Aside0.mk h7_
           have NB293_267 := Aside0.mk h8_
           have NB268_293 := Aside0.mk h9_
           have NB293_268 := Aside0.mk h10_
           have NB269_293 := Aside0.mk h11_
           have NB293_269 := Aside0.mk h12_
           have NB277_293 := Aside0.mk h13_
           have NB293_277 := Aside0.mk h14_
           replace HB := Aside0.mk h15_
           clear h0_ h1_ h2_ h3_ h4_ h5_ h6_ h7_ h8_ h9_ h10_ h11_ h12_ h13_ h14_ h15_
           have hHeld : w91.cell? ⟨gb267, 0, none⟩ = some (.int .i64 a0_0) ∧ w91.cell? ⟨gb267, 1, none⟩ = some (.int .i64 a0_1) ∧ w91.cell? ⟨gb267, 2, none⟩ = some (.int .i64 a0_2) ∧ w91.cell? ⟨gb267, 3, none⟩ = some (.int .i64 a0_3) ∧ w91.cell? ⟨gb268, 0, none⟩ = some (.int .i64 a1_0) ∧ w91.cell? ⟨gb268, 1, none⟩ = some (.int .i64 a1_1) ∧ w91.cell? ⟨gb268, 2, none⟩ = some (.int .i64 a1_2) ∧ w91.cell? ⟨gb268, 3, none⟩ = some (.int .i64 a1_3) := hS_
           refine norm_ (a' := ?_) ?_ ?_
           rotate_left
           ·
            simp only [putAll, Act.put, List.setIfInBounds_toArray, List.set_cons_zero, List.set_cons_succ]
            rfl
           refine one_ (i := 8) (N := some 10) zq4.q7 rfl rfl (one_of HT_.out (by kernel_rfl)) (by decide) (fun K hK => ?_)
           refine box_step ?hg (N := 10) ?hd (cs := #[.int .i64 0, .int .i64 0, .int .i64 0, .int .i64 0]) (t := 23) ?hr ?_; (case hd => rfl); (case hg => rfl); (case hr => first | (go_simp; done) | (go_simp; rfl))
           intro gb292 hg w92 hbox hb
           have BK292 := Aside0.mk (hbox)
           have GW292 := Aside0.mk ((by rw [hg]; exact (below_size (by repeat (first | (with_reducible first | exact HB.out | apply below_alloc | apply pw_below_drewN | apply below_drew1 | refine below_set ?_ GE267.out | refine below_set ?_ GE268.out | refine below_set ?_ GE269.out | refine below_set ?_ GE277.out | refine below_set ?_ GE293.out) | exact HB.out))) : w.heap.size ≤ gb292))
           have GE292 := Aside0.mk ((by rw [hg]; exact (below_size (by repeat (first | (with_reducible first | exact HB.out | apply below_alloc | apply pw_below_drewN | apply below_drew1 | refine below_set ?_ GE267.out | refine below_set ?_ GE268.out | refine below_set ?_ GE269.out | refine below_set ?_ GE277.out | refine below_set ?_ GE293.out) | exact HB.out))) : w.heap.size ≤ gb292))
           replace HB := Aside0.mk (below_step (by repeat (first | (with_reducible first | exact HB.out | apply below_alloc | apply pw_below_drewN | apply below_drew1 | refine below_set ?_ GE267.out | refine below_set ?_ GE268.out | refine below_set ?_ GE269.out | refine below_set ?_ GE277.out | refine below_set ?_ GE293.out) | exact HB.out)) hb)
           have NB267_292 := Aside0.mk ((by rw [hg]; exact Nat.ne_of_lt (blk_lt (g := gb267) (o := .cells #[.int .i64 a0_0, .int .i64 a0_1, .int .i64 a0_2, .int .i64 a0_3] 23 (0, 0)) (YtloojhnohofonaaSq.bq BK267)) : gb267 ≠ gb292))
           have NB292_267 := Aside0.mk ((by rw [hg]; exact Nat.ne_of_gt (blk_lt (g := gb267) (o := .cells #[.int .i64 a0_0, .int .i64 a0_1, .int .i64 a0_2, .int .i64 a0_3] 23 (0, 0)) (YtloojhnohofonaaSq.bq BK267)) : gb292 ≠ gb267))
           replace BK267 := YtloojhnohofonaaSq.bb BK267 hb
           have NB268_292 := Aside0.mk ((by rw [hg]; exact Nat.ne_of_lt (blk_lt (g := gb268) (o := .cells #[.int .i64 a1_0, .int .i64 a1_1, .int .i64 a1_2, .int .i64 a1_3] 23 (0, 0)) (YtloojhnohofonaaSq.bq BK268)) : gb268 ≠ gb292))
           have NB292_268 := Aside0.mk ((by rw [hg]; exact Nat.ne_of_gt (blk_lt (g := gb268) (o := .cells #[.int .i64 a1_0, .int .i64 a1_1, .int .i64 a1_2, .int .i64 a1_3] 23 (0, 0)) (YtloojhnohofonaaSq.bq BK268)) : gb292 ≠ gb268))
           replace BK268 := YtloojhnohofonaaSq.bb BK268 hb
           have NB269_292 := Aside0.mk ((by rw [hg]; exact Nat.ne_of_lt (blk_lt (g := gb269) (o := .cells #[.int .i64 a2_0, .int .i64 a2_1] 30 (0, 0)) (YtloojhnohofonaaSq.bq BK269)) : gb269 ≠ gb292))
           have NB292_269 := Aside0.mk ((by rw [hg]; exact Nat.ne_of_gt (blk_lt (g := gb269) (o := .cells #[.int .i64 a2_0, .int .i64 a2_1] 30 (0, 0)) (YtloojhnohofonaaSq.bq BK269)) : gb292 ≠ gb269))
           replace BK269 := YtloojhnohofonaaSq.bb BK269 hb
           have NB277_292 := Aside0.mk ((by rw [hg]; exact Nat.ne_of_lt (blk_lt (g := gb277) (o := .cells #[.int .i64 t273, .int .i64 t274, .int .i64 t275, .int .i64 t276] 23 (0, 0)) (YtloojhnohofonaaSq.bq BK277)) : gb277 ≠ gb292))
           have NB292_277 := Aside0.mk ((by rw [hg]; exact Nat.ne_of_gt (blk_lt (g := gb277) (o := .cells #[.int .i64 t273, .int .i64 t274, .int .i64 t275, .int .i64 t276] 23 (0, 0)) (YtloojhnohofonaaSq.bq BK277)) : gb292 ≠ gb277))
           replace BK277 := YtloojhnohofonaaSq.bb BK277 hb
           have NB293_292 := Aside0.mk ((by rw [hg]; exact Nat.ne_of_lt (blk_lt (g := gb293) (o := .cells #[.int .i64 0, .int .i64 0, .int .i64 0, .int .i64 0] 23 (0, 0)) (YtloojhnohofonaaSq.bq BK293)) : gb293 ≠ gb292))
           have NB292_293 := Aside0.mk ((by rw [hg]; exact Nat.ne_of_gt (blk_lt (g := gb293) (o := .cells #[.int .i64 0, .int .i64 0, .int .i64 0, .int .i64 0] 23 (0, 0)) (YtloojhnohofonaaSq.bq BK293)) : gb292 ≠ gb293))
           replace BK293 := YtloojhnohofonaaSq.bb BK293 hb
           clear hb hbox hg
           refine hK.out _ _ ⟨(blk_cell BK267.out 0).trans rfl, (blk_cell BK267.out 1).trans rfl, (blk_cell BK267.out 2).trans rfl, (blk_cell BK267.out 3).trans rfl, (blk_cell BK268.out 0).trans rfl, (blk_cell BK268.out 1).trans rfl, (blk_cell BK268.out 2).trans rfl, (blk_cell BK268.out 3).trans rfl⟩ (fun hHeld => ?_)
           clear hK K
           refine norm_ (a' := ?_) ?_ ?_
           rotate_left
           ·
            show Act.put _ (some 10) _ = _
            simp only [Act.put, List.setIfInBounds_toArray, List.set_cons_zero, List.set_cons_succ, i64_w, i32_w]
            rfl
           exact norm_ (by simp only [putAll, Act.put, List.setIfInBounds_toArray, List.set_cons_zero, List.set_cons_succ] <;> rfl) (hJ3_7_8_9 (gb292, gb293) _ ⟨hHeld, (YtloojhnohofonaaSq.bq BK267), (YtloojhnohofonaaSq.bq BK268), (YtloojhnohofonaaSq.bq BK269), (YtloojhnohofonaaSq.bq BK277), (YtloojhnohofonaaSq.bq BK292), (YtloojhnohofonaaSq.bq BK293), GW292.out, GE292.out, NB267_292.out, NB292_267.out, NB268_292.out, NB292_268.out, NB269_292.out, NB292_269.out, NB277_292.out, NB292_277.out, NB293_292.out, NB292_293.out, GW293.out, GE293.out, NB267_293.out, NB293_267.out, NB268_293.out, NB293_268.out, NB269_293.out, NB293_269.out, NB277_293.out, NB293_277.out, (by repeat (first | (with_reducible first | exact HB.out | apply below_alloc | apply pw_below_drewN | apply below_drew1 | refine below_set ?_ GE267.out | refine below_set ?_ GE268.out | refine below_set ?_ GE269.out | refine below_set ?_ GE277.out | refine below_set ?_ GE293.out | refine below_set ?_ GE292.out) | exact HB.out))⟩)
         ·
          rintro gb292 w91 ⟨hS_, h0_, h1_, h2_, h3_, h4_, h5_, h6_, h7_, h8_, h9_, h10_, h11_, h12_, h13_, h14_, h15_⟩
          replace BK267 := Aside0.mk h0_
          replace BK268 := Aside0.mk h1_
          replace BK269 := Aside0.mk h2_
          replace BK277 := Aside0.mk h3_
          have BK292 := Aside0.mk h4_
          have GW292 := Aside0.mk h5_
          have GE292 := Aside0.mk h6_
          have NB267_292 := Aside0.mk h7_
          have NB292_267 := Aside0.mk h8_
          have NB268_292 := Aside0.mk h9_
          have NB292_268 := Aside0.mk h10_
          have NB269_292 := Aside0.mk h11_
          have NB292_269 := Aside0.mk h12_
          have NB277_292 := Aside0.mk h13_
          have NB292_277 := Aside0.mk h14_
          replace HB := Aside0.mk h15_
          clear h0_ h1_ h2_ h3_ h4_ h5_ h6_ h7_ h8_ h9_ h10_ h11_ h12_ h13_ h14_ h15_
          have hHeld : w91.cell? ⟨gb267, 0, none⟩ = some (.int .i64 a0_0) ∧ w91.cell? ⟨gb267, 1, none⟩ = some (.int .i64 a0_1) ∧ w91.cell? ⟨gb267, 2, none⟩ = some (.int .i64 a0_2) ∧ w91.cell? ⟨gb267, 3, none⟩ = some (.int .i64 a0_3) ∧ w91.cell? ⟨gb268, 0, none⟩ = some (.int .i64 a1_0) ∧ w91.cell? ⟨gb268, 1, none⟩ = some (.int .i64 a1_1) ∧ w91.cell? ⟨gb268, 2, none⟩ = some (.int .i64 a1_2) ∧ w91.cell? ⟨gb268, 3, none⟩ = some (.int .i64 a1_3) := hS_
          refine norm_ (a' := ?_) ?_ ?_
          rotate_left
          ·
           simp only [putAll, Act.put, List.setIfInBounds_toArray, List.set_cons_zero, List.set_cons_succ]
           rfl
          refine one_ (i := 9) (N := some 11) zq4.q7 rfl rfl (one_of HT_.out (by kernel_rfl)) (by decide) (fun K hK => ?_)
          refine box_step ?hg (N := 11) ?hd (cs := #[.int .i64 0, .int .i64 0, .int .i64 0, .int .i64 0]) (t := 23) ?hr ?_; (case hd => rfl); (case hg => rfl); (case hr => first | (go_simp; done) | (go_simp; rfl))
          intro gb293 hg w92 hbox hb
          have BK293 := Aside0.mk (hbox)
          have GW293 := Aside0.mk ((by rw [hg]; exact (below_size (by repeat (first | (with_reducible first | exact HB.out | apply below_alloc | apply pw_below_drewN | apply below_drew1 | refine below_set ?_ GE267.out | refine below_set ?_ GE268.out | refine below_set ?_ GE269.out | refine below_set ?_ GE277.out | refine below_set ?_ GE292.out) | exact HB.out))) : w.heap.size ≤ gb293))
          have GE293 := Aside0.mk ((by rw [hg]; exact (below_size (by repeat (first | (with_reducible first | exact HB.out | apply below_alloc | apply pw_below_drewN | apply below_drew1 | refine below_set ?_ GE267.out | refine below_set ?_ GE268.out | refine below_set ?_ GE269.out | refine below_set ?_ GE277.out | refine below_set ?_ GE292.out) | exact HB.out))) : w.heap.size ≤ gb293))
          replace HB := Aside0.mk (below_step (by repeat (first | (with_reducible first | exact HB.out | apply below_alloc | apply pw_below_drewN | apply below_drew1 | refine below_set ?_ GE267.out | refine below_set ?_ GE268.out | refine below_set ?_ GE269.out | refine below_set ?_ GE277.out | refine below_set ?_ GE292.out) | exact HB.out)) hb)
          have NB267_293 := Aside0.mk ((by rw [hg]; exact Nat.ne_of_lt (blk_lt (g := gb267) (o := .cells #[.int .i64 a0_0, .int .i64 a0_1, .int .i64 a0_2, .int .i64 a0_3] 23 (0, 0)) (YtloojhnohofonaaSq.bq BK267)) : gb267 ≠ gb293))
          have NB293_267 := Aside0.mk ((by rw [hg]; exact Nat.ne_of_gt (blk_lt (g := gb267) (o := .cells #[.int .i64 a0_0, .int .i64 a0_1, .int .i64 a0_2, .int .i64 a0_3] 23 (0, 0)) (YtloojhnohofonaaSq.bq BK267)) : gb293 ≠ gb267))
          replace BK267 := YtloojhnohofonaaSq.bb BK267 hb
          have NB268_293 := Aside0.mk ((by rw [hg]; exact Nat.ne_of_lt (blk_lt (g := gb268) (o := .cells #[.int .i64 a1_0, .int .i64 a1_1, .int .i64 a1_2, .int .i64 a1_3] 23 (0, 0)) (YtloojhnohofonaaSq.bq BK268)) : gb268 ≠ gb293))
          have NB293_268 := Aside0.mk ((by rw [hg]; exact Nat.ne_of_gt (blk_lt (g := gb268) (o := .cells #[.int .i64 a1_0, .int .i64 a1_1, .int .i64 a1_2, .int .i64 a1_3] 23 (0, 0)) (YtloojhnohofonaaSq.bq BK268)) : gb293 ≠ gb268))
          replace BK268 := YtloojhnohofonaaSq.bb BK268 hb
          have NB269_293 := Aside0.mk ((by rw [hg]; exact Nat.ne_of_lt (blk_lt (g := gb269) (o := .cells #[.int .i64 a2_0, .int .i64 a2_1] 30 (0, 0)) (YtloojhnohofonaaSq.bq BK269)) : gb269 ≠ gb293))
          have NB293_269 := Aside0.mk ((by rw [hg]; exact Nat.ne_of_gt (blk_lt (g := gb269) (o := .cells #[.int .i64 a2_0, .int .i64 a2_1] 30 (0, 0)) (YtloojhnohofonaaSq.bq BK269)) : gb293 ≠ gb269))
          replace BK269 := YtloojhnohofonaaSq.bb BK269 hb
          have NB277_293 := Aside0.mk ((by rw [hg]; exact Nat.ne_of_lt (blk_lt (g := gb277) (o := .cells #[.int .i64 t273, .int .i64 t274, .int .i64 t275, .int .i64 t276] 23 (0, 0)) (YtloojhnohofonaaSq.bq BK277)) : gb277 ≠ gb293))
          have NB293_277 := Aside0.mk ((by rw [hg]; exact Nat.ne_of_gt (blk_lt (g := gb277) (o := .cells #[.int .i64 t273, .int .i64 t274, .int .i64 t275, .int .i64 t276] 23 (0, 0)) (YtloojhnohofonaaSq.bq BK277)) : gb293 ≠ gb277))
          replace BK277 := YtloojhnohofonaaSq.bb BK277 hb
          have NB292_293 := Aside0.mk ((by rw [hg]; exact Nat.ne_of_lt (blk_lt (g := gb292) (o := .cells #[.int .i64 0, .int .i64 0, .int .i64 0, .int .i64 0] 23 (0, 0)) (YtloojhnohofonaaSq.bq BK292)) : gb292 ≠ gb293))
          have NB293_292 := Aside0.mk ((by rw [hg]; exact Nat.ne_of_gt (blk_lt (g := gb292) (o := .cells #[.int .i64 0, .int .i64 0, .int .i64 0, .int .i64 0] 23 (0, 0)) (YtloojhnohofonaaSq.bq BK292)) : gb293 ≠ gb292))
          replace BK292 := YtloojhnohofonaaSq.bb BK292 hb
          clear hb hbox hg
          refine hK.out _ _ ⟨(blk_cell BK267.out 0).trans rfl, (blk_cell BK267.out 1).trans rfl, (blk_cell BK267.out 2).trans rfl, (blk_cell BK267.out 3).trans rfl, (blk_cell BK268.out 0).trans rfl, (blk_cell BK268.out 1).trans rfl, (blk_cell BK268.out 2).trans rfl, (blk_cell BK268.out 3).trans rfl⟩ (fun hHeld => ?_)
          clear hK K
          refine norm_ (a' := ?_) ?_ ?_
          rotate_left
          ·
           show Act.put _ (some 11) _ = _
           simp only [Act.put, List.setIfInBounds_toArray, List.set_cons_zero, List.set_cons_succ, i64_w, i32_w]
           rfl
          exact norm_ (by simp only [putAll, Act.put, List.setIfInBounds_toArray, List.set_cons_zero, List.set_cons_succ] <;> rfl) (hJ3_7_8_9 (gb292, gb293) _ ⟨hHeld, (YtloojhnohofonaaSq.bq BK267), (YtloojhnohofonaaSq.bq BK268), (YtloojhnohofonaaSq.bq BK269), (YtloojhnohofonaaSq.bq BK277), (YtloojhnohofonaaSq.bq BK292), (YtloojhnohofonaaSq.bq BK293), GW292.out, GE292.out, NB267_292.out, NB292_267.out, NB268_292.out, NB292_268.out, NB269_292.out, NB292_269.out, NB277_292.out, NB292_277.out, NB293_292.out, NB292_293.out, GW293.out, GE293.out, NB267_293.out, NB293_267.out, NB268_293.out, NB293_268.out, NB269_293.out, NB293_269.out, NB277_293.out, NB293_277.out, (by repeat (first | (with_reducible first | exact HB.out | apply below_alloc | apply pw_below_drewN | apply below_drew1 | refine below_set ?_ GE267.out | refine below_set ?_ GE268.out | refine below_set ?_ GE269.out | refine below_set ?_ GE277.out | refine below_set ?_ GE292.out | refine below_set ?_ GE293.out) | exact HB.out))⟩)
        rintro ⟨gb292, gb293⟩ w92 ⟨hS_, h0_, h1_, h2_, h3_, h4_, h5_, h6_, h7_, h8_, h9_, h10_, h11_, h12_, h13_, h14_, h15_, h16_, h17_, h18_, h19_, h20_, h21_, h22_, h23_, h24_, h25_, h26_, h27_, h28_⟩
        replace BK267 := Aside0.mk h0_
        replace BK268 := Aside0.mk h1_
        replace BK269 := Aside0.mk h2_
        replace BK277 := Aside0.mk h3_
        have BK292 := Aside0.mk h4_
        have BK293 := Aside0.mk h5_
        have GW292 := Aside0.mk h6_
        have GE292 := Aside0.mk h7_
        have NB267_292 := Aside0.mk h8_
        have NB292_267 := Aside0.mk h9_
        have NB268_292 := Aside0.mk h10_
        have NB292_268 := Aside0.mk h11_
        have NB269_292 := Aside0.mk h12_
        have NB292_269 := Aside0.mk h13_
        have NB277_292 := Aside0.mk h14_
        have NB292_277 := Aside0.mk h15_
        have NB293_292 := Aside0.mk h16_
        have NB292_293 := Aside0.mk h17_
        have GW293 := Aside0.mk h18_
        have GE293 := Aside0.mk h19_
        have NB267_293 := Aside0.mk h20_
        have NB293_267 := Aside0.mk h21_
        have NB268_293 := Aside0.mk h22_
        have NB293_268 := Aside0.mk h23_
        have NB269_293 := Aside0.mk h24_
        have NB293_269 := Aside0.mk h25_
        have NB277_293 := Aside0.mk h26_
        have NB293_277 := Aside0.mk h27_
        replace HB := Aside0.mk h28_
        clear h0_ h1_ h2_ h3_ h4_ h5_ h6_ h7_ h8_ h9_ h10_ h11_ h12_ h13_ h14_ h15_ h16_ h17_ h18_ h19_ h20_ h21_ h22_ h23_ h24_ h25_ h26_ h27_ h28_
        have hHeld : w92.cell? ⟨gb267, 0, none⟩ = some (.int .i64 a0_0) ∧ w92.cell? ⟨gb267, 1, none⟩ = some (.int .i64 a0_1) ∧ w92.cell? ⟨gb267, 2, none⟩ = some (.int .i64 a0_2) ∧ w92.cell? ⟨gb267, 3, none⟩ = some (.int .i64 a0_3) ∧ w92.cell? ⟨gb268, 0, none⟩ = some (.int .i64 a1_0) ∧ w92.cell? ⟨gb268, 1, none⟩ = some (.int .i64 a1_1) ∧ w92.cell? ⟨gb268, 2, none⟩ = some (.int .i64 a1_2) ∧ w92.cell? ⟨gb268, 3, none⟩ = some (.int .i64 a1_3) := hS_
        refine norm_ (a' := ?_) ?_ ?_
        rotate_left
        ·
         simp only [putAll, Act.put, List.setIfInBounds_toArray, List.set_cons_zero, List.set_cons_succ]
         rfl
        refine one_ (i := 10) (N := none) zq4.q18 rfl rfl (one_of HT_.out (by kernel_rfl)) (by decide) (fun K hK => ?_)
        have hs93 : w92.cell? ⟨gb292, 0, none⟩ = some (.int .i64 0) := (blk_cell BK292.out 0).trans rfl
        have hfs93 := blk_frozen BK292.out 0
        have hns93_0 := NB267_292.out
        have hns93_1 := NB268_292.out
        have hns93_2 := NB269_292.out
        have hns93_3 := NB277_292.out
        have hns93_5 := NB293_292.out
        have hms93_0 := NB292_267.out
        have hms93_1 := NB292_268.out
        have hms93_2 := NB292_269.out
        have hms93_3 := NB292_277.out
        have hms93_5 := NB292_293.out
        have hs94 : w92.cell? ⟨gb292, 1, none⟩ = some (.int .i64 0) := (blk_cell BK292.out 1).trans rfl
        have hfs94 := blk_frozen BK292.out 1
        have hns94_0 := NB267_292.out
        have hns94_1 := NB268_292.out
        have hns94_2 := NB269_292.out
        have hns94_3 := NB277_292.out
        have hns94_5 := NB293_292.out
        have hms94_0 := NB292_267.out
        have hms94_1 := NB292_268.out
        have hms94_2 := NB292_269.out
        have hms94_3 := NB292_277.out
        have hms94_5 := NB292_293.out
        have hs95 : w92.cell? ⟨gb292, 2, none⟩ = some (.int .i64 0) := (blk_cell BK292.out 2).trans rfl
        have hfs95 := blk_frozen BK292.out 2
        have hns95_0 := NB267_292.out
        have hns95_1 := NB268_292.out
        have hns95_2 := NB269_292.out
        have hns95_3 := NB277_292.out
        have hns95_5 := NB293_292.out
        have hms95_0 := NB292_267.out
        have hms95_1 := NB292_268.out
        have hms95_2 := NB292_269.out
        have hms95_3 := NB292_277.out
        have hms95_5 := NB292_293.out
        have hs96 : w92.cell? ⟨gb292, 3, none⟩ = some (.int .i64 0) := (blk_cell BK292.out 3).trans rfl
        have hfs96 := blk_frozen BK292.out 3
        have hns96_0 := NB267_292.out
        have hns96_1 := NB268_292.out
        have hns96_2 := NB269_292.out
        have hns96_3 := NB277_292.out
        have hns96_5 := NB293_292.out
        have hms96_0 := NB292_267.out
        have hms96_1 := NB292_268.out
        have hms96_2 := NB292_269.out
        have hms96_3 := NB292_277.out
        have hms96_5 := NB292_293.out
        refine skip_ (w1 := ?_) (by rfl) rfl ?_ ?_
        rotate_left
        ·
         go_simp
         rfl
        refine hK.out _ _ ⟨((cell_far (p := ⟨gb292, _, none⟩) NB267_292.out _).trans (((cell_far (p := ⟨gb292, _, none⟩) NB267_292.out _).trans (((cell_far (p := ⟨gb292, _, none⟩) NB267_292.out _).trans (((cell_far (p := ⟨gb292, _, none⟩) NB267_292.out _).trans (hHeld.1)))))))), ((cell_far (p := ⟨gb292, _, none⟩) NB267_292.out _).trans (((cell_far (p := ⟨gb292, _, none⟩) NB267_292.out _).trans (((cell_far (p := ⟨gb292, _, none⟩) NB267_292.out _).trans (((cell_far (p := ⟨gb292, _, none⟩) NB267_292.out _).trans (hHeld.2.1)))))))), ((cell_far (p := ⟨gb292, _, none⟩) NB267_292.out _).trans (((cell_far (p := ⟨gb292, _, none⟩) NB267_292.out _).trans (((cell_far (p := ⟨gb292, _, none⟩) NB267_292.out _).trans (((cell_far (p := ⟨gb292, _, none⟩) NB267_292.out _).trans (hHeld.2.2.1)))))))), ((cell_far (p := ⟨gb292, _, none⟩) NB267_292.out _).trans (((cell_far (p := ⟨gb292, _, none⟩) NB267_292.out _).trans (((cell_far (p := ⟨gb292, _, none⟩) NB267_292.out _).trans (((cell_far (p := ⟨gb292, _, none⟩) NB267_292.out _).trans (hHeld.2.2.2.1)))))))), ((cell_far (p := ⟨gb292, _, none⟩) NB268_292.out _).trans (((cell_far (p := ⟨gb292, _, none⟩) NB268_292.out _).trans (((cell_far (p := ⟨gb292, _, none⟩) NB268_292.out _).trans (((cell_far (p := ⟨gb292, _, none⟩) NB268_292.out _).trans (hHeld.2.2.2.2.1)))))))), ((cell_far (p := ⟨gb292, _, none⟩) NB268_292.out _).trans (((cell_far (p := ⟨gb292, _, none⟩) NB268_292.out _).trans (((cell_far (p := ⟨gb292, _, none⟩) NB268_292.out _).trans (((cell_far (p := ⟨gb292, _, none⟩) NB268_292.out _).trans (hHeld.2.2.2.2.2.1)))))))), ((cell_far (p := ⟨gb292, _, none⟩) NB268_292.out _).trans (((cell_far (p := ⟨gb292, _, none⟩) NB268_292.out _).trans (((cell_far (p := ⟨gb292, _, none⟩) NB268_292.out _).trans (((cell_far (p := ⟨gb292, _, none⟩) NB268_292.out _).trans (hHeld.2.2.2.2.2.2.1)))))))), ((cell_far (p := ⟨gb292, _, none⟩) NB268_292.out _).trans (((cell_far (p := ⟨gb292, _, none⟩) NB268_292.out _).trans (((cell_far (p := ⟨gb292, _, none⟩) NB268_292.out _).trans (((cell_far (p := ⟨gb292, _, none⟩) NB268_292.out _).trans (hHeld.2.2.2.2.2.2.2))))))))⟩ (fun hHeld => ?_)
        clear hK K
        refine one_ (i := 11) (N := none) zq4.q19 rfl rfl (one_of HT_.out (by kernel_rfl)) (by decide) (fun K hK => ?_)
        have hs97 : w92.cell? ⟨gb293, 0, none⟩ = some (.int .i64 0) := (blk_cell BK293.out 0).trans rfl
        have hfs97 := blk_frozen BK293.out 0
        have hns97_0 := NB267_293.out
        have hns97_1 := NB268_293.out
        have hns97_2 := NB269_293.out
        have hns97_3 := NB277_293.out
        have hns97_4 := NB292_293.out
        have hms97_0 := NB293_267.out
        have hms97_1 := NB293_268.out
        have hms97_2 := NB293_269.out
        have hms97_3 := NB293_277.out
        have hms97_4 := NB293_292.out
        have hs98 : w92.cell? ⟨gb293, 1, none⟩ = some (.int .i64 0) := (blk_cell BK293.out 1).trans rfl
        have hfs98 := blk_frozen BK293.out 1
        have hns98_0 := NB267_293.out
        have hns98_1 := NB268_293.out
        have hns98_2 := NB269_293.out
        have hns98_3 := NB277_293.out
        have hns98_4 := NB292_293.out
        have hms98_0 := NB293_267.out
        have hms98_1 := NB293_268.out
        have hms98_2 := NB293_269.out
        have hms98_3 := NB293_277.out
        have hms98_4 := NB293_292.out
        have hs99 : w92.cell? ⟨gb293, 2, none⟩ = some (.int .i64 0) := (blk_cell BK293.out 2).trans rfl
        have hfs99 := blk_frozen BK293.out 2
        have hns99_0 := NB267_293.out
        have hns99_1 := NB268_293.out
        have hns99_2 := NB269_293.out
        have hns99_3 := NB277_293.out
        have hns99_4 := NB292_293.out
        have hms99_0 := NB293_267.out
        have hms99_1 := NB293_268.out
        have hms99_2 := NB293_269.out
        have hms99_3 := NB293_277.out
        have hms99_4 := NB293_292.out
        have hs100 : w92.cell? ⟨gb293, 3, none⟩ = some (.int .i64 0) := (blk_cell BK293.out 3).trans rfl
        have hfs100 := blk_frozen BK293.out 3
        have hns100_0 := NB267_293.out
        have hns100_1 := NB268_293.out
        have hns100_2 := NB269_293.out
        have hns100_3 := NB277_293.out
        have hns100_4 := NB292_293.out
        have hms100_0 := NB293_267.out
        have hms100_1 := NB293_268.out
        have hms100_2 := NB293_269.out
        have hms100_3 := NB293_277.out
        have hms100_4 := NB293_292.out
        refine skip_ (w1 := ?_) (by rfl) rfl ?_ ?_
        rotate_left
        ·
         go_simp
         rfl
        refine hK.out _ _ ⟨((cell_far (p := ⟨gb293, _, none⟩) NB267_293.out _).trans (((cell_far (p := ⟨gb293, _, none⟩) NB267_293.out _).trans (((cell_far (p := ⟨gb293, _, none⟩) NB267_293.out _).trans (((cell_far (p := ⟨gb293, _, none⟩) NB267_293.out _).trans (hHeld.1)))))))), ((cell_far (p := ⟨gb293, _, none⟩) NB267_293.out _).trans (((cell_far (p := ⟨gb293, _, none⟩) NB267_293.out _).trans (((cell_far (p := ⟨gb293, _, none⟩) NB267_293.out _).trans (((cell_far (p := ⟨gb293, _, none⟩) NB267_293.out _).trans (hHeld.2.1)))))))), ((cell_far (p := ⟨gb293, _, none⟩) NB267_293.out _).trans (((cell_far (p := ⟨gb293, _, none⟩) NB267_293.out _).trans (((cell_far (p := ⟨gb293, _, none⟩) NB267_293.out _).trans (((cell_far (p := ⟨gb293, _, none⟩) NB267_293.out _).trans (hHeld.2.2.1)))))))), ((cell_far (p := ⟨gb293, _, none⟩) NB267_293.out _).trans (((cell_far (p := ⟨gb293, _, none⟩) NB267_293.out _).trans (((cell_far (p := ⟨gb293, _, none⟩) NB267_293.out _).trans (((cell_far (p := ⟨gb293, _, none⟩) NB267_293.out _).trans (hHeld.2.2.2.1)))))))), ((cell_far (p := ⟨gb293, _, none⟩) NB268_293.out _).trans (((cell_far (p := ⟨gb293, _, none⟩) NB268_293.out _).trans (((cell_far (p := ⟨gb293, _, none⟩) NB268_293.out _).trans (((cell_far (p := ⟨gb293, _, none⟩) NB268_293.out _).trans (hHeld.2.2.2.2.1)))))))), ((cell_far (p := ⟨gb293, _, none⟩) NB268_293.out _).trans (((cell_far (p := ⟨gb293, _, none⟩) NB268_293.out _).trans (((cell_far (p := ⟨gb293, _, none⟩) NB268_293.out _).trans (((cell_far (p := ⟨gb293, _, none⟩) NB268_293.out _).trans (hHeld.2.2.2.2.2.1)))))))), ((cell_far (p := ⟨gb293, _, none⟩) NB268_293.out _).trans (((cell_far (p := ⟨gb293, _, none⟩) NB268_293.out _).trans (((cell_far (p := ⟨gb293, _, none⟩) NB268_293.out _).trans (((cell_far (p := ⟨gb293, _, none⟩) NB268_293.out _).trans (hHeld.2.2.2.2.2.2.1)))))))), ((cell_far (p := ⟨gb293, _, none⟩) NB268_293.out _).trans (((cell_far (p := ⟨gb293, _, none⟩) NB268_293.out _).trans (((cell_far (p := ⟨gb293, _, none⟩) NB268_293.out _).trans (((cell_far (p := ⟨gb293, _, none⟩) NB268_293.out _).trans (hHeld.2.2.2.2.2.2.2))))))))⟩ (fun hHeld => ?_)
        clear hK K
        refine done_ (done_of HT_.out (by kernel_rfl)) ?_
        try go_wp2
        have n0_ : Aside0 (((((((((w92.setCell ⟨gb292, 0, none⟩ (.int .i64 t284)).setCell ⟨gb292, 1, none⟩ (.int .i64 t285)).setCell ⟨gb292, 2, none⟩ (.int .i64 t286)).setCell ⟨gb292, 3, none⟩ (.int .i64 t287)).setCell ⟨gb293, 0, none⟩ (.int .i64 t288)).setCell ⟨gb293, 1, none⟩ (.int .i64 t289)).setCell ⟨gb293, 2, none⟩ (.int .i64 t290)).setCell ⟨gb293, 3, none⟩ (.int .i64 t291)).heap[gb267]? = some (.cells #[.int .i64 a0_0, .int .i64 a0_1, .int .i64 a0_2, .int .i64 a0_3] 23 (0, 0))) := ⟨by (with_reducible repeat (first | refine blk_drewN ?_ _ | refine blk_drew ?_ | refine blk_alloc ?_ _)); refine blk_far ?_ NB267_293.out _; (with_reducible repeat (first | refine blk_drewN ?_ _ | refine blk_drew ?_ | refine blk_alloc ?_ _)); refine blk_far ?_ NB267_293.out _; (with_reducible repeat (first | refine blk_drewN ?_ _ | refine blk_drew ?_ | refine blk_alloc ?_ _)); refine blk_far ?_ NB267_293.out _; (with_reducible repeat (first | refine blk_drewN ?_ _ | refine blk_drew ?_ | refine blk_alloc ?_ _)); refine blk_far ?_ NB267_293.out _; (with_reducible repeat (first | refine blk_drewN ?_ _ | refine blk_drew ?_ | refine blk_alloc ?_ _)); refine blk_far ?_ NB267_292.out _; (with_reducible repeat (first | refine blk_drewN ?_ _ | refine blk_drew ?_ | refine blk_alloc ?_ _)); refine blk_far ?_ NB267_292.out _; (with_reducible repeat (first | refine blk_drewN ?_ _ | refine blk_drew ?_ | refine blk_alloc ?_ _)); refine blk_far ?_ NB267_292.out _; (with_reducible repeat (first | refine blk_drewN ?_ _ | refine blk_drew ?_ | refine blk_alloc ?_ _)); refine blk_far ?_ NB267_292.out _; (with_reducible repeat (first | refine blk_drewN ?_ _ | refine blk_drew ?_ | refine blk_alloc ?_ _)); exact BK267.out⟩
        have n1_ : Aside0 (((((((((w92.setCell ⟨gb292, 0, none⟩ (.int .i64 t284)).setCell ⟨gb292, 1, none⟩ (.int .i64 t285)).setCell ⟨gb292, 2, none⟩ (.int .i64 t286)).setCell ⟨gb292, 3, none⟩ (.int .i64 t287)).setCell ⟨gb293, 0, none⟩ (.int .i64 t288)).setCell ⟨gb293, 1, none⟩ (.int .i64 t289)).setCell ⟨gb293, 2, none⟩ (.int .i64 t290)).setCell ⟨gb293, 3, none⟩ (.int .i64 t291)).heap[gb268]? = some (.cells #[.int .i64 a1_0, .int .i64 a1_1, .int .i64 a1_2, .int .i64 a1_3] 23 (0, 0))) := ⟨by (with_reducible repeat (first | refine blk_drewN ?_ _ | refine blk_drew ?_ | refine blk_alloc ?_ _)); refine blk_far ?_ NB268_293.out _; (with_reducible repeat (first | refine blk_drewN ?_ _ | refine blk_drew ?_ | refine blk_alloc ?_ _)); refine blk_far ?_ NB268_293.out _; (with_reducible repeat (first | refine blk_drewN ?_ _ | refine blk_drew ?_ | refine blk_alloc ?_ _)); refine blk_far ?_ NB268_293.out _; (with_reducible repeat (first | refine blk_drewN ?_ _ | refine blk_drew ?_ | refine blk_alloc ?_ _)); refine blk_far ?_ NB268_293.out _; (with_reducible repeat (first | refine blk_drewN ?_ _ | refine blk_drew ?_ | refine blk_alloc ?_ _)); refine blk_far ?_ NB268_292.out _; (with_reducible repeat (first | refine blk_drewN ?_ _ | refine blk_drew ?_ | refine blk_alloc ?_ _)); refine blk_far ?_ NB268_292.out _; (with_reducible repeat (first | refine blk_drewN ?_ _ | refine blk_drew ?_ | refine blk_alloc ?_ _)); refine blk_far ?_ NB268_292.out _; (with_reducible repeat (first | refine blk_drewN ?_ _ | refine blk_drew ?_ | refine blk_alloc ?_ _)); refine blk_far ?_ NB268_292.out _; (with_reducible repeat (first | refine blk_drewN ?_ _ | refine blk_drew ?_ | refine blk_alloc ?_ _)); exact BK268.out⟩
        have n2_ : Aside0 (((((((((w92.setCell ⟨gb292, 0, none⟩ (.int .i64 t284)).setCell ⟨gb292, 1, none⟩ (.int .i64 t285)).setCell ⟨gb292, 2, none⟩ (.int .i64 t286)).setCell ⟨gb292, 3, none⟩ (.int .i64 t287)).setCell ⟨gb293, 0, none⟩ (.int .i64 t288)).setCell ⟨gb293, 1, none⟩ (.int .i64 t289)).setCell ⟨gb293, 2, none⟩ (.int .i64 t290)).setCell ⟨gb293, 3, none⟩ (.int .i64 t291)).heap[gb269]? = some (.cells #[.int .i64 a2_0, .int .i64 a2_1] 30 (0, 0))) := ⟨by (with_reducible repeat (first | refine blk_drewN ?_ _ | refine blk_drew ?_ | refine blk_alloc ?_ _)); refine blk_far ?_ NB269_293.out _; (with_reducible repeat (first | refine blk_drewN ?_ _ | refine blk_drew ?_ | refine blk_alloc ?_ _)); refine blk_far ?_ NB269_293.out _; (with_reducible repeat (first | refine blk_drewN ?_ _ | refine blk_drew ?_ | refine blk_alloc ?_ _)); refine blk_far ?_ NB269_293.out _; (with_reducible repeat (first | refine blk_drewN ?_ _ | refine blk_drew ?_ | refine blk_alloc ?_ _)); refine blk_far ?_ NB269_293.out _; (with_reducible repeat (first | refine blk_drewN ?_ _ | refine blk_drew ?_ | refine blk_alloc ?_ _)); refine blk_far ?_ NB269_292.out _; (with_reducible repeat (first | refine blk_drewN ?_ _ | refine blk_drew ?_ | refine blk_alloc ?_ _)); refine blk_far ?_ NB269_292.out _; (with_reducible repeat (first | refine blk_drewN ?_ _ | refine blk_drew ?_ | refine blk_alloc ?_ _)); refine blk_far ?_ NB269_292.out _; (with_reducible repeat (first | refine blk_drewN ?_ _ | refine blk_drew ?_ | refine blk_alloc ?_ _)); refine blk_far ?_ NB269_292.out _; (with_reducible repeat (first | refine blk_drewN ?_ _ | refine blk_drew ?_ | refine blk_alloc ?_ _)); exact BK269.out⟩
        have n3_ : Aside0 (((((((((w92.setCell ⟨gb292, 0, none⟩ (.int .i64 t284)).setCell ⟨gb292, 1, none⟩ (.int .i64 t285)).setCell ⟨gb292, 2, none⟩ (.int .i64 t286)).setCell ⟨gb292, 3, none⟩ (.int .i64 t287)).setCell ⟨gb293, 0, none⟩ (.int .i64 t288)).setCell ⟨gb293, 1, none⟩ (.int .i64 t289)).setCell ⟨gb293, 2, none⟩ (.int .i64 t290)).setCell ⟨gb293, 3, none⟩ (.int .i64 t291)).heap[gb277]? = some (.cells #[.int .i64 t273, .int .i64 t274, .int .i64 t275, .int .i64 t276] 23 (0, 0))) := ⟨by (with_reducible repeat (first | refine blk_drewN ?_ _ | refine blk_drew ?_ | refine blk_alloc ?_ _)); refine blk_far ?_ NB277_293.out _; (with_reducible repeat (first | refine blk_drewN ?_ _ | refine blk_drew ?_ | refine blk_alloc ?_ _)); refine blk_far ?_ NB277_293.out _; (with_reducible repeat (first | refine blk_drewN ?_ _ | refine blk_drew ?_ | refine blk_alloc ?_ _)); refine blk_far ?_ NB277_293.out _; (with_reducible repeat (first | refine blk_drewN ?_ _ | refine blk_drew ?_ | refine blk_alloc ?_ _)); refine blk_far ?_ NB277_293.out _; (with_reducible repeat (first | refine blk_drewN ?_ _ | refine blk_drew ?_ | refine blk_alloc ?_ _)); refine blk_far ?_ NB277_292.out _; (with_reducible repeat (first | refine blk_drewN ?_ _ | refine blk_drew ?_ | refine blk_alloc ?_ _)); refine blk_far ?_ NB277_292.out _; (with_reducible repeat (first | refine blk_drewN ?_ _ | refine blk_drew ?_ | refine blk_alloc ?_ _)); refine blk_far ?_ NB277_292.out _; (with_reducible repeat (first | refine blk_drewN ?_ _ | refine blk_drew ?_ | refine blk_alloc ?_ _)); refine blk_far ?_ NB277_292.out _; (with_reducible repeat (first | refine blk_drewN ?_ _ | refine blk_drew ?_ | refine blk_alloc ?_ _)); exact BK277.out⟩
        have n4_ : Aside0 (((((((((w92.setCell ⟨gb292, 0, none⟩ (.int .i64 t284)).setCell ⟨gb292, 1, none⟩ (.int .i64 t285)).setCell ⟨gb292, 2, none⟩ (.int .i64 t286)).setCell ⟨gb292, 3, none⟩ (.int .i64 t287)).setCell ⟨gb293, 0, none⟩ (.int .i64 t288)).setCell ⟨gb293, 1, none⟩ (.int .i64 t289)).setCell ⟨gb293, 2, none⟩ (.int .i64 t290)).setCell ⟨gb293, 3, none⟩ (.int .i64 t291)).heap[gb292]? = some (.cells #[.int .i64 t284, .int .i64 t285, .int .i64 t286, .int .i64 t287] 23 (0, 0))) := ⟨by (with_reducible repeat (first | refine blk_drewN ?_ _ | refine blk_drew ?_ | refine blk_alloc ?_ _)); refine blk_far ?_ NB292_293.out _; (with_reducible repeat (first | refine blk_drewN ?_ _ | refine blk_drew ?_ | refine blk_alloc ?_ _)); refine blk_far ?_ NB292_293.out _; (with_reducible repeat (first | refine blk_drewN ?_ _ | refine blk_drew ?_ | refine blk_alloc ?_ _)); refine blk_far ?_ NB292_293.out _; (with_reducible repeat (first | refine blk_drewN ?_ _ | refine blk_drew ?_ | refine blk_alloc ?_ _)); refine blk_far ?_ NB292_293.out _; (with_reducible repeat (first | refine blk_drewN ?_ _ | refine blk_drew ?_ | refine blk_alloc ?_ _)); refine blk_put (cs := #[.int .i64 t284, .int .i64 t285, .int .i64 t286, .int .i64 0]) ?_ 3 _ rfl; (with_reducible repeat (first | refine blk_drewN ?_ _ | refine blk_drew ?_ | refine blk_alloc ?_ _)); refine blk_put (cs := #[.int .i64 t284, .int .i64 t285, .int .i64 0, .int .i64 0]) ?_ 2 _ rfl; (with_reducible repeat (first | refine blk_drewN ?_ _ | refine blk_drew ?_ | refine blk_alloc ?_ _)); refine blk_put (cs := #[.int .i64 t284, .int .i64 0, .int .i64 0, .int .i64 0]) ?_ 1 _ rfl; (with_reducible repeat (first | refine blk_drewN ?_ _ | refine blk_drew ?_ | refine blk_alloc ?_ _)); refine blk_put (cs := #[.int .i64 0, .int .i64 0, .int .i64 0, .int .i64 0]) ?_ 0 _ rfl; (with_reducible repeat (first | refine blk_drewN ?_ _ | refine blk_drew ?_ | refine blk_alloc ?_ _)); exact BK292.out⟩
        have n5_ : Aside0 (((((((((w92.setCell ⟨gb292, 0, none⟩ (.int .i64 t284)).setCell ⟨gb292, 1, none⟩ (.int .i64 t285)).setCell ⟨gb292, 2, none⟩ (.int .i64 t286)).setCell ⟨gb292, 3, none⟩ (.int .i64 t287)).setCell ⟨gb293, 0, none⟩ (.int .i64 t288)).setCell ⟨gb293, 1, none⟩ (.int .i64 t289)).setCell ⟨gb293, 2, none⟩ (.int .i64 t290)).setCell ⟨gb293, 3, none⟩ (.int .i64 t291)).heap[gb293]? = some (.cells #[.int .i64 t288, .int .i64 t289, .int .i64 t290, .int .i64 t291] 23 (0, 0))) := ⟨by (with_reducible repeat (first | refine blk_drewN ?_ _ | refine blk_drew ?_ | refine blk_alloc ?_ _)); refine blk_put (cs := #[.int .i64 t288, .int .i64 t289, .int .i64 t290, .int .i64 0]) ?_ 3 _ rfl; (with_reducible repeat (first | refine blk_drewN ?_ _ | refine blk_drew ?_ | refine blk_alloc ?_ _)); refine blk_put (cs := #[.int .i64 t288, .int .i64 t289, .int .i64 0, .int .i64 0]) ?_ 2 _ rfl; (with_reducible repeat (first | refine blk_drewN ?_ _ | refine blk_drew ?_ | refine blk_alloc ?_ _)); refine blk_put (cs := #[.int .i64 t288, .int .i64 0, .int .i64 0, .int .i64 0]) ?_ 1 _ rfl; (with_reducible repeat (first | refine blk_drewN ?_ _ | refine blk_drew ?_ | refine blk_alloc ?_ _)); refine blk_put (cs := #[.int .i64 0, .int .i64 0, .int .i64 0, .int .i64 0]) ?_ 0 _ rfl; (with_reducible repeat (first | refine blk_drewN ?_ _ | refine blk_drew ?_ | refine blk_alloc ?_ _)); refine blk_far ?_ NB293_292.out _; (with_reducible repeat (first | refine blk_drewN ?_ _ | refine blk_drew ?_ | refine blk_alloc ?_ _)); refine blk_far ?_ NB293_292.out _; (with_reducible repeat (first | refine blk_drewN ?_ _ | refine blk_drew ?_ | refine blk_alloc ?_ _)); refine blk_far ?_ NB293_292.out _; (with_reducible repeat (first | refine blk_drewN ?_ _ | refine blk_drew ?_ | refine blk_alloc ?_ _)); refine blk_far ?_ NB293_292.out _; (with_reducible repeat (first | refine blk_drewN ?_ _ | refine blk_drew ?_ | refine blk_alloc ?_ _)); exact BK293.out⟩
        have n6_ : Aside0 (Below w.heap.size w ((((((((w92.setCell ⟨gb292, 0, none⟩ (.int .i64 t284)).setCell ⟨gb292, 1, none⟩ (.int .i64 t285)).setCell ⟨gb292, 2, none⟩ (.int .i64 t286)).setCell ⟨gb292, 3, none⟩ (.int .i64 t287)).setCell ⟨gb293, 0, none⟩ (.int .i64 t288)).setCell ⟨gb293, 1, none⟩ (.int .i64 t289)).setCell ⟨gb293, 2, none⟩ (.int .i64 t290)).setCell ⟨gb293, 3, none⟩ (.int .i64 t291))) := ⟨by repeat (first | (with_reducible first | exact HB.out | apply below_alloc | apply pw_below_drewN | apply below_drew1 | refine below_set ?_ GE267.out | refine below_set ?_ GE268.out | refine below_set ?_ GE269.out | refine below_set ?_ GE277.out | refine below_set ?_ GE292.out | refine below_set ?_ GE293.out) | exact HB.out)⟩
        (try clear BK267)
        (try clear BK268)
        (try clear BK269)
        (try clear BK277)
        (try clear BK292)
        (try clear BK293)
        (try clear HB)
        generalize ((((((((w92.setCell ⟨gb292, 0, none⟩ (.int .i64 t284)).setCell ⟨gb292, 1, none⟩ (.int .i64 t285)).setCell ⟨gb292, 2, none⟩ (.int .i64 t286)).setCell ⟨gb292, 3, none⟩ (.int .i64 t287)).setCell ⟨gb293, 0, none⟩ (.int .i64 t288)).setCell ⟨gb293, 1, none⟩ (.int .i64 t289)).setCell ⟨gb293, 2, none⟩ (.int .i64 t290)).setCell ⟨gb293, 3, none⟩ (.int .i64 t291)) = w101 at n0_ n1_ n2_ n3_ n4_ n5_ n6_ ⊢
        have BK267 := n0_
        have BK268 := n1_
        have BK269 := n2_
        have BK277 := n3_
        have BK292 := n4_
        have BK293 := n5_
        have HB := n6_
        clear n0_ n1_ n2_ n3_ n4_ n5_ n6_
        replace BK267 := Aside0.mk (blk_drew BK267.out)
        replace BK268 := Aside0.mk (blk_drew BK268.out)
        replace BK269 := Aside0.mk (blk_drew BK269.out)
        replace BK277 := Aside0.mk (blk_drew BK277.out)
        replace BK292 := Aside0.mk (blk_drew BK292.out)
        replace BK293 := Aside0.mk (blk_drew BK293.out)
        replace HB := Aside0.mk (below_drew1 HB.out)
        refine start_ (n := 31) (S := fun w' => w'.cell? ⟨gb292, 0, none⟩ = some (.int .i64 t284) ∧ w'.cell? ⟨gb292, 1, none⟩ = some (.int .i64 t285) ∧ w'.cell? ⟨gb292, 2, none⟩ = some (.int .i64 t286) ∧ w'.cell? ⟨gb292, 3, none⟩ = some (.int .i64 t287) ∧ w'.cell? ⟨gb267, 0, none⟩ = some (.int .i64 a0_0) ∧ w'.cell? ⟨gb267, 1, none⟩ = some (.int .i64 a0_1) ∧ w'.cell? ⟨gb267, 2, none⟩ = some (.int .i64 a0_2) ∧ w'.cell? ⟨gb267, 3, none⟩ = some (.int .i64 a0_3) ∧ w'.cell? ⟨gb293, 0, none⟩ = some (.int .i64 t288) ∧ w'.cell? ⟨gb293, 1, none⟩ = some (.int .i64 t289) ∧ w'.cell? ⟨gb293, 2, none⟩ = some (.int .i64 t290) ∧ w'.cell? ⟨gb293, 3, none⟩ = some (.int .i64 t291) ∧ w'.cell? ⟨gb268, 0, none⟩ = some (.int .i64 a1_0) ∧ w'.cell? ⟨gb268, 1, none⟩ = some (.int .i64 a1_1) ∧ w'.cell? ⟨gb268, 2, none⟩ = some (.int .i64 a1_2) ∧ w'.cell? ⟨gb268, 3, none⟩ = some (.int .i64 a1_3)) (ds := []) zq4.q20 (by kernel_rfl) rfl rfl ⟨(blk_cell BK292.out 0).trans rfl, (blk_cell BK292.out 1).trans rfl, (blk_cell BK292.out 2).trans rfl, (blk_cell BK292.out 3).trans rfl, (blk_cell BK267.out 0).trans rfl, (blk_cell BK267.out 1).trans rfl, (blk_cell BK267.out 2).trans rfl, (blk_cell BK267.out 3).trans rfl, (blk_cell BK293.out 0).trans rfl, (blk_cell BK293.out 1).trans rfl, (blk_cell BK293.out 2).trans rfl, (blk_cell BK293.out 3).trans rfl, (blk_cell BK268.out 0).trans rfl, (blk_cell BK268.out 1).trans rfl, (blk_cell BK268.out 2).trans rfl, (blk_cell BK268.out 3).trans rfl⟩ (fun hHeld => ?_); refine with_tabW compositorlaw04_RectShifts.tab8 compositorlaw04_RectShifts.bits8 (fun HT_ HW_ => ?_)
        generalize w101.drew = w102 at BK267 BK268 BK269 BK277 BK292 BK293 HB hHeld ⊢
        refine pure_ (i := 1) (N := some 71) (v := ?_) (a' := ?_) zq4.q21 rfl rfl (any_of HT_.out (by kernel_rfl)) (fun _ _ _ h => h) (Or.inl ⟨by rfl, ?_⟩) ?_ ?_
        rotate_left
        ·
         intro w'
         go_simp
         with_reducible rfl
        rotate_left
        ·
         simp only [Act.put, List.setIfInBounds_toArray, List.set_cons_zero, List.set_cons_succ, i64_w, i32_w]
         rfl
        refine pure_ (i := 2) (N := some 72) (v := ?_) (a' := ?_) zq4.q22 rfl rfl (any_of HT_.out (by kernel_rfl)) (fun _ _ _ h => h) (Or.inl ⟨by rfl, ?_⟩) ?_ ?_
        rotate_left
        ·
         intro w'
         go_simp
         with_reducible rfl
        rotate_left
        ·
         simp only [Act.put, List.setIfInBounds_toArray, List.set_cons_zero, List.set_cons_succ, i64_w, i32_w]
         rfl
        refine pure_ (i := 3) (N := some 73) (v := ?_) (a' := ?_) zq4.q23 rfl rfl (any_of HT_.out (by kernel_rfl)) (fun _ _ _ h => h) (Or.inl ⟨by rfl, ?_⟩) ?_ ?_
        rotate_left
        ·
         intro w'
         go_simp
         with_reducible rfl
        rotate_left
        ·
         simp only [Act.put, List.setIfInBounds_toArray, List.set_cons_zero, List.set_cons_succ, i64_w, i32_w]
         rfl
        refine pure_ (i := 4) (N := some 74) (v := ?_) (a' := ?_) zq4.q24 rfl rfl (any_of HT_.out (by kernel_rfl)) (fun _ _ _ h => h) (Or.inl ⟨by rfl, ?_⟩) ?_ ?_
        rotate_left
        ·
         intro w'
         go_simp
         with_reducible rfl
        rotate_left
        ·
         simp only [Act.put, List.setIfInBounds_toArray, List.set_cons_zero, List.set_cons_succ, i64_w, i32_w]
         rfl
        refine take_ (i := 0) (N := some 70) (v := ?_) (a' := ?_) zq4.q25 rfl rfl (take_ofW HT_.out HW_.out (by kernel_rfl)) (fun _ _ _ h => h) (Or.inl ⟨by rfl, ?_⟩) hHeld ?_ ?_
        rotate_left
        ·
         rintro w' ⟨s0, s1, s2, s3, s4, s5, s6, s7, s8, s9, s10, s11, s12, s13, s14, s15⟩
         go_simp
         with_reducible rfl
        rotate_left
        ·
         simp only [Act.put, List.setIfInBounds_toArray, List.set_cons_zero, List.set_cons_succ, i64_w, i32_w]
         rfl
        refine take_ (i := 6) (N := some 76) (v := ?_) (a' := ?_) zq4.q26 rfl rfl (take_ofW HT_.out HW_.out (by kernel_rfl)) (fun _ _ _ h => h) (Or.inl ⟨by rfl, ?_⟩) hHeld ?_ ?_
        rotate_left
        ·
         rintro w' ⟨s0, s1, s2, s3, s4, s5, s6, s7, s8, s9, s10, s11, s12, s13, s14, s15⟩
         go_simp
         with_reducible rfl
        rotate_left
        ·
         simp only [Act.put, List.setIfInBounds_toArray, List.set_cons_zero, List.set_cons_succ, i64_w, i32_w]
         rfl
        refine one_ (i := 5) (N := some 75) zq4.q27 rfl rfl (one_of HT_.out (by kernel_rfl)) (by decide) (fun K hK => ?_)
        refine goes_ Try.func13 (by kernel_rfl) rfl #[.agg #[.int .i64 t284, .int .i64 t285, .int .i64 t286, .int .i64 t287], .int .i64 (wrap64 (-a2_0)), .int .i64 (wrap64 (-a2_1))] (by rfl) rfl rfl (by (try simp only [List.map_toArray, List.map_cons, List.map_nil]); first | done | rfl | (simp only [List.length_drop, List.length_take]; rfl)) ?_
        with_reducible refine (rect_Translate.calls t284 t285 t286 t287 (wrap64 (-a2_0)) (wrap64 (-a2_1)) t294 t295 t296 t297 _ A64.out).mono ?_
        rintro e w103 ⟨rfl, hb⟩
        refine ⟨_, rfl, ?_⟩
        replace BK267 := YtloojhnohofonaaSq.bb BK267 hb
        replace BK268 := YtloojhnohofonaaSq.bb BK268 hb
        replace BK269 := YtloojhnohofonaaSq.bb BK269 hb
        replace BK277 := YtloojhnohofonaaSq.bb BK277 hb
        replace BK292 := YtloojhnohofonaaSq.bb BK292 hb
        replace BK293 := YtloojhnohofonaaSq.bb BK293 hb
        replace HB := Aside0.mk (below_step (by repeat (first | (with_reducible first | exact HB.out | apply below_alloc | apply pw_below_drewN | apply below_drew1 | refine below_set ?_ GE267.out | refine below_set ?_ GE268.out | refine below_set ?_ GE269.out | refine below_set ?_ GE277.out | refine below_set ?_ GE292.out | refine below_set ?_ GE293.out) | exact HB.out)) hb)
        (try clear hb); (try clear hb2); (try clear hk); (try clear hi)
        refine hK.out _ _ ⟨(blk_cell BK292.out 0).trans rfl, (blk_cell BK292.out 1).trans rfl, (blk_cell BK292.out 2).trans rfl, (blk_cell BK292.out 3).trans rfl, (blk_cell BK267.out 0).trans rfl, (blk_cell BK267.out 1).trans rfl, (blk_cell BK267.out 2).trans rfl, (blk_cell BK267.out 3).trans rfl, (blk_cell BK293.out 0).trans rfl, (blk_cell BK293.out 1).trans rfl, (blk_cell BK293.out 2).trans rfl, (blk_cell BK293.out 3).trans rfl, (blk_cell BK268.out 0).trans rfl, (blk_cell BK268.out 1).trans rfl, (blk_cell BK268.out 2).trans rfl, (blk_cell BK268.out 3).trans rfl⟩ (fun hHeld => ?_)
        clear hK K
        refine norm_ (a' := ?_) ?_ ?_
        rotate_left
        ·
         show Act.put _ (some 75) _ = _
         simp only [Act.put, List.setIfInBounds_toArray, List.set_cons_zero, List.set_cons_succ, i64_w, i32_w]
         rfl
        refine pure_ (i := 7) (N := some 77) (v := ?_) (a' := ?_) zq4.q28 rfl rfl (any_of HT_.out (by kernel_rfl)) (fun _ _ _ h => h) (Or.inl ⟨by rfl, ?_⟩) ?_ ?_
        rotate_left
        ·
         intro w'
         go_simp
         with_reducible rfl
        rotate_left
        ·
         simp only [Act.put, List.setIfInBounds_toArray, List.set_cons_zero, List.set_cons_succ, i64_w, i32_w]
         rfl
        refine pure_ (i := 8) (N := some 78) (v := ?_) (a' := ?_) zq4.q29 rfl rfl (any_of HT_.out (by kernel_rfl)) (fun _ _ _ h => h) (Or.inl ⟨by rfl, ?_⟩) ?_ ?_
        rotate_left
        ·
         intro w'
         go_simp
         with_reducible rfl
        rotate_left
        ·
         simp only [Act.put, List.setIfInBounds_toArray, List.set_cons_zero, List.set_cons_succ, i64_w, i32_w]
         rfl
        refine take_ (i := 9) (N := some 79) (v := ?_) (a' := ?_) zq4.q30 rfl rfl (take_ofW HT_.out HW_.out (by kernel_rfl)) (fun _ _ _ h => h) (Or.inl ⟨by rfl, ?_⟩) hHeld ?_ ?_
        rotate_left
        ·
         rintro w' ⟨s0, s1, s2, s3, s4, s5, s6, s7, s8, s9, s10, s11, s12, s13, s14, s15⟩
         go_simp
         with_reducible rfl
        rotate_left
        ·
         simp only [Act.put, List.setIfInBounds_toArray, List.set_cons_zero, List.set_cons_succ, i64_w, i32_w]
         rfl
        refine take_ (i := 11) (N := some 81) (v := ?_) (a' := ?_) zq4.q31 rfl rfl (take_ofW HT_.out HW_.out (by kernel_rfl)) (fun _ _ _ h => h) (Or.inl ⟨by rfl, ?_⟩) hHeld ?_ ?_
        rotate_left
        ·
         rintro w' ⟨s0, s1, s2, s3, s4, s5, s6, s7, s8, s9, s10, s11, s12, s13, s14, s15⟩
         go_simp
         with_reducible rfl
        rotate_left
        ·
         simp only [Act.put, List.setIfInBounds_toArray, List.set_cons_zero, List.set_cons_succ, i64_w, i32_w]
         rfl
        refine one_ (i := 10) (N := some 80) zq4.q32 rfl rfl (one_of HT_.out (by kernel_rfl)) (by decide) (fun K hK => ?_)
        refine goes_ Try.func20 (by kernel_rfl) rfl #[.agg #[.int .i64 t284, .int .i64 t285, .int .i64 t286, .int .i64 t287]] (by rfl) rfl rfl (by (try simp only [List.map_toArray, List.map_cons, List.map_nil]); first | done | rfl | (simp only [List.length_drop, List.length_take]; rfl)) ?_
        with_reducible refine (rect_Area.calls t284 t285 t286 t287 t298 _ A66.out).mono ?_
        rintro e w104 ⟨rfl, hb⟩
        refine ⟨_, rfl, ?_⟩
        replace BK267 := YtloojhnohofonaaSq.bb BK267 hb
        replace BK268 := YtloojhnohofonaaSq.bb BK268 hb
        replace BK269 := YtloojhnohofonaaSq.bb BK269 hb
        replace BK277 := YtloojhnohofonaaSq.bb BK277 hb
        replace BK292 := YtloojhnohofonaaSq.bb BK292 hb
        replace BK293 := YtloojhnohofonaaSq.bb BK293 hb
        replace HB := Aside0.mk (below_step (by repeat (first | (with_reducible first | exact HB.out | apply below_alloc | apply pw_below_drewN | apply below_drew1 | refine below_set ?_ GE267.out | refine below_set ?_ GE268.out | refine below_set ?_ GE269.out | refine below_set ?_ GE277.out | refine below_set ?_ GE292.out | refine below_set ?_ GE293.out) | exact HB.out)) hb)
        (try clear hb); (try clear hb2); (try clear hk); (try clear hi)
        refine hK.out _ _ ⟨(blk_cell BK292.out 0).trans rfl, (blk_cell BK292.out 1).trans rfl, (blk_cell BK292.out 2).trans rfl, (blk_cell BK292.out 3).trans rfl, (blk_cell BK267.out 0).trans rfl, (blk_cell BK267.out 1).trans rfl, (blk_cell BK267.out 2).trans rfl, (blk_cell BK267.out 3).trans rfl, (blk_cell BK293.out 0).trans rfl, (blk_cell BK293.out 1).trans rfl, (blk_cell BK293.out 2).trans rfl, (blk_cell BK293.out 3).trans rfl, (blk_cell BK268.out 0).trans rfl, (blk_cell BK268.out 1).trans rfl, (blk_cell BK268.out 2).trans rfl, (blk_cell BK268.out 3).trans rfl⟩ (fun hHeld => ?_)
        clear hK K
        refine norm_ (a' := ?_) ?_ ?_
        rotate_left
        ·
         show Act.put _ (some 80) _ = _
         simp only [Act.put, List.setIfInBounds_toArray, List.set_cons_zero, List.set_cons_succ, i64_w, i32_w]
         rfl
        refine one_ (i := 12) (N := some 82) zq4.q33 rfl rfl (one_of HT_.out (by kernel_rfl)) (by decide) (fun K hK => ?_)
        refine goes_ Try.func20 (by kernel_rfl) rfl #[.agg #[.int .i64 a0_0, .int .i64 a0_1, .int .i64 a0_2, .int .i64 a0_3]] (by rfl) rfl rfl (by (try simp only [List.map_toArray, List.map_cons, List.map_nil]); first | done | rfl | (simp only [List.length_drop, List.length_take]; rfl)) ?_
        with_reducible refine (rect_Area.calls a0_0 a0_1 a0_2 a0_3 t299 _ A67.out).mono ?_
        rintro e w105 ⟨rfl, hb⟩
        refine ⟨_, rfl, ?_⟩
        replace BK267 := YtloojhnohofonaaSq.bb BK267 hb
        replace BK268 := YtloojhnohofonaaSq.bb BK268 hb
        replace BK269 := YtloojhnohofonaaSq.bb BK269 hb
        replace BK277 := YtloojhnohofonaaSq.bb BK277 hb
        replace BK292 := YtloojhnohofonaaSq.bb BK292 hb
        replace BK293 := YtloojhnohofonaaSq.bb BK293 hb
        replace HB := Aside0.mk (below_step (by repeat (first | (with_reducible first | exact HB.out | apply below_alloc | apply pw_below_drewN | apply below_drew1 | refine below_set ?_ GE267.out | refine below_set ?_ GE268.out | refine below_set ?_ GE269.out | refine below_set ?_ GE277.out | refine below_set ?_ GE292.out | refine below_set ?_ GE293.out) | exact HB.out)) hb)
        (try clear hb); (try clear hb2); (try clear hk); (try clear hi)
        refine hK.out _ _ ⟨(blk_cell BK292.out 0).trans rfl, (blk_cell BK292.out 1).trans rfl, (blk_cell BK292.out 2).trans rfl, (blk_cell BK292.out 3).trans rfl, (blk_cell BK267.out 0).trans rfl, (blk_cell BK267.out 1).trans rfl, (blk_cell BK267.out 2).trans rfl, (blk_cell BK267.out 3).trans rfl, (blk_cell BK293.out 0).trans rfl, (blk_cell BK293.out 1).trans rfl, (blk_cell BK293.out 2).trans rfl, (blk_cell BK293.out 3).trans rfl, (blk_cell BK268.out 0).trans rfl, (blk_cell BK268.out 1).trans rfl, (blk_cell BK268.out 2).trans rfl, (blk_cell BK268.out 3).trans rfl⟩ (fun hHeld => ?_)
        clear hK K
        refine norm_ (a' := ?_) ?_ ?_
        rotate_left
        ·
         show Act.put _ (some 82) _ = _
         simp only [Act.put, List.setIfInBounds_toArray, List.set_cons_zero, List.set_cons_succ, i64_w, i32_w]
         rfl
        refine pure_ (i := 13) (N := some 83) (v := ?_) (a' := ?_) zq4.q34 rfl rfl (any_of HT_.out (by kernel_rfl)) (fun _ _ _ h => h) (Or.inl ⟨by rfl, ?_⟩) ?_ ?_
        rotate_left
        ·
         intro w'
         go_simp
         with_reducible rfl
        rotate_left
        ·
         simp only [Act.put, List.setIfInBounds_toArray, List.set_cons_zero, List.set_cons_succ, i64_w, i32_w]
         rfl
        refine pure_ (i := 14) (N := some 84) (v := ?_) (a' := ?_) zq4.q35 rfl rfl (any_of HT_.out (by kernel_rfl)) (fun _ _ _ h => h) (Or.inl ⟨by rfl, ?_⟩) ?_ ?_
        rotate_left
        ·
         intro w'
         go_simp
         with_reducible rfl
        rotate_left
        ·
         simp only [Act.put, List.setIfInBounds_toArray, List.set_cons_zero, List.set_cons_succ, i64_w, i32_w]
         rfl
        refine pure_ (i := 15) (N := some 85) (v := ?_) (a' := ?_) zq4.q36 rfl rfl (any_of HT_.out (by kernel_rfl)) (fun _ _ _ h => h) (Or.inl ⟨by rfl, ?_⟩) ?_ ?_
        rotate_left
        ·
         intro w'
         go_simp
         with_reducible rfl
        rotate_left
        ·
         simp only [Act.put, List.setIfInBounds_toArray, List.set_cons_zero, List.set_cons_succ, i64_w, i32_w]
         rfl
        refine pure_ (i := 22) (N := some 92) (v := ?_) (a' := ?_) zq4.q37 rfl rfl (any_of HT_.out (by kernel_rfl)) (fun _ _ _ h => h) (Or.inl ⟨by rfl, ?_⟩) ?_ ?_
        rotate_left
        ·
         intro w'
         go_simp
         with_reducible rfl
        rotate_left
        ·
         simp only [Act.put, List.setIfInBounds_toArray, List.set_cons_zero, List.set_cons_succ, i64_w, i32_w]
         rfl
        refine pure_ (i := 23) (N := some 93) (v := ?_) (a' := ?_) zq4.q38 rfl rfl (any_of HT_.out (by kernel_rfl)) (fun _ _ _ h => h) (Or.inl ⟨by rfl, ?_⟩) ?_ ?_
        rotate_left
        ·
         intro w'
         go_simp
         with_reducible rfl
        rotate_left
        ·
         simp only [Act.put, List.setIfInBounds_toArray, List.set_cons_zero, List.set_cons_succ, i64_w, i32_w]
         rfl
        refine take_ (i := 16) (N := some 86) (v := ?_) (a' := ?_) zq4.q39 rfl rfl (take_ofW HT_.out HW_.out (by kernel_rfl)) (fun _ _ _ h => h) (Or.inl ⟨by rfl, ?_⟩) hHeld ?_ ?_
        rotate_left
        ·
         rintro w' ⟨s0, s1, s2, s3, s4, s5, s6, s7, s8, s9, s10, s11, s12, s13, s14, s15⟩
         go_simp
         with_reducible rfl
        rotate_left
        ·
         simp only [Act.put, List.setIfInBounds_toArray, List.set_cons_zero, List.set_cons_succ, i64_w, i32_w]
         rfl
        refine take_ (i := 17) (N := some 87) (v := ?_) (a' := ?_) zq4.q40 rfl rfl (take_ofW HT_.out HW_.out (by kernel_rfl)) (fun _ _ _ h => h) (Or.inl ⟨by rfl, ?_⟩) hHeld ?_ ?_
        rotate_left
        ·
         rintro w' ⟨s0, s1, s2, s3, s4, s5, s6, s7, s8, s9, s10, s11, s12, s13, s14, s15⟩
         go_simp
         with_reducible rfl
        rotate_left
        ·
         simp only [Act.put, List.setIfInBounds_toArray, List.set_cons_zero, List.set_cons_succ, i64_w, i32_w]
         rfl
        refine take_ (i := 19) (N := some 89) (v := ?_) (a' := ?_) zq4.q41 rfl rfl (take_ofW HT_.out HW_.out (by kernel_rfl)) (fun _ _ _ h => h) (Or.inl ⟨by rfl, ?_⟩) hHeld ?_ ?_
        rotate_left
        ·
         rintro w' ⟨s0, s1, s2, s3, s4, s5, s6, s7, s8, s9, s10, s11, s12, s13, s14, s15⟩
         go_simp
         with_reducible rfl
        rotate_left
        ·
         simp only [Act.put, List.setIfInBounds_toArray, List.set_cons_zero, List.set_cons_succ, i64_w, i32_w]
         rfl
        refine take_ (i := 20) (N := some 90) (v := ?_) (a' := ?_) zq4.q42 rfl rfl (take_ofW HT_.out HW_.out (by kernel_rfl)) (fun _ _ _ h => h) (Or.inl ⟨by rfl, ?_⟩) hHeld ?_ ?_
        rotate_left
        ·
         rintro w' ⟨s0, s1, s2, s3, s4, s5, s6, s7, s8, s9, s10, s11, s12, s13, s14, s15⟩
         go_simp
         with_reducible rfl
        rotate_left
        ·
         simp only [Act.put, List.setIfInBounds_toArray, List.set_cons_zero, List.set_cons_succ, i64_w, i32_w]
         rfl
        refine one_ (i := 18) (N := some 88) zq4.q43 rfl rfl (one_of HT_.out (by kernel_rfl)) (by decide) (fun K hK => ?_)
        refine goes_ Try.func21 (by kernel_rfl) rfl #[.agg #[.int .i64 t284, .int .i64 t285, .int .i64 t286, .int .i64 t287], .agg #[.int .i64 t288, .int .i64 t289, .int .i64 t290, .int .i64 t291]] (by rfl) rfl rfl (by (try simp only [List.map_toArray, List.map_cons, List.map_nil]); first | done | rfl | (simp only [List.length_drop, List.length_take]; rfl)) ?_
        with_reducible refine (rect_Intersect.calls t284 t285 t286 t287 t288 t289 t290 t291 t300 t301 t302 t303 _ A69.out).mono ?_
        rintro e w106 ⟨rfl, hb⟩
        refine ⟨_, rfl, ?_⟩
        replace BK267 := YtloojhnohofonaaSq.bb BK267 hb
        replace BK268 := YtloojhnohofonaaSq.bb BK268 hb
        replace BK269 := YtloojhnohofonaaSq.bb BK269 hb
        replace BK277 := YtloojhnohofonaaSq.bb BK277 hb
        replace BK292 := YtloojhnohofonaaSq.bb BK292 hb
        replace BK293 := YtloojhnohofonaaSq.bb BK293 hb
        replace HB := Aside0.mk (below_step (by repeat (first | (with_reducible first | exact HB.out | apply below_alloc | apply pw_below_drewN | apply below_drew1 | refine below_set ?_ GE267.out | refine below_set ?_ GE268.out | refine below_set ?_ GE269.out | refine below_set ?_ GE277.out | refine below_set ?_ GE292.out | refine below_set ?_ GE293.out) | exact HB.out)) hb)
        (try clear hb); (try clear hb2); (try clear hk); (try clear hi)
        refine hK.out _ _ ⟨(blk_cell BK292.out 0).trans rfl, (blk_cell BK292.out 1).trans rfl, (blk_cell BK292.out 2).trans rfl, (blk_cell BK292.out 3).trans rfl, (blk_cell BK267.out 0).trans rfl, (blk_cell BK267.out 1).trans rfl, (blk_cell BK267.out 2).trans rfl, (blk_cell BK267.out 3).trans rfl, (blk_cell BK293.out 0).trans rfl, (blk_cell BK293.out 1).trans rfl, (blk_cell BK293.out 2).trans rfl, (blk_cell BK293.out 3).trans rfl, (blk_cell BK268.out 0).trans rfl, (blk_cell BK268.out 1).trans rfl, (blk_cell BK268.out 2).trans rfl, (blk_cell BK268.out 3).trans rfl⟩ (fun hHeld => ?_)
        clear hK K
        refine norm_ (a' := ?_) ?_ ?_
        rotate_left
        ·
         show Act.put _ (some 88) _ = _
         simp only [Act.put, List.setIfInBounds_toArray, List.set_cons_zero, List.set_cons_succ, i64_w, i32_w]
         rfl
        refine one_ (i := 21) (N := some 91) zq4.q44 rfl rfl (one_of HT_.out (by kernel_rfl)) (by decide) (fun K hK => ?_)
        refine goes_ Try.func21 (by kernel_rfl) rfl #[.agg #[.int .i64 a0_0, .int .i64 a0_1, .int .i64 a0_2, .int .i64 a0_3], .agg #[.int .i64 a1_0, .int .i64 a1_1, .int .i64 a1_2, .int .i64 a1_3]] (by rfl) rfl rfl (by (try simp only [List.map_toArray, List.map_cons, List.map_nil]); first | done | rfl | (simp only [List.length_drop, List.length_take]; rfl)) ?_
        with_reducible refine (rect_Intersect.calls a0_0 a0_1 a0_2 a0_3 a1_0 a1_1 a1_2 a1_3 t304 t305 t306 t307 _ A70.out).mono ?_
        rintro e w107 ⟨rfl, hb⟩
        refine ⟨_, rfl, ?_⟩
        replace BK267 := YtloojhnohofonaaSq.bb BK267 hb
        replace BK268 := YtloojhnohofonaaSq.bb BK268 hb
        replace BK269 := YtloojhnohofonaaSq.bb BK269 hb
        replace BK277 := YtloojhnohofonaaSq.bb BK277 hb
        replace BK292 := YtloojhnohofonaaSq.bb BK292 hb
        replace BK293 := YtloojhnohofonaaSq.bb BK293 hb
        replace HB := Aside0.mk (below_step (by repeat (first | (with_reducible first | exact HB.out | apply below_alloc | apply pw_below_drewN | apply below_drew1 | refine below_set ?_ GE267.out | refine below_set ?_ GE268.out | refine below_set ?_ GE269.out | refine below_set ?_ GE277.out | refine below_set ?_ GE292.out | refine below_set ?_ GE293.out) | exact HB.out)) hb)
        (try clear hb); (try clear hb2); (try clear hk); (try clear hi)
        refine hK.out _ _ ⟨(blk_cell BK292.out 0).trans rfl, (blk_cell BK292.out 1).trans rfl, (blk_cell BK292.out 2).trans rfl, (blk_cell BK292.out 3).trans rfl, (blk_cell BK267.out 0).trans rfl, (blk_cell BK267.out 1).trans rfl, (blk_cell BK267.out 2).trans rfl, (blk_cell BK267.out 3).trans rfl, (blk_cell BK293.out 0).trans rfl, (blk_cell BK293.out 1).trans rfl, (blk_cell BK293.out 2).trans rfl, (blk_cell BK293.out 3).trans rfl, (blk_cell BK268.out 0).trans rfl, (blk_cell BK268.out 1).trans rfl, (blk_cell BK268.out 2).trans rfl, (blk_cell BK268.out 3).trans rfl⟩ (fun hHeld => ?_)
        clear hK K
        refine norm_ (a' := ?_) ?_ ?_
        rotate_left
        ·
         show Act.put _ (some 91) _ = _
         simp only [Act.put, List.setIfInBounds_toArray, List.set_cons_zero, List.set_cons_succ, i64_w, i32_w]
         rfl
        refine one_ (i := 24) (N := some 94) zq4.q45 rfl rfl (one_of HT_.out (by kernel_rfl)) (by decide) (fun K hK => ?_)
        refine goes_ Try.func13 (by kernel_rfl) rfl #[.agg #[.int .i64 t304, .int .i64 t305, .int .i64 t306, .int .i64 t307], .int .i64 a2_0, .int .i64 a2_1] (by rfl) rfl rfl (by (try simp only [List.map_toArray, List.map_cons, List.map_nil]); first | done | rfl | (simp only [List.length_drop, List.length_take]; rfl)) ?_
        with_reducible refine (rect_Translate.calls t304 t305 t306 t307 a2_0 a2_1 t308 t309 t310 t311 _ A71.out).mono ?_
        rintro e w108 ⟨rfl, hb⟩
        refine ⟨_, rfl, ?_⟩
        replace BK267 := YtloojhnohofonaaSq.bb BK267 hb
        replace BK268 := YtloojhnohofonaaSq.bb BK268 hb
        replace BK269 := YtloojhnohofonaaSq.bb BK269 hb
        replace BK277 := YtloojhnohofonaaSq.bb BK277 hb
        replace BK292 := YtloojhnohofonaaSq.bb BK292 hb
        replace BK293 := YtloojhnohofonaaSq.bb BK293 hb
        replace HB := Aside0.mk (below_step (by repeat (first | (with_reducible first | exact HB.out | apply below_alloc | apply pw_below_drewN | apply below_drew1 | refine below_set ?_ GE267.out | refine below_set ?_ GE268.out | refine below_set ?_ GE269.out | refine below_set ?_ GE277.out | refine below_set ?_ GE292.out | refine below_set ?_ GE293.out) | exact HB.out)) hb)
        (try clear hb); (try clear hb2); (try clear hk); (try clear hi)
        refine hK.out _ _ ⟨(blk_cell BK292.out 0).trans rfl, (blk_cell BK292.out 1).trans rfl, (blk_cell BK292.out 2).trans rfl, (blk_cell BK292.out 3).trans rfl, (blk_cell BK267.out 0).trans rfl, (blk_cell BK267.out 1).trans rfl, (blk_cell BK267.out 2).trans rfl, (blk_cell BK267.out 3).trans rfl, (blk_cell BK293.out 0).trans rfl, (blk_cell BK293.out 1).trans rfl, (blk_cell BK293.out 2).trans rfl, (blk_cell BK293.out 3).trans rfl, (blk_cell BK268.out 0).trans rfl, (blk_cell BK268.out 1).trans rfl, (blk_cell BK268.out 2).trans rfl, (blk_cell BK268.out 3).trans rfl⟩ (fun hHeld => ?_)
        clear hK K
        refine norm_ (a' := ?_) ?_ ?_
        rotate_left
        ·
         show Act.put _ (some 94) _ = _
         simp only [Act.put, List.setIfInBounds_toArray, List.set_cons_zero, List.set_cons_succ, i64_w, i32_w]
         rfl
        refine pure_ (i := 25) (N := some 95) (v := ?_) (a' := ?_) zq4.q46 rfl rfl (any_of HT_.out (by kernel_rfl)) (fun _ _ _ h => h) (Or.inl ⟨by rfl, ?_⟩) ?_ ?_
        rotate_left
        ·
         intro w'
         go_simp
         with_reducible rfl
        rotate_left
        ·
         simp only [Act.put, List.setIfInBounds_toArray, List.set_cons_zero, List.set_cons_succ, i64_w, i32_w]
         rfl
        refine pure_ (i := 26) (N := some 96) (v := ?_) (a' := ?_) zq4.q47 rfl rfl (any_of HT_.out (by kernel_rfl)) (fun _ _ _ h => h) (Or.inl ⟨by rfl, ?_⟩) ?_ ?_
        rotate_left
        ·
         intro w'
         go_simp
         with_reducible rfl
        rotate_left
        ·
         simp only [Act.put, List.setIfInBounds_toArray, List.set_cons_zero, List.set_cons_succ, i64_w, i32_w]
         rfl
        refine pure_ (i := 27) (N := some 97) (v := ?_) (a' := ?_) zq4.q48 rfl rfl (any_of HT_.out (by kernel_rfl)) (fun _ _ _ h => h) (Or.inl ⟨by rfl, ?_⟩) ?_ ?_
        rotate_left
        ·
         intro w'
         go_simp
         with_reducible rfl
        rotate_left
        ·
         simp only [Act.put, List.setIfInBounds_toArray, List.set_cons_zero, List.set_cons_succ, i64_w, i32_w]
         rfl
        refine one_ (i := 28) (N := some 98) zq4.q49 rfl rfl (one_of HT_.out (by kernel_rfl)) (by decide) (fun K hK => ?_)
        refine goes_ Try.func15 (by kernel_rfl) rfl #[] (by rfl) rfl rfl (by (try simp only [List.map_toArray, List.map_cons, List.map_nil]); first | done | rfl | (simp only [List.length_drop, List.length_take]; rfl)) ?_
        with_reducible refine (compositorlaw04_exampleHolds.calls kj3  t312 _ A73.out).mono ?_
        rintro e w109 ⟨rfl, hb⟩
        refine ⟨_, rfl, ?_⟩
        replace BK267 := YtloojhnohofonaaSq.bb BK267 hb
        replace BK268 := YtloojhnohofonaaSq.bb BK268 hb
        replace BK269 := YtloojhnohofonaaSq.bb BK269 hb
        replace BK277 := YtloojhnohofonaaSq.bb BK277 hb
        replace BK292 := YtloojhnohofonaaSq.bb BK292 hb
        replace BK293 := YtloojhnohofonaaSq.bb BK293 hb
        replace HB := Aside0.mk (below_step (by repeat (first | (with_reducible first | exact HB.out | apply below_alloc | apply pw_below_drewN | apply below_drew1 | refine below_set ?_ GE267.out | refine below_set ?_ GE268.out | refine below_set ?_ GE269.out | refine below_set ?_ GE277.out | refine below_set ?_ GE292.out | refine below_set ?_ GE293.out) | exact HB.out)) hb)
        (try clear hb); (try clear hb2); (try clear hk); (try clear hi)
        refine hK.out _ _ ⟨(blk_cell BK292.out 0).trans rfl, (blk_cell BK292.out 1).trans rfl, (blk_cell BK292.out 2).trans rfl, (blk_cell BK292.out 3).trans rfl, (blk_cell BK267.out 0).trans rfl, (blk_cell BK267.out 1).trans rfl, (blk_cell BK267.out 2).trans rfl, (blk_cell BK267.out 3).trans rfl, (blk_cell BK293.out 0).trans rfl, (blk_cell BK293.out 1).trans rfl, (blk_cell BK293.out 2).trans rfl, (blk_cell BK293.out 3).trans rfl, (blk_cell BK268.out 0).trans rfl, (blk_cell BK268.out 1).trans rfl, (blk_cell BK268.out 2).trans rfl, (blk_cell BK268.out 3).trans rfl⟩ (fun hHeld => ?_)
        clear hK K
        refine norm_ (a' := ?_) ?_ ?_
        rotate_left
        ·
         show Act.put _ (some 98) _ = _
         simp only [Act.put, List.setIfInBounds_toArray, List.set_cons_zero, List.set_cons_succ, i64_w, i32_w]
         rfl
        refine pure_ (i := 29) (N := some 99) (v := ?_) (a' := ?_) zq4.q50 rfl rfl (any_of HT_.out (by kernel_rfl)) (fun _ _ _ h => h) (Or.inl ⟨by rfl, ?_⟩) ?_ ?_
        rotate_left
        ·
         intro w'
         go_simp
         with_reducible rfl
        rotate_left
        ·
         simp only [Act.put, List.setIfInBounds_toArray, List.set_cons_zero, List.set_cons_succ, i64_w, i32_w]
         rfl
        refine pure_ (i := 30) (N := some 6) (v := ?_) (a' := ?_) zq4.q51 rfl rfl (any_of HT_.out (by kernel_rfl)) (fun _ _ _ h => h) (Or.inl ⟨by rfl, ?_⟩) ?_ ?_
        rotate_left
        ·
         intro w'
         go_simp
         with_reducible rfl
        rotate_left
        ·
         simp only [Act.put, List.setIfInBounds_toArray, List.set_cons_zero, List.set_cons_succ, i64_w, i32_w]
         rfl
        refine done_ (done_of HT_.out (by kernel_rfl)) ?_
        try go_wp2
        go_ret
        exact ⟨by first | rfl | (simp [errW_none, errW_some] <;> rfl) | (simp [*, errW_none, errW_some] <;> rfl), by repeat (first | (with_reducible first | exact HB.out | apply below_alloc | apply pw_below_drewN | apply below_drew1 | refine below_set ?_ GE267.out | refine below_set ?_ GE268.out | refine below_set ?_ GE269.out | refine below_set ?_ GE277.out | refine below_set ?_ GE292.out | refine below_set ?_ GE293.out) | exact HB.out)⟩
       ·
        rw [if_neg c72] at H
        have c72b0 : (t300 == t308 && (t301 == t309 && (t302 == t310 && (t303 == t311)))) = false := by simpa using c72
        (try (have c72b1 : decide (t300 = t308 && (t301 == t309 && (t302 == t310 && (t303 == t311)))) = false := by simpa using c72))
        (try (have c72b2 : (t300 == t308 && (t301 == t309 && (t302 == t310 && (t303 == t311)))) = false := by simpa using c72))
        (try (have c72b3 : ¬ (t300 = t308 && (t301 == t309 && (t302 == t310 && (t303 == t311)))) := by simpa using c72))
        clear c72
        exact absurd H (by simp)
      ·
       rw [if_neg c68] at H
       have c68b0 : (t298 == t299) = false := beq_eq_false_iff_ne.mpr c68
       have c68b1 : (t298 != t299) = true := bne_iff_ne.mpr c68
       exact absurd H (by simp)
     ·
      rw [if_neg c65] at H
      have c65b0 : (t294 == a0_0 && (t295 == a0_1 && (t296 == a0_2 && (t297 == a0_3)))) = false := by simpa using c65
      (try (have c65b1 : decide (t294 = a0_0 && (t295 == a0_1 && (t296 == a0_2 && (t297 == a0_3)))) = false := by simpa using c65))
      (try (have c65b2 : (t294 == a0_0 && (t295 == a0_1 && (t296 == a0_2 && (t297 == a0_3)))) = false := by simpa using c65))
      (try (have c65b3 : ¬ (t294 = a0_0 && (t295 == a0_1 && (t296 == a0_2 && (t297 == a0_3)))) := by simpa using c65))
      clear c65
      exact absurd H (by simp)
    ·
     replace c61 := Bool.eq_false_iff.mpr c61
     subst c61
     have H1 : ((compositorlaw04_exampleHolds.f kj3).bind fun t283 => (some t283)) = some true := by rw [if_neg (show ¬ (false = true) by decide)] at H; exact H
     clear H
     have H := H1
     clear H1
     replace H := Option.bind_eq_some_iff.mp H
     obtain ⟨t283, A1100, H⟩ := H
     replace H : (some t283) = some true := H
     have A110 := Aside0.mk A1100
     clear A1100
     have Hq_ := Option.some.inj H
     have hnb111 := NB267_268.out
     have hnc111 := NB268_267.out
     have hnb112 := NB267_269.out
     have hnc112 := NB269_267.out
     have hcz113_0 : wc.cell? ⟨gb267, 0, none⟩ = some (.int .i64 a0_0) := (blk_cell BK267.out 0).trans rfl
     have hcz113_1 : wc.cell? ⟨gb267, 1, none⟩ = some (.int .i64 a0_1) := (blk_cell BK267.out 1).trans rfl
     have hcz113_2 : wc.cell? ⟨gb267, 2, none⟩ = some (.int .i64 a0_2) := (blk_cell BK267.out 2).trans rfl
     have hcz113_3 : wc.cell? ⟨gb267, 3, none⟩ = some (.int .i64 a0_3) := (blk_cell BK267.out 3).trans rfl
     have hfz113_0 := blk_frozen BK267.out 0
     have hfz113_1 := blk_frozen BK267.out 1
     have hfz113_2 := blk_frozen BK267.out 2
     have hfz113_3 := blk_frozen BK267.out 3
     have hnb114 := NB268_269.out
     have hnc114 := NB269_268.out
     have hcz115_0 : wc.cell? ⟨gb268, 0, none⟩ = some (.int .i64 a1_0) := (blk_cell BK268.out 0).trans rfl
     have hcz115_1 : wc.cell? ⟨gb268, 1, none⟩ = some (.int .i64 a1_1) := (blk_cell BK268.out 1).trans rfl
     have hcz115_2 : wc.cell? ⟨gb268, 2, none⟩ = some (.int .i64 a1_2) := (blk_cell BK268.out 2).trans rfl
     have hcz115_3 : wc.cell? ⟨gb268, 3, none⟩ = some (.int .i64 a1_3) := (blk_cell BK268.out 3).trans rfl
     have hfz115_0 := blk_frozen BK268.out 0
     have hfz115_1 := blk_frozen BK268.out 1
     have hfz115_2 := blk_frozen BK268.out 2
     have hfz115_3 := blk_frozen BK268.out 3
     go_wp2_with (first | ((with_reducible refine gate_callee (f := 17) rfl ?_); refine goesL_ (some 41) rfl rfl Try.func17 (by kernel_rfl) rfl #[.agg #[.int .i64 a0_0, .int .i64 a0_1, .int .i64 a0_2, .int .i64 a0_3], .agg #[.int .i64 a1_0, .int .i64 a1_1, .int .i64 a1_2, .int .i64 a1_3]] rfl (by (try simp only [List.map_toArray, List.map_cons, List.map_nil]); first | done | rfl | (simp only [List.length_drop, List.length_take]; rfl)) ?_; (with_reducible refine (rect_Union.calls a0_0 a0_1 a0_2 a0_3 a1_0 a1_1 a1_2 a1_3 t273 t274 t275 t276 _ A58.out).mono ?_); rintro e w116 ⟨rfl, hb⟩; refine ⟨_, rfl, ?_⟩; have n0_ := YtloojhnohofonaaSq.bb BK267 hb; have n1_ := YtloojhnohofonaaSq.bb BK268 hb; have n2_ := YtloojhnohofonaaSq.bb BK269 hb; have n3_ := Aside0.mk (below_step (by repeat (first | (with_reducible first | exact HB.out | apply below_alloc | apply pw_below_drewN | apply below_drew1 | refine below_set ?_ GE267.out | refine below_set ?_ GE268.out | refine below_set ?_ GE269.out) | exact HB.out)) hb); clear BK267; clear BK268; clear BK269; clear HB; have BK267 := n0_; have BK268 := n1_; have BK269 := n2_; have HB := n3_; clear n0_ n1_ n2_ n3_; (try clear hb); (try clear hb2); (try clear hk); (try clear hi)) | ((with_reducible refine gate_dst (N := 9) rfl ?_); refine box_event ?hg (N := 9) ?hd (cs := #[.int .i64 0, .int .i64 0, .int .i64 0, .int .i64 0]) (t := 23) ?hr ?_; (case hd => rfl); (case hg => rfl); (case hr => first | (go_simp; done) | (go_simp; rfl)); intro gb277 hg w117 hbox hb; have n0_ := YtloojhnohofonaaSq.bb BK267 hb; have n1_ := YtloojhnohofonaaSq.bb BK268 hb; have n2_ := YtloojhnohofonaaSq.bb BK269 hb; have n3_ := Aside0.mk (below_step (by repeat (first | (with_reducible first | exact HB.out | apply below_alloc | apply pw_below_drewN | apply below_drew1 | refine below_set ?_ GE267.out | refine below_set ?_ GE268.out | refine below_set ?_ GE269.out) | exact HB.out)) hb); have n4_ := Aside0.mk (hbox); have n5_ := Aside0.mk ((by rw [hg]; exact (below_size (by repeat (first | (with_reducible first | exact HB.out | apply below_alloc | apply pw_below_drewN | apply below_drew1 | refine below_set ?_ GE267.out | refine below_set ?_ GE268.out | refine below_set ?_ GE269.out) | exact HB.out))) : w.heap.size ≤ gb277)); have n6_ := Aside0.mk ((by rw [hg]; exact (below_size (by repeat (first | (with_reducible first | exact HB.out | apply below_alloc | apply pw_below_drewN | apply below_drew1 | refine below_set ?_ GE267.out | refine below_set ?_ GE268.out | refine below_set ?_ GE269.out) | exact HB.out))) : w.heap.size ≤ gb277)); have n7_ := Aside0.mk ((by rw [hg]; exact Nat.ne_of_lt (blk_lt (g := gb267) (o := .cells #[.int .i64 a0_0, .int .i64 a0_1, .int .i64 a0_2, .int .i64 a0_3] 23 (0, 0)) (YtloojhnohofonaaSq.bq BK267)) : gb267 ≠ gb277)); have n8_ := Aside0.mk ((by rw [hg]; exact Nat.ne_of_gt (blk_lt (g := gb267) (o := .cells #[.int .i64 a0_0, .int .i64 a0_1, .int .i64 a0_2, .int .i64 a0_3] 23 (0, 0)) (YtloojhnohofonaaSq.bq BK267)) : gb277 ≠ gb267)); have n9_ := Aside0.mk ((by rw [hg]; exact Nat.ne_of_lt (blk_lt (g := gb268) (o := .cells #[.int .i64 a1_0, .int .i64 a1_1, .int .i64 a1_2, .int .i64 a1_3] 23 (0, 0)) (YtloojhnohofonaaSq.bq BK268)) : gb268 ≠ gb277)); have n10_ := Aside0.mk ((by rw [hg]; exact Nat.ne_of_gt (blk_lt (g := gb268) (o := .cells #[.int .i64 a1_0, .int .i64 a1_1, .int .i64 a1_2, .int .i64 a1_3] 23 (0, 0)) (YtloojhnohofonaaSq.bq BK268)) : gb277 ≠ gb268)); have n11_ := Aside0.mk ((by rw [hg]; exact Nat.ne_of_lt (blk_lt (g := gb269) (o := .cells #[.int .i64 a2_0, .int .i64 a2_1] 30 (0, 0)) (YtloojhnohofonaaSq.bq BK269)) : gb269 ≠ gb277)); have n12_ := Aside0.mk ((by rw [hg]; exact Nat.ne_of_gt (blk_lt (g := gb269) (o := .cells #[.int .i64 a2_0, .int .i64 a2_1] 30 (0, 0)) (YtloojhnohofonaaSq.bq BK269)) : gb277 ≠ gb269)); clear BK267; clear BK268; clear BK269; clear HB; have BK267 := n0_; have BK268 := n1_; have BK269 := n2_; have HB := n3_; have BK277 := n4_; have GW277 := n5_; have GE277 := n6_; have NB267_277 := n7_; have NB277_267 := n8_; have NB268_277 := n9_; have NB277_268 := n10_; have NB269_277 := n11_; have NB277_269 := n12_; clear n0_ n1_ n2_ n3_ n4_ n5_ n6_ n7_ n8_ n9_ n10_ n11_ n12_; clear hb hbox hg; have hnb118 := NB277_267.out; have hnc118 := NB267_277.out; have hnb119 := NB277_268.out; have hnc119 := NB268_277.out; have hnb120 := NB277_269.out; have hnc120 := NB269_277.out; have hcz121_0 : w117.cell? ⟨gb277, 0, none⟩ = some (.int .i64 0) := (blk_cell BK277.out 0).trans rfl; have hcz121_1 : w117.cell? ⟨gb277, 1, none⟩ = some (.int .i64 0) := (blk_cell BK277.out 1).trans rfl; have hcz121_2 : w117.cell? ⟨gb277, 2, none⟩ = some (.int .i64 0) := (blk_cell BK277.out 2).trans rfl; have hcz121_3 : w117.cell? ⟨gb277, 3, none⟩ = some (.int .i64 0) := (blk_cell BK277.out 3).trans rfl; have hfz121_0 := blk_frozen BK277.out 0; have hfz121_1 := blk_frozen BK277.out 1; have hfz121_2 := blk_frozen BK277.out 2; have hfz121_3 := blk_frozen BK277.out 3) | ((with_reducible refine gate_callee (f := 19) rfl ?_); refine goesL_ (some 58) rfl rfl Try.func19 (by kernel_rfl) rfl #[.int .i64 (wrap64 (t273 + a2_0)), .int .i64 (wrap64 (t274 + a2_1)), .int .i64 (wrap64 (t275 + a2_0)), .int .i64 (wrap64 (t276 + a2_1))] rfl (by (try simp only [List.map_toArray, List.map_cons, List.map_nil]); first | done | rfl | (simp only [List.length_drop, List.length_take]; rfl)) ?_; (with_reducible refine (compositorlaw04_box.calls (wrap64 (t273 + a2_0)) (wrap64 (t274 + a2_1)) (wrap64 (t275 + a2_0)) (wrap64 (t276 + a2_1)) t278 t279 t280 t281 _ A59.out).mono ?_); rintro e w122 ⟨rfl, hb⟩; refine ⟨_, rfl, ?_⟩; have n0_ := Aside0.mk (blk_below (g := gb267) (o := .cells #[.int .i64 a0_0, .int .i64 a0_1, .int .i64 a0_2, .int .i64 a0_3] 23 (0, 0)) (by (with_reducible repeat (first | refine blk_drewN ?_ _ | refine blk_drew ?_ | refine blk_alloc ?_ _)); refine blk_far ?_ NB267_277.out _; (with_reducible repeat (first | refine blk_drewN ?_ _ | refine blk_drew ?_ | refine blk_alloc ?_ _)); refine blk_far ?_ NB267_277.out _; (with_reducible repeat (first | refine blk_drewN ?_ _ | refine blk_drew ?_ | refine blk_alloc ?_ _)); refine blk_far ?_ NB267_277.out _; (with_reducible repeat (first | refine blk_drewN ?_ _ | refine blk_drew ?_ | refine blk_alloc ?_ _)); refine blk_far ?_ NB267_277.out _; (with_reducible repeat (first | refine blk_drewN ?_ _ | refine blk_drew ?_ | refine blk_alloc ?_ _)); exact BK267.out) hb); have n1_ := Aside0.mk (blk_below (g := gb268) (o := .cells #[.int .i64 a1_0, .int .i64 a1_1, .int .i64 a1_2, .int .i64 a1_3] 23 (0, 0)) (by (with_reducible repeat (first | refine blk_drewN ?_ _ | refine blk_drew ?_ | refine blk_alloc ?_ _)); refine blk_far ?_ NB268_277.out _; (with_reducible repeat (first | refine blk_drewN ?_ _ | refine blk_drew ?_ | refine blk_alloc ?_ _)); refine blk_far ?_ NB268_277.out _; (with_reducible repeat (first | refine blk_drewN ?_ _ | refine blk_drew ?_ | refine blk_alloc ?_ _)); refine blk_far ?_ NB268_277.out _; (with_reducible repeat (first | refine blk_drewN ?_ _ | refine blk_drew ?_ | refine blk_alloc ?_ _)); refine blk_far ?_ NB268_277.out _; (with_reducible repeat (first | refine blk_drewN ?_ _ | refine blk_drew ?_ | refine blk_alloc ?_ _)); exact BK268.out) hb); have n2_ := Aside0.mk (blk_below (g := gb269) (o := .cells #[.int .i64 a2_0, .int .i64 a2_1] 30 (0, 0)) (by (with_reducible repeat (first | refine blk_drewN ?_ _ | refine blk_drew ?_ | refine blk_alloc ?_ _)); refine blk_far ?_ NB269_277.out _; (with_reducible repeat (first | refine blk_drewN ?_ _ | refine blk_drew ?_ | refine blk_alloc ?_ _)); refine blk_far ?_ NB269_277.out _; (with_reducible repeat (first | refine blk_drewN ?_ _ | refine blk_drew ?_ | refine blk_alloc ?_ _)); refine blk_far ?_ NB269_277.out _; (with_reducible repeat (first | refine blk_drewN ?_ _ | refine blk_drew ?_ | refine blk_alloc ?_ _)); refine blk_far ?_ NB269_277.out _; (with_reducible repeat (first | refine blk_drewN ?_ _ | refine blk_drew ?_ | refine blk_alloc ?_ _)); exact BK269.out) hb); have n3_ := Aside0.mk (blk_below (g := gb277) (o := .cells #[.int .i64 t273, .int .i64 t274, .int .i64 t275, .int .i64 t276] 23 (0, 0)) (by (with_reducible repeat (first | refine blk_drewN ?_ _ | refine blk_drew ?_ | refine blk_alloc ?_ _)); refine blk_put (cs := #[.int .i64 t273, .int .i64 t274, .int .i64 t275, .int .i64 0]) ?_ 3 _ rfl; (with_reducible repeat (first | refine blk_drewN ?_ _ | refine blk_drew ?_ | refine blk_alloc ?_ _)); refine blk_put (cs := #[.int .i64 t273, .int .i64 t274, .int .i64 0, .int .i64 0]) ?_ 2 _ rfl; (with_reducible repeat (first | refine blk_drewN ?_ _ | refine blk_drew ?_ | refine blk_alloc ?_ _)); refine blk_put (cs := #[.int .i64 t273, .int .i64 0, .int .i64 0, .int .i64 0]) ?_ 1 _ rfl; (with_reducible repeat (first | refine blk_drewN ?_ _ | refine blk_drew ?_ | refine blk_alloc ?_ _)); refine blk_put (cs := #[.int .i64 0, .int .i64 0, .int .i64 0, .int .i64 0]) ?_ 0 _ rfl; (with_reducible repeat (first | refine blk_drewN ?_ _ | refine blk_drew ?_ | refine blk_alloc ?_ _)); exact BK277.out) hb); have n4_ := Aside0.mk (below_step (by repeat (first | (with_reducible first | exact HB.out | apply below_alloc | apply pw_below_drewN | apply below_drew1 | refine below_set ?_ GE267.out | refine below_set ?_ GE268.out | refine below_set ?_ GE269.out | refine below_set ?_ GE277.out) | exact HB.out)) hb); clear BK267; clear BK268; clear BK269; clear BK277; clear HB; have BK267 := n0_; have BK268 := n1_; have BK269 := n2_; have BK277 := n3_; have HB := n4_; clear n0_ n1_ n2_ n3_ n4_; (try clear hb); (try clear hb2); (try clear hk); (try clear hi)) | ((with_reducible refine gate_callee (f := 18) rfl ?_); refine goesL_ (some 59) rfl rfl Try.func18 (by kernel_rfl) rfl #[.agg #[.int .i64 t278, .int .i64 t279, .int .i64 t280, .int .i64 t281]] rfl (by (try simp only [List.map_toArray, List.map_cons, List.map_nil]); first | done | rfl | (simp only [List.length_drop, List.length_take]; rfl)) ?_; (with_reducible refine (rect_Valid.calls t278 t279 t280 t281 false _ A60.out).mono ?_); rintro e w123 ⟨rfl, hb⟩; refine ⟨_, rfl, ?_⟩; have n0_ := YtloojhnohofonaaSq.bb BK267 hb; have n1_ := YtloojhnohofonaaSq.bb BK268 hb; have n2_ := YtloojhnohofonaaSq.bb BK269 hb; have n3_ := YtloojhnohofonaaSq.bb BK277 hb; have n4_ := Aside0.mk (below_step (by repeat (first | (with_reducible first | exact HB.out | apply below_alloc | apply pw_below_drewN | apply below_drew1 | refine below_set ?_ GE267.out | refine below_set ?_ GE268.out | refine below_set ?_ GE269.out | refine below_set ?_ GE277.out) | exact HB.out)) hb); clear BK267; clear BK268; clear BK269; clear BK277; clear HB; have BK267 := n0_; have BK268 := n1_; have BK269 := n2_; have BK277 := n3_; have HB := n4_; clear n0_ n1_ n2_ n3_ n4_; (try clear hb); (try clear hb2); (try clear hk); (try clear hi)) | ((with_reducible refine gate_callee (f := 15) rfl ?_); refine goesL_ (some 61) rfl rfl Try.func15 (by kernel_rfl) rfl #[] rfl (by (try simp only [List.map_toArray, List.map_cons, List.map_nil]); first | done | rfl | (simp only [List.length_drop, List.length_take]; rfl)) ?_; (with_reducible refine (compositorlaw04_exampleHolds.calls kj3  t283 _ A110.out).mono ?_); rintro e w124 ⟨rfl, hb⟩; refine ⟨_, rfl, ?_⟩; have n0_ := YtloojhnohofonaaSq.bb BK267 hb; have n1_ := YtloojhnohofonaaSq.bb BK268 hb; have n2_ := YtloojhnohofonaaSq.bb BK269 hb; have n3_ := YtloojhnohofonaaSq.bb BK277 hb; have n4_ := Aside0.mk (below_step (by repeat (first | (with_reducible first | exact HB.out | apply below_alloc | apply pw_below_drewN | apply below_drew1 | refine below_set ?_ GE267.out | refine below_set ?_ GE268.out | refine below_set ?_ GE269.out | refine below_set ?_ GE277.out) | exact HB.out)) hb); clear BK267; clear BK268; clear BK269; clear BK277; clear HB; have BK267 := n0_; have BK268 := n1_; have BK269 := n2_; have BK277 := n3_; have HB := n4_; clear n0_ n1_ n2_ n3_ n4_; (try clear hb); (try clear hb2); (try clear hk); (try clear hi)))
     go_ret
     exact ⟨by first | rfl | (simp [errW_none, errW_some] <;> rfl) | (simp [*, errW_none, errW_some] <;> rfl), by repeat (first | (with_reducible first | exact HB.out | apply below_alloc | apply pw_below_drewN | apply below_drew1 | refine below_set ?_ GE267.out | refine below_set ?_ GE268.out | refine below_set ?_ GE269.out | refine below_set ?_ GE277.out) | exact HB.out)⟩

end Go.Proofs.Ytloojhnohofonaa.All
