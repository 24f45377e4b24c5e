-- Written by a program of this session, which runs the kit's print.py and puts in functions that this session typed. Not trusted: Lean checks it.
import Derived.Test.YthpmfhfnkgbkjaaHand
import Derived.Test.YthpmfhfnkgbkjaaAllx0
import Derived.Test.YthpmfhfnkgbkjaaAllx1
import Derived.Test.YthpmfhfnkgbkjaaAllx5
import Derived.Test.YthpmfhfnkgbkjaaAllx9
import Derived.Test.YthpmfhfnkgbkjaaAllx11
import Derived.Test.YthpmfhfnkgbkjaaAllx12
import Derived.Test.YthpmfhfnkgbkjaaAllx13
import Derived.Test.YthpmfhfnkgbkjaaAllx14
import Derived.Test.YthpmfhfnkgbkjaaAllx17
import Derived.Test.YthpmfhfnkgbkjaaAllx19
import Derived.Test.YthpmfhfnkgbkjaaAllx21
import Derived.Test.YthpmfhfnkgbkjaaAllx32
namespace Go.Proofs.Ythpmfhfnkgbkjaa.All
open Go.Proofs.YthpmfhfnkgbkjaaSq
open Go.RowKit Go.Proofs.YthpmfhfnkgbkjaaW.PrintWords Go.Proofs.YthpmfhfnkgbkjaaW.PrintLast Go.Proofs.YthpmfhfnkgbkjaaW.PrintMore
attribute [local go_sem] max2_int min2_int max_two min_two max_three min_three max_four min_four   -- for this text's walks alone
set_option linter.unusedVariables false
set_option linter.unusedSimpArgs false

attribute [local go_sem high] eqA34
/-! ### compositorlaw10_ScaleIdentity: function 8 -/
abbrev zq8.q0 := Go.Proofs.YthpmfhfnkgbkjaaHand.bz 53 0
abbrev zq8.q1 := Go.Proofs.YthpmfhfnkgbkjaaHand.bz 53 1
abbrev zq8.q2 := Go.Proofs.YthpmfhfnkgbkjaaHand.bz 53 3
abbrev zq8.q3 := Go.Proofs.YthpmfhfnkgbkjaaHand.bz 53 7
abbrev zq8.q4 := Go.Proofs.YthpmfhfnkgbkjaaHand.bz 53 15
abbrev zq8.q5 := Go.Proofs.YthpmfhfnkgbkjaaHand.bz 53 31
abbrev zq8.q6 := Go.Proofs.YthpmfhfnkgbkjaaHand.bz 53 63
abbrev zq8.q7 := Go.Proofs.YthpmfhfnkgbkjaaHand.bz 53 127
abbrev zq8.q8 := Go.Proofs.YthpmfhfnkgbkjaaHand.bz 53 255
abbrev zq8.q9 := Go.Proofs.YthpmfhfnkgbkjaaHand.bz 53 511
abbrev zq8.q10 := Go.Proofs.YthpmfhfnkgbkjaaHand.bz 53 1023
abbrev zq8.q11 := Go.Proofs.YthpmfhfnkgbkjaaHand.bz 53 2047
abbrev zq8.q12 := Go.Proofs.YthpmfhfnkgbkjaaHand.bz 53 4095
abbrev zq8.q13 := Go.Proofs.YthpmfhfnkgbkjaaHand.bz 53 8191
abbrev zq8.q14 := Go.Proofs.YthpmfhfnkgbkjaaHand.bz 53 16383
abbrev zq8.q15 := Go.Proofs.YthpmfhfnkgbkjaaHand.bz 53 32767
abbrev zq8.q16 := Go.Proofs.YthpmfhfnkgbkjaaHand.bz 53 65535
abbrev zq8.q17 := Go.Proofs.YthpmfhfnkgbkjaaHand.bz 53 131071
abbrev zq8.q18 := Go.Proofs.YthpmfhfnkgbkjaaHand.bz 53 262143
abbrev zq8.q19 := Go.Proofs.YthpmfhfnkgbkjaaHand.bz 53 524287
abbrev zq8.q20 := Go.Proofs.YthpmfhfnkgbkjaaHand.bz 53 1048575
abbrev zq8.q21 := Go.Proofs.YthpmfhfnkgbkjaaHand.bz 53 2097151
abbrev zq8.q22 := Go.Proofs.YthpmfhfnkgbkjaaHand.bz 53 4194303
abbrev zq8.q23 := Go.Proofs.YthpmfhfnkgbkjaaHand.bz 53 8388607
abbrev zq8.q24 := Go.Proofs.YthpmfhfnkgbkjaaHand.bz 53 16777215
abbrev zq8.q25 := Go.Proofs.YthpmfhfnkgbkjaaHand.bz 53 33554431
abbrev zq8.q26 := Go.Proofs.YthpmfhfnkgbkjaaHand.bz 53 67108863
abbrev zq8.q27 := Go.Proofs.YthpmfhfnkgbkjaaHand.bz 53 134217727
abbrev zq8.q28 := Go.Proofs.YthpmfhfnkgbkjaaHand.bz 53 268435455
abbrev zq8.q29 := Go.Proofs.YthpmfhfnkgbkjaaHand.bz 53 536870911
abbrev zq8.q30 := Go.Proofs.YthpmfhfnkgbkjaaHand.bz 53 1073741823
abbrev zq8.q31 := Go.Proofs.YthpmfhfnkgbkjaaHand.bz 53 2147483647
abbrev zq8.q32 := Go.Proofs.YthpmfhfnkgbkjaaHand.bz 53 4294967295
abbrev zq8.q33 := Go.Proofs.YthpmfhfnkgbkjaaHand.bz 53 8589934591
abbrev zq8.q34 := Go.Proofs.YthpmfhfnkgbkjaaHand.bz 53 17179869183
abbrev zq8.q35 := Go.Proofs.YthpmfhfnkgbkjaaHand.bz 53 34359738367
abbrev zq8.q36 := Go.Proofs.YthpmfhfnkgbkjaaHand.bz 53 103079215103
abbrev zq8.q37 := Go.Proofs.YthpmfhfnkgbkjaaHand.bz 53 377957122047
abbrev zq8.q38 := Go.Proofs.YthpmfhfnkgbkjaaHand.bz 53 1477468749823
abbrev zq8.q39 := Go.Proofs.YthpmfhfnkgbkjaaHand.bz 53 5875515260927
abbrev zq8.q40 := Go.Proofs.YthpmfhfnkgbkjaaHand.bz 53 5909874999295
abbrev zq8.q41 := Go.Proofs.YthpmfhfnkgbkjaaHand.bz 53 6047313952767
abbrev zq8.q42 := Go.Proofs.YthpmfhfnkgbkjaaHand.bz 53 6597069766655
abbrev zq8.q43 := Go.Proofs.YthpmfhfnkgbkjaaHand.bz 53 8796093022207
abbrev zq8.q44 := Go.Proofs.YthpmfhfnkgbkjaaHand.bz 53 17592186044415
abbrev zq8.q45 := Go.Proofs.YthpmfhfnkgbkjaaHand.bz 53 52776558133247
abbrev zq8.q46 := Go.Proofs.YthpmfhfnkgbkjaaHand.bz 53 70368744177663
abbrev zq8.q47 := Go.Proofs.YthpmfhfnkgbkjaaHand.bz 53 140737488355327
abbrev zq8.q48 := Go.Proofs.YthpmfhfnkgbkjaaHand.bz 53 281474976710655
abbrev zq8.q49 := Go.Proofs.YthpmfhfnkgbkjaaHand.bz 53 562949953421311
abbrev zq8.q50 := Go.Proofs.YthpmfhfnkgbkjaaHand.bz 53 1125899906842623
abbrev zq8.q51 := Go.Proofs.YthpmfhfnkgbkjaaHand.bz 53 2251799813685247
abbrev zq8.q52 := Go.Proofs.YthpmfhfnkgbkjaaHand.bz 53 4503599627370495
abbrev zq8.q53 := Go.Proofs.YthpmfhfnkgbkjaaHand.bz 53 9007199254740991
def compositorlaw10_ScaleIdentity.j0 : Nat → Bool → Int → Int → List (S43) → Int → Int → Int → Int → Option (Bool)
 | 0, _, _, _, _, _, _, _, _ => none
 | k + 1, x20, x467000, x467001, x467002, x468000, x468001, x468002, x468003 => if x20 = true then ((compositorlaw10_exampleHolds.f k).bind fun t470 => (some t470)) else ((scale_Nearest.f x467000 x467001 x467002 x467000 x467001).bind fun bt471 => ((scale_Box.f x467000 x467001 x467002 x467000 x467001).bind fun bt478 => ((scale_Shrink.f x467000 x467001 x467002 1).bind fun bt485 => ((scale_Enlarge.f x467000 x467001 x467002 1).bind fun bt492 => (if bt471.2.2.2 = 0 then (if bt478.2.2.2 = 0 then (if bt485.2.2.2 = 0 then (if bt492.2.2.2 = 0 then ((compositorlaw10_same.f k bt471.1 bt471.2.1 bt471.2.2.1 x467000 x467001 x467002).bind fun t499 => (if t499 = true then ((compositorlaw10_same.f k bt478.1 bt478.2.1 bt478.2.2.1 x467000 x467001 x467002).bind fun t500 => (if t500 = true then ((compositorlaw10_same.f k bt485.1 bt485.2.1 bt485.2.2.1 x467000 x467001 x467002).bind fun t501 => (if t501 = true then ((compositorlaw10_same.f k bt492.1 bt492.2.1 bt492.2.2.1 x467000 x467001 x467002).bind fun t502 => (if t502 = true then ((scale_MapRect.f k x468000 x468001 x468002 x468003 x467000 x467001 x467000 x467001).bind fun bt503 => ((compositorref04_Canonical.f x468000 x468001 x468002 x468003).bind fun bt507 => (if (bt503.1 == bt507.1 && (bt503.2.1 == bt507.2.1 && (bt503.2.2.1 == bt507.2.2.1 && (bt503.2.2.2 == bt507.2.2.2)))) = true then ((compositorlaw10_exampleHolds.f k).bind fun t511 => (some t511)) else (some false)))) else (some false))) else (some false))) else (some false))) else (some false))) else (some false)) else (some false)) else (some false)) else (some false))))))
def compositorlaw10_ScaleIdentity.f (k : Nat) (a0_0 : Int) (a0_1 : Int) (l0_2 : List (S43)) (a1_0 : Int) (a1_1 : Int) (a1_2 : Int) (a1_3 : Int) : Option (Bool) := (compositorlaw10_small.f a0_0 a0_1 l0_2 1 1).bind fun t468 => (if t468 = true then ((compositorref10_Valid.f k a0_0 a0_1 l0_2).bind fun t469 => (compositorlaw10_ScaleIdentity.j0 k (!t469) a0_0 a0_1 l0_2 a1_0 a1_1 a1_2 a1_3)) else (compositorlaw10_ScaleIdentity.j0 k true a0_0 a0_1 l0_2 a1_0 a1_1 a1_2 a1_3))
theorem compositorlaw10_ScaleIdentity.mono_l : ∀ k, (∀ y0 y1 y2 y3 y4 y5 y6 y7, LeO (compositorlaw10_ScaleIdentity.j0 k y0 y1 y2 y3 y4 y5 y6 y7) (compositorlaw10_ScaleIdentity.j0 (k + 1) y0 y1 y2 y3 y4 y5 y6 y7))
 | 0 => fun _ _ _ _ _ _ _ _ r h => by simp [compositorlaw10_ScaleIdentity.j0] at h
 | k + 1 => by
  have ih0 := compositorlaw10_ScaleIdentity.mono_l k
  ·
   intro y0 y1 y2 y3 y4 y5 y6 y7
   unfold compositorlaw10_ScaleIdentity.j0
   repeat' first
   | (with_reducible exact ih0 _ _ _ _ _ _ _ _)
   | (with_reducible exact compositorlaw10_exampleHolds.mono _)
   | (with_reducible exact compositorlaw10_same.mono _ _ _ _ _ _ _)
   | (with_reducible exact compositorref10_Valid.mono _ _ _ _)
   | (with_reducible exact scale_MapRect.mono _ _ _ _ _ _ _ _ _)
   | (with_reducible exact LeO.refl _)
   | (with_reducible exact LeO.none _)
   | (with_reducible refine LeO.ite ?_ ?_)
   | (with_reducible refine LeO.bind ?_ (fun _ => ?_))
   | exact ih0 _ _ _ _ _ _ _ _
   | exact compositorlaw10_exampleHolds.mono _
   | exact compositorlaw10_same.mono _ _ _ _ _ _ _
   | exact compositorref10_Valid.mono _ _ _ _
   | exact scale_MapRect.mono _ _ _ _ _ _ _ _ _
   | exact LeO.none _
   | refine LeO.ite ?_ ?_
   | refine LeO.bind ?_ (fun _ => ?_)
theorem compositorlaw10_ScaleIdentity.mono : ∀ a0 a1 a2 a3 a4 a5 a6 k, LeO (compositorlaw10_ScaleIdentity.f k a0 a1 a2 a3 a4 a5 a6) (compositorlaw10_ScaleIdentity.f (k + 1) a0 a1 a2 a3 a4 a5 a6) := by
 intro a0 a1 a2 a3 a4 a5 a6 k
 have ih0 := compositorlaw10_ScaleIdentity.mono_l k
 unfold compositorlaw10_ScaleIdentity.f
 repeat' first
   | (with_reducible exact ih0 _ _ _ _ _ _ _ _)
   | (with_reducible exact compositorlaw10_exampleHolds.mono _)
   | (with_reducible exact compositorlaw10_same.mono _ _ _ _ _ _ _)
   | (with_reducible exact compositorref10_Valid.mono _ _ _ _)
   | (with_reducible exact scale_MapRect.mono _ _ _ _ _ _ _ _ _)
   | (with_reducible exact LeO.refl _)
   | (with_reducible exact LeO.none _)
   | (with_reducible refine LeO.ite ?_ ?_)
   | (with_reducible refine LeO.bind ?_ (fun _ => ?_))
   | exact ih0 _ _ _ _ _ _ _ _
   | exact compositorlaw10_exampleHolds.mono _
   | exact compositorlaw10_same.mono _ _ _ _ _ _ _
   | exact compositorref10_Valid.mono _ _ _ _
   | exact scale_MapRect.mono _ _ _ _ _ _ _ _ _
   | exact LeO.none _
   | refine LeO.ite ?_ ?_
   | refine LeO.bind ?_ (fun _ => ?_)
def compositorlaw10_ScaleIdentity.T7 : Bool × List (List Nat × List Nat) := (true, [([], []), ([0], [0]), ([1], [1]), ([2], [2]), ([3, 2], [2, 3]), ([2, 4], [2, 4]), ([5, 2], [5]), ([6], [6]), ([7, 6], [6, 7]), ([6, 8], [6, 8]), ([9, 6], [9]), ([10], [10]), ([11, 10], [10, 11]), ([10, 12], [10, 12]), ([13, 10], [13]), ([14], [14]), ([14], [14]), ([15, 16, 14, 14], [14, 15, 16]), ([14, 17], [14, 17]), ([18, 17], [18]), ([19], [19]), ([19], [19]), ([20, 21, 19, 19], [19, 20, 21]), ([19, 22], [19, 22]), ([23, 22], [23]), ([24], [24]), ([24], [24]), ([25, 26, 24, 24], [24, 25, 26]), ([24, 27], [24, 27]), ([28, 27], [28]), ([29], [29]), ([29], [29]), ([30, 31, 29, 29], [29, 30, 31]), ([29, 32], [29, 32]), ([33, 32], [33]), ([34], [34]), ([34], [34]), ([36, 34], [34, 36]), ([34], [34]), ([38, 34], [34, 38]), ([34], [34]), ([40, 34], [34, 40]), ([34], [34]), ([42, 34], [34, 42]), ([35, 37, 39, 41, 43, 34, 34], [34, 35, 37, 39, 41, 43]), ([34], [34]), ([45, 44, 34], [34, 45]), ([44, 46, 34], [34, 44, 46]), ([34, 47], [34, 47]), ([48, 46], [48]), ([49, 49], [49]), ([49, 50], [49, 50]), ([51, 50, 0, 1, 2, 3, 4, 5, 6, 7, 8, 9, 10, 11, 12, 13, 14, 15, 16, 17, 18, 19, 20, 21, 22, 23, 24, 25, 26, 27, 28, 29, 30, 31, 32, 33, 34, 35, 36, 37, 38, 39, 40, 41, 42, 43, 44, 45, 46, 47, 48, 49, 50, 51], [51])])
def compositorlaw10_ScaleIdentity.B7 : List Nat := [0, 1, 3, 7, 15, 31, 63, 127, 255, 511, 1023, 2047, 4095, 8191, 16383, 32767, 32767, 131071, 262143, 524287, 1048575, 1048575, 4194303, 8388607, 16777215, 33554431, 33554431, 134217727, 268435455, 536870911, 1073741823, 1073741823, 4294967295, 8589934591, 17179869183, 34359738367, 34359738367, 103079215103, 34359738367, 309237645311, 34359738367, 1133871366143, 34359738367, 4432406249471, 17592186044415, 34359738367, 70368744177663, 140737488355327, 281474976710655, 562949953421311, 1125899906842623, 2251799813685247, 4503599627370495]
theorem compositorlaw10_ScaleIdentity.tab7 : rtab .any (opsOf Try.f8 7) = compositorlaw10_ScaleIdentity.T7 := by kernel_rfl
theorem compositorlaw10_ScaleIdentity.bits7 : waitsOk compositorlaw10_ScaleIdentity.T7.2 compositorlaw10_ScaleIdentity.B7 = true := by kernel_rfl
set_option maxHeartbeats 8000000 in
set_option maxRecDepth 100000 in
theorem compositorlaw10_ScaleIdentity.calls (k : Nat) (a0_0 : Int) (a0_1 : Int) (A0_2 : Option Addr) (c0_2 : Nat) (l0_2 : List (S43)) (a1_0 : Int) (a1_1 : Int) (a1_2 : Int) (a1_3 : Int) (w : World) (hr0_2 : Kd.C k43 w A0_2 l0_2.length l0_2) (hc0_2 : l0_2.length ≤ c0_2) (h : compositorlaw10_ScaleIdentity.f k a0_0 a0_1 l0_2 a1_0 a1_1 a1_2 a1_3 = some true) :
  Calls Try.prog 8 #[.agg #[.int .i64 a0_0, .int .i64 a0_1, .slice A0_2 l0_2.length c0_2], .agg #[.int .i64 a1_0, .int .i64 a1_1, .int .i64 a1_2, .int .i64 a1_3]] w fun e w' => e = .returned (.bool true) ∧ Below w.heap.size w w' := by
 have hu24 := Try.underlying24
 have hu34 := Try.underlying34
 have HR0_2 := Aside0.mk hr0_2
 have HC0_2 := Aside0.mk hc0_2
 clear hr0_2 hc0_2
 have HB := Aside0.mk (Below.refl w.heap.size w)
 have H : ((compositorlaw10_small.f a0_0 a0_1 l0_2 1 1).bind fun t468 => (if t468 = true then ((compositorref10_Valid.f k a0_0 a0_1 l0_2).bind fun t469 => (compositorlaw10_ScaleIdentity.j0 k (!t469) a0_0 a0_1 l0_2 a1_0 a1_1 a1_2 a1_3)) else (compositorlaw10_ScaleIdentity.j0 k true a0_0 a0_1 l0_2 a1_0 a1_1 a1_2 a1_3))) = some true := h
 clear h
 have HC3 := Aside0.mk H
 clear H
 go_enter Try.func8, Try.ntmps8
 go_upto_region 1 with (first | ((with_reducible refine gate_dst (N := 2) rfl ?_); refine box_event ?hg (N := 2) ?hd (cs := #[.int .i64 a0_0, .int .i64 a0_1, .slice A0_2 l0_2.length c0_2]) (t := 24) ?hr ?_; (case hd => rfl); (case hg => rfl); (case hr => first | (go_simp; done) | (go_simp; rfl)); intro gb466 hg w4 hbox hb; have n0_ := hb_ HB hb; have n1_ := Aside0.mk (hbox); have n2_ := Aside0.mk ((by rw [hg]; exact (below_size (hq_ HB)) : w.heap.size ≤ gb466)); have n3_ := Aside0.mk ((by rw [hg]; exact (below_size (hq_ HB)) : w.heap.size ≤ gb466)); clear HB; have HB := n0_; have BK466 := n1_; have GW466 := n2_; have GE466 := n3_; clear n0_ n1_ n2_ n3_; clear hb hbox hg) | ((with_reducible refine gate_dst (N := 3) rfl ?_); refine box_event ?hg (N := 3) ?hd (cs := #[.int .i64 a1_0, .int .i64 a1_1, .int .i64 a1_2, .int .i64 a1_3]) (t := 34) ?hr ?_; (case hd => rfl); (case hg => rfl); (case hr => first | (go_simp; done) | (go_simp; rfl)); intro gb467 hg w5 hbox hb; have n0_ := bb_ BK466 hb; have n1_ := hb_ HB hb; have n2_ := Aside0.mk (hbox); have n3_ := Aside0.mk ((by rw [hg]; exact (below_size (hq_ HB)) : w.heap.size ≤ gb467)); have n4_ := Aside0.mk ((by rw [hg]; exact (below_size (hq_ HB)) : w.heap.size ≤ gb467)); have n5_ := Aside0.mk ((by rw [hg]; exact Nat.ne_of_lt (blk_lt (g := gb466) (o := .cells #[.int .i64 a0_0, .int .i64 a0_1, .slice A0_2 l0_2.length c0_2] 24 (0, 0)) (bq_ BK466)) : gb466 ≠ gb467)); have n6_ := Aside0.mk ((by rw [hg]; exact Nat.ne_of_gt (blk_lt (g := gb466) (o := .cells #[.int .i64 a0_0, .int .i64 a0_1, .slice A0_2 l0_2.length c0_2] 24 (0, 0)) (bq_ BK466)) : gb467 ≠ gb466)); clear BK466; clear HB; have BK466 := n0_; have HB := n1_; have BK467 := n2_; have GW467 := n3_; have GE467 := n4_; have NB466_467 := n5_; have NB467_466 := n6_; clear n0_ n1_ n2_ n3_ n4_ n5_ n6_; clear hb hbox hg))
 (try simp only [Act.put, List.setIfInBounds_toArray, List.set_cons_zero, List.set_cons_succ])
 go_cut [20] (fun v20 wc => ∃ (kq : Nat) (x20_2 : Bool), v20 = .bool x20_2 ∧ Aside0 (compositorlaw10_ScaleIdentity.j0 kq x20_2 a0_0 a0_1 l0_2 a1_0 a1_1 a1_2 a1_3 = some true) ∧ Aside0 (kq ≤ k) ∧ Aside0 (wc.heap[gb466]? = some (.cells #[.int .i64 a0_0, .int .i64 a0_1, (.slice A0_2 l0_2.length c0_2)] 24 (0, 0))) ∧ Aside0 (wc.heap[gb467]? = some (.cells #[.int .i64 a1_0, .int .i64 a1_1, .int .i64 a1_2, .int .i64 a1_3] 34 (0, 0))) ∧ Aside0 (Below w.heap.size w wc))
 case first =>
  have H := HC3.out
  clear HC3
  replace H := Option.bind_eq_some_iff.mp H
  obtain ⟨t468, A60, H⟩ := H
  try dsimp only at H
  have A6 := Aside0.mk A60
  clear A60
  by_cases c7 : t468 = true
  ·
   subst c7
   have H1 : ((compositorref10_Valid.f k a0_0 a0_1 l0_2).bind fun t469 => (compositorlaw10_ScaleIdentity.j0 k (!t469) a0_0 a0_1 l0_2 a1_0 a1_1 a1_2 a1_3)) = some true := by rw [if_pos rfl] at H; exact H
   clear H
   have H := H1
   clear H1
   replace H := Option.bind_eq_some_iff.mp H
   obtain ⟨t469, A80, H⟩ := H
   try dsimp only at H
   have A8 := Aside0.mk A80
   clear A80
   have H' := Aside0.mk H
   clear H
   have hnb9 := NB466_467.out
   have hnc9 := NB467_466.out
   have hcz10_0 : w5.cell? ⟨gb466, 0, none⟩ = some (.int .i64 a0_0) := (blk_cell BK466.out 0).trans rfl
   have hcz10_1 : w5.cell? ⟨gb466, 1, none⟩ = some (.int .i64 a0_1) := (blk_cell BK466.out 1).trans rfl
   have hcz10_2 : w5.cell? ⟨gb466, 2, none⟩ = some (.slice A0_2 l0_2.length c0_2) := (blk_cell BK466.out 2).trans rfl
   have hfz10_0 := blk_frozen BK466.out 0
   have hfz10_1 := blk_frozen BK466.out 1
   have hfz10_2 := blk_frozen BK466.out 2
   go_wp2_with (first | ((with_reducible refine gate_callee (f := 11) rfl ?_); refine goesL_ (some 14) rfl rfl Try.func11 (by kernel_rfl) rfl #[.agg #[.int .i64 a0_0, .int .i64 a0_1, .slice A0_2 l0_2.length c0_2], .int .i64 1, .int .i64 1] rfl (by (try simp only [List.map_toArray, List.map_cons, List.map_nil]) <;> rfl) ?_; (with_reducible refine (compositorlaw10_small.calls a0_0 a0_1 _ _ l0_2 1 1 true _ ?side1 ?side2 A6.out).mono ?_); (case side1 => repeat (first | exact (Kd.C_below HR0_2.out HB.out) | (with_reducible refine Kd.C_alloc ?_ _) | (with_reducible refine Kd.C_drewN ?_ _) | (with_reducible refine Kd.C_drew ?_))); (case side2 => exact HC0_2.out); rintro e w11 ⟨rfl, hb⟩; refine ⟨_, rfl, ?_⟩; have n0_ := bb_ BK466 hb; have n1_ := bb_ BK467 hb; have n2_ := hb_ HB hb; clear BK466; clear BK467; clear HB; have BK466 := n0_; have BK467 := n1_; have HB := n2_; clear n0_ n1_ n2_; (try clear hb); (try clear hb2); (try clear hk); (try clear hi); have hcz12_0 : w11.cell? ⟨gb466, 0, none⟩ = some (.int .i64 a0_0) := (blk_cell BK466.out 0).trans rfl; have hcz12_1 : w11.cell? ⟨gb466, 1, none⟩ = some (.int .i64 a0_1) := (blk_cell BK466.out 1).trans rfl; have hcz12_2 : w11.cell? ⟨gb466, 2, none⟩ = some (.slice A0_2 l0_2.length c0_2) := (blk_cell BK466.out 2).trans rfl; have hfz12_0 := blk_frozen BK466.out 0; have hfz12_1 := blk_frozen BK466.out 1; have hfz12_2 := blk_frozen BK466.out 2) | (go_at_call 24; (with_reducible refine (compositorref10_Valid.calls k a0_0 a0_1 _ _ l0_2 t469 _ ?side1 ?side2 A8.out).mono ?_); (case side1 => repeat (first | exact (Kd.C_below HR0_2.out HB.out) | (with_reducible refine Kd.C_alloc ?_ _) | (with_reducible refine Kd.C_drewN ?_ _) | (with_reducible refine Kd.C_drew ?_))); (case side2 => exact HC0_2.out); rintro e w13 ⟨rfl, hb⟩; have n0_ := bb_ BK466 hb; have n1_ := bb_ BK467 hb; have n2_ := hb_ HB hb; clear BK466; clear BK467; clear HB; have BK466 := n0_; have BK467 := n1_; have HB := n2_; clear n0_ n1_ n2_; (try clear hb); (try clear hb2); (try clear hk); (try clear hi)))
   go_meet
   case rel => exact ⟨_, (!t469), (by first | rfl | (simp; done) | (simp [*]; done)), H', ⟨by first | omega | exact Nat.le_refl _⟩, bf_ BK466, bf_ BK467, ⟨by repeat (first | (with_reducible first | exact HB.out | apply below_alloc | apply pw_below_drewN | apply below_drew1 | refine below_set ?_ GE466.out | refine below_set ?_ GE467.out) | exact HB.out)⟩⟩
  ·
   replace c7 := Bool.eq_false_iff.mpr c7
   subst c7
   have H1 : (compositorlaw10_ScaleIdentity.j0 k true a0_0 a0_1 l0_2 a1_0 a1_1 a1_2 a1_3) = some true := by rw [if_neg (show ¬ (false = true) by decide)] at H; exact H
   clear H
   have H := H1
   clear H1
   have H' := Aside0.mk H
   clear H
   have hnb14 := NB466_467.out
   have hnc14 := NB467_466.out
   have hcz15_0 : w5.cell? ⟨gb466, 0, none⟩ = some (.int .i64 a0_0) := (blk_cell BK466.out 0).trans rfl
   have hcz15_1 : w5.cell? ⟨gb466, 1, none⟩ = some (.int .i64 a0_1) := (blk_cell BK466.out 1).trans rfl
   have hcz15_2 : w5.cell? ⟨gb466, 2, none⟩ = some (.slice A0_2 l0_2.length c0_2) := (blk_cell BK466.out 2).trans rfl
   have hfz15_0 := blk_frozen BK466.out 0
   have hfz15_1 := blk_frozen BK466.out 1
   have hfz15_2 := blk_frozen BK466.out 2
   go_wp2_with (first | ((with_reducible refine gate_callee (f := 11) rfl ?_); refine goesL_ (some 14) rfl rfl Try.func11 (by kernel_rfl) rfl #[.agg #[.int .i64 a0_0, .int .i64 a0_1, .slice A0_2 l0_2.length c0_2], .int .i64 1, .int .i64 1] rfl (by (try simp only [List.map_toArray, List.map_cons, List.map_nil]) <;> rfl) ?_; (with_reducible refine (compositorlaw10_small.calls a0_0 a0_1 _ _ l0_2 1 1 false _ ?side1 ?side2 A6.out).mono ?_); (case side1 => repeat (first | exact (Kd.C_below HR0_2.out HB.out) | (with_reducible refine Kd.C_alloc ?_ _) | (with_reducible refine Kd.C_drewN ?_ _) | (with_reducible refine Kd.C_drew ?_))); (case side2 => exact HC0_2.out); rintro e w16 ⟨rfl, hb⟩; refine ⟨_, rfl, ?_⟩; have n0_ := bb_ BK466 hb; have n1_ := bb_ BK467 hb; have n2_ := hb_ HB hb; clear BK466; clear BK467; clear HB; have BK466 := n0_; have BK467 := n1_; have HB := n2_; clear n0_ n1_ n2_; (try clear hb); (try clear hb2); (try clear hk); (try clear hi)))
   go_meet
   case rel => exact ⟨_, (true), (by first | rfl | (simp; done) | (simp [*]; done)), H', ⟨by first | omega | exact Nat.le_refl _⟩, bf_ BK466, bf_ BK467, ⟨by repeat (first | (with_reducible first | exact HB.out | apply below_alloc | apply pw_below_drewN | apply below_drew1 | refine below_set ?_ GE466.out | refine below_set ?_ GE467.out) | exact HB.out)⟩⟩
 case rest =>
  clear HC3
  try clear c1
  try clear p2
  try clear c7
  try clear c8
  try clear c9
  try clear c11
  try clear c14
  try clear hcz10_0
  try clear hcz10_1
  try clear hcz10_2
  try clear hcz12_0
  try clear hcz12_1
  try clear hcz12_2
  try clear hcz15_0
  try clear hcz15_1
  try clear hcz15_2
  try clear hfz10_0
  try clear hfz10_1
  try clear hfz10_2
  try clear hfz12_0
  try clear hfz12_1
  try clear hfz12_2
  try clear hfz15_0
  try clear hfz15_1
  try clear hfz15_2
  obtain ⟨kq, x20_2, rfl, HA, HJ2, BK466, BK467, HB⟩ := hcut
  cases kq with
  | zero => exact absurd HA.out (by simp [compositorlaw10_ScaleIdentity.j0])
  | succ kj2 =>
   have H := HA.out
   clear HA
   simp only [compositorlaw10_ScaleIdentity.j0] at H
   by_cases c17 : x20_2 = true
   ·
    subst c17
    have H1 : ((compositorlaw10_exampleHolds.f kj2).bind fun t470 => (some t470)) = some true := by rw [if_pos rfl] at H; exact H
    clear H
    have H := H1
    clear H1
    replace H := Option.bind_eq_some_iff.mp H
    obtain ⟨t470, A180, H⟩ := H
    try dsimp only at H
    have A18 := Aside0.mk A180
    clear A180
    have Hq_ := Option.some.inj H
    go_wp2_with (first | ((with_reducible refine gate_callee (f := 12) rfl ?_); refine goesL_ (some 21) rfl rfl Try.func12 (by kernel_rfl) rfl #[] rfl (by (try simp only [List.map_toArray, List.map_cons, List.map_nil]) <;> rfl) ?_; (with_reducible refine (compositorlaw10_exampleHolds.calls kj2  t470 _ A18.out).mono ?_); rintro e w19 ⟨rfl, hb⟩; refine ⟨_, rfl, ?_⟩; have n0_ := bb_ BK466 hb; have n1_ := bb_ BK467 hb; have n2_ := hb_ HB hb; clear BK466; clear BK467; clear HB; have BK466 := n0_; have BK467 := n1_; have HB := n2_; clear n0_ n1_ n2_; (try clear hb); (try clear hb2); (try clear hk); (try clear hi)))
    go_ret
    exact ⟨by first | rfl | (simp [errW_none, errW_some] <;> rfl) | (simp [*, errW_none, errW_some] <;> rfl), by repeat (first | (with_reducible first | exact HB.out | apply below_alloc | apply pw_below_drewN | apply below_drew1 | refine below_set ?_ GE466.out | refine below_set ?_ GE467.out) | exact HB.out)⟩
   ·
    replace c17 := Bool.eq_false_iff.mpr c17
    subst c17
    have H1 : ((scale_Nearest.f a0_0 a0_1 l0_2 a0_0 a0_1).bind fun bt471 => ((scale_Box.f a0_0 a0_1 l0_2 a0_0 a0_1).bind fun bt478 => ((scale_Shrink.f a0_0 a0_1 l0_2 1).bind fun bt485 => ((scale_Enlarge.f a0_0 a0_1 l0_2 1).bind fun bt492 => (if bt471.2.2.2 = 0 then (if bt478.2.2.2 = 0 then (if bt485.2.2.2 = 0 then (if bt492.2.2.2 = 0 then ((compositorlaw10_same.f kj2 bt471.1 bt471.2.1 bt471.2.2.1 a0_0 a0_1 l0_2).bind fun t499 => (if t499 = true then ((compositorlaw10_same.f kj2 bt478.1 bt478.2.1 bt478.2.2.1 a0_0 a0_1 l0_2).bind fun t500 => (if t500 = true then ((compositorlaw10_same.f kj2 bt485.1 bt485.2.1 bt485.2.2.1 a0_0 a0_1 l0_2).bind fun t501 => (if t501 = true then ((compositorlaw10_same.f kj2 bt492.1 bt492.2.1 bt492.2.2.1 a0_0 a0_1 l0_2).bind fun t502 => (if t502 = true then ((scale_MapRect.f kj2 a1_0 a1_1 a1_2 a1_3 a0_0 a0_1 a0_0 a0_1).bind fun bt503 => ((compositorref04_Canonical.f a1_0 a1_1 a1_2 a1_3).bind fun bt507 => (if (bt503.1 == bt507.1 && (bt503.2.1 == bt507.2.1 && (bt503.2.2.1 == bt507.2.2.1 && (bt503.2.2.2 == bt507.2.2.2)))) = true then ((compositorlaw10_exampleHolds.f kj2).bind fun t511 => (some t511)) else (some false)))) else (some false))) else (some false))) else (some false))) else (some false))) else (some false)) else (some false)) else (some false)) else (some false)))))) = some true := by rw [if_neg (show ¬ (false = true) by decide)] at H; exact H
    clear H
    have H := H1
    clear H1
    replace H := Option.bind_eq_some_iff.mp H
    obtain ⟨⟨t471, t472, t473, t476⟩, A200, H⟩ := H
    try dsimp only at H
    have A20 := Aside0.mk A200
    clear A200
    replace H := Option.bind_eq_some_iff.mp H
    obtain ⟨⟨t478, t479, t480, t483⟩, A210, H⟩ := H
    try dsimp only at H
    have A21 := Aside0.mk A210
    clear A210
    replace H := Option.bind_eq_some_iff.mp H
    obtain ⟨⟨t485, t486, t487, t490⟩, A220, H⟩ := H
    try dsimp only at H
    have A22 := Aside0.mk A220
    clear A220
    replace H := Option.bind_eq_some_iff.mp H
    obtain ⟨⟨t492, t493, t494, t497⟩, A230, H⟩ := H
    try dsimp only at H
    have A23 := Aside0.mk A230
    clear A230
    by_cases c24 : t476 = 0
    ·
     rw [if_pos c24] at H
     have c24b0 : (t476 == 0) = true := beq_iff_eq.mpr c24
     have c24b1 : (t476 != 0) = false := bne_eq_false_iff_eq.mpr c24
     clear c24
     by_cases c25 : t483 = 0
     ·
      rw [if_pos c25] at H
      have c25b0 : (t483 == 0) = true := beq_iff_eq.mpr c25
      have c25b1 : (t483 != 0) = false := bne_eq_false_iff_eq.mpr c25
      clear c25
      by_cases c26 : t490 = 0
      ·
       rw [if_pos c26] at H
       have c26b0 : (t490 == 0) = true := beq_iff_eq.mpr c26
       have c26b1 : (t490 != 0) = false := bne_eq_false_iff_eq.mpr c26
       clear c26
       by_cases c27 : t497 = 0
       ·
        rw [if_pos c27] at H
        have c27b0 : (t497 == 0) = true := beq_iff_eq.mpr c27
        have c27b1 : (t497 != 0) = false := bne_eq_false_iff_eq.mpr c27
        clear c27
        replace H := Option.bind_eq_some_iff.mp H
        obtain ⟨t499, A280, H⟩ := H
        try dsimp only at H
        have A28 := Aside0.mk A280
        clear A280
        by_cases c29 : t499 = true
        ·
         subst c29
         have H1 : ((compositorlaw10_same.f kj2 t478 t479 t480 a0_0 a0_1 l0_2).bind fun t500 => (if t500 = true then ((compositorlaw10_same.f kj2 t485 t486 t487 a0_0 a0_1 l0_2).bind fun t501 => (if t501 = true then ((compositorlaw10_same.f kj2 t492 t493 t494 a0_0 a0_1 l0_2).bind fun t502 => (if t502 = true then ((scale_MapRect.f kj2 a1_0 a1_1 a1_2 a1_3 a0_0 a0_1 a0_0 a0_1).bind fun bt503 => ((compositorref04_Canonical.f a1_0 a1_1 a1_2 a1_3).bind fun bt507 => (if (bt503.1 == bt507.1 && (bt503.2.1 == bt507.2.1 && (bt503.2.2.1 == bt507.2.2.1 && (bt503.2.2.2 == bt507.2.2.2)))) = true then ((compositorlaw10_exampleHolds.f kj2).bind fun t511 => (some t511)) else (some false)))) else (some false))) else (some false))) else (some false))) = some true := by rw [if_pos rfl] at H; exact H
         clear H
         have H := H1
         clear H1
         replace H := Option.bind_eq_some_iff.mp H
         obtain ⟨t500, A300, H⟩ := H
         try dsimp only at H
         have A30 := Aside0.mk A300
         clear A300
         by_cases c31 : t500 = true
         ·
          subst c31
          have H1 : ((compositorlaw10_same.f kj2 t485 t486 t487 a0_0 a0_1 l0_2).bind fun t501 => (if t501 = true then ((compositorlaw10_same.f kj2 t492 t493 t494 a0_0 a0_1 l0_2).bind fun t502 => (if t502 = true then ((scale_MapRect.f kj2 a1_0 a1_1 a1_2 a1_3 a0_0 a0_1 a0_0 a0_1).bind fun bt503 => ((compositorref04_Canonical.f a1_0 a1_1 a1_2 a1_3).bind fun bt507 => (if (bt503.1 == bt507.1 && (bt503.2.1 == bt507.2.1 && (bt503.2.2.1 == bt507.2.2.1 && (bt503.2.2.2 == bt507.2.2.2)))) = true then ((compositorlaw10_exampleHolds.f kj2).bind fun t511 => (some t511)) else (some false)))) else (some false))) else (some false))) = some true := by rw [if_pos rfl] at H; exact H
          clear H
          have H := H1
          clear H1
          replace H := Option.bind_eq_some_iff.mp H
          obtain ⟨t501, A320, H⟩ := H
          try dsimp only at H
          have A32 := Aside0.mk A320
          clear A320
          by_cases c33 : t501 = true
          ·
           subst c33
           have H1 : ((compositorlaw10_same.f kj2 t492 t493 t494 a0_0 a0_1 l0_2).bind fun t502 => (if t502 = true then ((scale_MapRect.f kj2 a1_0 a1_1 a1_2 a1_3 a0_0 a0_1 a0_0 a0_1).bind fun bt503 => ((compositorref04_Canonical.f a1_0 a1_1 a1_2 a1_3).bind fun bt507 => (if (bt503.1 == bt507.1 && (bt503.2.1 == bt507.2.1 && (bt503.2.2.1 == bt507.2.2.1 && (bt503.2.2.2 == bt507.2.2.2)))) = true then ((compositorlaw10_exampleHolds.f kj2).bind fun t511 => (some t511)) else (some false)))) else (some false))) = some true := by rw [if_pos rfl] at H; exact H
           clear H
           have H := H1
           clear H1
           replace H := Option.bind_eq_some_iff.mp H
           obtain ⟨t502, A340, H⟩ := H
           try dsimp only at H
           have A34 := Aside0.mk A340
           clear A340
           by_cases c35 : t502 = true
           ·
            subst c35
            have H1 : ((scale_MapRect.f kj2 a1_0 a1_1 a1_2 a1_3 a0_0 a0_1 a0_0 a0_1).bind fun bt503 => ((compositorref04_Canonical.f a1_0 a1_1 a1_2 a1_3).bind fun bt507 => (if (bt503.1 == bt507.1 && (bt503.2.1 == bt507.2.1 && (bt503.2.2.1 == bt507.2.2.1 && (bt503.2.2.2 == bt507.2.2.2)))) = true then ((compositorlaw10_exampleHolds.f kj2).bind fun t511 => (some t511)) else (some false)))) = some true := by rw [if_pos rfl] at H; exact H
            clear H
            have H := H1
            clear H1
            replace H := Option.bind_eq_some_iff.mp H
            obtain ⟨⟨t503, t504, t505, t506⟩, A360, H⟩ := H
            try dsimp only at H
            have A36 := Aside0.mk A360
            clear A360
            replace H := Option.bind_eq_some_iff.mp H
            obtain ⟨⟨t507, t508, t509, t510⟩, A370, H⟩ := H
            try dsimp only at H
            have A37 := Aside0.mk A370
            clear A370
            by_cases c38 : (t503 == t507 && (t504 == t508 && (t505 == t509 && (t506 == t510)))) = true
            ·
             rw [if_pos c38] at H
             have c38b0 : (t503 == t507 && (t504 == t508 && (t505 == t509 && (t506 == t510)))) = true := c38
             (try (have c38b1 : decide (t503 = t507 && (t504 == t508 && (t505 == t509 && (t506 == t510)))) = true := by simpa using c38))
             (try (have c38b2 : (t503 == t507 && (t504 == t508 && (t505 == t509 && (t506 == t510)))) = true := by simpa using c38))
             clear c38
             replace H := Option.bind_eq_some_iff.mp H
             obtain ⟨t511, A390, H⟩ := H
             try dsimp only at H
             have A39 := Aside0.mk A390
             clear A390
             have Hq_ := Option.some.inj H
             have hnb40 := NB466_467.out
             have hnc40 := NB467_466.out
             have hcz41_0 : wc.cell? ⟨gb466, 0, none⟩ = some (.int .i64 a0_0) := (blk_cell BK466.out 0).trans rfl
             have hcz41_1 : wc.cell? ⟨gb466, 1, none⟩ = some (.int .i64 a0_1) := (blk_cell BK466.out 1).trans rfl
             have hcz41_2 : wc.cell? ⟨gb466, 2, none⟩ = some (.slice A0_2 l0_2.length c0_2) := (blk_cell BK466.out 2).trans rfl
             have hfz41_0 := blk_frozen BK466.out 0
             have hfz41_1 := blk_frozen BK466.out 1
             have hfz41_2 := blk_frozen BK466.out 2
             try go_wp2_with (first | ((with_reducible refine gate_callee (f := 13) rfl ?_); refine goesL_ (some 28) rfl rfl Try.func13 (by kernel_rfl) rfl #[.agg #[.int .i64 a0_0, .int .i64 a0_1, .slice A0_2 l0_2.length c0_2], .int .i64 a0_0, .int .i64 a0_1] rfl (by (try simp only [List.map_toArray, List.map_cons, List.map_nil]) <;> rfl) ?_; (with_reducible refine (scale_Nearest.calls a0_0 a0_1 _ _ l0_2 a0_0 a0_1 t471 t472 t473 t476 _ ?side1 ?side2 A20.out).mono ?_); (case side1 => repeat (first | exact (Kd.C_below HR0_2.out HB.out) | (with_reducible refine Kd.C_alloc ?_ _) | (with_reducible refine Kd.C_drewN ?_ _) | (with_reducible refine Kd.C_drew ?_))); (case side2 => exact HC0_2.out); rintro e w42 ⟨v474, rfl, ho0, hb⟩; refine ⟨_, rfl, ?_⟩; have n0_ := Aside0.mk (Kd.R_lower ho0 (below_size (hq_ HB))); have n1_ := bb_ BK466 hb; have n2_ := bb_ BK467 hb; have n3_ := hb_ HB hb; clear BK466; clear BK467; clear HB; have HO475 := n0_; have BK466 := n1_; have BK467 := n2_; have HB := n3_; clear n0_ n1_ n2_ n3_; (try clear hb); (try clear hb2); (try clear hk); (try clear hi); (try clear ho0)) | ((with_reducible refine gate_dst (N := 5) rfl ?_); refine box_event ?hg (N := 5) ?hd (cs := #[.int .i64 0, .int .i64 0, .slice none 0 0]) (t := 24) ?hr ?_; (case hd => rfl); (case hg => rfl); (case hr => first | (go_simp; done) | (go_simp; rfl)); intro gb477 hg w43 hbox hb; have n0_ := Aside0.mk (Kd.R_below (by (with_reducible repeat (first | apply Kd.R_alloc | apply Kd.R_drewN | apply Kd.R_drew)); exact HO475.out) hb); have n1_ := bb_ BK466 hb; have n2_ := bb_ BK467 hb; have n3_ := hb_ HB hb; have n4_ := Aside0.mk (hbox); have n5_ := Aside0.mk ((by rw [hg]; exact (below_size (hq_ HB)) : w.heap.size ≤ gb477)); have n6_ := Aside0.mk ((by rw [hg]; exact (below_size (hq_ HB)) : w.heap.size ≤ gb477)); have n7_ := Aside0.mk ((by rw [hg]; exact Nat.ne_of_lt (blk_lt (g := gb466) (o := .cells #[.int .i64 a0_0, .int .i64 a0_1, .slice A0_2 l0_2.length c0_2] 24 (0, 0)) (bq_ BK466)) : gb466 ≠ gb477)); have n8_ := Aside0.mk ((by rw [hg]; exact Nat.ne_of_gt (blk_lt (g := gb466) (o := .cells #[.int .i64 a0_0, .int .i64 a0_1, .slice A0_2 l0_2.length c0_2] 24 (0, 0)) (bq_ BK466)) : gb477 ≠ gb466)); have n9_ := Aside0.mk ((by rw [hg]; exact Nat.ne_of_lt (blk_lt (g := gb467) (o := .cells #[.int .i64 a1_0, .int .i64 a1_1, .int .i64 a1_2, .int .i64 a1_3] 34 (0, 0)) (bq_ BK467)) : gb467 ≠ gb477)); have n10_ := Aside0.mk ((by rw [hg]; exact Nat.ne_of_gt (blk_lt (g := gb467) (o := .cells #[.int .i64 a1_0, .int .i64 a1_1, .int .i64 a1_2, .int .i64 a1_3] 34 (0, 0)) (bq_ BK467)) : gb477 ≠ gb467)); clear HO475; clear BK466; clear BK467; clear HB; have HO475 := n0_; have BK466 := n1_; have BK467 := n2_; have HB := n3_; have BK477 := n4_; have GW477 := n5_; have GE477 := n6_; have NB466_477 := n7_; have NB477_466 := n8_; have NB467_477 := n9_; have NB477_467 := n10_; clear n0_ n1_ n2_ n3_ n4_ n5_ n6_ n7_ n8_ n9_ n10_; clear hb hbox hg; have hnb44 := NB477_466.out; have hnc44 := NB466_477.out; have hnb45 := NB477_467.out; have hnc45 := NB467_477.out; have hcz46_0 : w43.cell? ⟨gb477, 0, none⟩ = some (.int .i64 0) := (blk_cell BK477.out 0).trans rfl; have hcz46_1 : w43.cell? ⟨gb477, 1, none⟩ = some (.int .i64 0) := (blk_cell BK477.out 1).trans rfl; have hcz46_2 : w43.cell? ⟨gb477, 2, none⟩ = some (.slice none 0 0) := (blk_cell BK477.out 2).trans rfl; have hfz46_0 := blk_frozen BK477.out 0; have hfz46_1 := blk_frozen BK477.out 1; have hfz46_2 := blk_frozen BK477.out 2; obtain ⟨Ao47, co47, eo47⟩ := Kd.R_slice HO475.out; subst eo47; have hcz48_0 : w43.cell? ⟨gb466, 0, none⟩ = some (.int .i64 a0_0) := (blk_cell BK466.out 0).trans rfl; have hcz48_1 : w43.cell? ⟨gb466, 1, none⟩ = some (.int .i64 a0_1) := (blk_cell BK466.out 1).trans rfl; have hcz48_2 : w43.cell? ⟨gb466, 2, none⟩ = some (.slice A0_2 l0_2.length c0_2) := (blk_cell BK466.out 2).trans rfl; have hfz48_0 := blk_frozen BK466.out 0; have hfz48_1 := blk_frozen BK466.out 1; have hfz48_2 := blk_frozen BK466.out 2) | ((with_reducible refine gate_callee (f := 16) rfl ?_); refine goesL_ (some 37) rfl rfl Try.func16 (by kernel_rfl) rfl #[.agg #[.int .i64 a0_0, .int .i64 a0_1, .slice A0_2 l0_2.length c0_2], .int .i64 a0_0, .int .i64 a0_1] rfl (by (try simp only [List.map_toArray, List.map_cons, List.map_nil]) <;> rfl) ?_; (with_reducible refine (scale_Box.calls a0_0 a0_1 _ _ l0_2 a0_0 a0_1 t478 t479 t480 t483 _ ?side1 ?side2 A21.out).mono ?_); (case side1 => exact Kd.C_below HR0_2.out (hq_ HB)); (case side2 => exact HC0_2.out); rintro e w49 ⟨v481, rfl, ho0, hb⟩; refine ⟨_, rfl, ?_⟩; have n0_ := Aside0.mk (Kd.R_elder' (by (with_reducible repeat (first | apply Kd.R_alloc | apply Kd.R_drewN | apply Kd.R_drew)); exact (Kd.R_mono (Kd.R_far (p := ⟨gb477, 2, none⟩) (Kd.R_far (p := ⟨gb477, 1, none⟩) (Kd.R_far (p := ⟨gb477, 0, none⟩) (Kd.R_types HO475.out BK477.out (by decide)) (fun _ hk => hk.2) (.int .i64 t471)) (fun _ hk => hk.2) (.int .i64 t472)) (fun _ hk => hk.2) (.slice Ao47 t473.length co47)) (fun _ h_ => h_.1))) (Kd.R_base ho0) hb); have n1_ := Aside0.mk (Kd.R_lower (Kd.R_new' ho0 (Kd.R_lt (by (with_reducible repeat (first | apply Kd.R_alloc | apply Kd.R_drewN | apply Kd.R_drew)); exact (Kd.R_mono (Kd.R_far (p := ⟨gb477, 2, none⟩) (Kd.R_far (p := ⟨gb477, 1, none⟩) (Kd.R_far (p := ⟨gb477, 0, none⟩) (Kd.R_types HO475.out BK477.out (by decide)) (fun _ hk => hk.2) (.int .i64 t471)) (fun _ hk => hk.2) (.int .i64 t472)) (fun _ hk => hk.2) (.slice Ao47 t473.length co47)) (fun _ h_ => h_.1))))) (below_size (hq_ HB))); have n2_ := Aside0.mk (blk_below (g := gb466) (o := .cells #[.int .i64 a0_0, .int .i64 a0_1, .slice A0_2 l0_2.length c0_2] 24 (0, 0)) (by (with_reducible repeat (first | refine blk_drewN ?_ _ | refine blk_drew ?_ | refine blk_alloc ?_ _)); refine blk_far ?_ NB466_477.out _; (with_reducible repeat (first | refine blk_drewN ?_ _ | refine blk_drew ?_ | refine blk_alloc ?_ _)); refine blk_far ?_ NB466_477.out _; (with_reducible repeat (first | refine blk_drewN ?_ _ | refine blk_drew ?_ | refine blk_alloc ?_ _)); refine blk_far ?_ NB466_477.out _; (with_reducible repeat (first | refine blk_drewN ?_ _ | refine blk_drew ?_ | refine blk_alloc ?_ _)); exact BK466.out) hb); have n3_ := Aside0.mk (blk_below (g := gb467) (o := .cells #[.int .i64 a1_0, .int .i64 a1_1, .int .i64 a1_2, .int .i64 a1_3] 34 (0, 0)) (by (with_reducible repeat (first | refine blk_drewN ?_ _ | refine blk_drew ?_ | refine blk_alloc ?_ _)); refine blk_far ?_ NB467_477.out _; (with_reducible repeat (first | refine blk_drewN ?_ _ | refine blk_drew ?_ | refine blk_alloc ?_ _)); refine blk_far ?_ NB467_477.out _; (with_reducible repeat (first | refine blk_drewN ?_ _ | refine blk_drew ?_ | refine blk_alloc ?_ _)); refine blk_far ?_ NB467_477.out _; (with_reducible repeat (first | refine blk_drewN ?_ _ | refine blk_drew ?_ | refine blk_alloc ?_ _)); exact BK467.out) hb); have n4_ := Aside0.mk (blk_below (g := gb477) (o := .cells #[.int .i64 t471, .int .i64 t472, .slice Ao47 t473.length co47] 24 (0, 0)) (by (with_reducible repeat (first | refine blk_drewN ?_ _ | refine blk_drew ?_ | refine blk_alloc ?_ _)); refine blk_put (cs := #[.int .i64 t471, .int .i64 t472, .slice none 0 0]) ?_ 2 _ rfl; (with_reducible repeat (first | refine blk_drewN ?_ _ | refine blk_drew ?_ | refine blk_alloc ?_ _)); refine blk_put (cs := #[.int .i64 t471, .int .i64 0, .slice none 0 0]) ?_ 1 _ rfl; (with_reducible repeat (first | refine blk_drewN ?_ _ | refine blk_drew ?_ | refine blk_alloc ?_ _)); refine blk_put (cs := #[.int .i64 0, .int .i64 0, .slice none 0 0]) ?_ 0 _ rfl; (with_reducible repeat (first | refine blk_drewN ?_ _ | refine blk_drew ?_ | refine blk_alloc ?_ _)); exact BK477.out) hb); have n5_ := hb_ HB hb; clear HO475; clear BK466; clear BK467; clear BK477; clear HB; have HO475 := n0_; have HO482 := n1_; have BK466 := n2_; have BK467 := n3_; have BK477 := n4_; have HB := n5_; clear n0_ n1_ n2_ n3_ n4_ n5_; (try clear hb); (try clear hb2); (try clear hk); (try clear hi); (try clear ho0)) | ((with_reducible refine gate_dst (N := 7) rfl ?_); refine box_event ?hg (N := 7) ?hd (cs := #[.int .i64 0, .int .i64 0, .slice none 0 0]) (t := 24) ?hr ?_; (case hd => rfl); (case hg => rfl); (case hr => first | (go_simp; done) | (go_simp; rfl)); intro gb484 hg w50 hbox hb; have n0_ := Aside0.mk (Kd.R_below (by (with_reducible repeat (first | apply Kd.R_alloc | apply Kd.R_drewN | apply Kd.R_drew)); exact HO475.out) hb); have n1_ := Aside0.mk (Kd.R_below (by (with_reducible repeat (first | apply Kd.R_alloc | apply Kd.R_drewN | apply Kd.R_drew)); exact HO482.out) hb); have n2_ := bb_ BK466 hb; have n3_ := bb_ BK467 hb; have n4_ := bb_ BK477 hb; have n5_ := hb_ HB hb; have n6_ := Aside0.mk (hbox); have n7_ := Aside0.mk ((by rw [hg]; exact (below_size (hq_ HB)) : w.heap.size ≤ gb484)); have n8_ := Aside0.mk ((by rw [hg]; exact (below_size (hq_ HB)) : w.heap.size ≤ gb484)); have n9_ := Aside0.mk ((by rw [hg]; exact Nat.ne_of_lt (blk_lt (g := gb466) (o := .cells #[.int .i64 a0_0, .int .i64 a0_1, .slice A0_2 l0_2.length c0_2] 24 (0, 0)) (bq_ BK466)) : gb466 ≠ gb484)); have n10_ := Aside0.mk ((by rw [hg]; exact Nat.ne_of_gt (blk_lt (g := gb466) (o := .cells #[.int .i64 a0_0, .int .i64 a0_1, .slice A0_2 l0_2.length c0_2] 24 (0, 0)) (bq_ BK466)) : gb484 ≠ gb466)); have n11_ := Aside0.mk ((by rw [hg]; exact Nat.ne_of_lt (blk_lt (g := gb467) (o := .cells #[.int .i64 a1_0, .int .i64 a1_1, .int .i64 a1_2, .int .i64 a1_3] 34 (0, 0)) (bq_ BK467)) : gb467 ≠ gb484)); have n12_ := Aside0.mk ((by rw [hg]; exact Nat.ne_of_gt (blk_lt (g := gb467) (o := .cells #[.int .i64 a1_0, .int .i64 a1_1, .int .i64 a1_2, .int .i64 a1_3] 34 (0, 0)) (bq_ BK467)) : gb484 ≠ gb467)); have n13_ := Aside0.mk ((by rw [hg]; exact Nat.ne_of_lt (blk_lt (g := gb477) (o := .cells #[.int .i64 t471, .int .i64 t472, .slice Ao47 t473.length co47] 24 (0, 0)) (bq_ BK477)) : gb477 ≠ gb484)); have n14_ := Aside0.mk ((by rw [hg]; exact Nat.ne_of_gt (blk_lt (g := gb477) (o := .cells #[.int .i64 t471, .int .i64 t472, .slice Ao47 t473.length co47] 24 (0, 0)) (bq_ BK477)) : gb484 ≠ gb477)); clear HO475; clear HO482; clear BK466; clear BK467; clear BK477; clear HB; have HO475 := n0_; have HO482 := n1_; have BK466 := n2_; have BK467 := n3_; have BK477 := n4_; have HB := n5_; have BK484 := n6_; have GW484 := n7_; have GE484 := n8_; have NB466_484 := n9_; have NB484_466 := n10_; have NB467_484 := n11_; have NB484_467 := n12_; have NB477_484 := n13_; have NB484_477 := n14_; clear n0_ n1_ n2_ n3_ n4_ n5_ n6_ n7_ n8_ n9_ n10_ n11_ n12_ n13_ n14_; clear hb hbox hg; have hnb51 := NB484_466.out; have hnc51 := NB466_484.out; have hnb52 := NB484_467.out; have hnc52 := NB467_484.out; have hnb53 := NB484_477.out; have hnc53 := NB477_484.out; have hcz54_0 : w50.cell? ⟨gb484, 0, none⟩ = some (.int .i64 0) := (blk_cell BK484.out 0).trans rfl; have hcz54_1 : w50.cell? ⟨gb484, 1, none⟩ = some (.int .i64 0) := (blk_cell BK484.out 1).trans rfl; have hcz54_2 : w50.cell? ⟨gb484, 2, none⟩ = some (.slice none 0 0) := (blk_cell BK484.out 2).trans rfl; have hfz54_0 := blk_frozen BK484.out 0; have hfz54_1 := blk_frozen BK484.out 1; have hfz54_2 := blk_frozen BK484.out 2; obtain ⟨Ao55, co55, eo55⟩ := Kd.R_slice HO482.out; subst eo55; have hcz56_0 : w50.cell? ⟨gb466, 0, none⟩ = some (.int .i64 a0_0) := (blk_cell BK466.out 0).trans rfl; have hcz56_1 : w50.cell? ⟨gb466, 1, none⟩ = some (.int .i64 a0_1) := (blk_cell BK466.out 1).trans rfl; have hcz56_2 : w50.cell? ⟨gb466, 2, none⟩ = some (.slice A0_2 l0_2.length c0_2) := (blk_cell BK466.out 2).trans rfl; have hfz56_0 := blk_frozen BK466.out 0; have hfz56_1 := blk_frozen BK466.out 1; have hfz56_2 := blk_frozen BK466.out 2) | ((with_reducible refine gate_callee (f := 18) rfl ?_); refine goesL_ (some 42) rfl rfl Try.func18 (by kernel_rfl) rfl #[.agg #[.int .i64 a0_0, .int .i64 a0_1, .slice A0_2 l0_2.length c0_2], .int .i64 1] rfl (by (try simp only [List.map_toArray, List.map_cons, List.map_nil]) <;> rfl) ?_; (with_reducible refine (scale_Shrink.calls a0_0 a0_1 _ _ l0_2 1 t485 t486 t487 t490 _ ?side1 ?side2 A22.out).mono ?_); (case side1 => exact Kd.C_below HR0_2.out (hq_ HB)); (case side2 => exact HC0_2.out); rintro e w57 ⟨v488, rfl, ho0, hb⟩; refine ⟨_, rfl, ?_⟩; have n0_ := Aside0.mk (Kd.R_elder' (by (with_reducible repeat (first | apply Kd.R_alloc | apply Kd.R_drewN | apply Kd.R_drew)); exact (Kd.R_mono (Kd.R_far (p := ⟨gb484, 2, none⟩) (Kd.R_far (p := ⟨gb484, 1, none⟩) (Kd.R_far (p := ⟨gb484, 0, none⟩) (Kd.R_types HO475.out BK484.out (by decide)) (fun _ hk => hk.2) (.int .i64 t478)) (fun _ hk => hk.2) (.int .i64 t479)) (fun _ hk => hk.2) (.slice Ao55 t480.length co55)) (fun _ h_ => h_.1))) (Kd.R_base ho0) hb); have n1_ := Aside0.mk (Kd.R_elder' (by (with_reducible repeat (first | apply Kd.R_alloc | apply Kd.R_drewN | apply Kd.R_drew)); exact (Kd.R_mono (Kd.R_far (p := ⟨gb484, 2, none⟩) (Kd.R_far (p := ⟨gb484, 1, none⟩) (Kd.R_far (p := ⟨gb484, 0, none⟩) (Kd.R_types HO482.out BK484.out (by decide)) (fun _ hk => hk.2) (.int .i64 t478)) (fun _ hk => hk.2) (.int .i64 t479)) (fun _ hk => hk.2) (.slice Ao55 t480.length co55)) (fun _ h_ => h_.1))) (Kd.R_base ho0) hb); have n2_ := Aside0.mk (Kd.R_lower (Kd.R_new' (Kd.R_new' ho0 (Kd.R_lt (by (with_reducible repeat (first | apply Kd.R_alloc | apply Kd.R_drewN | apply Kd.R_drew)); exact (Kd.R_mono (Kd.R_far (p := ⟨gb484, 2, none⟩) (Kd.R_far (p := ⟨gb484, 1, none⟩) (Kd.R_far (p := ⟨gb484, 0, none⟩) (Kd.R_types HO475.out BK484.out (by decide)) (fun _ hk => hk.2) (.int .i64 t478)) (fun _ hk => hk.2) (.int .i64 t479)) (fun _ hk => hk.2) (.slice Ao55 t480.length co55)) (fun _ h_ => h_.1))))) (Kd.R_lt (by (with_reducible repeat (first | apply Kd.R_alloc | apply Kd.R_drewN | apply Kd.R_drew)); exact (Kd.R_mono (Kd.R_far (p := ⟨gb484, 2, none⟩) (Kd.R_far (p := ⟨gb484, 1, none⟩) (Kd.R_far (p := ⟨gb484, 0, none⟩) (Kd.R_types HO482.out BK484.out (by decide)) (fun _ hk => hk.2) (.int .i64 t478)) (fun _ hk => hk.2) (.int .i64 t479)) (fun _ hk => hk.2) (.slice Ao55 t480.length co55)) (fun _ h_ => h_.1))))) (below_size (hq_ HB))); have n3_ := Aside0.mk (blk_below (g := gb466) (o := .cells #[.int .i64 a0_0, .int .i64 a0_1, .slice A0_2 l0_2.length c0_2] 24 (0, 0)) (by (with_reducible repeat (first | refine blk_drewN ?_ _ | refine blk_drew ?_ | refine blk_alloc ?_ _)); refine blk_far ?_ NB466_484.out _; (with_reducible repeat (first | refine blk_drewN ?_ _ | refine blk_drew ?_ | refine blk_alloc ?_ _)); refine blk_far ?_ NB466_484.out _; (with_reducible repeat (first | refine blk_drewN ?_ _ | refine blk_drew ?_ | refine blk_alloc ?_ _)); refine blk_far ?_ NB466_484.out _; (with_reducible repeat (first | refine blk_drewN ?_ _ | refine blk_drew ?_ | refine blk_alloc ?_ _)); exact BK466.out) hb); have n4_ := Aside0.mk (blk_below (g := gb467) (o := .cells #[.int .i64 a1_0, .int .i64 a1_1, .int .i64 a1_2, .int .i64 a1_3] 34 (0, 0)) (by (with_reducible repeat (first | refine blk_drewN ?_ _ | refine blk_drew ?_ | refine blk_alloc ?_ _)); refine blk_far ?_ NB467_484.out _; (with_reducible repeat (first | refine blk_drewN ?_ _ | refine blk_drew ?_ | refine blk_alloc ?_ _)); refine blk_far ?_ NB467_484.out _; (with_reducible repeat (first | refine blk_drewN ?_ _ | refine blk_drew ?_ | refine blk_alloc ?_ _)); refine blk_far ?_ NB467_484.out _; (with_reducible repeat (first | refine blk_drewN ?_ _ | refine blk_drew ?_ | refine blk_alloc ?_ _)); exact BK467.out) hb); have n5_ := Aside0.mk (blk_below (g := gb477) (o := .cells #[.int .i64 t471, .int .i64 t472, .slice Ao47 t473.length co47] 24 (0, 0)) (by (with_reducible repeat (first | refine blk_drewN ?_ _ | refine blk_drew ?_ | refine blk_alloc ?_ _)); refine blk_far ?_ NB477_484.out _; (with_reducible repeat (first | refine blk_drewN ?_ _ | refine blk_drew ?_ | refine blk_alloc ?_ _)); refine blk_far ?_ NB477_484.out _; (with_reducible repeat (first | refine blk_drewN ?_ _ | refine blk_drew ?_ | refine blk_alloc ?_ _)); refine blk_far ?_ NB477_484.out _; (with_reducible repeat (first | refine blk_drewN ?_ _ | refine blk_drew ?_ | refine blk_alloc ?_ _)); exact BK477.out) hb); have n6_ := Aside0.mk (blk_below (g := gb484) (o := .cells #[.int .i64 t478, .int .i64 t479, .slice Ao55 t480.length co55] 24 (0, 0)) (by (with_reducible repeat (first | refine blk_drewN ?_ _ | refine blk_drew ?_ | refine blk_alloc ?_ _)); refine blk_put (cs := #[.int .i64 t478, .int .i64 t479, .slice none 0 0]) ?_ 2 _ rfl; (with_reducible repeat (first | refine blk_drewN ?_ _ | refine blk_drew ?_ | refine blk_alloc ?_ _)); refine blk_put (cs := #[.int .i64 t478, .int .i64 0, .slice none 0 0]) ?_ 1 _ rfl; (with_reducible repeat (first | refine blk_drewN ?_ _ | refine blk_drew ?_ | refine blk_alloc ?_ _)); refine blk_put (cs := #[.int .i64 0, .int .i64 0, .slice none 0 0]) ?_ 0 _ rfl; (with_reducible repeat (first | refine blk_drewN ?_ _ | refine blk_drew ?_ | refine blk_alloc ?_ _)); exact BK484.out) hb); have n7_ := hb_ HB hb; clear HO475; clear HO482; clear BK466; clear BK467; clear BK477; clear BK484; clear HB; have HO475 := n0_; have HO482 := n1_; have HO489 := n2_; have BK466 := n3_; have BK467 := n4_; have BK477 := n5_; have BK484 := n6_; have HB := n7_; clear n0_ n1_ n2_ n3_ n4_ n5_ n6_ n7_; (try clear hb); (try clear hb2); (try clear hk); (try clear hi); (try clear ho0)) | ((with_reducible refine gate_dst (N := 9) rfl ?_); refine box_event ?hg (N := 9) ?hd (cs := #[.int .i64 0, .int .i64 0, .slice none 0 0]) (t := 24) ?hr ?_; (case hd => rfl); (case hg => rfl); (case hr => first | (go_simp; done) | (go_simp; rfl)); intro gb491 hg w58 hbox hb; have n0_ := Aside0.mk (Kd.R_below (by (with_reducible repeat (first | apply Kd.R_alloc | apply Kd.R_drewN | apply Kd.R_drew)); exact HO475.out) hb); have n1_ := Aside0.mk (Kd.R_below (by (with_reducible repeat (first | apply Kd.R_alloc | apply Kd.R_drewN | apply Kd.R_drew)); exact HO482.out) hb); have n2_ := Aside0.mk (Kd.R_below (by (with_reducible repeat (first | apply Kd.R_alloc | apply Kd.R_drewN | apply Kd.R_drew)); exact HO489.out) hb); have n3_ := bb_ BK466 hb; have n4_ := bb_ BK467 hb; have n5_ := bb_ BK477 hb; have n6_ := bb_ BK484 hb; have n7_ := hb_ HB hb; have n8_ := Aside0.mk (hbox); have n9_ := Aside0.mk ((by rw [hg]; exact (below_size (hq_ HB)) : w.heap.size ≤ gb491)); have n10_ := Aside0.mk ((by rw [hg]; exact (below_size (hq_ HB)) : w.heap.size ≤ gb491)); have n11_ := Aside0.mk ((by rw [hg]; exact Nat.ne_of_lt (blk_lt (g := gb466) (o := .cells #[.int .i64 a0_0, .int .i64 a0_1, .slice A0_2 l0_2.length c0_2] 24 (0, 0)) (bq_ BK466)) : gb466 ≠ gb491)); have n12_ := Aside0.mk ((by rw [hg]; exact Nat.ne_of_gt (blk_lt (g := gb466) (o := .cells #[.int .i64 a0_0, .int .i64 a0_1, .slice A0_2 l0_2.length c0_2] 24 (0, 0)) (bq_ BK466)) : gb491 ≠ gb466)); have n13_ := Aside0.mk ((by rw [hg]; exact Nat.ne_of_lt (blk_lt (g := gb467) (o := .cells #[.int .i64 a1_0, .int .i64 a1_1, .int .i64 a1_2, .int .i64 a1_3] 34 (0, 0)) (bq_ BK467)) : gb467 ≠ gb491)); have n14_ := Aside0.mk ((by rw [hg]; exact Nat.ne_of_gt (blk_lt (g := gb467) (o := .cells #[.int .i64 a1_0, .int .i64 a1_1, .int .i64 a1_2, .int .i64 a1_3] 34 (0, 0)) (bq_ BK467)) : gb491 ≠ gb467)); have n15_ := Aside0.mk ((by rw [hg]; exact Nat.ne_of_lt (blk_lt (g := gb477) (o := .cells #[.int .i64 t471, .int .i64 t472, .slice Ao47 t473.length co47] 24 (0, 0)) (bq_ BK477)) : gb477 ≠ gb491)); have n16_ := Aside0.mk ((by rw [hg]; exact Nat.ne_of_gt (blk_lt (g := gb477) (o := .cells #[.int .i64 t471, .int .i64 t472, .slice Ao47 t473.length co47] 24 (0, 0)) (bq_ BK477)) : gb491 ≠ gb477)); have n17_ := Aside0.mk ((by rw [hg]; exact Nat.ne_of_lt (blk_lt (g := gb484) (o := .cells #[.int .i64 t478, .int .i64 t479, .slice Ao55 t480.length co55] 24 (0, 0)) (bq_ BK484)) : gb484 ≠ gb491)); have n18_ := Aside0.mk ((by rw [hg]; exact Nat.ne_of_gt (blk_lt (g := gb484) (o := .cells #[.int .i64 t478, .int .i64 t479, .slice Ao55 t480.length co55] 24 (0, 0)) (bq_ BK484)) : gb491 ≠ gb484)); clear HO475; clear HO482; clear HO489; clear BK466; clear BK467; clear BK477; clear BK484; clear HB; have HO475 := n0_; have HO482 := n1_; have HO489 := n2_; have BK466 := n3_; have BK467 := n4_; have BK477 := n5_; have BK484 := n6_; have HB := n7_; have BK491 := n8_; have GW491 := n9_; have GE491 := n10_; have NB466_491 := n11_; have NB491_466 := n12_; have NB467_491 := n13_; have NB491_467 := n14_; have NB477_491 := n15_; have NB491_477 := n16_; have NB484_491 := n17_; have NB491_484 := n18_; clear n0_ n1_ n2_ n3_ n4_ n5_ n6_ n7_ n8_ n9_ n10_ n11_ n12_ n13_ n14_ n15_ n16_ n17_ n18_; clear hb hbox hg; have hnb59 := NB491_466.out; have hnc59 := NB466_491.out; have hnb60 := NB491_467.out; have hnc60 := NB467_491.out; have hnb61 := NB491_477.out; have hnc61 := NB477_491.out; have hnb62 := NB491_484.out; have hnc62 := NB484_491.out; have hcz63_0 : w58.cell? ⟨gb491, 0, none⟩ = some (.int .i64 0) := (blk_cell BK491.out 0).trans rfl; have hcz63_1 : w58.cell? ⟨gb491, 1, none⟩ = some (.int .i64 0) := (blk_cell BK491.out 1).trans rfl; have hcz63_2 : w58.cell? ⟨gb491, 2, none⟩ = some (.slice none 0 0) := (blk_cell BK491.out 2).trans rfl; have hfz63_0 := blk_frozen BK491.out 0; have hfz63_1 := blk_frozen BK491.out 1; have hfz63_2 := blk_frozen BK491.out 2; obtain ⟨Ao64, co64, eo64⟩ := Kd.R_slice HO489.out; subst eo64; have hcz65_0 : w58.cell? ⟨gb466, 0, none⟩ = some (.int .i64 a0_0) := (blk_cell BK466.out 0).trans rfl; have hcz65_1 : w58.cell? ⟨gb466, 1, none⟩ = some (.int .i64 a0_1) := (blk_cell BK466.out 1).trans rfl; have hcz65_2 : w58.cell? ⟨gb466, 2, none⟩ = some (.slice A0_2 l0_2.length c0_2) := (blk_cell BK466.out 2).trans rfl; have hfz65_0 := blk_frozen BK466.out 0; have hfz65_1 := blk_frozen BK466.out 1; have hfz65_2 := blk_frozen BK466.out 2) | ((with_reducible refine gate_callee (f := 20) rfl ?_); refine goesL_ (some 47) rfl rfl Try.func20 (by kernel_rfl) rfl #[.agg #[.int .i64 a0_0, .int .i64 a0_1, .slice A0_2 l0_2.length c0_2], .int .i64 1] rfl (by (try simp only [List.map_toArray, List.map_cons, List.map_nil]) <;> rfl) ?_; (with_reducible refine (scale_Enlarge.calls a0_0 a0_1 _ _ l0_2 1 t492 t493 t494 t497 _ ?side1 ?side2 A23.out).mono ?_); (case side1 => exact Kd.C_below HR0_2.out (hq_ HB)); (case side2 => exact HC0_2.out); rintro e w66 ⟨v495, rfl, ho0, hb⟩; refine ⟨_, rfl, ?_⟩; have n0_ := Aside0.mk (Kd.R_elder' (by (with_reducible repeat (first | apply Kd.R_alloc | apply Kd.R_drewN | apply Kd.R_drew)); exact (Kd.R_mono (Kd.R_far (p := ⟨gb491, 2, none⟩) (Kd.R_far (p := ⟨gb491, 1, none⟩) (Kd.R_far (p := ⟨gb491, 0, none⟩) (Kd.R_types HO475.out BK491.out (by decide)) (fun _ hk => hk.2) (.int .i64 t485)) (fun _ hk => hk.2) (.int .i64 t486)) (fun _ hk => hk.2) (.slice Ao64 t487.length co64)) (fun _ h_ => h_.1))) (Kd.R_base ho0) hb); have n1_ := Aside0.mk (Kd.R_elder' (by (with_reducible repeat (first | apply Kd.R_alloc | apply Kd.R_drewN | apply Kd.R_drew)); exact (Kd.R_mono (Kd.R_far (p := ⟨gb491, 2, none⟩) (Kd.R_far (p := ⟨gb491, 1, none⟩) (Kd.R_far (p := ⟨gb491, 0, none⟩) (Kd.R_types HO482.out BK491.out (by decide)) (fun _ hk => hk.2) (.int .i64 t485)) (fun _ hk => hk.2) (.int .i64 t486)) (fun _ hk => hk.2) (.slice Ao64 t487.length co64)) (fun _ h_ => h_.1))) (Kd.R_base ho0) hb); have n2_ := Aside0.mk (Kd.R_elder' (by (with_reducible repeat (first | apply Kd.R_alloc | apply Kd.R_drewN | apply Kd.R_drew)); exact (Kd.R_mono (Kd.R_far (p := ⟨gb491, 2, none⟩) (Kd.R_far (p := ⟨gb491, 1, none⟩) (Kd.R_far (p := ⟨gb491, 0, none⟩) (Kd.R_types HO489.out BK491.out (by decide)) (fun _ hk => hk.2) (.int .i64 t485)) (fun _ hk => hk.2) (.int .i64 t486)) (fun _ hk => hk.2) (.slice Ao64 t487.length co64)) (fun _ h_ => h_.1))) (Kd.R_base ho0) hb); have n3_ := Aside0.mk (Kd.R_lower (Kd.R_new' (Kd.R_new' (Kd.R_new' ho0 (Kd.R_lt (by (with_reducible repeat (first | apply Kd.R_alloc | apply Kd.R_drewN | apply Kd.R_drew)); exact (Kd.R_mono (Kd.R_far (p := ⟨gb491, 2, none⟩) (Kd.R_far (p := ⟨gb491, 1, none⟩) (Kd.R_far (p := ⟨gb491, 0, none⟩) (Kd.R_types HO475.out BK491.out (by decide)) (fun _ hk => hk.2) (.int .i64 t485)) (fun _ hk => hk.2) (.int .i64 t486)) (fun _ hk => hk.2) (.slice Ao64 t487.length co64)) (fun _ h_ => h_.1))))) (Kd.R_lt (by (with_reducible repeat (first | apply Kd.R_alloc | apply Kd.R_drewN | apply Kd.R_drew)); exact (Kd.R_mono (Kd.R_far (p := ⟨gb491, 2, none⟩) (Kd.R_far (p := ⟨gb491, 1, none⟩) (Kd.R_far (p := ⟨gb491, 0, none⟩) (Kd.R_types HO482.out BK491.out (by decide)) (fun _ hk => hk.2) (.int .i64 t485)) (fun _ hk => hk.2) (.int .i64 t486)) (fun _ hk => hk.2) (.slice Ao64 t487.length co64)) (fun _ h_ => h_.1))))) (Kd.R_lt (by (with_reducible repeat (first | apply Kd.R_alloc | apply Kd.R_drewN | apply Kd.R_drew)); exact (Kd.R_mono (Kd.R_far (p := ⟨gb491, 2, none⟩) (Kd.R_far (p := ⟨gb491, 1, none⟩) (Kd.R_far (p := ⟨gb491, 0, none⟩) (Kd.R_types HO489.out BK491.out (by decide)) (fun _ hk => hk.2) (.int .i64 t485)) (fun _ hk => hk.2) (.int .i64 t486)) (fun _ hk => hk.2) (.slice Ao64 t487.length co64)) (fun _ h_ => h_.1))))) (below_size (hq_ HB))); have n4_ := Aside0.mk (blk_below (g := gb466) (o := .cells #[.int .i64 a0_0, .int .i64 a0_1, .slice A0_2 l0_2.length c0_2] 24 (0, 0)) (by (with_reducible repeat (first | refine blk_drewN ?_ _ | refine blk_drew ?_ | refine blk_alloc ?_ _)); refine blk_far ?_ NB466_491.out _; (with_reducible repeat (first | refine blk_drewN ?_ _ | refine blk_drew ?_ | refine blk_alloc ?_ _)); refine blk_far ?_ NB466_491.out _; (with_reducible repeat (first | refine blk_drewN ?_ _ | refine blk_drew ?_ | refine blk_alloc ?_ _)); refine blk_far ?_ NB466_491.out _; (with_reducible repeat (first | refine blk_drewN ?_ _ | refine blk_drew ?_ | refine blk_alloc ?_ _)); exact BK466.out) hb); have n5_ := Aside0.mk (blk_below (g := gb467) (o := .cells #[.int .i64 a1_0, .int .i64 a1_1, .int .i64 a1_2, .int .i64 a1_3] 34 (0, 0)) (by (with_reducible repeat (first | refine blk_drewN ?_ _ | refine blk_drew ?_ | refine blk_alloc ?_ _)); refine blk_far ?_ NB467_491.out _; (with_reducible repeat (first | refine blk_drewN ?_ _ | refine blk_drew ?_ | refine blk_alloc ?_ _)); refine blk_far ?_ NB467_491.out _; (with_reducible repeat (first | refine blk_drewN ?_ _ | refine blk_drew ?_ | refine blk_alloc ?_ _)); refine blk_far ?_ NB467_491.out _; (with_reducible repeat (first | refine blk_drewN ?_ _ | refine blk_drew ?_ | refine blk_alloc ?_ _)); exact BK467.out) hb); have n6_ := Aside0.mk (blk_below (g := gb477) (o := .cells #[.int .i64 t471, .int .i64 t472, .slice Ao47 t473.length co47] 24 (0, 0)) (by (with_reducible repeat (first | refine blk_drewN ?_ _ | refine blk_drew ?_ | refine blk_alloc ?_ _)); refine blk_far ?_ NB477_491.out _; (with_reducible repeat (first | refine blk_drewN ?_ _ | refine blk_drew ?_ | refine blk_alloc ?_ _)); refine blk_far ?_ NB477_491.out _; (with_reducible repeat (first | refine blk_drewN ?_ _ | refine blk_drew ?_ | refine blk_alloc ?_ _)); refine blk_far ?_ NB477_491.out _; (with_reducible repeat (first | refine blk_drewN ?_ _ | refine blk_drew ?_ | refine blk_alloc ?_ _)); exact BK477.out) hb); have n7_ := Aside0.mk (blk_below (g := gb484) (o := .cells #[.int .i64 t478, .int .i64 t479, .slice Ao55 t480.length co55] 24 (0, 0)) (by (with_reducible repeat (first | refine blk_drewN ?_ _ | refine blk_drew ?_ | refine blk_alloc ?_ _)); refine blk_far ?_ NB484_491.out _; (with_reducible repeat (first | refine blk_drewN ?_ _ | refine blk_drew ?_ | refine blk_alloc ?_ _)); refine blk_far ?_ NB484_491.out _; (with_reducible repeat (first | refine blk_drewN ?_ _ | refine blk_drew ?_ | refine blk_alloc ?_ _)); refine blk_far ?_ NB484_491.out _; (with_reducible repeat (first | refine blk_drewN ?_ _ | refine blk_drew ?_ | refine blk_alloc ?_ _)); exact BK484.out) hb); have n8_ := Aside0.mk (blk_below (g := gb491) (o := .cells #[.int .i64 t485, .int .i64 t486, .slice Ao64 t487.length co64] 24 (0, 0)) (by (with_reducible repeat (first | refine blk_drewN ?_ _ | refine blk_drew ?_ | refine blk_alloc ?_ _)); refine blk_put (cs := #[.int .i64 t485, .int .i64 t486, .slice none 0 0]) ?_ 2 _ rfl; (with_reducible repeat (first | refine blk_drewN ?_ _ | refine blk_drew ?_ | refine blk_alloc ?_ _)); refine blk_put (cs := #[.int .i64 t485, .int .i64 0, .slice none 0 0]) ?_ 1 _ rfl; (with_reducible repeat (first | refine blk_drewN ?_ _ | refine blk_drew ?_ | refine blk_alloc ?_ _)); refine blk_put (cs := #[.int .i64 0, .int .i64 0, .slice none 0 0]) ?_ 0 _ rfl; (with_reducible repeat (first | refine blk_drewN ?_ _ | refine blk_drew ?_ | refine blk_alloc ?_ _)); exact BK491.out) hb); have n9_ := hb_ HB hb; clear HO475; clear HO482; clear HO489; clear BK466; clear BK467; clear BK477; clear BK484; clear BK491; clear HB; have HO475 := n0_; have HO482 := n1_; have HO489 := n2_; have HO496 := n3_; have BK466 := n4_; have BK467 := n5_; have BK477 := n6_; have BK484 := n7_; have BK491 := n8_; have HB := n9_; clear n0_ n1_ n2_ n3_ n4_ n5_ n6_ n7_ n8_ n9_; (try clear hb); (try clear hb2); (try clear hk); (try clear hi); (try clear ho0)) | ((with_reducible refine gate_dst (N := 11) rfl ?_); refine box_event ?hg (N := 11) ?hd (cs := #[.int .i64 0, .int .i64 0, .slice none 0 0]) (t := 24) ?hr ?_; (case hd => rfl); (case hg => rfl); (case hr => first | (go_simp; done) | (go_simp; rfl)); intro gb498 hg w67 hbox hb; have n0_ := Aside0.mk (Kd.R_below (by (with_reducible repeat (first | apply Kd.R_alloc | apply Kd.R_drewN | apply Kd.R_drew)); exact HO475.out) hb); have n1_ := Aside0.mk (Kd.R_below (by (with_reducible repeat (first | apply Kd.R_alloc | apply Kd.R_drewN | apply Kd.R_drew)); exact HO482.out) hb); have n2_ := Aside0.mk (Kd.R_below (by (with_reducible repeat (first | apply Kd.R_alloc | apply Kd.R_drewN | apply Kd.R_drew)); exact HO489.out) hb); have n3_ := Aside0.mk (Kd.R_below (by (with_reducible repeat (first | apply Kd.R_alloc | apply Kd.R_drewN | apply Kd.R_drew)); exact HO496.out) hb); have n4_ := bb_ BK466 hb; have n5_ := bb_ BK467 hb; have n6_ := bb_ BK477 hb; have n7_ := bb_ BK484 hb; have n8_ := bb_ BK491 hb; have n9_ := hb_ HB hb; have n10_ := Aside0.mk (hbox); have n11_ := Aside0.mk ((by rw [hg]; exact (below_size (hq_ HB)) : w.heap.size ≤ gb498)); have n12_ := Aside0.mk ((by rw [hg]; exact (below_size (hq_ HB)) : w.heap.size ≤ gb498)); have n13_ := Aside0.mk ((by rw [hg]; exact Nat.ne_of_lt (blk_lt (g := gb466) (o := .cells #[.int .i64 a0_0, .int .i64 a0_1, .slice A0_2 l0_2.length c0_2] 24 (0, 0)) (bq_ BK466)) : gb466 ≠ gb498)); have n14_ := Aside0.mk ((by rw [hg]; exact Nat.ne_of_gt (blk_lt (g := gb466) (o := .cells #[.int .i64 a0_0, .int .i64 a0_1, .slice A0_2 l0_2.length c0_2] 24 (0, 0)) (bq_ BK466)) : gb498 ≠ gb466)); have n15_ := Aside0.mk ((by rw [hg]; exact Nat.ne_of_lt (blk_lt (g := gb467) (o := .cells #[.int .i64 a1_0, .int .i64 a1_1, .int .i64 a1_2, .int .i64 a1_3] 34 (0, 0)) (bq_ BK467)) : gb467 ≠ gb498)); have n16_ := Aside0.mk ((by rw [hg]; exact Nat.ne_of_gt (blk_lt (g := gb467) (o := .cells #[.int .i64 a1_0, .int .i64 a1_1, .int .i64 a1_2, .int .i64 a1_3] 34 (0, 0)) (bq_ BK467)) : gb498 ≠ gb467)); have n17_ := Aside0.mk ((by rw [hg]; exact Nat.ne_of_lt (blk_lt (g := gb477) (o := .cells #[.int .i64 t471, .int .i64 t472, .slice Ao47 t473.length co47] 24 (0, 0)) (bq_ BK477)) : gb477 ≠ gb498)); have n18_ := Aside0.mk ((by rw [hg]; exact Nat.ne_of_gt (blk_lt (g := gb477) (o := .cells #[.int .i64 t471, .int .i64 t472, .slice Ao47 t473.length co47] 24 (0, 0)) (bq_ BK477)) : gb498 ≠ gb477)); have n19_ := Aside0.mk ((by rw [hg]; exact Nat.ne_of_lt (blk_lt (g := gb484) (o := .cells #[.int .i64 t478, .int .i64 t479, .slice Ao55 t480.length co55] 24 (0, 0)) (bq_ BK484)) : gb484 ≠ gb498)); have n20_ := Aside0.mk ((by rw [hg]; exact Nat.ne_of_gt (blk_lt (g := gb484) (o := .cells #[.int .i64 t478, .int .i64 t479, .slice Ao55 t480.length co55] 24 (0, 0)) (bq_ BK484)) : gb498 ≠ gb484)); have n21_ := Aside0.mk ((by rw [hg]; exact Nat.ne_of_lt (blk_lt (g := gb491) (o := .cells #[.int .i64 t485, .int .i64 t486, .slice Ao64 t487.length co64] 24 (0, 0)) (bq_ BK491)) : gb491 ≠ gb498)); have n22_ := Aside0.mk ((by rw [hg]; exact Nat.ne_of_gt (blk_lt (g := gb491) (o := .cells #[.int .i64 t485, .int .i64 t486, .slice Ao64 t487.length co64] 24 (0, 0)) (bq_ BK491)) : gb498 ≠ gb491)); clear HO475; clear HO482; clear HO489; clear HO496; clear BK466; clear BK467; clear BK477; clear BK484; clear BK491; clear HB; have HO475 := n0_; have HO482 := n1_; have HO489 := n2_; have HO496 := n3_; have BK466 := n4_; have BK467 := n5_; have BK477 := n6_; have BK484 := n7_; have BK491 := n8_; have HB := n9_; have BK498 := n10_; have GW498 := n11_; have GE498 := n12_; have NB466_498 := n13_; have NB498_466 := n14_; have NB467_498 := n15_; have NB498_467 := n16_; have NB477_498 := n17_; have NB498_477 := n18_; have NB484_498 := n19_; have NB498_484 := n20_; have NB491_498 := n21_; have NB498_491 := n22_; clear n0_ n1_ n2_ n3_ n4_ n5_ n6_ n7_ n8_ n9_ n10_ n11_ n12_ n13_ n14_ n15_ n16_ n17_ n18_ n19_ n20_ n21_ n22_; clear hb hbox hg; have hnb68 := NB498_466.out; have hnc68 := NB466_498.out; have hnb69 := NB498_467.out; have hnc69 := NB467_498.out; have hnb70 := NB498_477.out; have hnc70 := NB477_498.out; have hnb71 := NB498_484.out; have hnc71 := NB484_498.out; have hnb72 := NB498_491.out; have hnc72 := NB491_498.out; have hcz73_0 : w67.cell? ⟨gb498, 0, none⟩ = some (.int .i64 0) := (blk_cell BK498.out 0).trans rfl; have hcz73_1 : w67.cell? ⟨gb498, 1, none⟩ = some (.int .i64 0) := (blk_cell BK498.out 1).trans rfl; have hcz73_2 : w67.cell? ⟨gb498, 2, none⟩ = some (.slice none 0 0) := (blk_cell BK498.out 2).trans rfl; have hfz73_0 := blk_frozen BK498.out 0; have hfz73_1 := blk_frozen BK498.out 1; have hfz73_2 := blk_frozen BK498.out 2; obtain ⟨Ao74, co74, eo74⟩ := Kd.R_slice HO496.out; subst eo74))
             have n0_ : Aside0 (Kd.R k43 43 (((w67.setCell ⟨gb498, 0, none⟩ (.int .i64 t492)).setCell ⟨gb498, 1, none⟩ (.int .i64 t493)).setCell ⟨gb498, 2, none⟩ (.slice Ao74 t494.length co74)) w.heap.size (fun k_ => some k_ ≠ (.slice Ao55 t480.length co55 : Value).ownBlock ∧ some k_ ≠ (.slice Ao64 t487.length co64 : Value).ownBlock ∧ some k_ ≠ (.slice Ao74 t494.length co74 : Value).ownBlock) (.slice Ao47 t473.length co47) t473) := ⟨by (with_reducible repeat (first | apply Kd.R_alloc | apply Kd.R_drewN | apply Kd.R_drew)); exact Kd.R_mono (Kd.R_far (p := ⟨gb498, 2, none⟩) (Kd.R_far (p := ⟨gb498, 1, none⟩) (Kd.R_far (p := ⟨gb498, 0, none⟩) (Kd.R_types HO475.out BK498.out (by decide)) (fun _ hk => hk.2) (.int .i64 t492)) (fun _ hk => hk.2) (.int .i64 t493)) (fun _ hk => hk.2) (.slice Ao74 t494.length co74)) (fun _ hk => ⟨hk.1.1.1.2, ⟨hk.1.1.2, hk.1.2⟩⟩)⟩
             have n1_ : Aside0 (Kd.R k43 43 (((w67.setCell ⟨gb498, 0, none⟩ (.int .i64 t492)).setCell ⟨gb498, 1, none⟩ (.int .i64 t493)).setCell ⟨gb498, 2, none⟩ (.slice Ao74 t494.length co74)) w.heap.size (fun k_ => some k_ ≠ (.slice Ao47 t473.length co47 : Value).ownBlock ∧ some k_ ≠ (.slice Ao64 t487.length co64 : Value).ownBlock ∧ some k_ ≠ (.slice Ao74 t494.length co74 : Value).ownBlock) (.slice Ao55 t480.length co55) t480) := ⟨by (with_reducible repeat (first | apply Kd.R_alloc | apply Kd.R_drewN | apply Kd.R_drew)); exact Kd.R_mono (Kd.R_far (p := ⟨gb498, 2, none⟩) (Kd.R_far (p := ⟨gb498, 1, none⟩) (Kd.R_far (p := ⟨gb498, 0, none⟩) (Kd.R_types HO482.out BK498.out (by decide)) (fun _ hk => hk.2) (.int .i64 t492)) (fun _ hk => hk.2) (.int .i64 t493)) (fun _ hk => hk.2) (.slice Ao74 t494.length co74)) (fun _ hk => ⟨hk.1.1.1.2, ⟨hk.1.1.2, hk.1.2⟩⟩)⟩
             have n2_ : Aside0 (Kd.R k43 43 (((w67.setCell ⟨gb498, 0, none⟩ (.int .i64 t492)).setCell ⟨gb498, 1, none⟩ (.int .i64 t493)).setCell ⟨gb498, 2, none⟩ (.slice Ao74 t494.length co74)) w.heap.size (fun k_ => some k_ ≠ (.slice Ao47 t473.length co47 : Value).ownBlock ∧ some k_ ≠ (.slice Ao55 t480.length co55 : Value).ownBlock ∧ some k_ ≠ (.slice Ao74 t494.length co74 : Value).ownBlock) (.slice Ao64 t487.length co64) t487) := ⟨by (with_reducible repeat (first | apply Kd.R_alloc | apply Kd.R_drewN | apply Kd.R_drew)); exact Kd.R_mono (Kd.R_far (p := ⟨gb498, 2, none⟩) (Kd.R_far (p := ⟨gb498, 1, none⟩) (Kd.R_far (p := ⟨gb498, 0, none⟩) (Kd.R_types HO489.out BK498.out (by decide)) (fun _ hk => hk.2) (.int .i64 t492)) (fun _ hk => hk.2) (.int .i64 t493)) (fun _ hk => hk.2) (.slice Ao74 t494.length co74)) (fun _ hk => ⟨hk.1.1.1.2, ⟨hk.1.1.2, hk.1.2⟩⟩)⟩
             have n3_ : Aside0 (Kd.R k43 43 (((w67.setCell ⟨gb498, 0, none⟩ (.int .i64 t492)).setCell ⟨gb498, 1, none⟩ (.int .i64 t493)).setCell ⟨gb498, 2, none⟩ (.slice Ao74 t494.length co74)) w.heap.size (fun k_ => some k_ ≠ (.slice Ao47 t473.length co47 : Value).ownBlock ∧ some k_ ≠ (.slice Ao55 t480.length co55 : Value).ownBlock ∧ some k_ ≠ (.slice Ao64 t487.length co64 : Value).ownBlock) (.slice Ao74 t494.length co74) t494) := ⟨by (with_reducible repeat (first | apply Kd.R_alloc | apply Kd.R_drewN | apply Kd.R_drew)); exact Kd.R_mono (Kd.R_far (p := ⟨gb498, 2, none⟩) (Kd.R_far (p := ⟨gb498, 1, none⟩) (Kd.R_far (p := ⟨gb498, 0, none⟩) (Kd.R_types HO496.out BK498.out (by decide)) (fun _ hk => hk.2) (.int .i64 t492)) (fun _ hk => hk.2) (.int .i64 t493)) (fun _ hk => hk.2) (.slice Ao74 t494.length co74)) (fun _ hk => ⟨hk.1.1.1.2, ⟨hk.1.1.2, hk.1.2⟩⟩)⟩
             have n4_ : Aside0 ((((w67.setCell ⟨gb498, 0, none⟩ (.int .i64 t492)).setCell ⟨gb498, 1, none⟩ (.int .i64 t493)).setCell ⟨gb498, 2, none⟩ (.slice Ao74 t494.length co74)).heap[gb466]? = some (.cells #[.int .i64 a0_0, .int .i64 a0_1, .slice A0_2 l0_2.length c0_2] 24 (0, 0))) := bf_ BK466
             have n5_ : Aside0 ((((w67.setCell ⟨gb498, 0, none⟩ (.int .i64 t492)).setCell ⟨gb498, 1, none⟩ (.int .i64 t493)).setCell ⟨gb498, 2, none⟩ (.slice Ao74 t494.length co74)).heap[gb467]? = some (.cells #[.int .i64 a1_0, .int .i64 a1_1, .int .i64 a1_2, .int .i64 a1_3] 34 (0, 0))) := bf_ BK467
             have n6_ : Aside0 ((((w67.setCell ⟨gb498, 0, none⟩ (.int .i64 t492)).setCell ⟨gb498, 1, none⟩ (.int .i64 t493)).setCell ⟨gb498, 2, none⟩ (.slice Ao74 t494.length co74)).heap[gb477]? = some (.cells #[.int .i64 t471, .int .i64 t472, .slice Ao47 t473.length co47] 24 (0, 0))) := bf_ BK477
             have n7_ : Aside0 ((((w67.setCell ⟨gb498, 0, none⟩ (.int .i64 t492)).setCell ⟨gb498, 1, none⟩ (.int .i64 t493)).setCell ⟨gb498, 2, none⟩ (.slice Ao74 t494.length co74)).heap[gb484]? = some (.cells #[.int .i64 t478, .int .i64 t479, .slice Ao55 t480.length co55] 24 (0, 0))) := bf_ BK484
             have n8_ : Aside0 ((((w67.setCell ⟨gb498, 0, none⟩ (.int .i64 t492)).setCell ⟨gb498, 1, none⟩ (.int .i64 t493)).setCell ⟨gb498, 2, none⟩ (.slice Ao74 t494.length co74)).heap[gb491]? = some (.cells #[.int .i64 t485, .int .i64 t486, .slice Ao64 t487.length co64] 24 (0, 0))) := bf_ BK491
             have n9_ : Aside0 ((((w67.setCell ⟨gb498, 0, none⟩ (.int .i64 t492)).setCell ⟨gb498, 1, none⟩ (.int .i64 t493)).setCell ⟨gb498, 2, none⟩ (.slice Ao74 t494.length co74)).heap[gb498]? = some (.cells #[.int .i64 t492, .int .i64 t493, .slice Ao74 t494.length co74] 24 (0, 0))) := ⟨by (with_reducible repeat (first | refine blk_drewN ?_ _ | refine blk_drew ?_ | refine blk_alloc ?_ _)); refine blk_put (cs := #[.int .i64 t492, .int .i64 t493, .slice none 0 0]) ?_ 2 _ rfl; (with_reducible repeat (first | refine blk_drewN ?_ _ | refine blk_drew ?_ | refine blk_alloc ?_ _)); refine blk_put (cs := #[.int .i64 t492, .int .i64 0, .slice none 0 0]) ?_ 1 _ rfl; (with_reducible repeat (first | refine blk_drewN ?_ _ | refine blk_drew ?_ | refine blk_alloc ?_ _)); refine blk_put (cs := #[.int .i64 0, .int .i64 0, .slice none 0 0]) ?_ 0 _ rfl; (with_reducible repeat (first | refine blk_drewN ?_ _ | refine blk_drew ?_ | refine blk_alloc ?_ _)); exact BK498.out⟩
             have n10_ : Aside0 (Below w.heap.size w (((w67.setCell ⟨gb498, 0, none⟩ (.int .i64 t492)).setCell ⟨gb498, 1, none⟩ (.int .i64 t493)).setCell ⟨gb498, 2, none⟩ (.slice Ao74 t494.length co74))) := ⟨by repeat (first | (with_reducible first | exact HB.out | apply below_alloc | apply pw_below_drewN | apply below_drew1 | refine below_set ?_ GE466.out | refine below_set ?_ GE467.out | refine below_set ?_ GE477.out | refine below_set ?_ GE484.out | refine below_set ?_ GE491.out | refine below_set ?_ GE498.out) | exact HB.out)⟩
             (try clear HO475)
             (try clear HO482)
             (try clear HO489)
             (try clear HO496)
             (try clear BK466)
             (try clear BK467)
             (try clear BK477)
             (try clear BK484)
             (try clear BK491)
             (try clear BK498)
             (try clear HB)
             generalize (((w67.setCell ⟨gb498, 0, none⟩ (.int .i64 t492)).setCell ⟨gb498, 1, none⟩ (.int .i64 t493)).setCell ⟨gb498, 2, none⟩ (.slice Ao74 t494.length co74)) = w75 at n0_ n1_ n2_ n3_ n4_ n5_ n6_ n7_ n8_ n9_ n10_ ⊢
             have HO475 := n0_
             have HO482 := n1_
             have HO489 := n2_
             have HO496 := n3_
             have BK466 := n4_
             have BK467 := n5_
             have BK477 := n6_
             have BK484 := n7_
             have BK491 := n8_
             have BK498 := n9_
             have HB := n10_
             clear n0_ n1_ n2_ n3_ n4_ n5_ n6_ n7_ n8_ n9_ n10_
             replace HO475 := Aside0.mk (Kd.R_drew HO475.out)
             replace HO482 := Aside0.mk (Kd.R_drew HO482.out)
             replace HO489 := Aside0.mk (Kd.R_drew HO489.out)
             replace HO496 := Aside0.mk (Kd.R_drew HO496.out)
             replace BK466 := Aside0.mk (blk_drew BK466.out)
             replace BK467 := Aside0.mk (blk_drew BK467.out)
             replace BK477 := Aside0.mk (blk_drew BK477.out)
             replace BK484 := Aside0.mk (blk_drew BK484.out)
             replace BK491 := Aside0.mk (blk_drew BK491.out)
             replace BK498 := Aside0.mk (blk_drew BK498.out)
             replace HB := Aside0.mk (below_drew1 HB.out)
             refine start_ (n := 53) (S := fun w' => w'.cell? ⟨gb477, 0, none⟩ = some (.int .i64 t471) ∧ w'.cell? ⟨gb477, 1, none⟩ = some (.int .i64 t472) ∧ w'.cell? ⟨gb477, 2, none⟩ = some (.slice Ao47 t473.length co47) ∧ w'.cell? ⟨gb466, 0, none⟩ = some (.int .i64 a0_0) ∧ w'.cell? ⟨gb466, 1, none⟩ = some (.int .i64 a0_1) ∧ w'.cell? ⟨gb466, 2, none⟩ = some (.slice A0_2 l0_2.length c0_2) ∧ w'.cell? ⟨gb484, 0, none⟩ = some (.int .i64 t478) ∧ w'.cell? ⟨gb484, 1, none⟩ = some (.int .i64 t479) ∧ w'.cell? ⟨gb484, 2, none⟩ = some (.slice Ao55 t480.length co55) ∧ w'.cell? ⟨gb491, 0, none⟩ = some (.int .i64 t485) ∧ w'.cell? ⟨gb491, 1, none⟩ = some (.int .i64 t486) ∧ w'.cell? ⟨gb491, 2, none⟩ = some (.slice Ao64 t487.length co64) ∧ w'.cell? ⟨gb498, 0, none⟩ = some (.int .i64 t492) ∧ w'.cell? ⟨gb498, 1, none⟩ = some (.int .i64 t493) ∧ w'.cell? ⟨gb498, 2, none⟩ = some (.slice Ao74 t494.length co74) ∧ w'.cell? ⟨gb467, 0, none⟩ = some (.int .i64 a1_0) ∧ w'.cell? ⟨gb467, 1, none⟩ = some (.int .i64 a1_1) ∧ w'.cell? ⟨gb467, 2, none⟩ = some (.int .i64 a1_2) ∧ w'.cell? ⟨gb467, 3, none⟩ = some (.int .i64 a1_3)) (ds := []) zq8.q0 (by kernel_rfl) rfl rfl ⟨c_ BK477 0, ⟨c_ BK477 1, ⟨c_ BK477 2, ⟨c_ BK466 0, ⟨c_ BK466 1, ⟨c_ BK466 2, ⟨c_ BK484 0, ⟨c_ BK484 1, ⟨c_ BK484 2, ⟨c_ BK491 0, ⟨c_ BK491 1, ⟨c_ BK491 2, ⟨c_ BK498 0, ⟨c_ BK498 1, ⟨c_ BK498 2, (h4_ BK467)⟩⟩⟩⟩⟩⟩⟩⟩⟩⟩⟩⟩⟩⟩⟩ (fun hHeld => ?_); refine with_tabW compositorlaw10_ScaleIdentity.tab7 compositorlaw10_ScaleIdentity.bits7 (fun HT_ HW_ => ?_)
             generalize w75.drew = w76 at HO475 HO482 HO489 HO496 BK466 BK467 BK477 BK484 BK491 BK498 HB hHeld ⊢
             refine pv_ 0 50 zq8.q1 HT_ ?_
             refine pv_ 1 51 zq8.q2 HT_ ?_
             refine pv_ 2 52 zq8.q3 HT_ ?_
             refine pv_ 3 53 zq8.q4 HT_ ?_
             refine pv_ 4 54 zq8.q5 HT_ ?_
             refine pv_ 5 55 zq8.q6 HT_ ?_
             refine pv_ 6 56 zq8.q7 HT_ ?_
             refine pv_ 7 57 zq8.q8 HT_ ?_
             refine pv_ 8 58 zq8.q9 HT_ ?_
             refine pv_ 9 59 zq8.q10 HT_ ?_
             refine pv_ 10 60 zq8.q11 HT_ ?_
             refine pv_ 11 61 zq8.q12 HT_ ?_
             refine pv_ 12 62 zq8.q13 HT_ ?_
             refine pv_ 13 63 zq8.q14 HT_ ?_
             refine pv_ 14 64 zq8.q15 HT_ ?_
             refine take_ (i := 15) (N := some 65) (v := ?_) (a' := ?_) zq8.q16 rfl rfl (take_ofW HT_.out HW_.out (by kernel_rfl)) (fun _ _ _ h => h) (Or.inl ⟨by rfl, ?_⟩) hHeld ?_ ?_
             rotate_left
             ·
              rintro w' ⟨s0, s1, s2, s3, s4, s5, s6, s7, s8, s9, s10, s11, s12, s13, s14, s15, s16, s17, s18⟩
              go_simp
              with_reducible rfl
             rotate_left
             ·
              simp only [Act.put, List.setIfInBounds_toArray, List.set_cons_zero, List.set_cons_succ, i64_w, i32_w]
              rfl
             refine take_ (i := 16) (N := some 66) (v := ?_) (a' := ?_) zq8.q17 rfl rfl (take_ofW HT_.out HW_.out (by kernel_rfl)) (fun _ _ _ h => h) (Or.inl ⟨by rfl, ?_⟩) hHeld ?_ ?_
             rotate_left
             ·
              rintro w' ⟨s0, s1, s2, s3, s4, s5, s6, s7, s8, s9, s10, s11, s12, s13, s14, s15, s16, s17, s18⟩
              go_simp
              with_reducible rfl
             rotate_left
             ·
              simp only [Act.put, List.setIfInBounds_toArray, List.set_cons_zero, List.set_cons_succ, i64_w, i32_w]
              rfl
             refine one_ (i := 17) (N := some 67) zq8.q18 rfl rfl (one_of HT_.out (by kernel_rfl)) (by decide) (fun K hK => ?_)
             refine gs_ Try.func15 #[.agg #[.int .i64 t471, .int .i64 t472, .slice Ao47 t473.length co47], .agg #[.int .i64 a0_0, .int .i64 a0_1, .slice A0_2 l0_2.length c0_2]] ?_
             with_reducible refine (compositorlaw10_same.calls kj2 t471 t472 _ _ t473 a0_0 a0_1 _ _ l0_2 true _ ?side1 ?side2 ?side3 ?side4 A28.out).mono ?_
             (case side1 => repeat (first | exact (Kd.R_reads' HO475.out).2.2 | (with_reducible refine Kd.C_alloc ?_ _) | (with_reducible refine Kd.C_drewN ?_ _) | (with_reducible refine Kd.C_drew ?_)))
             (case side2 => exact (Kd.R_reads' HO475.out).2.1)
             (case side3 => repeat (first | exact (Kd.C_below HR0_2.out HB.out) | (with_reducible refine Kd.C_alloc ?_ _) | (with_reducible refine Kd.C_drewN ?_ _) | (with_reducible refine Kd.C_drew ?_)))
             (case side4 => exact HC0_2.out)
             rintro e w77 ⟨rfl, hb⟩
             refine ⟨_, rfl, ?_⟩
             replace HO475 := Aside0.mk (Kd.R_below (by (with_reducible repeat (first | apply Kd.R_alloc | apply Kd.R_drewN | apply Kd.R_drew)); exact HO475.out) hb)
             replace HO482 := Aside0.mk (Kd.R_below (by (with_reducible repeat (first | apply Kd.R_alloc | apply Kd.R_drewN | apply Kd.R_drew)); exact HO482.out) hb)
             replace HO489 := Aside0.mk (Kd.R_below (by (with_reducible repeat (first | apply Kd.R_alloc | apply Kd.R_drewN | apply Kd.R_drew)); exact HO489.out) hb)
             replace HO496 := Aside0.mk (Kd.R_below (by (with_reducible repeat (first | apply Kd.R_alloc | apply Kd.R_drewN | apply Kd.R_drew)); exact HO496.out) hb)
             replace BK466 := bb_ BK466 hb
             replace BK467 := bb_ BK467 hb
             replace BK477 := bb_ BK477 hb
             replace BK484 := bb_ BK484 hb
             replace BK491 := bb_ BK491 hb
             replace BK498 := bb_ BK498 hb
             replace HB := hb_ HB hb
             (try clear hb); (try clear hb2); (try clear hk); (try clear hi)
             refine hK.out _ _ ⟨c_ BK477 0, ⟨c_ BK477 1, ⟨c_ BK477 2, ⟨c_ BK466 0, ⟨c_ BK466 1, ⟨c_ BK466 2, ⟨c_ BK484 0, ⟨c_ BK484 1, ⟨c_ BK484 2, ⟨c_ BK491 0, ⟨c_ BK491 1, ⟨c_ BK491 2, ⟨c_ BK498 0, ⟨c_ BK498 1, ⟨c_ BK498 2, (h4_ BK467)⟩⟩⟩⟩⟩⟩⟩⟩⟩⟩⟩⟩⟩⟩⟩ (fun hHeld => ?_)
             clear hK K
             refine norm_ (a' := ?_) ?_ ?_
             rotate_left
             ·
              show Act.put _ (some 67) _ = _
              simp only [Act.put, List.setIfInBounds_toArray, List.set_cons_zero, List.set_cons_succ, i64_w, i32_w]
              rfl
             refine pv_ 18 68 zq8.q19 HT_ ?_
             refine pv_ 19 69 zq8.q20 HT_ ?_
             refine take_ (i := 20) (N := some 70) (v := ?_) (a' := ?_) zq8.q21 rfl rfl (take_ofW HT_.out HW_.out (by kernel_rfl)) (fun _ _ _ h => h) (Or.inl ⟨by rfl, ?_⟩) hHeld ?_ ?_
             rotate_left
             ·
              rintro w' ⟨s0, s1, s2, s3, s4, s5, s6, s7, s8, s9, s10, s11, s12, s13, s14, s15, s16, s17, s18⟩
              go_simp
              with_reducible rfl
             rotate_left
             ·
              simp only [Act.put, List.setIfInBounds_toArray, List.set_cons_zero, List.set_cons_succ, i64_w, i32_w]
              rfl
             refine take_ (i := 21) (N := some 71) (v := ?_) (a' := ?_) zq8.q22 rfl rfl (take_ofW HT_.out HW_.out (by kernel_rfl)) (fun _ _ _ h => h) (Or.inl ⟨by rfl, ?_⟩) hHeld ?_ ?_
             rotate_left
             ·
              rintro w' ⟨s0, s1, s2, s3, s4, s5, s6, s7, s8, s9, s10, s11, s12, s13, s14, s15, s16, s17, s18⟩
              go_simp
              with_reducible rfl
             rotate_left
             ·
              simp only [Act.put, List.setIfInBounds_toArray, List.set_cons_zero, List.set_cons_succ, i64_w, i32_w]
              rfl
             refine one_ (i := 22) (N := some 72) zq8.q23 rfl rfl (one_of HT_.out (by kernel_rfl)) (by decide) (fun K hK => ?_)
             refine gs_ Try.func15 #[.agg #[.int .i64 t478, .int .i64 t479, .slice Ao55 t480.length co55], .agg #[.int .i64 a0_0, .int .i64 a0_1, .slice A0_2 l0_2.length c0_2]] ?_
             with_reducible refine (compositorlaw10_same.calls kj2 t478 t479 _ _ t480 a0_0 a0_1 _ _ l0_2 true _ ?side1 ?side2 ?side3 ?side4 A30.out).mono ?_
             (case side1 => repeat (first | exact (Kd.R_reads' HO482.out).2.2 | (with_reducible refine Kd.C_alloc ?_ _) | (with_reducible refine Kd.C_drewN ?_ _) | (with_reducible refine Kd.C_drew ?_)))
             (case side2 => exact (Kd.R_reads' HO482.out).2.1)
             (case side3 => repeat (first | exact (Kd.C_below HR0_2.out HB.out) | (with_reducible refine Kd.C_alloc ?_ _) | (with_reducible refine Kd.C_drewN ?_ _) | (with_reducible refine Kd.C_drew ?_)))
             (case side4 => exact HC0_2.out)
             rintro e w78 ⟨rfl, hb⟩
             refine ⟨_, rfl, ?_⟩
             replace HO475 := Aside0.mk (Kd.R_below (by (with_reducible repeat (first | apply Kd.R_alloc | apply Kd.R_drewN | apply Kd.R_drew)); exact HO475.out) hb)
             replace HO482 := Aside0.mk (Kd.R_below (by (with_reducible repeat (first | apply Kd.R_alloc | apply Kd.R_drewN | apply Kd.R_drew)); exact HO482.out) hb)
             replace HO489 := Aside0.mk (Kd.R_below (by (with_reducible repeat (first | apply Kd.R_alloc | apply Kd.R_drewN | apply Kd.R_drew)); exact HO489.out) hb)
             replace HO496 := Aside0.mk (Kd.R_below (by (with_reducible repeat (first | apply Kd.R_alloc | apply Kd.R_drewN | apply Kd.R_drew)); exact HO496.out) hb)
             replace BK466 := bb_ BK466 hb
             replace BK467 := bb_ BK467 hb
             replace BK477 := bb_ BK477 hb
             replace BK484 := bb_ BK484 hb
             replace BK491 := bb_ BK491 hb
             replace BK498 := bb_ BK498 hb
             replace HB := hb_ HB hb
             (try clear hb); (try clear hb2); (try clear hk); (try clear hi)
             refine hK.out _ _ ⟨c_ BK477 0, ⟨c_ BK477 1, ⟨c_ BK477 2, ⟨c_ BK466 0, ⟨c_ BK466 1, ⟨c_ BK466 2, ⟨c_ BK484 0, ⟨c_ BK484 1, ⟨c_ BK484 2, ⟨c_ BK491 0, ⟨c_ BK491 1, ⟨c_ BK491 2, ⟨c_ BK498 0, ⟨c_ BK498 1, ⟨c_ BK498 2, (h4_ BK467)⟩⟩⟩⟩⟩⟩⟩⟩⟩⟩⟩⟩⟩⟩⟩ (fun hHeld => ?_)
             clear hK K
             refine norm_ (a' := ?_) ?_ ?_
             rotate_left
             ·
              show Act.put _ (some 72) _ = _
              simp only [Act.put, List.setIfInBounds_toArray, List.set_cons_zero, List.set_cons_succ, i64_w, i32_w]
              rfl
             refine pv_ 23 73 zq8.q24 HT_ ?_
             refine pv_ 24 74 zq8.q25 HT_ ?_
             refine take_ (i := 25) (N := some 75) (v := ?_) (a' := ?_) zq8.q26 rfl rfl (take_ofW HT_.out HW_.out (by kernel_rfl)) (fun _ _ _ h => h) (Or.inl ⟨by rfl, ?_⟩) hHeld ?_ ?_
             rotate_left
             ·
              rintro w' ⟨s0, s1, s2, s3, s4, s5, s6, s7, s8, s9, s10, s11, s12, s13, s14, s15, s16, s17, s18⟩
              go_simp
              with_reducible rfl
             rotate_left
             ·
              simp only [Act.put, List.setIfInBounds_toArray, List.set_cons_zero, List.set_cons_succ, i64_w, i32_w]
              rfl
             refine take_ (i := 26) (N := some 76) (v := ?_) (a' := ?_) zq8.q27 rfl rfl (take_ofW HT_.out HW_.out (by kernel_rfl)) (fun _ _ _ h => h) (Or.inl ⟨by rfl, ?_⟩) hHeld ?_ ?_
             rotate_left
             ·
              rintro w' ⟨s0, s1, s2, s3, s4, s5, s6, s7, s8, s9, s10, s11, s12, s13, s14, s15, s16, s17, s18⟩
              go_simp
              with_reducible rfl
             rotate_left
             ·
              simp only [Act.put, List.setIfInBounds_toArray, List.set_cons_zero, List.set_cons_succ, i64_w, i32_w]
              rfl
             refine one_ (i := 27) (N := some 77) zq8.q28 rfl rfl (one_of HT_.out (by kernel_rfl)) (by decide) (fun K hK => ?_)
             refine gs_ Try.func15 #[.agg #[.int .i64 t485, .int .i64 t486, .slice Ao64 t487.length co64], .agg #[.int .i64 a0_0, .int .i64 a0_1, .slice A0_2 l0_2.length c0_2]] ?_
             with_reducible refine (compositorlaw10_same.calls kj2 t485 t486 _ _ t487 a0_0 a0_1 _ _ l0_2 true _ ?side1 ?side2 ?side3 ?side4 A32.out).mono ?_
             (case side1 => repeat (first | exact (Kd.R_reads' HO489.out).2.2 | (with_reducible refine Kd.C_alloc ?_ _) | (with_reducible refine Kd.C_drewN ?_ _) | (with_reducible refine Kd.C_drew ?_)))
             (case side2 => exact (Kd.R_reads' HO489.out).2.1)
             (case side3 => repeat (first | exact (Kd.C_below HR0_2.out HB.out) | (with_reducible refine Kd.C_alloc ?_ _) | (with_reducible refine Kd.C_drewN ?_ _) | (with_reducible refine Kd.C_drew ?_)))
             (case side4 => exact HC0_2.out)
             rintro e w79 ⟨rfl, hb⟩
             refine ⟨_, rfl, ?_⟩
             replace HO475 := Aside0.mk (Kd.R_below (by (with_reducible repeat (first | apply Kd.R_alloc | apply Kd.R_drewN | apply Kd.R_drew)); exact HO475.out) hb)
             replace HO482 := Aside0.mk (Kd.R_below (by (with_reducible repeat (first | apply Kd.R_alloc | apply Kd.R_drewN | apply Kd.R_drew)); exact HO482.out) hb)
             replace HO489 := Aside0.mk (Kd.R_below (by (with_reducible repeat (first | apply Kd.R_alloc | apply Kd.R_drewN | apply Kd.R_drew)); exact HO489.out) hb)
             replace HO496 := Aside0.mk (Kd.R_below (by (with_reducible repeat (first | apply Kd.R_alloc | apply Kd.R_drewN | apply Kd.R_drew)); exact HO496.out) hb)
             replace BK466 := bb_ BK466 hb
             replace BK467 := bb_ BK467 hb
             replace BK477 := bb_ BK477 hb
             replace BK484 := bb_ BK484 hb
             replace BK491 := bb_ BK491 hb
             replace BK498 := bb_ BK498 hb
             replace HB := hb_ HB hb
             (try clear hb); (try clear hb2); (try clear hk); (try clear hi)
             refine hK.out _ _ ⟨c_ BK477 0, ⟨c_ BK477 1, ⟨c_ BK477 2, ⟨c_ BK466 0, ⟨c_ BK466 1, ⟨c_ BK466 2, ⟨c_ BK484 0, ⟨c_ BK484 1, ⟨c_ BK484 2, ⟨c_ BK491 0, ⟨c_ BK491 1, ⟨c_ BK491 2, ⟨c_ BK498 0, ⟨c_ BK498 1, ⟨c_ BK498 2, (h4_ BK467)⟩⟩⟩⟩⟩⟩⟩⟩⟩⟩⟩⟩⟩⟩⟩ (fun hHeld => ?_)
             clear hK K
             refine norm_ (a' := ?_) ?_ ?_
             rotate_left
             ·
              show Act.put _ (some 77) _ = _
              simp only [Act.put, List.setIfInBounds_toArray, List.set_cons_zero, List.set_cons_succ, i64_w, i32_w]
              rfl
             refine pv_ 28 78 zq8.q29 HT_ ?_
             refine pv_ 29 79 zq8.q30 HT_ ?_
             refine take_ (i := 30) (N := some 80) (v := ?_) (a' := ?_) zq8.q31 rfl rfl (take_ofW HT_.out HW_.out (by kernel_rfl)) (fun _ _ _ h => h) (Or.inl ⟨by rfl, ?_⟩) hHeld ?_ ?_
             rotate_left
             ·
              rintro w' ⟨s0, s1, s2, s3, s4, s5, s6, s7, s8, s9, s10, s11, s12, s13, s14, s15, s16, s17, s18⟩
              go_simp
              with_reducible rfl
             rotate_left
             ·
              simp only [Act.put, List.setIfInBounds_toArray, List.set_cons_zero, List.set_cons_succ, i64_w, i32_w]
              rfl
             refine take_ (i := 31) (N := some 81) (v := ?_) (a' := ?_) zq8.q32 rfl rfl (take_ofW HT_.out HW_.out (by kernel_rfl)) (fun _ _ _ h => h) (Or.inl ⟨by rfl, ?_⟩) hHeld ?_ ?_
             rotate_left
             ·
              rintro w' ⟨s0, s1, s2, s3, s4, s5, s6, s7, s8, s9, s10, s11, s12, s13, s14, s15, s16, s17, s18⟩
              go_simp
              with_reducible rfl
             rotate_left
             ·
              simp only [Act.put, List.setIfInBounds_toArray, List.set_cons_zero, List.set_cons_succ, i64_w, i32_w]
              rfl
             refine one_ (i := 32) (N := some 82) zq8.q33 rfl rfl (one_of HT_.out (by kernel_rfl)) (by decide) (fun K hK => ?_)
             refine gs_ Try.func15 #[.agg #[.int .i64 t492, .int .i64 t493, .slice Ao74 t494.length co74], .agg #[.int .i64 a0_0, .int .i64 a0_1, .slice A0_2 l0_2.length c0_2]] ?_
             with_reducible refine (compositorlaw10_same.calls kj2 t492 t493 _ _ t494 a0_0 a0_1 _ _ l0_2 true _ ?side1 ?side2 ?side3 ?side4 A34.out).mono ?_
             (case side1 => repeat (first | exact (Kd.R_reads' HO496.out).2.2 | (with_reducible refine Kd.C_alloc ?_ _) | (with_reducible refine Kd.C_drewN ?_ _) | (with_reducible refine Kd.C_drew ?_)))
             (case side2 => exact (Kd.R_reads' HO496.out).2.1)
             (case side3 => repeat (first | exact (Kd.C_below HR0_2.out HB.out) | (with_reducible refine Kd.C_alloc ?_ _) | (with_reducible refine Kd.C_drewN ?_ _) | (with_reducible refine Kd.C_drew ?_)))
             (case side4 => exact HC0_2.out)
             rintro e w80 ⟨rfl, hb⟩
             refine ⟨_, rfl, ?_⟩
             replace HO475 := Aside0.mk (Kd.R_below (by (with_reducible repeat (first | apply Kd.R_alloc | apply Kd.R_drewN | apply Kd.R_drew)); exact HO475.out) hb)
             replace HO482 := Aside0.mk (Kd.R_below (by (with_reducible repeat (first | apply Kd.R_alloc | apply Kd.R_drewN | apply Kd.R_drew)); exact HO482.out) hb)
             replace HO489 := Aside0.mk (Kd.R_below (by (with_reducible repeat (first | apply Kd.R_alloc | apply Kd.R_drewN | apply Kd.R_drew)); exact HO489.out) hb)
             replace HO496 := Aside0.mk (Kd.R_below (by (with_reducible repeat (first | apply Kd.R_alloc | apply Kd.R_drewN | apply Kd.R_drew)); exact HO496.out) hb)
             replace BK466 := bb_ BK466 hb
             replace BK467 := bb_ BK467 hb
             replace BK477 := bb_ BK477 hb
             replace BK484 := bb_ BK484 hb
             replace BK491 := bb_ BK491 hb
             replace BK498 := bb_ BK498 hb
             replace HB := hb_ HB hb
             (try clear hb); (try clear hb2); (try clear hk); (try clear hi)
             refine hK.out _ _ ⟨c_ BK477 0, ⟨c_ BK477 1, ⟨c_ BK477 2, ⟨c_ BK466 0, ⟨c_ BK466 1, ⟨c_ BK466 2, ⟨c_ BK484 0, ⟨c_ BK484 1, ⟨c_ BK484 2, ⟨c_ BK491 0, ⟨c_ BK491 1, ⟨c_ BK491 2, ⟨c_ BK498 0, ⟨c_ BK498 1, ⟨c_ BK498 2, (h4_ BK467)⟩⟩⟩⟩⟩⟩⟩⟩⟩⟩⟩⟩⟩⟩⟩ (fun hHeld => ?_)
             clear hK K
             refine norm_ (a' := ?_) ?_ ?_
             rotate_left
             ·
              show Act.put _ (some 82) _ = _
              simp only [Act.put, List.setIfInBounds_toArray, List.set_cons_zero, List.set_cons_succ, i64_w, i32_w]
              rfl
             refine pv_ 33 83 zq8.q34 HT_ ?_
             refine pv_ 34 84 zq8.q35 HT_ ?_
             refine pv_ 36 86 zq8.q36 HT_ ?_
             refine pv_ 38 88 zq8.q37 HT_ ?_
             refine pv_ 40 90 zq8.q38 HT_ ?_
             refine pv_ 42 92 zq8.q39 HT_ ?_
             refine take_ (i := 35) (N := some 85) (v := ?_) (a' := ?_) zq8.q40 rfl rfl (take_ofW HT_.out HW_.out (by kernel_rfl)) (fun _ _ _ h => h) (Or.inl ⟨by rfl, ?_⟩) hHeld ?_ ?_
             rotate_left
             ·
              rintro w' ⟨s0, s1, s2, s3, s4, s5, s6, s7, s8, s9, s10, s11, s12, s13, s14, s15, s16, s17, s18⟩
              go_simp
              with_reducible rfl
             rotate_left
             ·
              simp only [Act.put, List.setIfInBounds_toArray, List.set_cons_zero, List.set_cons_succ, i64_w, i32_w]
              rfl
             refine take_ (i := 37) (N := some 87) (v := ?_) (a' := ?_) zq8.q41 rfl rfl (take_ofW HT_.out HW_.out (by kernel_rfl)) (fun _ _ _ h => h) (Or.inl ⟨by rfl, ?_⟩) hHeld ?_ ?_
             rotate_left
             ·
              rintro w' ⟨s0, s1, s2, s3, s4, s5, s6, s7, s8, s9, s10, s11, s12, s13, s14, s15, s16, s17, s18⟩
              go_simp
              with_reducible rfl
             rotate_left
             ·
              simp only [Act.put, List.setIfInBounds_toArray, List.set_cons_zero, List.set_cons_succ, i64_w, i32_w]
              rfl
             refine take_ (i := 39) (N := some 89) (v := ?_) (a' := ?_) zq8.q42 rfl rfl (take_ofW HT_.out HW_.out (by kernel_rfl)) (fun _ _ _ h => h) (Or.inl ⟨by rfl, ?_⟩) hHeld ?_ ?_
             rotate_left
             ·
              rintro w' ⟨s0, s1, s2, s3, s4, s5, s6, s7, s8, s9, s10, s11, s12, s13, s14, s15, s16, s17, s18⟩
              go_simp
              with_reducible rfl
             rotate_left
             ·
              simp only [Act.put, List.setIfInBounds_toArray, List.set_cons_zero, List.set_cons_succ, i64_w, i32_w]
              rfl
             refine take_ (i := 41) (N := some 91) (v := ?_) (a' := ?_) zq8.q43 rfl rfl (take_ofW HT_.out HW_.out (by kernel_rfl)) (fun _ _ _ h => h) (Or.inl ⟨by rfl, ?_⟩) hHeld ?_ ?_
             rotate_left
             ·
              rintro w' ⟨s0, s1, s2, s3, s4, s5, s6, s7, s8, s9, s10, s11, s12, s13, s14, s15, s16, s17, s18⟩
              go_simp
              with_reducible rfl
             rotate_left
             ·
              simp only [Act.put, List.setIfInBounds_toArray, List.set_cons_zero, List.set_cons_succ, i64_w, i32_w]
              rfl
             refine take_ (i := 43) (N := some 93) (v := ?_) (a' := ?_) zq8.q44 rfl rfl (take_ofW HT_.out HW_.out (by kernel_rfl)) (fun _ _ _ h => h) (Or.inl ⟨by rfl, ?_⟩) hHeld ?_ ?_
             rotate_left
             ·
              rintro w' ⟨s0, s1, s2, s3, s4, s5, s6, s7, s8, s9, s10, s11, s12, s13, s14, s15, s16, s17, s18⟩
              go_simp
              with_reducible rfl
             rotate_left
             ·
              simp only [Act.put, List.setIfInBounds_toArray, List.set_cons_zero, List.set_cons_succ, i64_w, i32_w]
              rfl
             refine take_ (i := 45) (N := some 95) (v := ?_) (a' := ?_) zq8.q45 rfl rfl (take_ofW HT_.out HW_.out (by kernel_rfl)) (fun _ _ _ h => h) (Or.inl ⟨by rfl, ?_⟩) hHeld ?_ ?_
             rotate_left
             ·
              rintro w' ⟨s0, s1, s2, s3, s4, s5, s6, s7, s8, s9, s10, s11, s12, s13, s14, s15, s16, s17, s18⟩
              go_simp
              with_reducible rfl
             rotate_left
             ·
              simp only [Act.put, List.setIfInBounds_toArray, List.set_cons_zero, List.set_cons_succ, i64_w, i32_w]
              rfl
             refine one_ (i := 44) (N := some 94) zq8.q46 rfl rfl (one_of HT_.out (by kernel_rfl)) (by decide) (fun K hK => ?_)
             refine gs_ Try.func22 #[.agg #[.int .i64 a1_0, .int .i64 a1_1, .int .i64 a1_2, .int .i64 a1_3], .int .i64 a0_0, .int .i64 a0_1, .int .i64 a0_0, .int .i64 a0_1] ?_
             with_reducible refine (scale_MapRect.calls kj2 a1_0 a1_1 a1_2 a1_3 a0_0 a0_1 a0_0 a0_1 t503 t504 t505 t506 _ A36.out).mono ?_
             rintro e w81 ⟨rfl, hb⟩
             refine ⟨_, rfl, ?_⟩
             replace HO475 := Aside0.mk (Kd.R_below (by (with_reducible repeat (first | apply Kd.R_alloc | apply Kd.R_drewN | apply Kd.R_drew)); exact HO475.out) hb)
             replace HO482 := Aside0.mk (Kd.R_below (by (with_reducible repeat (first | apply Kd.R_alloc | apply Kd.R_drewN | apply Kd.R_drew)); exact HO482.out) hb)
             replace HO489 := Aside0.mk (Kd.R_below (by (with_reducible repeat (first | apply Kd.R_alloc | apply Kd.R_drewN | apply Kd.R_drew)); exact HO489.out) hb)
             replace HO496 := Aside0.mk (Kd.R_below (by (with_reducible repeat (first | apply Kd.R_alloc | apply Kd.R_drewN | apply Kd.R_drew)); exact HO496.out) hb)
             replace BK466 := bb_ BK466 hb
             replace BK467 := bb_ BK467 hb
             replace BK477 := bb_ BK477 hb
             replace BK484 := bb_ BK484 hb
             replace BK491 := bb_ BK491 hb
             replace BK498 := bb_ BK498 hb
             replace HB := hb_ HB hb
             (try clear hb); (try clear hb2); (try clear hk); (try clear hi)
             refine hK.out _ _ ⟨c_ BK477 0, ⟨c_ BK477 1, ⟨c_ BK477 2, ⟨c_ BK466 0, ⟨c_ BK466 1, ⟨c_ BK466 2, ⟨c_ BK484 0, ⟨c_ BK484 1, ⟨c_ BK484 2, ⟨c_ BK491 0, ⟨c_ BK491 1, ⟨c_ BK491 2, ⟨c_ BK498 0, ⟨c_ BK498 1, ⟨c_ BK498 2, (h4_ BK467)⟩⟩⟩⟩⟩⟩⟩⟩⟩⟩⟩⟩⟩⟩⟩ (fun hHeld => ?_)
             clear hK K
             refine norm_ (a' := ?_) ?_ ?_
             rotate_left
             ·
              show Act.put _ (some 94) _ = _
              simp only [Act.put, List.setIfInBounds_toArray, List.set_cons_zero, List.set_cons_succ, i64_w, i32_w]
              rfl
             refine one_ (i := 46) (N := some 96) zq8.q47 rfl rfl (one_of HT_.out (by kernel_rfl)) (by decide) (fun K hK => ?_)
             refine gs_ Try.func25 #[.agg #[.int .i64 a1_0, .int .i64 a1_1, .int .i64 a1_2, .int .i64 a1_3]] ?_
             with_reducible refine (compositorref04_Canonical.calls a1_0 a1_1 a1_2 a1_3 t507 t508 t509 t510 _ A37.out).mono ?_
             rintro e w82 ⟨rfl, hb⟩
             refine ⟨_, rfl, ?_⟩
             replace HO475 := Aside0.mk (Kd.R_below (by (with_reducible repeat (first | apply Kd.R_alloc | apply Kd.R_drewN | apply Kd.R_drew)); exact HO475.out) hb)
             replace HO482 := Aside0.mk (Kd.R_below (by (with_reducible repeat (first | apply Kd.R_alloc | apply Kd.R_drewN | apply Kd.R_drew)); exact HO482.out) hb)
             replace HO489 := Aside0.mk (Kd.R_below (by (with_reducible repeat (first | apply Kd.R_alloc | apply Kd.R_drewN | apply Kd.R_drew)); exact HO489.out) hb)
             replace HO496 := Aside0.mk (Kd.R_below (by (with_reducible repeat (first | apply Kd.R_alloc | apply Kd.R_drewN | apply Kd.R_drew)); exact HO496.out) hb)
             replace BK466 := bb_ BK466 hb
             replace BK467 := bb_ BK467 hb
             replace BK477 := bb_ BK477 hb
             replace BK484 := bb_ BK484 hb
             replace BK491 := bb_ BK491 hb
             replace BK498 := bb_ BK498 hb
             replace HB := hb_ HB hb
             (try clear hb); (try clear hb2); (try clear hk); (try clear hi)
             refine hK.out _ _ ⟨c_ BK477 0, ⟨c_ BK477 1, ⟨c_ BK477 2, ⟨c_ BK466 0, ⟨c_ BK466 1, ⟨c_ BK466 2, ⟨c_ BK484 0, ⟨c_ BK484 1, ⟨c_ BK484 2, ⟨c_ BK491 0, ⟨c_ BK491 1, ⟨c_ BK491 2, ⟨c_ BK498 0, ⟨c_ BK498 1, ⟨c_ BK498 2, (h4_ BK467)⟩⟩⟩⟩⟩⟩⟩⟩⟩⟩⟩⟩⟩⟩⟩ (fun hHeld => ?_)
             clear hK K
             refine norm_ (a' := ?_) ?_ ?_
             rotate_left
             ·
              show Act.put _ (some 96) _ = _
              simp only [Act.put, List.setIfInBounds_toArray, List.set_cons_zero, List.set_cons_succ, i64_w, i32_w]
              rfl
             refine pv_ 47 97 zq8.q48 HT_ ?_
             refine pv_ 48 98 zq8.q49 HT_ ?_
             refine pv_ 49 99 zq8.q50 HT_ ?_
             refine one_ (i := 50) (N := some 100) zq8.q51 rfl rfl (one_of HT_.out (by kernel_rfl)) (by decide) (fun K hK => ?_)
             refine gs_ Try.func12 #[] ?_
             with_reducible refine (compositorlaw10_exampleHolds.calls kj2  t511 _ A39.out).mono ?_
             rintro e w83 ⟨rfl, hb⟩
             refine ⟨_, rfl, ?_⟩
             replace HO475 := Aside0.mk (Kd.R_below (by (with_reducible repeat (first | apply Kd.R_alloc | apply Kd.R_drewN | apply Kd.R_drew)); exact HO475.out) hb)
             replace HO482 := Aside0.mk (Kd.R_below (by (with_reducible repeat (first | apply Kd.R_alloc | apply Kd.R_drewN | apply Kd.R_drew)); exact HO482.out) hb)
             replace HO489 := Aside0.mk (Kd.R_below (by (with_reducible repeat (first | apply Kd.R_alloc | apply Kd.R_drewN | apply Kd.R_drew)); exact HO489.out) hb)
             replace HO496 := Aside0.mk (Kd.R_below (by (with_reducible repeat (first | apply Kd.R_alloc | apply Kd.R_drewN | apply Kd.R_drew)); exact HO496.out) hb)
             replace BK466 := bb_ BK466 hb
             replace BK467 := bb_ BK467 hb
             replace BK477 := bb_ BK477 hb
             replace BK484 := bb_ BK484 hb
             replace BK491 := bb_ BK491 hb
             replace BK498 := bb_ BK498 hb
             replace HB := hb_ HB hb
             (try clear hb); (try clear hb2); (try clear hk); (try clear hi)
             refine hK.out _ _ ⟨c_ BK477 0, ⟨c_ BK477 1, ⟨c_ BK477 2, ⟨c_ BK466 0, ⟨c_ BK466 1, ⟨c_ BK466 2, ⟨c_ BK484 0, ⟨c_ BK484 1, ⟨c_ BK484 2, ⟨c_ BK491 0, ⟨c_ BK491 1, ⟨c_ BK491 2, ⟨c_ BK498 0, ⟨c_ BK498 1, ⟨c_ BK498 2, (h4_ BK467)⟩⟩⟩⟩⟩⟩⟩⟩⟩⟩⟩⟩⟩⟩⟩ (fun hHeld => ?_)
             clear hK K
             refine norm_ (a' := ?_) ?_ ?_
             rotate_left
             ·
              show Act.put _ (some 100) _ = _
              simp only [Act.put, List.setIfInBounds_toArray, List.set_cons_zero, List.set_cons_succ, i64_w, i32_w]
              rfl
             refine pv_ 51 101 zq8.q52 HT_ ?_
             refine pv_ 52 4 zq8.q53 HT_ ?_
             refine done_ (done_of HT_.out (by kernel_rfl)) ?_
             try go_wp2
             go_ret
             exact ⟨by first | rfl | (simp [errW_none, errW_some] <;> rfl) | (simp [*, errW_none, errW_some] <;> rfl), by repeat (first | (with_reducible first | exact HB.out | apply below_alloc | apply pw_below_drewN | apply below_drew1 | refine below_set ?_ GE466.out | refine below_set ?_ GE467.out | refine below_set ?_ GE477.out | refine below_set ?_ GE484.out | refine below_set ?_ GE491.out | refine below_set ?_ GE498.out) | exact HB.out)⟩
            ·
             rw [if_neg c38] at H
             have c38b0 : (t503 == t507 && (t504 == t508 && (t505 == t509 && (t506 == t510)))) = false := by simpa using c38
             (try (have c38b1 : decide (t503 = t507 && (t504 == t508 && (t505 == t509 && (t506 == t510)))) = false := by simpa using c38))
             (try (have c38b2 : (t503 == t507 && (t504 == t508 && (t505 == t509 && (t506 == t510)))) = false := by simpa using c38))
             (try (have c38b3 : ¬ (t503 = t507 && (t504 == t508 && (t505 == t509 && (t506 == t510)))) := by simpa using c38))
             clear c38
             exact absurd H (by simp)
           ·
            replace c35 := Bool.eq_false_iff.mpr c35
            subst c35
            have H1 : (some false) = some true := by rw [if_neg (show ¬ (false = true) by decide)] at H; exact H
            clear H
            have H := H1
            clear H1
            exact absurd H (by simp)
          ·
           replace c33 := Bool.eq_false_iff.mpr c33
           subst c33
           have H1 : (some false) = some true := by rw [if_neg (show ¬ (false = true) by decide)] at H; exact H
           clear H
           have H := H1
           clear H1
           exact absurd H (by simp)
         ·
          replace c31 := Bool.eq_false_iff.mpr c31
          subst c31
          have H1 : (some false) = some true := by rw [if_neg (show ¬ (false = true) by decide)] at H; exact H
          clear H
          have H := H1
          clear H1
          exact absurd H (by simp)
        ·
         replace c29 := Bool.eq_false_iff.mpr c29
         subst c29
         have H1 : (some false) = some true := by rw [if_neg (show ¬ (false = true) by decide)] at H; exact H
         clear H
         have H := H1
         clear H1
         exact absurd H (by simp)
       ·
        rw [if_neg c27] at H
        have c27b0 : (t497 == 0) = false := beq_eq_false_iff_ne.mpr c27
        have c27b1 : (t497 != 0) = true := bne_iff_ne.mpr c27
        exact absurd H (by simp)
      ·
       rw [if_neg c26] at H
       have c26b0 : (t490 == 0) = false := beq_eq_false_iff_ne.mpr c26
       have c26b1 : (t490 != 0) = true := bne_iff_ne.mpr c26
       exact absurd H (by simp)
     ·
      rw [if_neg c25] at H
      have c25b0 : (t483 == 0) = false := beq_eq_false_iff_ne.mpr c25
      have c25b1 : (t483 != 0) = true := bne_iff_ne.mpr c25
      exact absurd H (by simp)
    ·
     rw [if_neg c24] at H
     have c24b0 : (t476 == 0) = false := beq_eq_false_iff_ne.mpr c24
     have c24b1 : (t476 != 0) = true := bne_iff_ne.mpr c24
     exact absurd H (by simp)

end Go.Proofs.Ythpmfhfnkgbkjaa.All
