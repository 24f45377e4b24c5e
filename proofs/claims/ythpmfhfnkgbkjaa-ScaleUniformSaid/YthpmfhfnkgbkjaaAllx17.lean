-- Written by a program of this session, which runs the kit's print.py and puts in functions that this session typed. Not trusted: Lean checks it.
import Derived.Test.YthpmfhfnkgbkjaaHand
import Derived.Test.YthpmfhfnkgbkjaaAllx0
import Derived.Test.YthpmfhfnkgbkjaaAllx7
import Derived.Test.YthpmfhfnkgbkjaaAllx15
import Derived.Test.YthpmfhfnkgbkjaaAllx16
namespace Go.Proofs.Ythpmfhfnkgbkjaa.All
open Go.Proofs.YthpmfhfnkgbkjaaSq
open Go.RowKit Go.Proofs.YthpmfhfnkgbkjaaW.PrintWords Go.Proofs.YthpmfhfnkgbkjaaW.PrintLast Go.Proofs.YthpmfhfnkgbkjaaW.PrintMore
attribute [local go_sem] max2_int min2_int max_two min_two max_three min_three max_four min_four   -- for this text's walks alone
set_option linter.unusedVariables false
set_option linter.unusedSimpArgs false

/-! ### scale_MapRect: function 22 -/
abbrev zq22.q0 := Go.Proofs.YthpmfhfnkgbkjaaHand.bz 35 0
abbrev zq22.q1 := Go.Proofs.YthpmfhfnkgbkjaaHand.bz 35 1
abbrev zq22.q2 := Go.Proofs.YthpmfhfnkgbkjaaHand.bz 35 5
abbrev zq22.q3 := Go.Proofs.YthpmfhfnkgbkjaaHand.bz 35 21
abbrev zq22.q4 := Go.Proofs.YthpmfhfnkgbkjaaHand.bz 35 149
abbrev zq22.q5 := Go.Proofs.YthpmfhfnkgbkjaaHand.bz 35 661
abbrev zq22.q6 := Go.Proofs.YthpmfhfnkgbkjaaHand.bz 35 2709
abbrev zq22.q7 := Go.Proofs.YthpmfhfnkgbkjaaHand.bz 35 19093
abbrev zq22.q8 := Go.Proofs.YthpmfhfnkgbkjaaHand.bz 35 150165
abbrev zq22.q9 := Go.Proofs.YthpmfhfnkgbkjaaHand.bz 35 674453
abbrev zq22.q10 := Go.Proofs.YthpmfhfnkgbkjaaHand.bz 35 9063061
abbrev zq22.q11 := Go.Proofs.YthpmfhfnkgbkjaaHand.bz 35 76171925
abbrev zq22.q12 := Go.Proofs.YthpmfhfnkgbkjaaHand.bz 35 344607381
abbrev zq22.q13 := Go.Proofs.YthpmfhfnkgbkjaaHand.bz 35 344607383
abbrev zq22.q14 := Go.Proofs.YthpmfhfnkgbkjaaHand.bz 35 344607391
abbrev zq22.q15 := Go.Proofs.YthpmfhfnkgbkjaaHand.bz 35 344607647
abbrev zq22.q16 := Go.Proofs.YthpmfhfnkgbkjaaHand.bz 35 344608671
abbrev zq22.q17 := Go.Proofs.YthpmfhfnkgbkjaaHand.bz 35 344641439
abbrev zq22.q18 := Go.Proofs.YthpmfhfnkgbkjaaHand.bz 35 344706975
abbrev zq22.q19 := Go.Proofs.YthpmfhfnkgbkjaaHand.bz 35 344969119
abbrev zq22.q20 := Go.Proofs.YthpmfhfnkgbkjaaHand.bz 35 361746335
abbrev zq22.q21 := Go.Proofs.YthpmfhfnkgbkjaaHand.bz 35 395300767
abbrev zq22.q22 := Go.Proofs.YthpmfhfnkgbkjaaHand.bz 35 529518495
abbrev zq22.q23 := Go.Proofs.YthpmfhfnkgbkjaaHand.bz 35 529518527
abbrev zq22.q24 := Go.Proofs.YthpmfhfnkgbkjaaHand.bz 35 529518591
abbrev zq22.q25 := Go.Proofs.YthpmfhfnkgbkjaaHand.bz 35 529522687
abbrev zq22.q26 := Go.Proofs.YthpmfhfnkgbkjaaHand.bz 35 529530879
abbrev zq22.q27 := Go.Proofs.YthpmfhfnkgbkjaaHand.bz 35 530579455
abbrev zq22.q28 := Go.Proofs.YthpmfhfnkgbkjaaHand.bz 35 532676607
abbrev zq22.q29 := Go.Proofs.YthpmfhfnkgbkjaaHand.bz 35 536870911
abbrev zq22.q30 := Go.Proofs.YthpmfhfnkgbkjaaHand.bz 35 1073741823
abbrev zq22.q31 := Go.Proofs.YthpmfhfnkgbkjaaHand.bz 35 2147483647
abbrev zq22.q32 := Go.Proofs.YthpmfhfnkgbkjaaHand.bz 35 4294967295
abbrev zq22.q33 := Go.Proofs.YthpmfhfnkgbkjaaHand.bz 35 8589934591
abbrev zq22.q34 := Go.Proofs.YthpmfhfnkgbkjaaHand.bz 35 17179869183
abbrev zq22.q35 := Go.Proofs.YthpmfhfnkgbkjaaHand.bz 35 34359738367
def scale_MapRect.j0 : Nat → Int → Int → Int → Int → Bool → Int → Int → Int → Int → Option (Int × Int × Int × Int)
 | 0, _, _, _, _, _, _, _, _, _ => none
 | k + 1, x1, x2, x3, x4, x32, x145000, x145001, x145002, x145003 => if x32 = true then (some (0, 0, 0, 0)) else ((scale_floor.f (wrap64 (x145000 * x3)) x1).bind fun t151 => ((scale_clamp.f t151).bind fun t152 => ((scale_floor.f (wrap64 (x145001 * x4)) x2).bind fun t153 => ((scale_clamp.f t153).bind fun t154 => ((scale_floor.f (wrap64 ((wrap64 (-x145002)) * x3)) x1).bind fun t155 => ((scale_clamp.f (wrap64 (-t155))).bind fun t156 => ((scale_floor.f (wrap64 ((wrap64 (-x145003)) * x4)) x2).bind fun t157 => ((scale_clamp.f (wrap64 (-t157))).bind fun t158 => ((rect_Canonical.f t152 t154 t156 t158).bind fun bt159 => (some (bt159.1, bt159.2.1, bt159.2.2.1, bt159.2.2.2)))))))))))
def scale_MapRect.f (k : Nat) (a0_0 : Int) (a0_1 : Int) (a0_2 : Int) (a0_3 : Int) (a1 : Int) (a2 : Int) (a3 : Int) (a4 : Int) : Option (Int × Int × Int × Int) := (rect_Empty.f a0_0 a0_1 a0_2 a0_3).bind fun t146 => (if t146 = true then (scale_MapRect.j0 k a1 a2 a3 a4 true a0_0 a0_1 a0_2 a0_3) else ((scale_size.f a1).bind fun t147 => (if t147 = true then ((scale_size.f a2).bind fun t148 => (if t148 = true then ((scale_size.f a3).bind fun t149 => (if t149 = true then ((scale_size.f a4).bind fun t150 => (scale_MapRect.j0 k a1 a2 a3 a4 (!t150) a0_0 a0_1 a0_2 a0_3)) else (scale_MapRect.j0 k a1 a2 a3 a4 true a0_0 a0_1 a0_2 a0_3))) else (scale_MapRect.j0 k a1 a2 a3 a4 true a0_0 a0_1 a0_2 a0_3))) else (scale_MapRect.j0 k a1 a2 a3 a4 true a0_0 a0_1 a0_2 a0_3))))
theorem scale_MapRect.mono_l : ∀ k, (∀ y0 y1 y2 y3 y4 y5 y6 y7 y8, LeO (scale_MapRect.j0 k y0 y1 y2 y3 y4 y5 y6 y7 y8) (scale_MapRect.j0 (k + 1) y0 y1 y2 y3 y4 y5 y6 y7 y8))
 | 0 => fun _ _ _ _ _ _ _ _ _ r h => by simp [scale_MapRect.j0] at h
 | k + 1 => by
  have ih0 := scale_MapRect.mono_l k
  ·
   intro y0 y1 y2 y3 y4 y5 y6 y7 y8
   unfold scale_MapRect.j0
   repeat' first
   | (with_reducible exact ih0 _ _ _ _ _ _ _ _ _)
   | (with_reducible exact LeO.refl _)
   | (with_reducible exact LeO.none _)
   | (with_reducible refine LeO.ite ?_ ?_)
   | (with_reducible refine LeO.bind ?_ (fun _ => ?_))
   | exact ih0 _ _ _ _ _ _ _ _ _
   | exact LeO.none _
   | refine LeO.ite ?_ ?_
   | refine LeO.bind ?_ (fun _ => ?_)
theorem scale_MapRect.mono : ∀ a0 a1 a2 a3 a4 a5 a6 a7 k, LeO (scale_MapRect.f k a0 a1 a2 a3 a4 a5 a6 a7) (scale_MapRect.f (k + 1) a0 a1 a2 a3 a4 a5 a6 a7) := by
 intro a0 a1 a2 a3 a4 a5 a6 a7 k
 have ih0 := scale_MapRect.mono_l k
 unfold scale_MapRect.f
 repeat' first
   | (with_reducible exact ih0 _ _ _ _ _ _ _ _ _)
   | (with_reducible exact LeO.refl _)
   | (with_reducible exact LeO.none _)
   | (with_reducible refine LeO.ite ?_ ?_)
   | (with_reducible refine LeO.bind ?_ (fun _ => ?_))
   | exact ih0 _ _ _ _ _ _ _ _ _
   | exact LeO.none _
   | refine LeO.ite ?_ ?_
   | refine LeO.bind ?_ (fun _ => ?_)
def scale_MapRect.T3 : Bool × List (List Nat × List Nat) := (true, [([], []), ([0], [0]), ([], []), ([1, 2], [1, 2]), ([], []), ([3, 4], [3, 4]), ([5, 5], [5]), ([], []), ([7], [7]), ([], []), ([8, 9], [8, 9]), ([], []), ([10, 11, 6], [10, 11]), ([12, 12], [12]), ([], []), ([14], [14]), ([15], [15]), ([], []), ([16, 17], [16, 17]), ([], []), ([18, 19, 13], [18, 19]), ([20], [20]), ([21, 20], [21]), ([], []), ([23], [23]), ([24], [24]), ([], []), ([25, 26], [25, 26]), ([], []), ([27, 28, 22], [27, 28]), ([29], [29]), ([30, 29], [30]), ([6, 13, 22, 31], [6, 13, 22, 31]), ([32, 31], [32]), ([33, 33, 0, 1, 2, 3, 4, 5, 6, 7, 8, 9, 10, 11, 12, 13, 14, 15, 16, 17, 18, 19, 20, 21, 22, 23, 24, 25, 26, 27, 28, 29, 30, 31, 32, 33], [33])])
def scale_MapRect.B3 : List Nat := [0, 1, 0, 7, 0, 31, 63, 0, 128, 0, 896, 0, 4095, 8191, 0, 16384, 49152, 0, 245760, 0, 1048575, 2097151, 4194303, 0, 8388608, 25165824, 0, 125829120, 0, 536870911, 1073741823, 2147483647, 4294967295, 8589934591, 17179869183]
theorem scale_MapRect.tab3 : rtab .any (opsOf Try.f22 3) = scale_MapRect.T3 := by kernel_rfl
theorem scale_MapRect.bits3 : waitsOk scale_MapRect.T3.2 scale_MapRect.B3 = true := by kernel_rfl
set_option maxHeartbeats 8000000 in
set_option maxRecDepth 100000 in
theorem scale_MapRect.calls (k : Nat) (a0_0 : Int) (a0_1 : Int) (a0_2 : Int) (a0_3 : Int) (a1 : Int) (a2 : Int) (a3 : Int) (a4 : Int) (r1 : Int) (r2 : Int) (r3 : Int) (r4 : Int) (w : World) (h : scale_MapRect.f k a0_0 a0_1 a0_2 a0_3 a1 a2 a3 a4 = some (r1, r2, r3, r4)) :
  Calls Try.prog 22 #[.agg #[.int .i64 a0_0, .int .i64 a0_1, .int .i64 a0_2, .int .i64 a0_3], .int .i64 a1, .int .i64 a2, .int .i64 a3, .int .i64 a4] w fun e w' => e = .returned (.agg #[.int .i64 r1, .int .i64 r2, .int .i64 r3, .int .i64 r4]) ∧ Below w.heap.size w w' := by
 have hu34 := Try.underlying34
 have HB := Aside0.mk (Below.refl w.heap.size w)
 have H : ((rect_Empty.f a0_0 a0_1 a0_2 a0_3).bind fun t146 => (if t146 = true then (scale_MapRect.j0 k a1 a2 a3 a4 true a0_0 a0_1 a0_2 a0_3) else ((scale_size.f a1).bind fun t147 => (if t147 = true then ((scale_size.f a2).bind fun t148 => (if t148 = true then ((scale_size.f a3).bind fun t149 => (if t149 = true then ((scale_size.f a4).bind fun t150 => (scale_MapRect.j0 k a1 a2 a3 a4 (!t150) a0_0 a0_1 a0_2 a0_3)) else (scale_MapRect.j0 k a1 a2 a3 a4 true a0_0 a0_1 a0_2 a0_3))) else (scale_MapRect.j0 k a1 a2 a3 a4 true a0_0 a0_1 a0_2 a0_3))) else (scale_MapRect.j0 k a1 a2 a3 a4 true a0_0 a0_1 a0_2 a0_3))))) = some (r1, r2, r3, r4) := h
 clear h
 have HC6 := Aside0.mk H
 clear H
 go_enter Try.func22, Try.ntmps22
 go_upto_region 1 with (first | ((with_reducible refine gate_dst (N := 5) rfl ?_); refine box_event ?hg (N := 5) ?hd (cs := #[.int .i64 a0_0, .int .i64 a0_1, .int .i64 a0_2, .int .i64 a0_3]) (t := 34) ?hr ?_; (case hd => rfl); (case hg => rfl); (case hr => first | (go_simp; done) | (go_simp; rfl)); intro gb144 hg w7 hbox hb; have n0_ := hb_ HB hb; have n1_ := Aside0.mk (hbox); have n2_ := Aside0.mk ((by rw [hg]; exact (below_size (hq_ HB)) : w.heap.size ≤ gb144)); have n3_ := Aside0.mk ((by rw [hg]; exact (below_size (hq_ HB)) : w.heap.size ≤ gb144)); clear HB; have HB := n0_; have BK144 := n1_; have GW144 := n2_; have GE144 := n3_; clear n0_ n1_ n2_ n3_; clear hb hbox hg) | ((with_reducible refine gate_dst (N := 10) rfl ?_); refine box_event ?hg (N := 10) ?hd (cs := #[.int .i64 0, .int .i64 0, .int .i64 0, .int .i64 0]) (t := 34) ?hr ?_; (case hd => rfl); (case hg => rfl); (case hr => first | (go_simp; done) | (go_simp; rfl)); intro gb145 hg w8 hbox hb; have n0_ := bb_ BK144 hb; have n1_ := hb_ HB hb; have n2_ := Aside0.mk (hbox); have n3_ := Aside0.mk ((by rw [hg]; exact (below_size (hq_ HB)) : w.heap.size ≤ gb145)); have n4_ := Aside0.mk ((by rw [hg]; exact (below_size (hq_ HB)) : w.heap.size ≤ gb145)); have n5_ := Aside0.mk ((by rw [hg]; exact Nat.ne_of_lt (blk_lt (g := gb144) (o := .cells #[.int .i64 a0_0, .int .i64 a0_1, .int .i64 a0_2, .int .i64 a0_3] 34 (0, 0)) (bq_ BK144)) : gb144 ≠ gb145)); have n6_ := Aside0.mk ((by rw [hg]; exact Nat.ne_of_gt (blk_lt (g := gb144) (o := .cells #[.int .i64 a0_0, .int .i64 a0_1, .int .i64 a0_2, .int .i64 a0_3] 34 (0, 0)) (bq_ BK144)) : gb145 ≠ gb144)); clear BK144; clear HB; have BK144 := n0_; have HB := n1_; have BK145 := n2_; have GW145 := n3_; have GE145 := n4_; have NB144_145 := n5_; have NB145_144 := n6_; clear n0_ n1_ n2_ n3_ n4_ n5_ n6_; clear hb hbox hg))
 (try simp only [Act.put, List.setIfInBounds_toArray, List.set_cons_zero, List.set_cons_succ])
 go_cut [32] (fun v32 wc => ∃ (kq : Nat) (x32_5 : Bool), v32 = .bool x32_5 ∧ Aside0 (scale_MapRect.j0 kq a1 a2 a3 a4 x32_5 a0_0 a0_1 a0_2 a0_3 = some (r1, r2, r3, r4)) ∧ Aside0 (kq ≤ k) ∧ Aside0 (wc.heap[gb144]? = some (.cells #[.int .i64 a0_0, .int .i64 a0_1, .int .i64 a0_2, .int .i64 a0_3] 34 (0, 0))) ∧ Aside0 (wc.heap[gb145]? = some (.cells #[.int .i64 0, .int .i64 0, .int .i64 0, .int .i64 0] 34 (0, 0))) ∧ Aside0 (Below w.heap.size w wc))
 case first =>
  have H := HC6.out
  clear HC6
  replace H := Option.bind_eq_some_iff.mp H
  obtain ⟨t146, A90, H⟩ := H
  try dsimp only at H
  have A9 := Aside0.mk A90
  clear A90
  by_cases c10 : t146 = true
  ·
   subst c10
   have H1 : (scale_MapRect.j0 k a1 a2 a3 a4 true a0_0 a0_1 a0_2 a0_3) = some (r1, r2, r3, r4) := by rw [if_pos rfl] at H; exact H
   clear H
   have H := H1
   clear H1
   have H' := Aside0.mk H
   clear H
   have hnb11 := NB144_145.out
   have hnc11 := NB145_144.out
   have hcz12_0 : w8.cell? ⟨gb144, 0, none⟩ = some (.int .i64 a0_0) := (blk_cell BK144.out 0).trans rfl
   have hcz12_1 : w8.cell? ⟨gb144, 1, none⟩ = some (.int .i64 a0_1) := (blk_cell BK144.out 1).trans rfl
   have hcz12_2 : w8.cell? ⟨gb144, 2, none⟩ = some (.int .i64 a0_2) := (blk_cell BK144.out 2).trans rfl
   have hcz12_3 : w8.cell? ⟨gb144, 3, none⟩ = some (.int .i64 a0_3) := (blk_cell BK144.out 3).trans rfl
   have hfz12_0 := blk_frozen BK144.out 0
   have hfz12_1 := blk_frozen BK144.out 1
   have hfz12_2 := blk_frozen BK144.out 2
   have hfz12_3 := blk_frozen BK144.out 3
   go_wp2_with (first | ((with_reducible refine gate_callee (f := 43) rfl ?_); refine goesL_ (some 12) rfl rfl Try.func43 (by kernel_rfl) rfl #[.agg #[.int .i64 a0_0, .int .i64 a0_1, .int .i64 a0_2, .int .i64 a0_3]] rfl (by (try simp only [List.map_toArray, List.map_cons, List.map_nil]) <;> rfl) ?_; (with_reducible refine (rect_Empty.calls a0_0 a0_1 a0_2 a0_3 true _ A9.out).mono ?_); rintro e w13 ⟨rfl, hb⟩; refine ⟨_, rfl, ?_⟩; have n0_ := bb_ BK144 hb; have n1_ := bb_ BK145 hb; have n2_ := hb_ HB hb; clear BK144; clear BK145; clear HB; have BK144 := n0_; have BK145 := n1_; have HB := n2_; clear n0_ n1_ n2_; (try clear hb); (try clear hb2); (try clear hk); (try clear hi)))
   go_meet
   case rel => exact ⟨_, (true), (by first | rfl | (simp; done) | (simp [*]; done)), H', ⟨by first | omega | exact Nat.le_refl _⟩, bf_ BK144, bf_ BK145, ⟨by repeat (first | (with_reducible first | exact HB.out | apply below_alloc | apply pw_below_drewN | apply below_drew1 | refine below_set ?_ GE144.out | refine below_set ?_ GE145.out) | exact HB.out)⟩⟩
  ·
   replace c10 := Bool.eq_false_iff.mpr c10
   subst c10
   have H1 : ((scale_size.f a1).bind fun t147 => (if t147 = true then ((scale_size.f a2).bind fun t148 => (if t148 = true then ((scale_size.f a3).bind fun t149 => (if t149 = true then ((scale_size.f a4).bind fun t150 => (scale_MapRect.j0 k a1 a2 a3 a4 (!t150) a0_0 a0_1 a0_2 a0_3)) else (scale_MapRect.j0 k a1 a2 a3 a4 true a0_0 a0_1 a0_2 a0_3))) else (scale_MapRect.j0 k a1 a2 a3 a4 true a0_0 a0_1 a0_2 a0_3))) else (scale_MapRect.j0 k a1 a2 a3 a4 true a0_0 a0_1 a0_2 a0_3))) = some (r1, r2, r3, r4) := by rw [if_neg (show ¬ (false = true) by decide)] at H; exact H
   clear H
   have H := H1
   clear H1
   replace H := Option.bind_eq_some_iff.mp H
   obtain ⟨t147, A140, H⟩ := H
   try dsimp only at H
   have A14 := Aside0.mk A140
   clear A140
   by_cases c15 : t147 = true
   ·
    subst c15
    have H1 : ((scale_size.f a2).bind fun t148 => (if t148 = true then ((scale_size.f a3).bind fun t149 => (if t149 = true then ((scale_size.f a4).bind fun t150 => (scale_MapRect.j0 k a1 a2 a3 a4 (!t150) a0_0 a0_1 a0_2 a0_3)) else (scale_MapRect.j0 k a1 a2 a3 a4 true a0_0 a0_1 a0_2 a0_3))) else (scale_MapRect.j0 k a1 a2 a3 a4 true a0_0 a0_1 a0_2 a0_3))) = some (r1, r2, r3, r4) := by rw [if_pos rfl] at H; exact H
    clear H
    have H := H1
    clear H1
    replace H := Option.bind_eq_some_iff.mp H
    obtain ⟨t148, A160, H⟩ := H
    try dsimp only at H
    have A16 := Aside0.mk A160
    clear A160
    by_cases c17 : t148 = true
    ·
     subst c17
     have H1 : ((scale_size.f a3).bind fun t149 => (if t149 = true then ((scale_size.f a4).bind fun t150 => (scale_MapRect.j0 k a1 a2 a3 a4 (!t150) a0_0 a0_1 a0_2 a0_3)) else (scale_MapRect.j0 k a1 a2 a3 a4 true a0_0 a0_1 a0_2 a0_3))) = some (r1, r2, r3, r4) := by rw [if_pos rfl] at H; exact H
     clear H
     have H := H1
     clear H1
     replace H := Option.bind_eq_some_iff.mp H
     obtain ⟨t149, A180, H⟩ := H
     try dsimp only at H
     have A18 := Aside0.mk A180
     clear A180
     by_cases c19 : t149 = true
     ·
      subst c19
      have H1 : ((scale_size.f a4).bind fun t150 => (scale_MapRect.j0 k a1 a2 a3 a4 (!t150) a0_0 a0_1 a0_2 a0_3)) = some (r1, r2, r3, r4) := by rw [if_pos rfl] at H; exact H
      clear H
      have H := H1
      clear H1
      replace H := Option.bind_eq_some_iff.mp H
      obtain ⟨t150, A200, H⟩ := H
      try dsimp only at H
      have A20 := Aside0.mk A200
      clear A200
      have H' := Aside0.mk H
      clear H
      have hnb21 := NB144_145.out
      have hnc21 := NB145_144.out
      have hcz22_0 : w8.cell? ⟨gb144, 0, none⟩ = some (.int .i64 a0_0) := (blk_cell BK144.out 0).trans rfl
      have hcz22_1 : w8.cell? ⟨gb144, 1, none⟩ = some (.int .i64 a0_1) := (blk_cell BK144.out 1).trans rfl
      have hcz22_2 : w8.cell? ⟨gb144, 2, none⟩ = some (.int .i64 a0_2) := (blk_cell BK144.out 2).trans rfl
      have hcz22_3 : w8.cell? ⟨gb144, 3, none⟩ = some (.int .i64 a0_3) := (blk_cell BK144.out 3).trans rfl
      have hfz22_0 := blk_frozen BK144.out 0
      have hfz22_1 := blk_frozen BK144.out 1
      have hfz22_2 := blk_frozen BK144.out 2
      have hfz22_3 := blk_frozen BK144.out 3
      go_wp2_with (first | ((with_reducible refine gate_callee (f := 43) rfl ?_); refine goesL_ (some 12) rfl rfl Try.func43 (by kernel_rfl) rfl #[.agg #[.int .i64 a0_0, .int .i64 a0_1, .int .i64 a0_2, .int .i64 a0_3]] rfl (by (try simp only [List.map_toArray, List.map_cons, List.map_nil]) <;> rfl) ?_; (with_reducible refine (rect_Empty.calls a0_0 a0_1 a0_2 a0_3 false _ A9.out).mono ?_); rintro e w23 ⟨rfl, hb⟩; refine ⟨_, rfl, ?_⟩; have n0_ := bb_ BK144 hb; have n1_ := bb_ BK145 hb; have n2_ := hb_ HB hb; clear BK144; clear BK145; clear HB; have BK144 := n0_; have BK145 := n1_; have HB := n2_; clear n0_ n1_ n2_; (try clear hb); (try clear hb2); (try clear hk); (try clear hi)) | (go_at_call 44; (with_reducible refine (scale_size.calls a1 true _ A14.out).mono ?_); rintro e w' ⟨rfl, ⟨nd, rfl⟩⟩) | (go_at_call 44; (with_reducible refine (scale_size.calls a2 true _ A16.out).mono ?_); rintro e w' ⟨rfl, ⟨nd, rfl⟩⟩) | (go_at_call 44; (with_reducible refine (scale_size.calls a3 true _ A18.out).mono ?_); rintro e w' ⟨rfl, ⟨nd, rfl⟩⟩) | (go_at_call 44; (with_reducible refine (scale_size.calls a4 t150 _ A20.out).mono ?_); rintro e w' ⟨rfl, ⟨nd, rfl⟩⟩))
      go_meet
      case rel => exact ⟨_, (!t150), (by first | rfl | (simp; done) | (simp [*]; done)), H', ⟨by first | omega | exact Nat.le_refl _⟩, bf_ BK144, bf_ BK145, ⟨by repeat (first | (with_reducible first | exact HB.out | apply below_alloc | apply pw_below_drewN | apply below_drew1 | refine below_set ?_ GE144.out | refine below_set ?_ GE145.out) | exact HB.out)⟩⟩
     ·
      replace c19 := Bool.eq_false_iff.mpr c19
      subst c19
      have H1 : (scale_MapRect.j0 k a1 a2 a3 a4 true a0_0 a0_1 a0_2 a0_3) = some (r1, r2, r3, r4) := by rw [if_neg (show ¬ (false = true) by decide)] at H; exact H
      clear H
      have H := H1
      clear H1
      have H' := Aside0.mk H
      clear H
      have hnb24 := NB144_145.out
      have hnc24 := NB145_144.out
      have hcz25_0 : w8.cell? ⟨gb144, 0, none⟩ = some (.int .i64 a0_0) := (blk_cell BK144.out 0).trans rfl
      have hcz25_1 : w8.cell? ⟨gb144, 1, none⟩ = some (.int .i64 a0_1) := (blk_cell BK144.out 1).trans rfl
      have hcz25_2 : w8.cell? ⟨gb144, 2, none⟩ = some (.int .i64 a0_2) := (blk_cell BK144.out 2).trans rfl
      have hcz25_3 : w8.cell? ⟨gb144, 3, none⟩ = some (.int .i64 a0_3) := (blk_cell BK144.out 3).trans rfl
      have hfz25_0 := blk_frozen BK144.out 0
      have hfz25_1 := blk_frozen BK144.out 1
      have hfz25_2 := blk_frozen BK144.out 2
      have hfz25_3 := blk_frozen BK144.out 3
      go_wp2_with (first | ((with_reducible refine gate_callee (f := 43) rfl ?_); refine goesL_ (some 12) rfl rfl Try.func43 (by kernel_rfl) rfl #[.agg #[.int .i64 a0_0, .int .i64 a0_1, .int .i64 a0_2, .int .i64 a0_3]] rfl (by (try simp only [List.map_toArray, List.map_cons, List.map_nil]) <;> rfl) ?_; (with_reducible refine (rect_Empty.calls a0_0 a0_1 a0_2 a0_3 false _ A9.out).mono ?_); rintro e w26 ⟨rfl, hb⟩; refine ⟨_, rfl, ?_⟩; have n0_ := bb_ BK144 hb; have n1_ := bb_ BK145 hb; have n2_ := hb_ HB hb; clear BK144; clear BK145; clear HB; have BK144 := n0_; have BK145 := n1_; have HB := n2_; clear n0_ n1_ n2_; (try clear hb); (try clear hb2); (try clear hk); (try clear hi)) | (go_at_call 44; (with_reducible refine (scale_size.calls a1 true _ A14.out).mono ?_); rintro e w' ⟨rfl, ⟨nd, rfl⟩⟩) | (go_at_call 44; (with_reducible refine (scale_size.calls a2 true _ A16.out).mono ?_); rintro e w' ⟨rfl, ⟨nd, rfl⟩⟩) | (go_at_call 44; (with_reducible refine (scale_size.calls a3 false _ A18.out).mono ?_); rintro e w' ⟨rfl, ⟨nd, rfl⟩⟩))
      go_meet
      case rel => exact ⟨_, (true), (by first | rfl | (simp; done) | (simp [*]; done)), H', ⟨by first | omega | exact Nat.le_refl _⟩, bf_ BK144, bf_ BK145, ⟨by repeat (first | (with_reducible first | exact HB.out | apply below_alloc | apply pw_below_drewN | apply below_drew1 | refine below_set ?_ GE144.out | refine below_set ?_ GE145.out) | exact HB.out)⟩⟩
    ·
     replace c17 := Bool.eq_false_iff.mpr c17
     subst c17
     have H1 : (scale_MapRect.j0 k a1 a2 a3 a4 true a0_0 a0_1 a0_2 a0_3) = some (r1, r2, r3, r4) := by rw [if_neg (show ¬ (false = true) by decide)] at H; exact H
     clear H
     have H := H1
     clear H1
     have H' := Aside0.mk H
     clear H
     have hnb27 := NB144_145.out
     have hnc27 := NB145_144.out
     have hcz28_0 : w8.cell? ⟨gb144, 0, none⟩ = some (.int .i64 a0_0) := (blk_cell BK144.out 0).trans rfl
     have hcz28_1 : w8.cell? ⟨gb144, 1, none⟩ = some (.int .i64 a0_1) := (blk_cell BK144.out 1).trans rfl
     have hcz28_2 : w8.cell? ⟨gb144, 2, none⟩ = some (.int .i64 a0_2) := (blk_cell BK144.out 2).trans rfl
     have hcz28_3 : w8.cell? ⟨gb144, 3, none⟩ = some (.int .i64 a0_3) := (blk_cell BK144.out 3).trans rfl
     have hfz28_0 := blk_frozen BK144.out 0
     have hfz28_1 := blk_frozen BK144.out 1
     have hfz28_2 := blk_frozen BK144.out 2
     have hfz28_3 := blk_frozen BK144.out 3
     go_wp2_with (first | ((with_reducible refine gate_callee (f := 43) rfl ?_); refine goesL_ (some 12) rfl rfl Try.func43 (by kernel_rfl) rfl #[.agg #[.int .i64 a0_0, .int .i64 a0_1, .int .i64 a0_2, .int .i64 a0_3]] rfl (by (try simp only [List.map_toArray, List.map_cons, List.map_nil]) <;> rfl) ?_; (with_reducible refine (rect_Empty.calls a0_0 a0_1 a0_2 a0_3 false _ A9.out).mono ?_); rintro e w29 ⟨rfl, hb⟩; refine ⟨_, rfl, ?_⟩; have n0_ := bb_ BK144 hb; have n1_ := bb_ BK145 hb; have n2_ := hb_ HB hb; clear BK144; clear BK145; clear HB; have BK144 := n0_; have BK145 := n1_; have HB := n2_; clear n0_ n1_ n2_; (try clear hb); (try clear hb2); (try clear hk); (try clear hi)) | (go_at_call 44; (with_reducible refine (scale_size.calls a1 true _ A14.out).mono ?_); rintro e w' ⟨rfl, ⟨nd, rfl⟩⟩) | (go_at_call 44; (with_reducible refine (scale_size.calls a2 false _ A16.out).mono ?_); rintro e w' ⟨rfl, ⟨nd, rfl⟩⟩))
     go_meet
     case rel => exact ⟨_, (true), (by first | rfl | (simp; done) | (simp [*]; done)), H', ⟨by first | omega | exact Nat.le_refl _⟩, bf_ BK144, bf_ BK145, ⟨by repeat (first | (with_reducible first | exact HB.out | apply below_alloc | apply pw_below_drewN | apply below_drew1 | refine below_set ?_ GE144.out | refine below_set ?_ GE145.out) | exact HB.out)⟩⟩
   ·
    replace c15 := Bool.eq_false_iff.mpr c15
    subst c15
    have H1 : (scale_MapRect.j0 k a1 a2 a3 a4 true a0_0 a0_1 a0_2 a0_3) = some (r1, r2, r3, r4) := by rw [if_neg (show ¬ (false = true) by decide)] at H; exact H
    clear H
    have H := H1
    clear H1
    have H' := Aside0.mk H
    clear H
    have hnb30 := NB144_145.out
    have hnc30 := NB145_144.out
    have hcz31_0 : w8.cell? ⟨gb144, 0, none⟩ = some (.int .i64 a0_0) := (blk_cell BK144.out 0).trans rfl
    have hcz31_1 : w8.cell? ⟨gb144, 1, none⟩ = some (.int .i64 a0_1) := (blk_cell BK144.out 1).trans rfl
    have hcz31_2 : w8.cell? ⟨gb144, 2, none⟩ = some (.int .i64 a0_2) := (blk_cell BK144.out 2).trans rfl
    have hcz31_3 : w8.cell? ⟨gb144, 3, none⟩ = some (.int .i64 a0_3) := (blk_cell BK144.out 3).trans rfl
    have hfz31_0 := blk_frozen BK144.out 0
    have hfz31_1 := blk_frozen BK144.out 1
    have hfz31_2 := blk_frozen BK144.out 2
    have hfz31_3 := blk_frozen BK144.out 3
    go_wp2_with (first | ((with_reducible refine gate_callee (f := 43) rfl ?_); refine goesL_ (some 12) rfl rfl Try.func43 (by kernel_rfl) rfl #[.agg #[.int .i64 a0_0, .int .i64 a0_1, .int .i64 a0_2, .int .i64 a0_3]] rfl (by (try simp only [List.map_toArray, List.map_cons, List.map_nil]) <;> rfl) ?_; (with_reducible refine (rect_Empty.calls a0_0 a0_1 a0_2 a0_3 false _ A9.out).mono ?_); rintro e w32 ⟨rfl, hb⟩; refine ⟨_, rfl, ?_⟩; have n0_ := bb_ BK144 hb; have n1_ := bb_ BK145 hb; have n2_ := hb_ HB hb; clear BK144; clear BK145; clear HB; have BK144 := n0_; have BK145 := n1_; have HB := n2_; clear n0_ n1_ n2_; (try clear hb); (try clear hb2); (try clear hk); (try clear hi)) | (go_at_call 44; (with_reducible refine (scale_size.calls a1 false _ A14.out).mono ?_); rintro e w' ⟨rfl, ⟨nd, rfl⟩⟩))
    go_meet
    case rel => exact ⟨_, (true), (by first | rfl | (simp; done) | (simp [*]; done)), H', ⟨by first | omega | exact Nat.le_refl _⟩, bf_ BK144, bf_ BK145, ⟨by repeat (first | (with_reducible first | exact HB.out | apply below_alloc | apply pw_below_drewN | apply below_drew1 | refine below_set ?_ GE144.out | refine below_set ?_ GE145.out) | exact HB.out)⟩⟩
 case rest =>
  clear HC6
  try clear c1
  try clear c2
  try clear p2
  try clear c3
  try clear c4
  try clear c10
  try clear c11
  try clear c15
  try clear c17
  try clear c19
  try clear c21
  try clear c22
  try clear c24
  try clear c27
  try clear c30
  try clear hcz12_0
  try clear hcz12_1
  try clear hcz12_2
  try clear hcz12_3
  try clear hcz22_0
  try clear hcz22_1
  try clear hcz22_2
  try clear hcz22_3
  try clear hcz25_0
  try clear hcz25_1
  try clear hcz25_2
  try clear hcz25_3
  try clear hcz28_0
  try clear hcz28_1
  try clear hcz28_2
  try clear hcz28_3
  try clear hcz31_0
  try clear hcz31_1
  try clear hcz31_2
  try clear hcz31_3
  try clear hfz12_0
  try clear hfz12_1
  try clear hfz12_2
  try clear hfz12_3
  try clear hfz22_0
  try clear hfz22_1
  try clear hfz22_2
  try clear hfz22_3
  try clear hfz25_0
  try clear hfz25_1
  try clear hfz25_2
  try clear hfz25_3
  try clear hfz28_0
  try clear hfz28_1
  try clear hfz28_2
  try clear hfz28_3
  try clear hfz31_0
  try clear hfz31_1
  try clear hfz31_2
  try clear hfz31_3
  obtain ⟨kq, x32_5, rfl, HA, HJ5, BK144, BK145, HB⟩ := hcut
  cases kq with
  | zero => exact absurd HA.out (by simp [scale_MapRect.j0])
  | succ kj5 =>
   have H := HA.out
   clear HA
   simp only [scale_MapRect.j0] at H
   by_cases c33 : x32_5 = true
   ·
    subst c33
    have H1 : (some (0, 0, 0, 0)) = some (r1, r2, r3, r4) := by rw [if_pos rfl] at H; exact H
    clear H
    have H := H1
    clear H1
    simp only [Option.some.injEq, Prod.mk.injEq] at H
    obtain ⟨rfl, rfl, rfl, rfl⟩ := H
    have hnb34 := NB145_144.out
    have hnc34 := NB144_145.out
    have hcz35_0 : wc.cell? ⟨gb145, 0, none⟩ = some (.int .i64 0) := (blk_cell BK145.out 0).trans rfl
    have hcz35_1 : wc.cell? ⟨gb145, 1, none⟩ = some (.int .i64 0) := (blk_cell BK145.out 1).trans rfl
    have hcz35_2 : wc.cell? ⟨gb145, 2, none⟩ = some (.int .i64 0) := (blk_cell BK145.out 2).trans rfl
    have hcz35_3 : wc.cell? ⟨gb145, 3, none⟩ = some (.int .i64 0) := (blk_cell BK145.out 3).trans rfl
    have hfz35_0 := blk_frozen BK145.out 0
    have hfz35_1 := blk_frozen BK145.out 1
    have hfz35_2 := blk_frozen BK145.out 2
    have hfz35_3 := blk_frozen BK145.out 3
    go_wp2
    refine bodyPost_ret (results_cell_row rfl _ _ gb145 34 #[.int .i64 0, .int .i64 0, .int .i64 0, .int .i64 0] (0, 0) _ rfl (by (with_reducible repeat (first | refine blk_drewN ?_ _ | refine blk_drew ?_ | refine blk_alloc ?_ _)); refine blk_put (cs := #[.int .i64 0, .int .i64 0, .int .i64 0, .int .i64 0]) ?_ 3 _ rfl; (with_reducible repeat (first | refine blk_drewN ?_ _ | refine blk_drew ?_ | refine blk_alloc ?_ _)); refine blk_put (cs := #[.int .i64 0, .int .i64 0, .int .i64 0, .int .i64 0]) ?_ 2 _ rfl; (with_reducible repeat (first | refine blk_drewN ?_ _ | refine blk_drew ?_ | refine blk_alloc ?_ _)); refine blk_put (cs := #[.int .i64 0, .int .i64 0, .int .i64 0, .int .i64 0]) ?_ 1 _ rfl; (with_reducible repeat (first | refine blk_drewN ?_ _ | refine blk_drew ?_ | refine blk_alloc ?_ _)); refine blk_put (cs := #[.int .i64 0, .int .i64 0, .int .i64 0, .int .i64 0]) ?_ 0 _ rfl; (with_reducible repeat (first | refine blk_drewN ?_ _ | refine blk_drew ?_ | refine blk_alloc ?_ _)); exact BK145.out) Try.underlying34 rfl (by kernel_rfl)) rfl ?_
    exact ⟨by first | rfl | (simp [errW_none, errW_some] <;> rfl) | (simp [*, errW_none, errW_some] <;> rfl), by repeat (first | (with_reducible first | exact HB.out | apply below_alloc | apply pw_below_drewN | apply below_drew1 | refine below_set ?_ GE144.out | refine below_set ?_ GE145.out) | exact HB.out)⟩
   ·
    replace c33 := Bool.eq_false_iff.mpr c33
    subst c33
    have H1 : ((scale_floor.f (wrap64 (a0_0 * a3)) a1).bind fun t151 => ((scale_clamp.f t151).bind fun t152 => ((scale_floor.f (wrap64 (a0_1 * a4)) a2).bind fun t153 => ((scale_clamp.f t153).bind fun t154 => ((scale_floor.f (wrap64 ((wrap64 (-a0_2)) * a3)) a1).bind fun t155 => ((scale_clamp.f (wrap64 (-t155))).bind fun t156 => ((scale_floor.f (wrap64 ((wrap64 (-a0_3)) * a4)) a2).bind fun t157 => ((scale_clamp.f (wrap64 (-t157))).bind fun t158 => ((rect_Canonical.f t152 t154 t156 t158).bind fun bt159 => (some (bt159.1, bt159.2.1, bt159.2.2.1, bt159.2.2.2))))))))))) = some (r1, r2, r3, r4) := by rw [if_neg (show ¬ (false = true) by decide)] at H; exact H
    clear H
    have H := H1
    clear H1
    replace H := Option.bind_eq_some_iff.mp H
    obtain ⟨t151, A360, H⟩ := H
    try dsimp only at H
    have A36 := Aside0.mk A360
    clear A360
    replace H := Option.bind_eq_some_iff.mp H
    obtain ⟨t152, A370, H⟩ := H
    try dsimp only at H
    have A37 := Aside0.mk A370
    clear A370
    replace H := Option.bind_eq_some_iff.mp H
    obtain ⟨t153, A380, H⟩ := H
    try dsimp only at H
    have A38 := Aside0.mk A380
    clear A380
    replace H := Option.bind_eq_some_iff.mp H
    obtain ⟨t154, A390, H⟩ := H
    try dsimp only at H
    have A39 := Aside0.mk A390
    clear A390
    replace H := Option.bind_eq_some_iff.mp H
    obtain ⟨t155, A400, H⟩ := H
    try dsimp only at H
    have A40 := Aside0.mk A400
    clear A400
    replace H := Option.bind_eq_some_iff.mp H
    obtain ⟨t156, A410, H⟩ := H
    try dsimp only at H
    have A41 := Aside0.mk A410
    clear A410
    replace H := Option.bind_eq_some_iff.mp H
    obtain ⟨t157, A420, H⟩ := H
    try dsimp only at H
    have A42 := Aside0.mk A420
    clear A420
    replace H := Option.bind_eq_some_iff.mp H
    obtain ⟨t158, A430, H⟩ := H
    try dsimp only at H
    have A43 := Aside0.mk A430
    clear A430
    replace H := Option.bind_eq_some_iff.mp H
    obtain ⟨⟨t159, t160, t161, t162⟩, A440, H⟩ := H
    try dsimp only at H
    have A44 := Aside0.mk A440
    clear A440
    simp only [Option.some.injEq, Prod.mk.injEq] at H
    obtain ⟨rfl, rfl, rfl, rfl⟩ := H
    try go_wp2
    replace BK144 := Aside0.mk (blk_drew BK144.out)
    replace BK145 := Aside0.mk (blk_drew BK145.out)
    replace HB := Aside0.mk (below_drew1 HB.out)
    refine start_ (n := 35) (S := fun w' => w'.cell? ⟨gb144, 0, none⟩ = some (.int .i64 a0_0) ∧ w'.cell? ⟨gb144, 1, none⟩ = some (.int .i64 a0_1) ∧ w'.cell? ⟨gb144, 2, none⟩ = some (.int .i64 a0_2) ∧ w'.cell? ⟨gb144, 3, none⟩ = some (.int .i64 a0_3)) (ds := []) zq22.q0 (by kernel_rfl) rfl rfl (h4_ BK144) (fun hHeld => ?_); refine with_tabW scale_MapRect.tab3 scale_MapRect.bits3 (fun HT_ HW_ => ?_)
    generalize wc.drew = w45 at BK144 BK145 HB hHeld ⊢
    refine pv_ 0 34 zq22.q1 HT_ ?_
    refine pv_ 2 36 zq22.q2 HT_ ?_
    refine pv_ 4 38 zq22.q3 HT_ ?_
    refine pv_ 7 41 zq22.q4 HT_ ?_
    refine pv_ 9 43 zq22.q5 HT_ ?_
    refine pv_ 11 45 zq22.q6 HT_ ?_
    refine pv_ 14 48 zq22.q7 HT_ ?_
    refine pv_ 17 51 zq22.q8 HT_ ?_
    refine pv_ 19 53 zq22.q9 HT_ ?_
    refine pv_ 23 57 zq22.q10 HT_ ?_
    refine pv_ 26 60 zq22.q11 HT_ ?_
    refine pv_ 28 62 zq22.q12 HT_ ?_
    refine tk4_ 1 35 zq22.q13 HT_ HW_ hHeld ?_
    refine pv_ 3 37 zq22.q14 HT_ ?_
    refine tk4_ 8 42 zq22.q15 HT_ HW_ hHeld ?_
    refine pv_ 10 44 zq22.q16 HT_ ?_
    refine tk4_ 15 49 zq22.q17 HT_ HW_ hHeld ?_
    refine pv_ 16 50 zq22.q18 HT_ ?_
    refine pv_ 18 52 zq22.q19 HT_ ?_
    refine tk4_ 24 58 zq22.q20 HT_ HW_ hHeld ?_
    refine pv_ 25 59 zq22.q21 HT_ ?_
    refine pv_ 27 61 zq22.q22 HT_ ?_
    refine one_ (i := 5) (N := some 39) zq22.q23 rfl rfl (one_of HT_.out (by kernel_rfl)) (by decide) (fun K hK => ?_)
    refine gs_ Try.func47 #[.int .i64 (wrap64 (a0_0 * a3)), .int .i64 a1] ?_
    with_reducible refine (scale_floor.calls (wrap64 (a0_0 * a3)) a1 t151 _ A36.out).mono ?_
    rintro e w' ⟨rfl, ⟨nd, rfl⟩⟩
    refine ⟨_, rfl, ?_⟩
    refine hK.out _ _ (h4_ BK144) (fun hHeld => ?_)
    clear hK K
    refine norm_ (a' := ?_) ?_ ?_
    rotate_left
    ·
     show Act.put _ (some 39) _ = _
     simp only [Act.put, List.setIfInBounds_toArray, List.set_cons_zero, List.set_cons_succ, i64_w, i32_w]
     rfl
    refine one_ (i := 6) (N := some 40) zq22.q24 rfl rfl (one_of HT_.out (by kernel_rfl)) (by decide) (fun K hK => ?_)
    refine gs_ Try.func46 #[.int .i64 t151] ?_
    with_reducible refine (scale_clamp.calls t151 t152 _ A37.out).mono ?_
    rintro e w46 ⟨rfl, hb⟩
    refine ⟨_, rfl, ?_⟩
    replace BK144 := bb_ BK144 hb
    replace BK145 := bb_ BK145 hb
    replace HB := hb_ HB hb
    (try clear hb); (try clear hb2); (try clear hk); (try clear hi)
    refine hK.out _ _ (h4_ BK144) (fun hHeld => ?_)
    clear hK K
    refine norm_ (a' := ?_) ?_ ?_
    rotate_left
    ·
     show Act.put _ (some 40) _ = _
     simp only [Act.put, List.setIfInBounds_toArray, List.set_cons_zero, List.set_cons_succ, i64_w, i32_w]
     rfl
    refine one_ (i := 12) (N := some 46) zq22.q25 rfl rfl (one_of HT_.out (by kernel_rfl)) (by decide) (fun K hK => ?_)
    refine gs_ Try.func47 #[.int .i64 (wrap64 (a0_1 * a4)), .int .i64 a2] ?_
    with_reducible refine (scale_floor.calls (wrap64 (a0_1 * a4)) a2 t153 _ A38.out).mono ?_
    rintro e w' ⟨rfl, ⟨nd, rfl⟩⟩
    refine ⟨_, rfl, ?_⟩
    refine hK.out _ _ (h4_ BK144) (fun hHeld => ?_)
    clear hK K
    refine norm_ (a' := ?_) ?_ ?_
    rotate_left
    ·
     show Act.put _ (some 46) _ = _
     simp only [Act.put, List.setIfInBounds_toArray, List.set_cons_zero, List.set_cons_succ, i64_w, i32_w]
     rfl
    refine one_ (i := 13) (N := some 47) zq22.q26 rfl rfl (one_of HT_.out (by kernel_rfl)) (by decide) (fun K hK => ?_)
    refine gs_ Try.func46 #[.int .i64 t153] ?_
    with_reducible refine (scale_clamp.calls t153 t154 _ A39.out).mono ?_
    rintro e w47 ⟨rfl, hb⟩
    refine ⟨_, rfl, ?_⟩
    replace BK144 := bb_ BK144 hb
    replace BK145 := bb_ BK145 hb
    replace HB := hb_ HB hb
    (try clear hb); (try clear hb2); (try clear hk); (try clear hi)
    refine hK.out _ _ (h4_ BK144) (fun hHeld => ?_)
    clear hK K
    refine norm_ (a' := ?_) ?_ ?_
    rotate_left
    ·
     show Act.put _ (some 47) _ = _
     simp only [Act.put, List.setIfInBounds_toArray, List.set_cons_zero, List.set_cons_succ, i64_w, i32_w]
     rfl
    refine one_ (i := 20) (N := some 54) zq22.q27 rfl rfl (one_of HT_.out (by kernel_rfl)) (by decide) (fun K hK => ?_)
    refine gs_ Try.func47 #[.int .i64 (wrap64 ((wrap64 (-a0_2)) * a3)), .int .i64 a1] ?_
    with_reducible refine (scale_floor.calls (wrap64 ((wrap64 (-a0_2)) * a3)) a1 t155 _ A40.out).mono ?_
    rintro e w' ⟨rfl, ⟨nd, rfl⟩⟩
    refine ⟨_, rfl, ?_⟩
    refine hK.out _ _ (h4_ BK144) (fun hHeld => ?_)
    clear hK K
    refine norm_ (a' := ?_) ?_ ?_
    rotate_left
    ·
     show Act.put _ (some 54) _ = _
     simp only [Act.put, List.setIfInBounds_toArray, List.set_cons_zero, List.set_cons_succ, i64_w, i32_w]
     rfl
    refine pv_ 21 55 zq22.q28 HT_ ?_
    refine one_ (i := 22) (N := some 56) zq22.q29 rfl rfl (one_of HT_.out (by kernel_rfl)) (by decide) (fun K hK => ?_)
    refine gs_ Try.func46 #[.int .i64 (wrap64 (-t155))] ?_
    with_reducible refine (scale_clamp.calls (wrap64 (-t155)) t156 _ A41.out).mono ?_
    rintro e w48 ⟨rfl, hb⟩
    refine ⟨_, rfl, ?_⟩
    replace BK144 := bb_ BK144 hb
    replace BK145 := bb_ BK145 hb
    replace HB := hb_ HB hb
    (try clear hb); (try clear hb2); (try clear hk); (try clear hi)
    refine hK.out _ _ (h4_ BK144) (fun hHeld => ?_)
    clear hK K
    refine norm_ (a' := ?_) ?_ ?_
    rotate_left
    ·
     show Act.put _ (some 56) _ = _
     simp only [Act.put, List.setIfInBounds_toArray, List.set_cons_zero, List.set_cons_succ, i64_w, i32_w]
     rfl
    refine one_ (i := 29) (N := some 63) zq22.q30 rfl rfl (one_of HT_.out (by kernel_rfl)) (by decide) (fun K hK => ?_)
    refine gs_ Try.func47 #[.int .i64 (wrap64 ((wrap64 (-a0_3)) * a4)), .int .i64 a2] ?_
    with_reducible refine (scale_floor.calls (wrap64 ((wrap64 (-a0_3)) * a4)) a2 t157 _ A42.out).mono ?_
    rintro e w' ⟨rfl, ⟨nd, rfl⟩⟩
    refine ⟨_, rfl, ?_⟩
    refine hK.out _ _ (h4_ BK144) (fun hHeld => ?_)
    clear hK K
    refine norm_ (a' := ?_) ?_ ?_
    rotate_left
    ·
     show Act.put _ (some 63) _ = _
     simp only [Act.put, List.setIfInBounds_toArray, List.set_cons_zero, List.set_cons_succ, i64_w, i32_w]
     rfl
    refine pv_ 30 64 zq22.q31 HT_ ?_
    refine one_ (i := 31) (N := some 65) zq22.q32 rfl rfl (one_of HT_.out (by kernel_rfl)) (by decide) (fun K hK => ?_)
    refine gs_ Try.func46 #[.int .i64 (wrap64 (-t157))] ?_
    with_reducible refine (scale_clamp.calls (wrap64 (-t157)) t158 _ A43.out).mono ?_
    rintro e w49 ⟨rfl, hb⟩
    refine ⟨_, rfl, ?_⟩
    replace BK144 := bb_ BK144 hb
    replace BK145 := bb_ BK145 hb
    replace HB := hb_ HB hb
    (try clear hb); (try clear hb2); (try clear hk); (try clear hi)
    refine hK.out _ _ (h4_ BK144) (fun hHeld => ?_)
    clear hK K
    refine norm_ (a' := ?_) ?_ ?_
    rotate_left
    ·
     show Act.put _ (some 65) _ = _
     simp only [Act.put, List.setIfInBounds_toArray, List.set_cons_zero, List.set_cons_succ, i64_w, i32_w]
     rfl
    refine pv_ 32 66 zq22.q33 HT_ ?_
    refine one_ (i := 33) (N := some 67) zq22.q34 rfl rfl (one_of HT_.out (by kernel_rfl)) (by decide) (fun K hK => ?_)
    refine gs_ Try.func45 #[.agg #[.int .i64 t152, .int .i64 t154, .int .i64 t156, .int .i64 t158]] ?_
    with_reducible refine (rect_Canonical.calls t152 t154 t156 t158 t159 t160 t161 t162 _ A44.out).mono ?_
    rintro e w50 ⟨rfl, hb⟩
    refine ⟨_, rfl, ?_⟩
    replace BK144 := bb_ BK144 hb
    replace BK145 := bb_ BK145 hb
    replace HB := hb_ HB hb
    (try clear hb); (try clear hb2); (try clear hk); (try clear hi)
    refine hK.out _ _ (h4_ BK144) (fun hHeld => ?_)
    clear hK K
    refine norm_ (a' := ?_) ?_ ?_
    rotate_left
    ·
     show Act.put _ (some 67) _ = _
     simp only [Act.put, List.setIfInBounds_toArray, List.set_cons_zero, List.set_cons_succ, i64_w, i32_w]
     rfl
    refine one_ (i := 34) (N := none) zq22.q35 rfl rfl (one_of HT_.out (by kernel_rfl)) (by decide) (fun K hK => ?_)
    have hs51 : w50.cell? ⟨gb145, 0, none⟩ = some (.int .i64 0) := (blk_cell BK145.out 0).trans rfl
    have hfs51 := blk_frozen BK145.out 0
    have hns51_0 := NB144_145.out
    have hms51_0 := NB145_144.out
    have hs52 : w50.cell? ⟨gb145, 1, none⟩ = some (.int .i64 0) := (blk_cell BK145.out 1).trans rfl
    have hfs52 := blk_frozen BK145.out 1
    have hns52_0 := NB144_145.out
    have hms52_0 := NB145_144.out
    have hs53 : w50.cell? ⟨gb145, 2, none⟩ = some (.int .i64 0) := (blk_cell BK145.out 2).trans rfl
    have hfs53 := blk_frozen BK145.out 2
    have hns53_0 := NB144_145.out
    have hms53_0 := NB145_144.out
    have hs54 : w50.cell? ⟨gb145, 3, none⟩ = some (.int .i64 0) := (blk_cell BK145.out 3).trans rfl
    have hfs54 := blk_frozen BK145.out 3
    have hns54_0 := NB144_145.out
    have hms54_0 := NB145_144.out
    refine skip_ (w1 := ?_) (by rfl) rfl ?_ ?_
    rotate_left
    ·
     go_simp
     rfl
    refine hK.out _ _ ⟨((cell_far (p := ⟨gb145, _, none⟩) NB144_145.out _).trans (((cell_far (p := ⟨gb145, _, none⟩) NB144_145.out _).trans (((cell_far (p := ⟨gb145, _, none⟩) NB144_145.out _).trans (((cell_far (p := ⟨gb145, _, none⟩) NB144_145.out _).trans (hHeld.1)))))))), ((cell_far (p := ⟨gb145, _, none⟩) NB144_145.out _).trans (((cell_far (p := ⟨gb145, _, none⟩) NB144_145.out _).trans (((cell_far (p := ⟨gb145, _, none⟩) NB144_145.out _).trans (((cell_far (p := ⟨gb145, _, none⟩) NB144_145.out _).trans (hHeld.2.1)))))))), ((cell_far (p := ⟨gb145, _, none⟩) NB144_145.out _).trans (((cell_far (p := ⟨gb145, _, none⟩) NB144_145.out _).trans (((cell_far (p := ⟨gb145, _, none⟩) NB144_145.out _).trans (((cell_far (p := ⟨gb145, _, none⟩) NB144_145.out _).trans (hHeld.2.2.1)))))))), ((cell_far (p := ⟨gb145, _, none⟩) NB144_145.out _).trans (((cell_far (p := ⟨gb145, _, none⟩) NB144_145.out _).trans (((cell_far (p := ⟨gb145, _, none⟩) NB144_145.out _).trans (((cell_far (p := ⟨gb145, _, none⟩) NB144_145.out _).trans (hHeld.2.2.2))))))))⟩ (fun hHeld => ?_)
    clear hK K
    refine done_ (done_of HT_.out (by kernel_rfl)) ?_
    try go_wp2
    refine bodyPost_ret (results_cell_row rfl _ _ gb145 34 #[.int .i64 t159, .int .i64 t160, .int .i64 t161, .int .i64 t162] (0, 0) _ rfl (by (with_reducible repeat (first | refine blk_drewN ?_ _ | refine blk_drew ?_ | refine blk_alloc ?_ _)); refine blk_put (cs := #[.int .i64 t159, .int .i64 t160, .int .i64 t161, .int .i64 0]) ?_ 3 _ rfl; (with_reducible repeat (first | refine blk_drewN ?_ _ | refine blk_drew ?_ | refine blk_alloc ?_ _)); refine blk_put (cs := #[.int .i64 t159, .int .i64 t160, .int .i64 0, .int .i64 0]) ?_ 2 _ rfl; (with_reducible repeat (first | refine blk_drewN ?_ _ | refine blk_drew ?_ | refine blk_alloc ?_ _)); refine blk_put (cs := #[.int .i64 t159, .int .i64 0, .int .i64 0, .int .i64 0]) ?_ 1 _ rfl; (with_reducible repeat (first | refine blk_drewN ?_ _ | refine blk_drew ?_ | refine blk_alloc ?_ _)); refine blk_put (cs := #[.int .i64 0, .int .i64 0, .int .i64 0, .int .i64 0]) ?_ 0 _ rfl; (with_reducible repeat (first | refine blk_drewN ?_ _ | refine blk_drew ?_ | refine blk_alloc ?_ _)); exact BK145.out) Try.underlying34 rfl (by kernel_rfl)) rfl ?_
    exact ⟨by first | rfl | (simp [errW_none, errW_some] <;> rfl) | (simp [*, errW_none, errW_some] <;> rfl), by repeat (first | (with_reducible first | exact HB.out | apply below_alloc | apply pw_below_drewN | apply below_drew1 | refine below_set ?_ GE144.out | refine below_set ?_ GE145.out) | exact HB.out)⟩

end Go.Proofs.Ythpmfhfnkgbkjaa.All
