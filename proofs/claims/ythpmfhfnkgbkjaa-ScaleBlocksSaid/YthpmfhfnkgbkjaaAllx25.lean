-- Written by a program of this session, which runs the kit's print.py and puts in functions that this session typed. Not trusted: Lean checks it.
import Derived.Test.YthpmfhfnkgbkjaaHand
import Derived.Test.YthpmfhfnkgbkjaaAllx0
import Derived.Test.YthpmfhfnkgbkjaaAllx24
namespace Go.Proofs.Ythpmfhfnkgbkjaa.All
open Go.Proofs.YthpmfhfnkgbkjaaSq
open Go.RowKit Go.Proofs.YthpmfhfnkgbkjaaW.PrintWords Go.Proofs.YthpmfhfnkgbkjaaW.PrintLast Go.Proofs.YthpmfhfnkgbkjaaW.PrintMore
attribute [local go_sem] max2_int min2_int max_two min_two max_three min_three max_four min_four   -- for this text's walks alone
set_option linter.unusedVariables false
set_option linter.unusedSimpArgs false

/-! ### compositorref10_covered: function 40 -/
abbrev zq40.q0 := Go.Proofs.YthpmfhfnkgbkjaaHand.bz 14 0
abbrev zq40.q1 := Go.Proofs.YthpmfhfnkgbkjaaHand.bz 14 1
abbrev zq40.q2 := Go.Proofs.YthpmfhfnkgbkjaaHand.bz 14 3
abbrev zq40.q3 := Go.Proofs.YthpmfhfnkgbkjaaHand.bz 14 7
abbrev zq40.q4 := Go.Proofs.YthpmfhfnkgbkjaaHand.bz 14 15
abbrev zq40.q5 := Go.Proofs.YthpmfhfnkgbkjaaHand.bz 14 79
abbrev zq40.q6 := Go.Proofs.YthpmfhfnkgbkjaaHand.bz 14 207
abbrev zq40.q7 := Go.Proofs.YthpmfhfnkgbkjaaHand.bz 14 463
abbrev zq40.q8 := Go.Proofs.YthpmfhfnkgbkjaaHand.bz 14 975
abbrev zq40.q9 := Go.Proofs.YthpmfhfnkgbkjaaHand.bz 14 991
abbrev zq40.q10 := Go.Proofs.YthpmfhfnkgbkjaaHand.bz 14 2015
abbrev zq40.q11 := Go.Proofs.YthpmfhfnkgbkjaaHand.bz 14 2047
abbrev zq40.q12 := Go.Proofs.YthpmfhfnkgbkjaaHand.bz 14 4095
abbrev zq40.q13 := Go.Proofs.YthpmfhfnkgbkjaaHand.bz 14 8191
abbrev zq40.q14 := Go.Proofs.YthpmfhfnkgbkjaaHand.bz 14 16383
mutual
def compositorref10_covered.l0 : Nat → Int → Int → Int → Int → Int → Int → Int → Int → Int → Int → Int → Int → List (S43) → Option (Int × Int × Int × Int)
 | 0, _, _, _, _, _, _, _, _, _, _, _, _, _ => none
 | k + 1, x1, x2, x3, x4, x11, x12, x13, x14, x15, x16, x286000, x286001, x286002 => if x16 < x286001 then (compositorref10_covered.l1 k x1 x2 x3 x4 x11 x12 x13 x14 x15 x16 0 x286000 x286001 x286002) else ((compositorref10_rounded.f x11 x15).bind fun t291 => ((compositorref10_rounded.f x12 x15).bind fun t292 => ((compositorref10_rounded.f x13 x15).bind fun t293 => ((compositorref10_rounded.f x14 x15).bind fun t294 => (some (t291, t292, t293, t294))))))
def compositorref10_covered.l1 : Nat → Int → Int → Int → Int → Int → Int → Int → Int → Int → Int → Int → Int → Int → List (S43) → Option (Int × Int × Int × Int)
 | 0, _, _, _, _, _, _, _, _, _, _, _, _, _, _ => none
 | k + 1, x1, x2, x3, x4, x11, x12, x13, x14, x15, x16, x17, x286000, x286001, x286002 => if x17 < x286000 then ((compositorref10_overlap.f x1 x3 x17 x286000).bind fun t287 => ((compositorref10_overlap.f x2 x4 x16 x286001).bind fun t288 => (if 0 ≤ (wrap64 ((wrap64 (x16 * x286000)) + x17)) then (if (wrap64 ((wrap64 (x16 * x286000)) + x17)) < (x286002.length : Int) then (compositorref10_covered.l1 k x1 x2 x3 x4 (wrap64 (x11 + (wrap64 ((wrap64 (t287 * t288)) * (wrap64 ((rd_T43 x286002 (wrap64 ((wrap64 (x16 * x286000)) + x17))).f0)))))) (wrap64 (x12 + (wrap64 ((wrap64 (t287 * t288)) * (wrap64 ((rd_T43 x286002 (wrap64 ((wrap64 (x16 * x286000)) + x17))).f1)))))) (wrap64 (x13 + (wrap64 ((wrap64 (t287 * t288)) * (wrap64 ((rd_T43 x286002 (wrap64 ((wrap64 (x16 * x286000)) + x17))).f2)))))) (wrap64 (x14 + (wrap64 ((wrap64 (t287 * t288)) * (wrap64 ((rd_T43 x286002 (wrap64 ((wrap64 (x16 * x286000)) + x17))).f3)))))) (wrap64 (x15 + (wrap64 (t287 * t288)))) x16 (wrap64 (x17 + 1)) x286000 x286001 x286002) else (none)) else (none)))) else (compositorref10_covered.l0 k x1 x2 x3 x4 x11 x12 x13 x14 x15 (wrap64 (x16 + 1)) x286000 x286001 x286002)
end
def compositorref10_covered.f (k : Nat) (a0_0 : Int) (a0_1 : Int) (l0_2 : List (S43)) (a1 : Int) (a2 : Int) (a3 : Int) (a4 : Int) : Option (Int × Int × Int × Int) := compositorref10_covered.l0 k a1 a2 a3 a4 0 0 0 0 0 0 a0_0 a0_1 l0_2
theorem compositorref10_covered.mono_l : ∀ k, (∀ y0 y1 y2 y3 y4 y5 y6 y7 y8 y9 y10 y11 y12, LeO (compositorref10_covered.l0 k y0 y1 y2 y3 y4 y5 y6 y7 y8 y9 y10 y11 y12) (compositorref10_covered.l0 (k + 1) y0 y1 y2 y3 y4 y5 y6 y7 y8 y9 y10 y11 y12)) ∧ (∀ y0 y1 y2 y3 y4 y5 y6 y7 y8 y9 y10 y11 y12 y13, LeO (compositorref10_covered.l1 k y0 y1 y2 y3 y4 y5 y6 y7 y8 y9 y10 y11 y12 y13) (compositorref10_covered.l1 (k + 1) y0 y1 y2 y3 y4 y5 y6 y7 y8 y9 y10 y11 y12 y13))
 | 0 => ⟨fun _ _ _ _ _ _ _ _ _ _ _ _ _ r h => by simp [compositorref10_covered.l0] at h, fun _ _ _ _ _ _ _ _ _ _ _ _ _ _ r h => by simp [compositorref10_covered.l1] at h⟩
 | k + 1 => by
  obtain ⟨ih0, ih1⟩ := compositorref10_covered.mono_l k
  refine ⟨?_, ?_⟩
  ·
   intro y0 y1 y2 y3 y4 y5 y6 y7 y8 y9 y10 y11 y12
   unfold compositorref10_covered.l0
   repeat' first
   | (with_reducible exact ih0 _ _ _ _ _ _ _ _ _ _ _ _ _)
   | (with_reducible exact ih1 _ _ _ _ _ _ _ _ _ _ _ _ _ _)
   | (with_reducible exact LeO.refl _)
   | (with_reducible exact LeO.none _)
   | (with_reducible refine LeO.ite ?_ ?_)
   | (with_reducible refine LeO.bind ?_ (fun _ => ?_))
   | exact ih0 _ _ _ _ _ _ _ _ _ _ _ _ _
   | exact ih1 _ _ _ _ _ _ _ _ _ _ _ _ _ _
   | exact LeO.none _
   | refine LeO.ite ?_ ?_
   | refine LeO.bind ?_ (fun _ => ?_)
  ·
   intro y0 y1 y2 y3 y4 y5 y6 y7 y8 y9 y10 y11 y12 y13
   unfold compositorref10_covered.l1
   repeat' first
   | (with_reducible exact ih0 _ _ _ _ _ _ _ _ _ _ _ _ _)
   | (with_reducible exact ih1 _ _ _ _ _ _ _ _ _ _ _ _ _ _)
   | (with_reducible exact LeO.refl _)
   | (with_reducible exact LeO.none _)
   | (with_reducible refine LeO.ite ?_ ?_)
   | (with_reducible refine LeO.bind ?_ (fun _ => ?_))
   | exact ih0 _ _ _ _ _ _ _ _ _ _ _ _ _
   | exact ih1 _ _ _ _ _ _ _ _ _ _ _ _ _ _
   | exact LeO.none _
   | refine LeO.ite ?_ ?_
   | refine LeO.bind ?_ (fun _ => ?_)
theorem compositorref10_covered.mono : ∀ a0 a1 a2 a3 a4 a5 a6 k, LeO (compositorref10_covered.f k a0 a1 a2 a3 a4 a5 a6) (compositorref10_covered.f (k + 1) a0 a1 a2 a3 a4 a5 a6) := by
 intro a0 a1 a2 a3 a4 a5 a6 k
 obtain ⟨ih0, ih1⟩ := compositorref10_covered.mono_l k
 unfold compositorref10_covered.f
 repeat' first
   | (with_reducible exact ih0 _ _ _ _ _ _ _ _ _ _ _ _ _)
   | (with_reducible exact ih1 _ _ _ _ _ _ _ _ _ _ _ _ _ _)
   | (with_reducible exact LeO.refl _)
   | (with_reducible exact LeO.none _)
   | (with_reducible refine LeO.ite ?_ ?_)
   | (with_reducible refine LeO.bind ?_ (fun _ => ?_))
   | exact ih0 _ _ _ _ _ _ _ _ _ _ _ _ _
   | exact ih1 _ _ _ _ _ _ _ _ _ _ _ _ _ _
   | exact LeO.none _
   | refine LeO.ite ?_ ?_
   | refine LeO.bind ?_ (fun _ => ?_)
def compositorref10_covered.T8 : Bool × List (List Nat × List Nat) := (true, [([], []), ([], []), ([], []), ([], []), ([3], [3]), ([0, 1, 2, 4], [0, 1, 2, 4]), ([], []), ([], []), ([], []), ([], []), ([9], [9]), ([6, 7, 8, 10, 5], [6, 7, 8, 10]), ([5, 11], [5, 11]), ([12, 11, 0, 1, 2, 3, 4, 5, 6, 7, 8, 9, 10, 11, 12], [12])])
def compositorref10_covered.B8 : List Nat := [0, 0, 0, 0, 8, 31, 0, 0, 0, 0, 512, 2047, 4095, 8191]
theorem compositorref10_covered.tab8 : rtab .any (opsOf Try.f40 8) = compositorref10_covered.T8 := by kernel_rfl
theorem compositorref10_covered.bits8 : waitsOk compositorref10_covered.T8.2 compositorref10_covered.B8 = true := by kernel_rfl
set_option maxHeartbeats 8000000 in
set_option maxRecDepth 100000 in
theorem compositorref10_covered.calls (k : Nat) (a0_0 : Int) (a0_1 : Int) (A0_2 : Option Addr) (c0_2 : Nat) (l0_2 : List (S43)) (a1 : Int) (a2 : Int) (a3 : Int) (a4 : Int) (r1 : Int) (r2 : Int) (r3 : Int) (r4 : Int) (w : World) (hr0_2 : Kd.C k43 w A0_2 l0_2.length l0_2) (hc0_2 : l0_2.length ≤ c0_2) (h : compositorref10_covered.f k a0_0 a0_1 l0_2 a1 a2 a3 a4 = some (r1, r2, r3, r4)) :
  Calls Try.prog 40 #[.agg #[.int .i64 a0_0, .int .i64 a0_1, .slice A0_2 l0_2.length c0_2], .int .i64 a1, .int .i64 a2, .int .i64 a3, .int .i64 a4] w fun e w' => e = .returned (.agg #[.int .u8 r1, .int .u8 r2, .int .u8 r3, .int .u8 r4]) ∧ Below w.heap.size w w' := by
 have hu24 := Try.underlying24
 have hu43 := Try.underlying43
 have HR0_2 := Aside0.mk hr0_2
 have HC0_2 := Aside0.mk hc0_2
 clear hr0_2 hc0_2
 have HB := Aside0.mk (Below.refl w.heap.size w)
 have H : (compositorref10_covered.l0 k a1 a2 a3 a4 0 0 0 0 0 0 a0_0 a0_1 l0_2) = some (r1, r2, r3, r4) := h
 clear h
 have H' := Aside0.mk H
 clear H
 go_enter Try.func40, Try.ntmps40
 go_wp2_with (first | ((with_reducible refine gate_dst (N := 5) rfl ?_); refine box_event ?hg (N := 5) ?hd (cs := #[.int .i64 a0_0, .int .i64 a0_1, .slice A0_2 l0_2.length c0_2]) (t := 24) ?hr ?_; (case hd => rfl); (case hg => rfl); (case hr => first | (go_simp; done) | (go_simp; rfl)); intro gb285 hg w6 hbox hb; have n0_ := hb_ HB hb; have n1_ := Aside0.mk (hbox); have n2_ := Aside0.mk ((by rw [hg]; exact (below_size (hq_ HB)) : w.heap.size ≤ gb285)); have n3_ := Aside0.mk ((by rw [hg]; exact (below_size (hq_ HB)) : w.heap.size ≤ gb285)); clear HB; have HB := n0_; have BK285 := n1_; have GW285 := n2_; have GE285 := n3_; clear n0_ n1_ n2_ n3_; clear hb hbox hg) | ((with_reducible refine gate_dst (N := 10) rfl ?_); refine box_event ?hg (N := 10) ?hd (cs := #[.int .u8 0, .int .u8 0, .int .u8 0, .int .u8 0]) (t := 43) ?hr ?_; (case hd => rfl); (case hg => rfl); (case hr => first | (go_simp; done) | (go_simp; rfl)); intro gb286 hg w7 hbox hb; have n0_ := bb_ BK285 hb; have n1_ := hb_ HB hb; have n2_ := Aside0.mk (hbox); have n3_ := Aside0.mk ((by rw [hg]; exact (below_size (hq_ HB)) : w.heap.size ≤ gb286)); have n4_ := Aside0.mk ((by rw [hg]; exact (below_size (hq_ HB)) : w.heap.size ≤ gb286)); have n5_ := Aside0.mk ((by rw [hg]; exact Nat.ne_of_lt (blk_lt (g := gb285) (o := .cells #[.int .i64 a0_0, .int .i64 a0_1, .slice A0_2 l0_2.length c0_2] 24 (0, 0)) (bq_ BK285)) : gb285 ≠ gb286)); have n6_ := Aside0.mk ((by rw [hg]; exact Nat.ne_of_gt (blk_lt (g := gb285) (o := .cells #[.int .i64 a0_0, .int .i64 a0_1, .slice A0_2 l0_2.length c0_2] 24 (0, 0)) (bq_ BK285)) : gb286 ≠ gb285)); clear BK285; clear HB; have BK285 := n0_; have HB := n1_; have BK286 := n2_; have GW286 := n3_; have GE286 := n4_; have NB285_286 := n5_; have NB286_285 := n6_; clear n0_ n1_ n2_ n3_ n4_ n5_ n6_; clear hb hbox hg))
 go_loopg [11, 12, 13, 14, 15, 16] k (fun kq v11 v12 v13 v14 v15 v16 w' => ∃ (x11_1 : Int) (x12_1 : Int) (x13_1 : Int) (x14_1 : Int) (x15_1 : Int) (x16_1 : Int), v11 = .int .i64 x11_1 ∧ v12 = .int .i64 x12_1 ∧ v13 = .int .i64 x13_1 ∧ v14 = .int .i64 x14_1 ∧ v15 = .int .i64 x15_1 ∧ v16 = .int .i64 x16_1 ∧ Aside0 (compositorref10_covered.l0 kq a1 a2 a3 a4 x11_1 x12_1 x13_1 x14_1 x15_1 x16_1 a0_0 a0_1 l0_2 = some (r1, r2, r3, r4)) ∧ Aside0 (kq ≤ k) ∧ Aside0 (w'.heap[gb285]? = some (.cells #[.int .i64 a0_0, .int .i64 a0_1, (.slice A0_2 l0_2.length c0_2)] 24 (0, 0))) ∧ Aside0 (w'.heap[gb286]? = some (.cells #[.int .u8 0, .int .u8 0, .int .u8 0, .int .u8 0] 43 (0, 0))) ∧ Aside0 (Below w.heap.size w w'))
 case atStart => exact ⟨(0), (0), (0), (0), (0), (0), (by first | rfl | (simp; done) | (simp [*]; done)), (by first | rfl | (simp; done) | (simp [*]; done)), (by first | rfl | (simp; done) | (simp [*]; done)), (by first | rfl | (simp; done) | (simp [*]; done)), (by first | rfl | (simp; done) | (simp [*]; done)), (by first | rfl | (simp; done) | (simp [*]; done)), H', ⟨Nat.le_refl _⟩, bf_ BK285, bf_ BK286, ⟨by repeat (first | (with_reducible first | exact HB.out | apply below_alloc | apply pw_below_drewN | apply below_drew1 | refine below_set ?_ GE285.out | refine below_set ?_ GE286.out) | exact HB.out)⟩⟩
 case round =>
  clear H'
  try clear p2
  try clear c4
  obtain ⟨x11_1, x12_1, x13_1, x14_1, x15_1, x16_1, rfl, rfl, rfl, rfl, rfl, rfl, HA, HK1, BK285, BK286, HB⟩ := hrel
  cases gk with
  | zero => exact absurd HA.out (by simp [compositorref10_covered.l0])
  | succ k1 =>
   have H := HA.out
   clear HA
   simp only [compositorref10_covered.l0] at H
   by_cases c8 : x16_1 < a0_1
   ·
    rw [if_pos c8] at H
    have c8b0 : decide (x16_1 < a0_1) = true := decide_eq_true c8
    clear c8
    have H' := Aside0.mk H
    clear H
    have hnb9 := NB285_286.out
    have hnc9 := NB286_285.out
    have hcz10_0 : wr.cell? ⟨gb285, 0, none⟩ = some (.int .i64 a0_0) := (blk_cell BK285.out 0).trans rfl
    have hcz10_1 : wr.cell? ⟨gb285, 1, none⟩ = some (.int .i64 a0_1) := (blk_cell BK285.out 1).trans rfl
    have hcz10_2 : wr.cell? ⟨gb285, 2, none⟩ = some (.slice A0_2 l0_2.length c0_2) := (blk_cell BK285.out 2).trans rfl
    have hfz10_0 := blk_frozen BK285.out 0
    have hfz10_1 := blk_frozen BK285.out 1
    have hfz10_2 := blk_frozen BK285.out 2
    go_wp2
    go_loopg [11, 12, 13, 14, 15, 17] k1 (fun kq v11 v12 v13 v14 v15 v17 w' => ∃ (x11_2 : Int) (x12_2 : Int) (x13_2 : Int) (x14_2 : Int) (x15_2 : Int) (x17_2 : Int), v11 = .int .i64 x11_2 ∧ v12 = .int .i64 x12_2 ∧ v13 = .int .i64 x13_2 ∧ v14 = .int .i64 x14_2 ∧ v15 = .int .i64 x15_2 ∧ v17 = .int .i64 x17_2 ∧ Aside0 (compositorref10_covered.l1 kq a1 a2 a3 a4 x11_2 x12_2 x13_2 x14_2 x15_2 x16_1 x17_2 a0_0 a0_1 l0_2 = some (r1, r2, r3, r4)) ∧ Aside0 (kq ≤ k1) ∧ Aside0 (w'.heap[gb285]? = some (.cells #[.int .i64 a0_0, .int .i64 a0_1, (.slice A0_2 l0_2.length c0_2)] 24 (0, 0))) ∧ Aside0 (w'.heap[gb286]? = some (.cells #[.int .u8 0, .int .u8 0, .int .u8 0, .int .u8 0] 43 (0, 0))) ∧ Aside0 (Below w.heap.size w w'))
    case atStart => exact ⟨(x11_1), (x12_1), (x13_1), (x14_1), (x15_1), (0), (by first | rfl | (simp; done) | (simp [*]; done)), (by first | rfl | (simp; done) | (simp [*]; done)), (by first | rfl | (simp; done) | (simp [*]; done)), (by first | rfl | (simp; done) | (simp [*]; done)), (by first | rfl | (simp; done) | (simp [*]; done)), (by first | rfl | (simp; done) | (simp [*]; done)), H', ⟨Nat.le_refl _⟩, bf_ BK285, bf_ BK286, ⟨by repeat (first | (with_reducible first | exact HB.out | apply below_alloc | apply pw_below_drewN | apply below_drew1 | refine below_set ?_ GE285.out | refine below_set ?_ GE286.out) | exact HB.out)⟩⟩
    case round =>
     clear H'
     try clear p2
     try clear c4
     try clear c8
     try clear c8b0
     try clear c9
     try clear hcz10_0
     try clear hcz10_1
     try clear hcz10_2
     try clear hfz10_0
     try clear hfz10_1
     try clear hfz10_2
     try clear p2
     obtain ⟨x11_2, x12_2, x13_2, x14_2, x15_2, x17_2, rfl, rfl, rfl, rfl, rfl, rfl, HA, HK2, BK285, BK286, HB⟩ := hrel
     cases gk with
     | zero => exact absurd HA.out (by simp [compositorref10_covered.l1])
     | succ k2 =>
      have H := HA.out
      clear HA
      simp only [compositorref10_covered.l1] at H
      by_cases c11 : x17_2 < a0_0
      ·
       rw [if_pos c11] at H
       have c11b0 : decide (x17_2 < a0_0) = true := decide_eq_true c11
       clear c11
       replace H := Option.bind_eq_some_iff.mp H
       obtain ⟨t287, A120, H⟩ := H
       try dsimp only at H
       have A12 := Aside0.mk A120
       clear A120
       replace H := Option.bind_eq_some_iff.mp H
       obtain ⟨t288, A130, H⟩ := H
       try dsimp only at H
       have A13 := Aside0.mk A130
       clear A130
       obtain ⟨ji14, hji14⟩ : ∃ j_ : Int, (wrap64 ((wrap64 (x16_1 * a0_0)) + x17_2)) = j_ := ⟨_, rfl⟩
       replace H : (if 0 ≤ (ji14) then (if (ji14) < (l0_2.length : Int) then (compositorref10_covered.l1 k2 a1 a2 a3 a4 (wrap64 (x11_2 + (wrap64 ((wrap64 (t287 * t288)) * (wrap64 ((rd_T43 l0_2 (ji14)).f0)))))) (wrap64 (x12_2 + (wrap64 ((wrap64 (t287 * t288)) * (wrap64 ((rd_T43 l0_2 (ji14)).f1)))))) (wrap64 (x13_2 + (wrap64 ((wrap64 (t287 * t288)) * (wrap64 ((rd_T43 l0_2 (ji14)).f2)))))) (wrap64 (x14_2 + (wrap64 ((wrap64 (t287 * t288)) * (wrap64 ((rd_T43 l0_2 (ji14)).f3)))))) (wrap64 (x15_2 + (wrap64 (t287 * t288)))) x16_1 (wrap64 (x17_2 + 1)) a0_0 a0_1 l0_2) else (none)) else (none)) = some (r1, r2, r3, r4) := by first | (rw [hji14] at H; exact H) | (simp only [hji14] at H ⊢; exact H)
       (try rw [hji14] at A12)
       (try rw [hji14] at A13)
       have hji14w : (IntKind.i64.wrap ((wrap64 (x16_1 * a0_0)) + x17_2)) = ji14 := (i64_w _).trans hji14
       by_cases c15 : 0 ≤ (ji14)
       ·
        rw [if_pos c15] at H
        have c15b0 : decide (0 ≤ (ji14)) = true := decide_eq_true c15
        clear c15
        by_cases c16 : (ji14) < (l0_2.length : Int)
        ·
         rw [if_pos c16] at H
         have c16b0 : decide ((ji14) < (l0_2.length : Int)) = true := decide_eq_true c16
         clear c16
         have H' := Aside0.mk H
         clear H
         have hnb17 := NB285_286.out
         have hnc17 := NB286_285.out
         have hcz18_0 : wr.cell? ⟨gb285, 0, none⟩ = some (.int .i64 a0_0) := (blk_cell BK285.out 0).trans rfl
         have hcz18_1 : wr.cell? ⟨gb285, 1, none⟩ = some (.int .i64 a0_1) := (blk_cell BK285.out 1).trans rfl
         have hcz18_2 : wr.cell? ⟨gb285, 2, none⟩ = some (.slice A0_2 l0_2.length c0_2) := (blk_cell BK285.out 2).trans rfl
         have hfz18_0 := blk_frozen BK285.out 0
         have hfz18_1 := blk_frozen BK285.out 1
         have hfz18_2 := blk_frozen BK285.out 2
         try go_wp2
         replace BK285 := Aside0.mk (blk_drew BK285.out)
         replace BK286 := Aside0.mk (blk_drew BK286.out)
         replace HB := Aside0.mk (below_drew1 HB.out)
         refine start_ (n := 14) (S := fun w' => w'.cell? ⟨gb285, 0, none⟩ = some (.int .i64 a0_0) ∧ w'.cell? ⟨gb285, 1, none⟩ = some (.int .i64 a0_1) ∧ w'.cell? ⟨gb285, 2, none⟩ = some (.slice A0_2 l0_2.length c0_2)) (ds := []) zq40.q0 (by kernel_rfl) rfl rfl ⟨c_ BK285 0, ⟨c_ BK285 1, (c_ BK285 2)⟩⟩ (fun hHeld => ?_); refine with_tabW compositorref10_covered.tab8 compositorref10_covered.bits8 (fun HT_ HW_ => ?_)
         generalize wr.drew = w19 at BK285 BK286 HB hHeld ⊢
         refine pv_ 0 32 zq40.q1 HT_ ?_
         refine pv_ 1 33 zq40.q2 HT_ ?_
         refine pv_ 2 34 zq40.q3 HT_ ?_
         refine pv_ 3 35 zq40.q4 HT_ ?_
         refine pv_ 6 38 zq40.q5 HT_ ?_
         refine pv_ 7 39 zq40.q6 HT_ ?_
         refine pv_ 8 40 zq40.q7 HT_ ?_
         refine pv_ 9 41 zq40.q8 HT_ ?_
         refine take_ (i := 4) (N := some 36) (v := ?_) (a' := ?_) zq40.q9 rfl rfl (take_ofW HT_.out HW_.out (by kernel_rfl)) (fun _ _ _ h => h) (Or.inl ⟨by rfl, ?_⟩) hHeld ?_ ?_
         rotate_left
         ·
          rintro w' ⟨s0, s1, s2⟩
          go_simp
          with_reducible rfl
         rotate_left
         ·
          simp only [Act.put, List.setIfInBounds_toArray, List.set_cons_zero, List.set_cons_succ, i64_w, i32_w]
          rfl
         refine take_ (i := 10) (N := some 42) (v := ?_) (a' := ?_) zq40.q10 rfl rfl (take_ofW HT_.out HW_.out (by kernel_rfl)) (fun _ _ _ h => h) (Or.inl ⟨by rfl, ?_⟩) hHeld ?_ ?_
         rotate_left
         ·
          rintro w' ⟨s0, s1, s2⟩
          go_simp
          with_reducible rfl
         rotate_left
         ·
          simp only [Act.put, List.setIfInBounds_toArray, List.set_cons_zero, List.set_cons_succ, i64_w, i32_w]
          rfl
         refine one_ (i := 5) (N := some 37) zq40.q11 rfl rfl (one_of HT_.out (by kernel_rfl)) (by decide) (fun K hK => ?_)
         refine gs_ Try.func53 #[.int .i64 a1, .int .i64 a3, .int .i64 x17_2, .int .i64 a0_0] ?_
         with_reducible refine (compositorref10_overlap.calls a1 a3 x17_2 a0_0 t287 _ A12.out).mono ?_
         rintro e w20 ⟨rfl, hb⟩
         refine ⟨_, rfl, ?_⟩
         replace BK285 := bb_ BK285 hb
         replace BK286 := bb_ BK286 hb
         replace HB := hb_ HB hb
         (try clear hb); (try clear hb2); (try clear hk); (try clear hi)
         refine hK.out _ _ ⟨c_ BK285 0, ⟨c_ BK285 1, (c_ BK285 2)⟩⟩ (fun hHeld => ?_)
         clear hK K
         refine norm_ (a' := ?_) ?_ ?_
         rotate_left
         ·
          show Act.put _ (some 37) _ = _
          simp only [Act.put, List.setIfInBounds_toArray, List.set_cons_zero, List.set_cons_succ, i64_w, i32_w]
          rfl
         refine one_ (i := 11) (N := some 43) zq40.q12 rfl rfl (one_of HT_.out (by kernel_rfl)) (by decide) (fun K hK => ?_)
         refine gs_ Try.func53 #[.int .i64 a2, .int .i64 a4, .int .i64 x16_1, .int .i64 a0_1] ?_
         with_reducible refine (compositorref10_overlap.calls a2 a4 x16_1 a0_1 t288 _ A13.out).mono ?_
         rintro e w21 ⟨rfl, hb⟩
         refine ⟨_, rfl, ?_⟩
         replace BK285 := bb_ BK285 hb
         replace BK286 := bb_ BK286 hb
         replace HB := hb_ HB hb
         (try clear hb); (try clear hb2); (try clear hk); (try clear hi)
         refine hK.out _ _ ⟨c_ BK285 0, ⟨c_ BK285 1, (c_ BK285 2)⟩⟩ (fun hHeld => ?_)
         clear hK K
         refine norm_ (a' := ?_) ?_ ?_
         rotate_left
         ·
          show Act.put _ (some 43) _ = _
          simp only [Act.put, List.setIfInBounds_toArray, List.set_cons_zero, List.set_cons_succ, i64_w, i32_w]
          rfl
         refine pv_ 12 44 zq40.q13 HT_ ?_
         refine pv_ 13 18 zq40.q14 HT_ ?_
         refine done_ (done_of HT_.out (by kernel_rfl)) ?_
         have hcz22_0 : w21.cell? ⟨gb285, 0, none⟩ = some (.int .i64 a0_0) := (blk_cell BK285.out 0).trans rfl
         have hcz22_1 : w21.cell? ⟨gb285, 1, none⟩ = some (.int .i64 a0_1) := (blk_cell BK285.out 1).trans rfl
         have hcz22_2 : w21.cell? ⟨gb285, 2, none⟩ = some (.slice A0_2 l0_2.length c0_2) := (blk_cell BK285.out 2).trans rfl
         have hfz22_0 := blk_frozen BK285.out 0
         have hfz22_1 := blk_frozen BK285.out 1
         have hfz22_2 := blk_frozen BK285.out 2
         have p289 : 0 ≤ ((ji14) : Int) := of_decide_eq_true (by first | (with_reducible assumption) | assumption)
         have q289 : (ji14) < (l0_2.length : Int) := of_decide_eq_true (by first | (with_reducible assumption) | assumption)
         obtain ⟨ad289, e289, hx289_0, hx289_1, hx289_2, hx289_3⟩ := at_T43 HR0_2.out (ji14) p289 q289
         cases e289
         replace hx289_0 := (HB.out.cell (World.block_lt_of_cell? w _ hx289_0)).trans hx289_0
         replace hx289_1 := (HB.out.cell (World.block_lt_of_cell? w _ hx289_1)).trans hx289_1
         replace hx289_2 := (HB.out.cell (World.block_lt_of_cell? w _ hx289_2)).trans hx289_2
         replace hx289_3 := (HB.out.cell (World.block_lt_of_cell? w _ hx289_3)).trans hx289_3
         replace p289 := eq_true p289
         replace q289 := eq_true q289
         try go_wp2_with (first | ((with_reducible refine gate_dst (N := 19) rfl ?_); refine box_event ?hg (N := 19) ?hd (cs := #[.int .u8 0, .int .u8 0, .int .u8 0, .int .u8 0]) (t := 43) ?hr ?_; (case hd => rfl); (case hg => rfl); (case hr => first | (go_simp; done) | (go_simp; rfl)); intro gb290 hg w23 hbox hb; have n0_ := bb_ BK285 hb; have n1_ := bb_ BK286 hb; have n2_ := hb_ HB hb; have n3_ := Aside0.mk (hbox); have n4_ := Aside0.mk ((by rw [hg]; exact (below_size (hq_ HB)) : w.heap.size ≤ gb290)); have n5_ := Aside0.mk ((by rw [hg]; exact (below_size (hq_ HB)) : w.heap.size ≤ gb290)); have n6_ := Aside0.mk ((by rw [hg]; exact Nat.ne_of_lt (blk_lt (g := gb285) (o := .cells #[.int .i64 a0_0, .int .i64 a0_1, .slice (some ad289) l0_2.length c0_2] 24 (0, 0)) (bq_ BK285)) : gb285 ≠ gb290)); have n7_ := Aside0.mk ((by rw [hg]; exact Nat.ne_of_gt (blk_lt (g := gb285) (o := .cells #[.int .i64 a0_0, .int .i64 a0_1, .slice (some ad289) l0_2.length c0_2] 24 (0, 0)) (bq_ BK285)) : gb290 ≠ gb285)); have n8_ := Aside0.mk ((by rw [hg]; exact Nat.ne_of_lt (blk_lt (g := gb286) (o := .cells #[.int .u8 0, .int .u8 0, .int .u8 0, .int .u8 0] 43 (0, 0)) (bq_ BK286)) : gb286 ≠ gb290)); have n9_ := Aside0.mk ((by rw [hg]; exact Nat.ne_of_gt (blk_lt (g := gb286) (o := .cells #[.int .u8 0, .int .u8 0, .int .u8 0, .int .u8 0] 43 (0, 0)) (bq_ BK286)) : gb290 ≠ gb286)); clear BK285; clear BK286; clear HB; have BK285 := n0_; have BK286 := n1_; have HB := n2_; have BK290 := n3_; have GW290 := n4_; have GE290 := n5_; have NB285_290 := n6_; have NB290_285 := n7_; have NB286_290 := n8_; have NB290_286 := n9_; clear n0_ n1_ n2_ n3_ n4_ n5_ n6_ n7_ n8_ n9_; clear hb hbox hg; have hnb24 := NB290_285.out; have hnc24 := NB285_290.out; have hnb25 := NB290_286.out; have hnc25 := NB286_290.out; have hcz26_0 : w23.cell? ⟨gb290, 0, none⟩ = some (.int .u8 0) := (blk_cell BK290.out 0).trans rfl; have hcz26_1 : w23.cell? ⟨gb290, 1, none⟩ = some (.int .u8 0) := (blk_cell BK290.out 1).trans rfl; have hcz26_2 : w23.cell? ⟨gb290, 2, none⟩ = some (.int .u8 0) := (blk_cell BK290.out 2).trans rfl; have hcz26_3 : w23.cell? ⟨gb290, 3, none⟩ = some (.int .u8 0) := (blk_cell BK290.out 3).trans rfl; have hfz26_0 := blk_frozen BK290.out 0; have hfz26_1 := blk_frozen BK290.out 1; have hfz26_2 := blk_frozen BK290.out 2; have hfz26_3 := blk_frozen BK290.out 3))
         go_roundg k2
         case measure => have := HK1.out; have := HK2.out; omega
         case rel => exact ⟨(wrap64 (x11_2 + (wrap64 ((wrap64 (t287 * t288)) * (wrap64 ((rd_T43 l0_2 (ji14)).f0)))))), (wrap64 (x12_2 + (wrap64 ((wrap64 (t287 * t288)) * (wrap64 ((rd_T43 l0_2 (ji14)).f1)))))), (wrap64 (x13_2 + (wrap64 ((wrap64 (t287 * t288)) * (wrap64 ((rd_T43 l0_2 (ji14)).f2)))))), (wrap64 (x14_2 + (wrap64 ((wrap64 (t287 * t288)) * (wrap64 ((rd_T43 l0_2 (ji14)).f3)))))), (wrap64 (x15_2 + (wrap64 (t287 * t288)))), (wrap64 (x17_2 + 1)), (by first | rfl | (simp; done) | (simp only [← hji14] <;> (first | rfl | simp)) | (simp [*]; done)), (by first | rfl | (simp; done) | (simp only [← hji14] <;> (first | rfl | simp)) | (simp [*]; done)), (by first | rfl | (simp; done) | (simp only [← hji14] <;> (first | rfl | simp)) | (simp [*]; done)), (by first | rfl | (simp; done) | (simp only [← hji14] <;> (first | rfl | simp)) | (simp [*]; done)), (by first | rfl | (simp; done) | (simp [*]; done)), (by first | rfl | (simp; done) | (simp [*]; done)), H', ⟨by have := HK1.out; have := HK2.out; omega⟩, bf_ BK285, bf_ BK286, ⟨by repeat (first | (with_reducible first | exact HB.out | apply below_alloc | apply pw_below_drewN | apply below_drew1 | refine below_set ?_ GE285.out | refine below_set ?_ GE286.out | refine below_set ?_ GE290.out) | exact HB.out)⟩⟩
        ·
         rw [if_neg c16] at H
         exact absurd H (by simp)
       ·
        rw [if_neg c15] at H
        exact absurd H (by simp)
      ·
       rw [if_neg c11] at H
       have c11b0 : decide (x17_2 < a0_0) = false := decide_eq_false c11
       clear c11
       have H' := Aside0.mk H
       clear H
       have hnb27 := NB285_286.out
       have hnc27 := NB286_285.out
       have hcz28_0 : wr.cell? ⟨gb285, 0, none⟩ = some (.int .i64 a0_0) := (blk_cell BK285.out 0).trans rfl
       have hcz28_1 : wr.cell? ⟨gb285, 1, none⟩ = some (.int .i64 a0_1) := (blk_cell BK285.out 1).trans rfl
       have hcz28_2 : wr.cell? ⟨gb285, 2, none⟩ = some (.slice A0_2 l0_2.length c0_2) := (blk_cell BK285.out 2).trans rfl
       have hfz28_0 := blk_frozen BK285.out 0
       have hfz28_1 := blk_frozen BK285.out 1
       have hfz28_2 := blk_frozen BK285.out 2
       go_wp2
       go_roundg k2
       case measure => have := HK1.out; have := HK2.out; omega
       case rel => exact ⟨(x11_2), (x12_2), (x13_2), (x14_2), (x15_2), (wrap64 (x16_1 + 1)), (by first | rfl | (simp; done) | (simp [*]; done)), (by first | rfl | (simp; done) | (simp [*]; done)), (by first | rfl | (simp; done) | (simp [*]; done)), (by first | rfl | (simp; done) | (simp [*]; done)), (by first | rfl | (simp; done) | (simp [*]; done)), (by first | rfl | (simp; done) | (simp [*]; done)), H', ⟨by have := HK1.out; have := HK2.out; omega⟩, bf_ BK285, bf_ BK286, ⟨by repeat (first | (with_reducible first | exact HB.out | apply below_alloc | apply pw_below_drewN | apply below_drew1 | refine below_set ?_ GE285.out | refine below_set ?_ GE286.out) | exact HB.out)⟩⟩
   ·
    rw [if_neg c8] at H
    have c8b0 : decide (x16_1 < a0_1) = false := decide_eq_false c8
    clear c8
    replace H := Option.bind_eq_some_iff.mp H
    obtain ⟨t291, A290, H⟩ := H
    try dsimp only at H
    have A29 := Aside0.mk A290
    clear A290
    replace H := Option.bind_eq_some_iff.mp H
    obtain ⟨t292, A300, H⟩ := H
    try dsimp only at H
    have A30 := Aside0.mk A300
    clear A300
    replace H := Option.bind_eq_some_iff.mp H
    obtain ⟨t293, A310, H⟩ := H
    try dsimp only at H
    have A31 := Aside0.mk A310
    clear A310
    replace H := Option.bind_eq_some_iff.mp H
    obtain ⟨t294, A320, H⟩ := H
    try dsimp only at H
    have A32 := Aside0.mk A320
    clear A320
    simp only [Option.some.injEq, Prod.mk.injEq] at H
    obtain ⟨rfl, rfl, rfl, rfl⟩ := H
    have hnb33 := NB285_286.out
    have hnc33 := NB286_285.out
    have hcz34_0 : wr.cell? ⟨gb285, 0, none⟩ = some (.int .i64 a0_0) := (blk_cell BK285.out 0).trans rfl
    have hcz34_1 : wr.cell? ⟨gb285, 1, none⟩ = some (.int .i64 a0_1) := (blk_cell BK285.out 1).trans rfl
    have hcz34_2 : wr.cell? ⟨gb285, 2, none⟩ = some (.slice A0_2 l0_2.length c0_2) := (blk_cell BK285.out 2).trans rfl
    have hfz34_0 := blk_frozen BK285.out 0
    have hfz34_1 := blk_frozen BK285.out 1
    have hfz34_2 := blk_frozen BK285.out 2
    go_wp2_with (first | ((with_reducible refine gate_callee (f := 54) rfl ?_); refine goesL_ (some 88) rfl rfl Try.func54 (by kernel_rfl) rfl #[.int .i64 x11_1, .int .i64 x15_1] rfl (by (try simp only [List.map_toArray, List.map_cons, List.map_nil]) <;> rfl) ?_; (with_reducible refine (compositorref10_rounded.calls x11_1 x15_1 t291 _ A29.out).mono ?_); rintro e w' ⟨rfl, ⟨nd, rfl⟩⟩; refine ⟨_, rfl, ?_⟩; (try (rw [drewN_self wr]; generalize hq_ : World.drewN wr _ = wr; have n0_ : Aside0 (wr.heap[gb285]? = some (.cells #[.int .i64 a0_0, .int .i64 a0_1, .slice A0_2 l0_2.length c0_2] 24 (0, 0))) := ⟨by rw [← hq_]; exact (bq_ BK285)⟩; have n1_ : Aside0 (wr.heap[gb286]? = some (.cells #[.int .u8 0, .int .u8 0, .int .u8 0, .int .u8 0] 43 (0, 0))) := ⟨by rw [← hq_]; exact (bq_ BK286)⟩; have n2_ : Aside0 (Below w.heap.size w wr) := ⟨by rw [← hq_]; exact (hq_ HB)⟩; clear BK285 BK286 HB hq_; have BK285 := n0_; have BK286 := n1_; have HB := n2_; clear n0_ n1_ n2_))) | ((with_reducible refine gate_callee (f := 54) rfl ?_); refine goesL_ (some 91) rfl rfl Try.func54 (by kernel_rfl) rfl #[.int .i64 x12_1, .int .i64 x15_1] rfl (by (try simp only [List.map_toArray, List.map_cons, List.map_nil]) <;> rfl) ?_; (with_reducible refine (compositorref10_rounded.calls x12_1 x15_1 t292 _ A30.out).mono ?_); rintro e w' ⟨rfl, ⟨nd, rfl⟩⟩; refine ⟨_, rfl, ?_⟩; (try (rw [drewN_self wr]; generalize hq_ : World.drewN wr _ = wr; have n0_ : Aside0 (wr.heap[gb285]? = some (.cells #[.int .i64 a0_0, .int .i64 a0_1, .slice A0_2 l0_2.length c0_2] 24 (0, 0))) := ⟨by rw [← hq_]; exact (bq_ BK285)⟩; have n1_ : Aside0 (wr.heap[gb286]? = some (.cells #[.int .u8 0, .int .u8 0, .int .u8 0, .int .u8 0] 43 (0, 0))) := ⟨by rw [← hq_]; exact (bq_ BK286)⟩; have n2_ : Aside0 (Below w.heap.size w wr) := ⟨by rw [← hq_]; exact (hq_ HB)⟩; clear BK285 BK286 HB hq_; have BK285 := n0_; have BK286 := n1_; have HB := n2_; clear n0_ n1_ n2_))) | ((with_reducible refine gate_callee (f := 54) rfl ?_); refine goesL_ (some 94) rfl rfl Try.func54 (by kernel_rfl) rfl #[.int .i64 x13_1, .int .i64 x15_1] rfl (by (try simp only [List.map_toArray, List.map_cons, List.map_nil]) <;> rfl) ?_; (with_reducible refine (compositorref10_rounded.calls x13_1 x15_1 t293 _ A31.out).mono ?_); rintro e w' ⟨rfl, ⟨nd, rfl⟩⟩; refine ⟨_, rfl, ?_⟩; (try (rw [drewN_self wr]; generalize hq_ : World.drewN wr _ = wr; have n0_ : Aside0 (wr.heap[gb285]? = some (.cells #[.int .i64 a0_0, .int .i64 a0_1, .slice A0_2 l0_2.length c0_2] 24 (0, 0))) := ⟨by rw [← hq_]; exact (bq_ BK285)⟩; have n1_ : Aside0 (wr.heap[gb286]? = some (.cells #[.int .u8 0, .int .u8 0, .int .u8 0, .int .u8 0] 43 (0, 0))) := ⟨by rw [← hq_]; exact (bq_ BK286)⟩; have n2_ : Aside0 (Below w.heap.size w wr) := ⟨by rw [← hq_]; exact (hq_ HB)⟩; clear BK285 BK286 HB hq_; have BK285 := n0_; have BK286 := n1_; have HB := n2_; clear n0_ n1_ n2_))) | ((with_reducible refine gate_callee (f := 54) rfl ?_); refine goesL_ (some 97) rfl rfl Try.func54 (by kernel_rfl) rfl #[.int .i64 x14_1, .int .i64 x15_1] rfl (by (try simp only [List.map_toArray, List.map_cons, List.map_nil]) <;> rfl) ?_; (with_reducible refine (compositorref10_rounded.calls x14_1 x15_1 t294 _ A32.out).mono ?_); rintro e w' ⟨rfl, ⟨nd, rfl⟩⟩; refine ⟨_, rfl, ?_⟩; (try (rw [drewN_self wr]; generalize hq_ : World.drewN wr _ = wr; have n0_ : Aside0 (wr.heap[gb285]? = some (.cells #[.int .i64 a0_0, .int .i64 a0_1, .slice A0_2 l0_2.length c0_2] 24 (0, 0))) := ⟨by rw [← hq_]; exact (bq_ BK285)⟩; have n1_ : Aside0 (wr.heap[gb286]? = some (.cells #[.int .u8 0, .int .u8 0, .int .u8 0, .int .u8 0] 43 (0, 0))) := ⟨by rw [← hq_]; exact (bq_ BK286)⟩; have n2_ : Aside0 (Below w.heap.size w wr) := ⟨by rw [← hq_]; exact (hq_ HB)⟩; clear BK285 BK286 HB hq_; have BK285 := n0_; have BK286 := n1_; have HB := n2_; clear n0_ n1_ n2_)); have hcz35_0 : wr.cell? ⟨gb286, 0, none⟩ = some (.int .u8 0) := (blk_cell BK286.out 0).trans rfl; have hcz35_1 : wr.cell? ⟨gb286, 1, none⟩ = some (.int .u8 0) := (blk_cell BK286.out 1).trans rfl; have hcz35_2 : wr.cell? ⟨gb286, 2, none⟩ = some (.int .u8 0) := (blk_cell BK286.out 2).trans rfl; have hcz35_3 : wr.cell? ⟨gb286, 3, none⟩ = some (.int .u8 0) := (blk_cell BK286.out 3).trans rfl; have hfz35_0 := blk_frozen BK286.out 0; have hfz35_1 := blk_frozen BK286.out 1; have hfz35_2 := blk_frozen BK286.out 2; have hfz35_3 := blk_frozen BK286.out 3))
    refine bodyPost_ret (results_cell_row rfl _ _ gb286 43 #[.int .u8 t291, .int .u8 t292, .int .u8 t293, .int .u8 t294] (0, 0) _ rfl (by (with_reducible repeat (first | refine blk_drewN ?_ _ | refine blk_drew ?_ | refine blk_alloc ?_ _)); refine blk_put (cs := #[.int .u8 t291, .int .u8 t292, .int .u8 t293, .int .u8 0]) ?_ 3 _ rfl; (with_reducible repeat (first | refine blk_drewN ?_ _ | refine blk_drew ?_ | refine blk_alloc ?_ _)); refine blk_put (cs := #[.int .u8 t291, .int .u8 t292, .int .u8 0, .int .u8 0]) ?_ 2 _ rfl; (with_reducible repeat (first | refine blk_drewN ?_ _ | refine blk_drew ?_ | refine blk_alloc ?_ _)); refine blk_put (cs := #[.int .u8 t291, .int .u8 0, .int .u8 0, .int .u8 0]) ?_ 1 _ rfl; (with_reducible repeat (first | refine blk_drewN ?_ _ | refine blk_drew ?_ | refine blk_alloc ?_ _)); refine blk_put (cs := #[.int .u8 0, .int .u8 0, .int .u8 0, .int .u8 0]) ?_ 0 _ rfl; (with_reducible repeat (first | refine blk_drewN ?_ _ | refine blk_drew ?_ | refine blk_alloc ?_ _)); exact BK286.out) Try.underlying43 rfl (by kernel_rfl)) rfl ?_
    exact ⟨by first | rfl | (simp [errW_none, errW_some] <;> rfl) | (simp [*, errW_none, errW_some] <;> rfl), by repeat (first | (with_reducible first | exact HB.out | apply below_alloc | apply pw_below_drewN | apply below_drew1 | refine below_set ?_ GE285.out | refine below_set ?_ GE286.out) | exact HB.out)⟩

end Go.Proofs.Ythpmfhfnkgbkjaa.All
