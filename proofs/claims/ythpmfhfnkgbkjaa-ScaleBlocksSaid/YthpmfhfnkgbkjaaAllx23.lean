-- Written by a program of this session, which runs the kit's print.py and puts in functions that this session typed. Not trusted: Lean checks it.
import Derived.Test.YthpmfhfnkgbkjaaHand
import Derived.Test.YthpmfhfnkgbkjaaAllx0
import Derived.Test.YthpmfhfnkgbkjaaAllx22
namespace Go.Proofs.Ythpmfhfnkgbkjaa.All
open Go.Proofs.YthpmfhfnkgbkjaaSq
open Go.RowKit Go.Proofs.YthpmfhfnkgbkjaaW.PrintWords Go.Proofs.YthpmfhfnkgbkjaaW.PrintLast Go.Proofs.YthpmfhfnkgbkjaaW.PrintMore
attribute [local go_sem] max2_int min2_int max_two min_two max_three min_three max_four min_four   -- for this text's walks alone
set_option linter.unusedVariables false
set_option linter.unusedSimpArgs false

/-! ### compositorref10_Nearest: function 14 -/
abbrev zq14.q0 := Go.Proofs.YthpmfhfnkgbkjaaHand.bz 32 0
abbrev zq14.q1 := Go.Proofs.YthpmfhfnkgbkjaaHand.bz 32 1
abbrev zq14.q2 := Go.Proofs.YthpmfhfnkgbkjaaHand.bz 32 5
abbrev zq14.q3 := Go.Proofs.YthpmfhfnkgbkjaaHand.bz 32 21
abbrev zq14.q4 := Go.Proofs.YthpmfhfnkgbkjaaHand.bz 32 53
abbrev zq14.q5 := Go.Proofs.YthpmfhfnkgbkjaaHand.bz 32 117
abbrev zq14.q6 := Go.Proofs.YthpmfhfnkgbkjaaHand.bz 32 245
abbrev zq14.q7 := Go.Proofs.YthpmfhfnkgbkjaaHand.bz 32 1269
abbrev zq14.q8 := Go.Proofs.YthpmfhfnkgbkjaaHand.bz 32 3317
abbrev zq14.q9 := Go.Proofs.YthpmfhfnkgbkjaaHand.bz 32 11509
abbrev zq14.q10 := Go.Proofs.YthpmfhfnkgbkjaaHand.bz 32 77045
abbrev zq14.q11 := Go.Proofs.YthpmfhfnkgbkjaaHand.bz 32 208117
abbrev zq14.q12 := Go.Proofs.YthpmfhfnkgbkjaaHand.bz 32 470261
abbrev zq14.q13 := Go.Proofs.YthpmfhfnkgbkjaaHand.bz 32 994549
abbrev zq14.q14 := Go.Proofs.YthpmfhfnkgbkjaaHand.bz 32 5188853
abbrev zq14.q15 := Go.Proofs.YthpmfhfnkgbkjaaHand.bz 32 13577461
abbrev zq14.q16 := Go.Proofs.YthpmfhfnkgbkjaaHand.bz 32 13577463
abbrev zq14.q17 := Go.Proofs.YthpmfhfnkgbkjaaHand.bz 32 13577471
abbrev zq14.q18 := Go.Proofs.YthpmfhfnkgbkjaaHand.bz 32 13577727
abbrev zq14.q19 := Go.Proofs.YthpmfhfnkgbkjaaHand.bz 32 13578239
abbrev zq14.q20 := Go.Proofs.YthpmfhfnkgbkjaaHand.bz 32 13582335
abbrev zq14.q21 := Go.Proofs.YthpmfhfnkgbkjaaHand.bz 32 13598719
abbrev zq14.q22 := Go.Proofs.YthpmfhfnkgbkjaaHand.bz 32 13631487
abbrev zq14.q23 := Go.Proofs.YthpmfhfnkgbkjaaHand.bz 32 14680063
abbrev zq14.q24 := Go.Proofs.YthpmfhfnkgbkjaaHand.bz 32 16777215
abbrev zq14.q25 := Go.Proofs.YthpmfhfnkgbkjaaHand.bz 32 33554431
abbrev zq14.q26 := Go.Proofs.YthpmfhfnkgbkjaaHand.bz 32 67108863
abbrev zq14.q27 := Go.Proofs.YthpmfhfnkgbkjaaHand.bz 32 134217727
abbrev zq14.q28 := Go.Proofs.YthpmfhfnkgbkjaaHand.bz 32 268435455
abbrev zq14.q29 := Go.Proofs.YthpmfhfnkgbkjaaHand.bz 32 536870911
abbrev zq14.q30 := Go.Proofs.YthpmfhfnkgbkjaaHand.bz 32 1073741823
abbrev zq14.q31 := Go.Proofs.YthpmfhfnkgbkjaaHand.bz 32 2147483647
abbrev zq14.q32 := Go.Proofs.YthpmfhfnkgbkjaaHand.bz 32 4294967295
mutual
def compositorref10_Nearest.l0 : Nat → Int → Int → Int → Int → Int → List (S43) → Int → Int → List (S43) → Option (Int × Int × (List (S43)) × Int)
 | 0, _, _, _, _, _, _, _, _, _ => none
 | k + 1, x1, x2, x10, x259000, x259001, x259002, x262000, x262001, x262002 => if x10 < x2 then (compositorref10_Nearest.l1 k x1 x2 x10 0 x259000 x259001 x259002 x262000 x262001 x262002) else (some (x262000, x262001, x262002, 0))
def compositorref10_Nearest.l1 : Nat → Int → Int → Int → Int → Int → Int → List (S43) → Int → Int → List (S43) → Option (Int × Int × (List (S43)) × Int)
 | 0, _, _, _, _, _, _, _, _, _, _ => none
 | k + 1, x1, x2, x10, x11, x259000, x259001, x259002, x262000, x262001, x262002 => if x11 < x1 then (if (wrap64 (2 * x2)) = 0 then (none) else (if (wrap64 (2 * x1)) = 0 then (none) else (if 0 ≤ (wrap64 ((wrap64 ((wrap64 (Int.tdiv (wrap64 ((wrap64 ((wrap64 (2 * x10)) + 1)) * x259001)) (wrap64 (2 * x2)))) * x259000)) + (wrap64 (Int.tdiv (wrap64 ((wrap64 ((wrap64 (2 * x11)) + 1)) * x259000)) (wrap64 (2 * x1)))))) then (if (wrap64 ((wrap64 ((wrap64 (Int.tdiv (wrap64 ((wrap64 ((wrap64 (2 * x10)) + 1)) * x259001)) (wrap64 (2 * x2)))) * x259000)) + (wrap64 (Int.tdiv (wrap64 ((wrap64 ((wrap64 (2 * x11)) + 1)) * x259000)) (wrap64 (2 * x1)))))) < (x259002.length : Int) then (if x262002.length < 35184372088832 then (compositorref10_Nearest.l1 k x1 x2 x10 (wrap64 (x11 + 1)) x259000 x259001 x259002 x262000 x262001 (x262002 ++ [(⟨(rd_T43 x259002 (wrap64 ((wrap64 ((wrap64 (Int.tdiv (wrap64 ((wrap64 ((wrap64 (2 * x10)) + 1)) * x259001)) (wrap64 (2 * x2)))) * x259000)) + (wrap64 (Int.tdiv (wrap64 ((wrap64 ((wrap64 (2 * x11)) + 1)) * x259000)) (wrap64 (2 * x1))))))).f0, (rd_T43 x259002 (wrap64 ((wrap64 ((wrap64 (Int.tdiv (wrap64 ((wrap64 ((wrap64 (2 * x10)) + 1)) * x259001)) (wrap64 (2 * x2)))) * x259000)) + (wrap64 (Int.tdiv (wrap64 ((wrap64 ((wrap64 (2 * x11)) + 1)) * x259000)) (wrap64 (2 * x1))))))).f1, (rd_T43 x259002 (wrap64 ((wrap64 ((wrap64 (Int.tdiv (wrap64 ((wrap64 ((wrap64 (2 * x10)) + 1)) * x259001)) (wrap64 (2 * x2)))) * x259000)) + (wrap64 (Int.tdiv (wrap64 ((wrap64 ((wrap64 (2 * x11)) + 1)) * x259000)) (wrap64 (2 * x1))))))).f2, (rd_T43 x259002 (wrap64 ((wrap64 ((wrap64 (Int.tdiv (wrap64 ((wrap64 ((wrap64 (2 * x10)) + 1)) * x259001)) (wrap64 (2 * x2)))) * x259000)) + (wrap64 (Int.tdiv (wrap64 ((wrap64 ((wrap64 (2 * x11)) + 1)) * x259000)) (wrap64 (2 * x1))))))).f3⟩ : S43)])) else (none)) else (none)) else (none)))) else (compositorref10_Nearest.l0 k x1 x2 (wrap64 (x10 + 1)) x259000 x259001 x259002 x262000 x262001 x262002)
end
def compositorref10_Nearest.f (k : Nat) (a0_0 : Int) (a0_1 : Int) (l0_2 : List (S43)) (a1 : Int) (a2 : Int) : Option (Int × Int × (List (S43)) × Int) := (compositorref10_check.f k a0_0 a0_1 l0_2 a1 a2).bind fun t260 => (if t260 = 0 then (compositorref10_Nearest.l0 k a1 a2 0 a0_0 a0_1 l0_2 a1 a2 ([] : List (S43))) else (some (0, 0, ([] : List (S43)), t260)))
theorem compositorref10_Nearest.mono_l : ∀ k, (∀ y0 y1 y2 y3 y4 y5 y6 y7 y8, LeO (compositorref10_Nearest.l0 k y0 y1 y2 y3 y4 y5 y6 y7 y8) (compositorref10_Nearest.l0 (k + 1) y0 y1 y2 y3 y4 y5 y6 y7 y8)) ∧ (∀ y0 y1 y2 y3 y4 y5 y6 y7 y8 y9, LeO (compositorref10_Nearest.l1 k y0 y1 y2 y3 y4 y5 y6 y7 y8 y9) (compositorref10_Nearest.l1 (k + 1) y0 y1 y2 y3 y4 y5 y6 y7 y8 y9))
 | 0 => ⟨fun _ _ _ _ _ _ _ _ _ r h => by simp [compositorref10_Nearest.l0] at h, fun _ _ _ _ _ _ _ _ _ _ r h => by simp [compositorref10_Nearest.l1] at h⟩
 | k + 1 => by
  obtain ⟨ih0, ih1⟩ := compositorref10_Nearest.mono_l k
  refine ⟨?_, ?_⟩
  ·
   intro y0 y1 y2 y3 y4 y5 y6 y7 y8
   unfold compositorref10_Nearest.l0
   repeat' first
   | (with_reducible exact ih0 _ _ _ _ _ _ _ _ _)
   | (with_reducible exact ih1 _ _ _ _ _ _ _ _ _ _)
   | (with_reducible exact compositorref10_check.mono _ _ _ _ _ _)
   | (with_reducible exact LeO.refl _)
   | (with_reducible exact LeO.none _)
   | (with_reducible refine LeO.ite ?_ ?_)
   | (with_reducible refine LeO.bind ?_ (fun _ => ?_))
   | exact ih0 _ _ _ _ _ _ _ _ _
   | exact ih1 _ _ _ _ _ _ _ _ _ _
   | exact compositorref10_check.mono _ _ _ _ _ _
   | exact LeO.none _
   | refine LeO.ite ?_ ?_
   | refine LeO.bind ?_ (fun _ => ?_)
  ·
   intro y0 y1 y2 y3 y4 y5 y6 y7 y8 y9
   unfold compositorref10_Nearest.l1
   repeat' first
   | (with_reducible exact ih0 _ _ _ _ _ _ _ _ _)
   | (with_reducible exact ih1 _ _ _ _ _ _ _ _ _ _)
   | (with_reducible exact compositorref10_check.mono _ _ _ _ _ _)
   | (with_reducible exact LeO.refl _)
   | (with_reducible exact LeO.none _)
   | (with_reducible refine LeO.ite ?_ ?_)
   | (with_reducible refine LeO.bind ?_ (fun _ => ?_))
   | exact ih0 _ _ _ _ _ _ _ _ _
   | exact ih1 _ _ _ _ _ _ _ _ _ _
   | exact compositorref10_check.mono _ _ _ _ _ _
   | exact LeO.none _
   | refine LeO.ite ?_ ?_
   | refine LeO.bind ?_ (fun _ => ?_)
theorem compositorref10_Nearest.mono : ∀ a0 a1 a2 a3 a4 k, LeO (compositorref10_Nearest.f k a0 a1 a2 a3 a4) (compositorref10_Nearest.f (k + 1) a0 a1 a2 a3 a4) := by
 intro a0 a1 a2 a3 a4 k
 obtain ⟨ih0, ih1⟩ := compositorref10_Nearest.mono_l k
 unfold compositorref10_Nearest.f
 repeat' first
   | (with_reducible exact ih0 _ _ _ _ _ _ _ _ _)
   | (with_reducible exact ih1 _ _ _ _ _ _ _ _ _ _)
   | (with_reducible exact compositorref10_check.mono _ _ _ _ _ _)
   | (with_reducible exact LeO.refl _)
   | (with_reducible exact LeO.none _)
   | (with_reducible refine LeO.ite ?_ ?_)
   | (with_reducible refine LeO.bind ?_ (fun _ => ?_))
   | exact ih0 _ _ _ _ _ _ _ _ _
   | exact ih1 _ _ _ _ _ _ _ _ _ _
   | exact compositorref10_check.mono _ _ _ _ _ _
   | exact LeO.none _
   | refine LeO.ite ?_ ?_
   | refine LeO.bind ?_ (fun _ => ?_)
def compositorref10_Nearest.T11 : Bool × List (List Nat × List Nat) := (true, [([], []), ([0], [0]), ([], []), ([2], [2]), ([], []), ([4], [4]), ([5], [5]), ([], []), ([7], [7]), ([6, 8], [6, 8]), ([], []), ([10], [10]), ([9, 11], [9, 11]), ([], []), ([13], [13]), ([12, 14], [12, 14]), ([], []), ([16], [16]), ([17], [17]), ([], []), ([19], [19]), ([18, 20], [18, 20]), ([], []), ([22], [22]), ([21, 23], [21, 23]), ([15, 24], [15, 24]), ([3, 25], [3, 25]), ([26], [26]), ([27], [27]), ([1, 28], [1, 28]), ([0, 1, 2, 3, 4, 5, 6, 7, 8, 9, 10, 11, 12, 13, 14, 15, 16, 17, 18, 19, 20, 21, 22, 23, 24, 25, 26, 27, 28, 29], []), ([30, 29, 29, 0, 1, 2, 3, 4, 5, 6, 7, 8, 9, 10, 11, 12, 13, 14, 15, 16, 17, 18, 19, 20, 21, 22, 23, 24, 25, 26, 27, 28, 29], [29, 30])])
def compositorref10_Nearest.B11 : List Nat := [0, 1, 0, 4, 0, 16, 48, 0, 128, 496, 0, 1024, 4080, 0, 8192, 32752, 0, 65536, 196608, 0, 524288, 2031616, 0, 4194304, 16711680, 33554416, 67108860, 134217724, 268435452, 536870911, 1073741823, 2147483647]
theorem compositorref10_Nearest.tab11 : rtab .any (opsOf Try.f14 11) = compositorref10_Nearest.T11 := by kernel_rfl
theorem compositorref10_Nearest.bits11 : waitsOk compositorref10_Nearest.T11.2 compositorref10_Nearest.B11 = true := by kernel_rfl
set_option maxHeartbeats 8000000 in
set_option maxRecDepth 100000 in
theorem compositorref10_Nearest.calls (k : Nat) (a0_0 : Int) (a0_1 : Int) (A0_2 : Option Addr) (c0_2 : Nat) (l0_2 : List (S43)) (a1 : Int) (a2 : Int) (r1 : Int) (r2 : Int) (r3 : List (S43)) (r4 : Int) (w : World) (hr0_2 : Kd.C k43 w A0_2 l0_2.length l0_2) (hc0_2 : l0_2.length ≤ c0_2) (h : compositorref10_Nearest.f k a0_0 a0_1 l0_2 a1 a2 = some (r1, r2, r3, r4)) :
  Calls Try.prog 14 #[.agg #[.int .i64 a0_0, .int .i64 a0_1, .slice A0_2 l0_2.length c0_2], .int .i64 a1, .int .i64 a2] w fun e w' => ∃ v2_ : Value, e = .returned (.tuple #[.agg #[.int .i64 r1, .int .i64 r2, v2_], .int .i64 r4]) ∧ Kd.R k43 43 w' w.heap.size (fun _ => True) v2_ r3 ∧ Below w.heap.size w w' := by
 have hu24 := Try.underlying24
 have hu43 := Try.underlying43
 have HR0_2 := Aside0.mk hr0_2
 have HC0_2 := Aside0.mk hc0_2
 clear hr0_2 hc0_2
 have HB := Aside0.mk (Below.refl w.heap.size w)
 have H : ((compositorref10_check.f k a0_0 a0_1 l0_2 a1 a2).bind fun t260 => (if t260 = 0 then (compositorref10_Nearest.l0 k a1 a2 0 a0_0 a0_1 l0_2 a1 a2 ([] : List (S43))) else (some (0, 0, ([] : List (S43)), t260)))) = some (r1, r2, r3, r4) := h
 clear h
 replace H := Option.bind_eq_some_iff.mp H
 obtain ⟨t260, A40, H⟩ := H
 try dsimp only at H
 have A4 := Aside0.mk A40
 clear A40
 by_cases c5 : t260 = 0
 ·
  rw [if_pos c5] at H
  have c5b0 : (t260 == 0) = true := beq_iff_eq.mpr c5
  have c5b1 : (t260 != 0) = false := bne_eq_false_iff_eq.mpr c5
  clear c5
  have H' := Aside0.mk H
  clear H
  go_enter Try.func14, Try.ntmps14
  go_wp2_with (first | ((with_reducible refine gate_dst (N := 3) rfl ?_); refine box_event ?hg (N := 3) ?hd (cs := #[.int .i64 a0_0, .int .i64 a0_1, .slice A0_2 l0_2.length c0_2]) (t := 24) ?hr ?_; (case hd => rfl); (case hg => rfl); (case hr => first | (go_simp; done) | (go_simp; rfl)); intro gb258 hg w6 hbox hb; have n0_ := hb_ HB hb; have n1_ := Aside0.mk (hbox); have n2_ := Aside0.mk ((by rw [hg]; exact (below_size (hq_ HB)) : w.heap.size ≤ gb258)); have n3_ := Aside0.mk ((by rw [hg]; exact (below_size (hq_ HB)) : w.heap.size ≤ gb258)); clear HB; have HB := n0_; have BK258 := n1_; have GW258 := n2_; have GE258 := n3_; clear n0_ n1_ n2_ n3_; clear hb hbox hg) | ((with_reducible refine gate_dst (N := 6) rfl ?_); refine box_event ?hg (N := 6) ?hd (cs := #[.int .i64 0, .int .i64 0, .slice none 0 0]) (t := 24) ?hr ?_; (case hd => rfl); (case hg => rfl); (case hr => first | (go_simp; done) | (go_simp; rfl)); intro gb259 hg w7 hbox hb; have n0_ := bb_ BK258 hb; have n1_ := hb_ HB hb; have n2_ := Aside0.mk (hbox); have n3_ := Aside0.mk ((by rw [hg]; exact (below_size (hq_ HB)) : w.heap.size ≤ gb259)); have n4_ := Aside0.mk ((by rw [hg]; exact (below_size (hq_ HB)) : w.heap.size ≤ gb259)); have n5_ := Aside0.mk ((by rw [hg]; exact Nat.ne_of_lt (blk_lt (g := gb258) (o := .cells #[.int .i64 a0_0, .int .i64 a0_1, .slice A0_2 l0_2.length c0_2] 24 (0, 0)) (bq_ BK258)) : gb258 ≠ gb259)); have n6_ := Aside0.mk ((by rw [hg]; exact Nat.ne_of_gt (blk_lt (g := gb258) (o := .cells #[.int .i64 a0_0, .int .i64 a0_1, .slice A0_2 l0_2.length c0_2] 24 (0, 0)) (bq_ BK258)) : gb259 ≠ gb258)); clear BK258; clear HB; have BK258 := n0_; have HB := n1_; have BK259 := n2_; have GW259 := n3_; have GE259 := n4_; have NB258_259 := n5_; have NB259_258 := n6_; clear n0_ n1_ n2_ n3_ n4_ n5_ n6_; clear hb hbox hg; have hnb8 := NB258_259.out; have hnc8 := NB259_258.out; have hcz9_0 : w7.cell? ⟨gb258, 0, none⟩ = some (.int .i64 a0_0) := (blk_cell BK258.out 0).trans rfl; have hcz9_1 : w7.cell? ⟨gb258, 1, none⟩ = some (.int .i64 a0_1) := (blk_cell BK258.out 1).trans rfl; have hcz9_2 : w7.cell? ⟨gb258, 2, none⟩ = some (.slice A0_2 l0_2.length c0_2) := (blk_cell BK258.out 2).trans rfl; have hfz9_0 := blk_frozen BK258.out 0; have hfz9_1 := blk_frozen BK258.out 1; have hfz9_2 := blk_frozen BK258.out 2) | ((with_reducible refine gate_callee (f := 36) rfl ?_); refine goesL_ (some 15) rfl rfl Try.func36 (by kernel_rfl) rfl #[.agg #[.int .i64 a0_0, .int .i64 a0_1, .slice A0_2 l0_2.length c0_2], .int .i64 a1, .int .i64 a2] rfl (by (try simp only [List.map_toArray, List.map_cons, List.map_nil]) <;> rfl) ?_; (with_reducible refine (compositorref10_check.calls k a0_0 a0_1 _ _ l0_2 a1 a2 t260 _ ?side1 ?side2 A4.out).mono ?_); (case side1 => repeat (first | exact (Kd.C_below HR0_2.out HB.out) | (with_reducible refine Kd.C_alloc ?_ _) | (with_reducible refine Kd.C_drewN ?_ _) | (with_reducible refine Kd.C_drew ?_))); (case side2 => exact HC0_2.out); rintro e w10 ⟨rfl, hb⟩; refine ⟨_, rfl, ?_⟩; have n0_ := bb_ BK258 hb; have n1_ := bb_ BK259 hb; have n2_ := hb_ HB hb; clear BK258; clear BK259; clear HB; have BK258 := n0_; have BK259 := n1_; have HB := n2_; clear n0_ n1_ n2_; (try clear hb); (try clear hb2); (try clear hk); (try clear hi)) | ((with_reducible refine gate_dst (N := 9) rfl ?_); refine box_event ?hg (N := 9) ?hd (cs := #[.int .i64 0, .int .i64 0, .slice none 0 0]) (t := 24) ?hr ?_; (case hd => rfl); (case hg => rfl); (case hr => first | (go_simp; done) | (go_simp; rfl)); intro gb261 hg w11 hbox hb; have n0_ := bb_ BK258 hb; have n1_ := bb_ BK259 hb; have n2_ := hb_ HB hb; have n3_ := Aside0.mk (hbox); have n4_ := Aside0.mk ((by rw [hg]; exact (below_size (hq_ HB)) : w.heap.size ≤ gb261)); have n5_ := Aside0.mk ((by rw [hg]; exact (below_size (hq_ HB)) : w.heap.size ≤ gb261)); have n6_ := Aside0.mk ((by rw [hg]; exact Nat.ne_of_lt (blk_lt (g := gb258) (o := .cells #[.int .i64 a0_0, .int .i64 a0_1, .slice A0_2 l0_2.length c0_2] 24 (0, 0)) (bq_ BK258)) : gb258 ≠ gb261)); have n7_ := Aside0.mk ((by rw [hg]; exact Nat.ne_of_gt (blk_lt (g := gb258) (o := .cells #[.int .i64 a0_0, .int .i64 a0_1, .slice A0_2 l0_2.length c0_2] 24 (0, 0)) (bq_ BK258)) : gb261 ≠ gb258)); have n8_ := Aside0.mk ((by rw [hg]; exact Nat.ne_of_lt (blk_lt (g := gb259) (o := .cells #[.int .i64 0, .int .i64 0, .slice none 0 0] 24 (0, 0)) (bq_ BK259)) : gb259 ≠ gb261)); have n9_ := Aside0.mk ((by rw [hg]; exact Nat.ne_of_gt (blk_lt (g := gb259) (o := .cells #[.int .i64 0, .int .i64 0, .slice none 0 0] 24 (0, 0)) (bq_ BK259)) : gb261 ≠ gb259)); clear BK258; clear BK259; clear HB; have BK258 := n0_; have BK259 := n1_; have HB := n2_; have BK261 := n3_; have GW261 := n4_; have GE261 := n5_; have NB258_261 := n6_; have NB261_258 := n7_; have NB259_261 := n8_; have NB261_259 := n9_; clear n0_ n1_ n2_ n3_ n4_ n5_ n6_ n7_ n8_ n9_; clear hb hbox hg; have hnb12 := NB261_258.out; have hnc12 := NB258_261.out; have hnb13 := NB261_259.out; have hnc13 := NB259_261.out; have hcz14_0 : w11.cell? ⟨gb261, 0, none⟩ = some (.int .i64 0) := (blk_cell BK261.out 0).trans rfl; have hcz14_1 : w11.cell? ⟨gb261, 1, none⟩ = some (.int .i64 0) := (blk_cell BK261.out 1).trans rfl; have hcz14_2 : w11.cell? ⟨gb261, 2, none⟩ = some (.slice none 0 0) := (blk_cell BK261.out 2).trans rfl; have hfz14_0 := blk_frozen BK261.out 0; have hfz14_1 := blk_frozen BK261.out 1; have hfz14_2 := blk_frozen BK261.out 2))
  go_loopg [10] k (fun kq v10 w' => ∃ (x10_1 : Int) (x262002_1 : List (S43)) (u262002 : Value), v10 = .int .i64 x10_1 ∧ Aside0 (compositorref10_Nearest.l0 kq a1 a2 x10_1 a0_0 a0_1 l0_2 a1 a2 x262002_1 = some (r1, r2, r3, r4)) ∧ Aside0 (kq ≤ k) ∧ Aside0 (Kd.R k43 43 w' w.heap.size (fun _ => True) u262002 x262002_1) ∧ Aside0 (w'.heap[gb258]? = some (.cells #[.int .i64 a0_0, .int .i64 a0_1, (.slice A0_2 l0_2.length c0_2)] 24 (0, 0))) ∧ Aside0 (w'.heap[gb259]? = some (.cells #[.int .i64 0, .int .i64 0, (.slice none 0 0)] 24 (0, 0))) ∧ Aside0 (w'.heap[gb261]? = some (.cells #[.int .i64 a1, .int .i64 a2, u262002] 24 (0, 0))) ∧ Aside0 (Below w.heap.size w w'))
  case atStart => exact ⟨(0), (([] : List (S43))), (.slice none 0 0), (by first | rfl | (simp; done) | (simp [*]; done)), H', ⟨Nat.le_refl _⟩, ⟨by first | exact Kd.R_nil _ _ _ _ _ | exact Kd.N_nil _ _ _ _ _ | exact Kd.V_nil _ _ _ _ _ | exact Kd.Q_nil _ _ _ _ _ | exact Kd.S_nil _ _ _ _ _⟩, bf_ BK258, bf_ BK259, ⟨by (with_reducible repeat (first | refine blk_drewN ?_ _ | refine blk_drew ?_ | refine blk_alloc ?_ _)); refine blk_put (cs := #[.int .i64 a1, .int .i64 a2, .slice none 0 0]) ?_ 2 _ rfl; (with_reducible repeat (first | refine blk_drewN ?_ _ | refine blk_drew ?_ | refine blk_alloc ?_ _)); refine blk_put (cs := #[.int .i64 a1, .int .i64 0, .slice none 0 0]) ?_ 1 _ rfl; (with_reducible repeat (first | refine blk_drewN ?_ _ | refine blk_drew ?_ | refine blk_alloc ?_ _)); refine blk_put (cs := #[.int .i64 0, .int .i64 0, .slice none 0 0]) ?_ 0 _ rfl; (with_reducible repeat (first | refine blk_drewN ?_ _ | refine blk_drew ?_ | refine blk_alloc ?_ _)); exact BK261.out⟩, ⟨by repeat (first | (with_reducible first | exact HB.out | apply below_alloc | apply pw_below_drewN | apply below_drew1 | refine below_set ?_ GE258.out | refine below_set ?_ GE259.out | refine below_set ?_ GE261.out) | exact HB.out)⟩⟩
  case round =>
   clear H'
   try clear c1
   try clear p2
   try clear c3
   try clear c5
   try clear c5b0
   try clear c5b1
   try clear c8
   try clear c12
   try clear c13
   try clear c14
   try clear hcz14_0
   try clear hcz14_1
   try clear hcz14_2
   try clear hcz9_0
   try clear hcz9_1
   try clear hcz9_2
   try clear hfz14_0
   try clear hfz14_1
   try clear hfz14_2
   try clear hfz9_0
   try clear hfz9_1
   try clear hfz9_2
   obtain ⟨x10_1, x262002_1, u262002, rfl, HA, HK1, HO_262002, BK258, BK259, BK261, HB⟩ := hrel
   cases gk with
   | zero => exact absurd HA.out (by simp [compositorref10_Nearest.l0])
   | succ k1 =>
    have H := HA.out
    clear HA
    simp only [compositorref10_Nearest.l0] at H
    by_cases c15 : x10_1 < a2
    ·
     rw [if_pos c15] at H
     have c15b0 : decide (x10_1 < a2) = true := decide_eq_true c15
     clear c15
     have H' := Aside0.mk H
     clear H
     go_wp2
     go_loopg [11] k1 (fun kq v11 w' => ∃ (x11_2 : Int) (x262002_2 : List (S43)) (u262002 : Value), v11 = .int .i64 x11_2 ∧ Aside0 (compositorref10_Nearest.l1 kq a1 a2 x10_1 x11_2 a0_0 a0_1 l0_2 a1 a2 x262002_2 = some (r1, r2, r3, r4)) ∧ Aside0 (kq ≤ k1) ∧ Aside0 (Kd.R k43 43 w' w.heap.size (fun _ => True) u262002 x262002_2) ∧ Aside0 (w'.heap[gb258]? = some (.cells #[.int .i64 a0_0, .int .i64 a0_1, (.slice A0_2 l0_2.length c0_2)] 24 (0, 0))) ∧ Aside0 (w'.heap[gb259]? = some (.cells #[.int .i64 0, .int .i64 0, (.slice none 0 0)] 24 (0, 0))) ∧ Aside0 (w'.heap[gb261]? = some (.cells #[.int .i64 a1, .int .i64 a2, u262002] 24 (0, 0))) ∧ Aside0 (Below w.heap.size w w'))
     case atStart => exact ⟨(0), (x262002_1), (u262002), (by first | rfl | (simp; done) | (simp [*]; done)), H', ⟨Nat.le_refl _⟩, ⟨by (with_reducible repeat (first | apply Kd.R_alloc | apply Kd.R_drewN | apply Kd.R_drew)); exact HO_262002.out⟩, bf_ BK258, bf_ BK259, bf_ BK261, ⟨by repeat (first | (with_reducible first | exact HB.out | apply below_alloc | apply pw_below_drewN | apply below_drew1 | refine below_set ?_ GE258.out | refine below_set ?_ GE259.out | refine below_set ?_ GE261.out) | exact HB.out)⟩⟩
     case round =>
      clear H'
      try clear c1
      try clear p2
      try clear c3
      try clear c5
      try clear c5b0
      try clear c5b1
      try clear c8
      try clear c12
      try clear c13
      try clear c14
      try clear c15
      try clear c15b0
      try clear hcz14_0
      try clear hcz14_1
      try clear hcz14_2
      try clear hcz9_0
      try clear hcz9_1
      try clear hcz9_2
      try clear hfz14_0
      try clear hfz14_1
      try clear hfz14_2
      try clear hfz9_0
      try clear hfz9_1
      try clear hfz9_2
      try clear p2
      obtain ⟨x11_2, x262002_2, u262002, rfl, HA, HK2, HO_262002, BK258, BK259, BK261, HB⟩ := hrel
      cases gk with
      | zero => exact absurd HA.out (by simp [compositorref10_Nearest.l1])
      | succ k2 =>
       have H := HA.out
       clear HA
       simp only [compositorref10_Nearest.l1] at H
       by_cases c16 : x11_2 < a1
       ·
        rw [if_pos c16] at H
        have c16b0 : decide (x11_2 < a1) = true := decide_eq_true c16
        clear c16
        by_cases c17 : (wrap64 (2 * a2)) = 0
        ·
         rw [if_pos c17] at H
         exact absurd H (by simp)
        ·
         rw [if_neg c17] at H
         have c17b0 : ((wrap64 (2 * a2)) == 0) = false := beq_eq_false_iff_ne.mpr c17
         have c17b1 : ((wrap64 (2 * a2)) != 0) = true := bne_iff_ne.mpr c17
         by_cases c18 : (wrap64 (2 * a1)) = 0
         ·
          rw [if_pos c18] at H
          exact absurd H (by simp)
         ·
          rw [if_neg c18] at H
          have c18b0 : ((wrap64 (2 * a1)) == 0) = false := beq_eq_false_iff_ne.mpr c18
          have c18b1 : ((wrap64 (2 * a1)) != 0) = true := bne_iff_ne.mpr c18
          obtain ⟨ji19, hji19⟩ : ∃ j_ : Int, (wrap64 ((wrap64 ((wrap64 (Int.tdiv (wrap64 ((wrap64 ((wrap64 (2 * x10_1)) + 1)) * a0_1)) (wrap64 (2 * a2)))) * a0_0)) + (wrap64 (Int.tdiv (wrap64 ((wrap64 ((wrap64 (2 * x11_2)) + 1)) * a0_0)) (wrap64 (2 * a1)))))) = j_ := ⟨_, rfl⟩
          replace H : (if 0 ≤ (ji19) then (if (ji19) < (l0_2.length : Int) then (if x262002_2.length < 35184372088832 then (compositorref10_Nearest.l1 k2 a1 a2 x10_1 (wrap64 (x11_2 + 1)) a0_0 a0_1 l0_2 a1 a2 (x262002_2 ++ [(⟨(rd_T43 l0_2 (ji19)).f0, (rd_T43 l0_2 (ji19)).f1, (rd_T43 l0_2 (ji19)).f2, (rd_T43 l0_2 (ji19)).f3⟩ : S43)])) else (none)) else (none)) else (none)) = some (r1, r2, r3, r4) := by first | (rw [hji19] at H; exact H) | (simp only [hji19] at H ⊢; exact H)
          have hji19w : (IntKind.i64.wrap ((wrap64 ((wrap64 (Int.tdiv (wrap64 ((wrap64 ((wrap64 (2 * x10_1)) + 1)) * a0_1)) (wrap64 (2 * a2)))) * a0_0)) + (wrap64 (Int.tdiv (wrap64 ((wrap64 ((wrap64 (2 * x11_2)) + 1)) * a0_0)) (wrap64 (2 * a1)))))) = ji19 := (i64_w _).trans hji19
          by_cases c20 : 0 ≤ (ji19)
          ·
           rw [if_pos c20] at H
           have c20b0 : decide (0 ≤ (ji19)) = true := decide_eq_true c20
           clear c20
           by_cases c21 : (ji19) < (l0_2.length : Int)
           ·
            rw [if_pos c21] at H
            have c21b0 : decide ((ji19) < (l0_2.length : Int)) = true := decide_eq_true c21
            clear c21
            by_cases c22 : x262002_2.length < 35184372088832
            ·
             rw [if_pos c22] at H
             have LMc22 := Aside0.mk c22
             clear c22
             obtain ⟨y263, hy263⟩ : ∃ y_ : List (S43), y_ = (x262002_2 ++ [(⟨(rd_T43 l0_2 (ji19)).f0, (rd_T43 l0_2 (ji19)).f1, (rd_T43 l0_2 (ji19)).f2, (rd_T43 l0_2 (ji19)).f3⟩ : S43)]) := ⟨_, rfl⟩
             replace H : (compositorref10_Nearest.l1 k2 a1 a2 x10_1 (wrap64 (x11_2 + 1)) a0_0 a0_1 l0_2 a1 a2 y263) = some (r1, r2, r3, r4) := by first | (rw [hy263]; with_reducible exact H) | (have H2_ := (Option.bind_some _ _).symm.trans H; rw [hy263]; with_reducible exact H2_) | (have H2_ := (Option.bind_some _ _).symm.trans H; with_reducible exact H2_) | with_reducible exact H | (rw [hy263]; exact H) | exact H
             have Ny263 := Aside0.mk hy263
             clear hy263
             have H' := Aside0.mk H
             clear H
             try go_wp2
             replace HO_262002 := Aside0.mk (Kd.R_drew HO_262002.out)
             replace BK258 := Aside0.mk (blk_drew BK258.out)
             replace BK259 := Aside0.mk (blk_drew BK259.out)
             replace BK261 := Aside0.mk (blk_drew BK261.out)
             replace HB := Aside0.mk (below_drew1 HB.out)
             have p262 : 0 ≤ ((ji19) : Int) := of_decide_eq_true (by first | (with_reducible assumption) | assumption)
             have q262 : (ji19) < (l0_2.length : Int) := of_decide_eq_true (by first | (with_reducible assumption) | assumption)
             obtain ⟨ad262, e262, hx262_0, hx262_1, hx262_2, hx262_3⟩ := at_T43 HR0_2.out (ji19) p262 q262
             have hw262_3 := hx262_3
             have hw262_2 := hx262_2
             have hw262_1 := hx262_1
             have hw262_0 := hx262_0
             cases e262
             replace hx262_0 := (HB.out.cell (World.block_lt_of_cell? w _ hx262_0)).trans hx262_0
             replace hx262_1 := (HB.out.cell (World.block_lt_of_cell? w _ hx262_1)).trans hx262_1
             replace hx262_2 := (HB.out.cell (World.block_lt_of_cell? w _ hx262_2)).trans hx262_2
             replace hx262_3 := (HB.out.cell (World.block_lt_of_cell? w _ hx262_3)).trans hx262_3
             replace p262 := eq_true p262
             replace q262 := eq_true q262
             refine start_ (n := 32) (S := fun w' => w'.cell? ⟨gb261, 0, none⟩ = some (.int .i64 a1) ∧ w'.cell? ⟨gb261, 1, none⟩ = some (.int .i64 a2) ∧ w'.cell? ⟨gb261, 2, none⟩ = some (u262002) ∧ w'.cell? ⟨gb258, 0, none⟩ = some (.int .i64 a0_0) ∧ w'.cell? ⟨gb258, 1, none⟩ = some (.int .i64 a0_1) ∧ w'.cell? ⟨gb258, 2, none⟩ = some (.slice (some ad262) l0_2.length c0_2) ∧ w'.cell? (ad262.add (((ji19)).toNat * 4)) = some (.int .u8 ((rd_T43 l0_2 (ji19)).f0)) ∧ w'.cell? ⟨(ad262.add (((ji19)).toNat * 4)).block, (ad262.add (((ji19)).toNat * 4)).off + 1, none⟩ = some (.int .u8 ((rd_T43 l0_2 (ji19)).f1)) ∧ w'.cell? ⟨(ad262.add (((ji19)).toNat * 4)).block, (ad262.add (((ji19)).toNat * 4)).off + 2, none⟩ = some (.int .u8 ((rd_T43 l0_2 (ji19)).f2)) ∧ w'.cell? ⟨(ad262.add (((ji19)).toNat * 4)).block, (ad262.add (((ji19)).toNat * 4)).off + 3, none⟩ = some (.int .u8 ((rd_T43 l0_2 (ji19)).f3))) (ds := [31]) zq14.q0 (by kernel_rfl) rfl rfl ⟨(blk_cell BK261.out 0).trans rfl, (blk_cell BK261.out 1).trans rfl, (blk_cell BK261.out 2).trans rfl, (blk_cell BK258.out 0).trans rfl, (blk_cell BK258.out 1).trans rfl, (blk_cell BK258.out 2).trans rfl, ((HB.out.cell (World.block_lt_of_cell? w _ hw262_0)).trans hw262_0), ((HB.out.cell (World.block_lt_of_cell? w _ hw262_1)).trans hw262_1), ((HB.out.cell (World.block_lt_of_cell? w _ hw262_2)).trans hw262_2), ((HB.out.cell (World.block_lt_of_cell? w _ hw262_3)).trans hw262_3)⟩ (fun hHeld => ?_); refine with_tabW compositorref10_Nearest.tab11 compositorref10_Nearest.bits11 (fun HT_ HW_ => ?_)
             generalize wr.drew = w23 at HO_262002 BK258 BK259 BK261 HB hx262_0 hx262_1 hx262_2 hx262_3 hHeld ⊢
             refine pv_ 0 33 zq14.q1 HT_ ?_
             refine pv_ 2 35 zq14.q2 HT_ ?_
             refine pv_ 4 37 zq14.q3 HT_ ?_
             refine pv_ 5 38 zq14.q4 HT_ ?_
             refine pv_ 6 39 zq14.q5 HT_ ?_
             refine pv_ 7 40 zq14.q6 HT_ ?_
             refine pv_ 10 43 zq14.q7 HT_ ?_
             refine pv_ 11 44 zq14.q8 HT_ ?_
             refine pv_ 13 46 zq14.q9 HT_ ?_
             refine pv_ 16 49 zq14.q10 HT_ ?_
             refine pv_ 17 50 zq14.q11 HT_ ?_
             refine pv_ 18 51 zq14.q12 HT_ ?_
             refine pv_ 19 52 zq14.q13 HT_ ?_
             refine pv_ 22 55 zq14.q14 HT_ ?_
             refine pv_ 23 56 zq14.q15 HT_ ?_
             refine take_ (i := 1) (N := some 34) (v := ?_) (a' := ?_) zq14.q16 rfl rfl (take_ofW HT_.out HW_.out (by kernel_rfl)) (fun _ _ _ h => h) (Or.inl ⟨by rfl, ?_⟩) hHeld ?_ ?_
             rotate_left
             ·
              rintro w' ⟨s0, s1, s2, s3, s4, s5, s6, s7, s8, s9⟩
              go_simp
              with_reducible rfl
             rotate_left
             ·
              simp only [Act.put, List.setIfInBounds_toArray, List.set_cons_zero, List.set_cons_succ, i64_w, i32_w]
              rfl
             refine take_ (i := 3) (N := some 36) (v := ?_) (a' := ?_) zq14.q17 rfl rfl (take_ofW HT_.out HW_.out (by kernel_rfl)) (fun _ _ _ h => h) (Or.inl ⟨by rfl, ?_⟩) hHeld ?_ ?_
             rotate_left
             ·
              rintro w' ⟨s0, s1, s2, s3, s4, s5, s6, s7, s8, s9⟩
              go_simp
              with_reducible rfl
             rotate_left
             ·
              simp only [Act.put, List.setIfInBounds_toArray, List.set_cons_zero, List.set_cons_succ, i64_w, i32_w]
              rfl
             refine take_ (i := 8) (N := some 41) (v := ?_) (a' := ?_) zq14.q18 rfl rfl (take_ofW HT_.out HW_.out (by kernel_rfl)) (fun _ _ _ h => h) (Or.inl ⟨by rfl, ?_⟩) hHeld ?_ ?_
             rotate_left
             ·
              rintro w' ⟨s0, s1, s2, s3, s4, s5, s6, s7, s8, s9⟩
              go_simp
              with_reducible rfl
             rotate_left
             ·
              simp only [Act.put, List.setIfInBounds_toArray, List.set_cons_zero, List.set_cons_succ, i64_w, i32_w]
              rfl
             refine pv_ 9 42 zq14.q19 HT_ ?_
             refine pv_ 12 45 zq14.q20 HT_ ?_
             refine take_ (i := 14) (N := some 47) (v := ?_) (a' := ?_) zq14.q21 rfl rfl (take_ofW HT_.out HW_.out (by kernel_rfl)) (fun _ _ _ h => h) (Or.inl ⟨by rfl, ?_⟩) hHeld ?_ ?_
             rotate_left
             ·
              rintro w' ⟨s0, s1, s2, s3, s4, s5, s6, s7, s8, s9⟩
              go_simp
              with_reducible rfl
             rotate_left
             ·
              simp only [Act.put, List.setIfInBounds_toArray, List.set_cons_zero, List.set_cons_succ, i64_w, i32_w]
              rfl
             refine pv_ 15 48 zq14.q22 HT_ ?_
             refine take_ (i := 20) (N := some 53) (v := ?_) (a' := ?_) zq14.q23 rfl rfl (take_ofW HT_.out HW_.out (by kernel_rfl)) (fun _ _ _ h => h) (Or.inl ⟨by rfl, ?_⟩) hHeld ?_ ?_
             rotate_left
             ·
              rintro w' ⟨s0, s1, s2, s3, s4, s5, s6, s7, s8, s9⟩
              go_simp
              with_reducible rfl
             rotate_left
             ·
              simp only [Act.put, List.setIfInBounds_toArray, List.set_cons_zero, List.set_cons_succ, i64_w, i32_w]
              rfl
             refine pv_ 21 54 zq14.q24 HT_ ?_
             refine pv_ 24 57 zq14.q25 HT_ ?_
             refine pv_ 25 58 zq14.q26 HT_ ?_
             refine pv_ 26 59 zq14.q27 HT_ ?_
             refine take_ (i := 27) (N := some 60) (v := ?_) (a' := ?_) zq14.q28 rfl rfl (take_ofW HT_.out HW_.out (by kernel_rfl)) (fun _ _ _ h => h) (Or.inl ⟨by rfl, ?_⟩) hHeld ?_ ?_
             rotate_left
             ·
              rintro w' ⟨s0, s1, s2, s3, s4, s5, s6, s7, s8, s9⟩
              go_simp
              with_reducible rfl
             rotate_left
             ·
              simp only [Act.put, List.setIfInBounds_toArray, List.set_cons_zero, List.set_cons_succ, i64_w, i32_w]
              rfl
             refine one_ (i := 28) (N := some 61) zq14.q29 rfl rfl (one_of HT_.out (by kernel_rfl)) (by decide) (fun K hK => ?_)
             refine value_ (w1 := ?_) (v := ?_) (by rfl) rfl ?_ ?_
             rotate_left 2
             ·
              go_simp
              constructor
              ·
               rfl
              ·
               rfl
             refine hK.out _ _ ⟨(blk_cell (blk_alloc BK261.out _) 0).trans rfl, (blk_cell (blk_alloc BK261.out _) 1).trans rfl, (blk_cell (blk_alloc BK261.out _) 2).trans rfl, (blk_cell (blk_alloc BK258.out _) 0).trans rfl, (blk_cell (blk_alloc BK258.out _) 1).trans rfl, (blk_cell (blk_alloc BK258.out _) 2).trans rfl, (World.cell?_alloc_lt _ _ _ (World.block_lt_of_cell? _ _ (((HB.out.cell (World.block_lt_of_cell? w _ hw262_0)).trans hw262_0)))).trans (((HB.out.cell (World.block_lt_of_cell? w _ hw262_0)).trans hw262_0)), (World.cell?_alloc_lt _ _ _ (World.block_lt_of_cell? _ _ (((HB.out.cell (World.block_lt_of_cell? w _ hw262_1)).trans hw262_1)))).trans (((HB.out.cell (World.block_lt_of_cell? w _ hw262_1)).trans hw262_1)), (World.cell?_alloc_lt _ _ _ (World.block_lt_of_cell? _ _ (((HB.out.cell (World.block_lt_of_cell? w _ hw262_2)).trans hw262_2)))).trans (((HB.out.cell (World.block_lt_of_cell? w _ hw262_2)).trans hw262_2)), (World.cell?_alloc_lt _ _ _ (World.block_lt_of_cell? _ _ (((HB.out.cell (World.block_lt_of_cell? w _ hw262_3)).trans hw262_3)))).trans (((HB.out.cell (World.block_lt_of_cell? w _ hw262_3)).trans hw262_3))⟩ (fun hHeld => ?_)
             clear hK K
             refine norm_ (a' := ?_) ?_ ?_
             rotate_left
             ·
              show Act.put _ (some 61) _ = _
              simp only [Act.put, List.setIfInBounds_toArray, List.set_cons_zero, List.set_cons_succ, i64_w, i32_w]
              rfl
             refine one_ (i := 29) (N := some 62) zq14.q30 rfl rfl (one_of HT_.out (by kernel_rfl)) (by decide) (fun K hK => ?_)
             refine Kd.R_append_step k43 (w0 := w) w.heap.size (by rfl) (.tmp 34) (.tmp 61) 22 43 (.agg #[(.int .u8 0), (.int .u8 0), (.int .u8 0), (.int .u8 0)]) 4 rfl Try.underlying22 info43 rfl (by decide) (by omega) u262002 x262002_2 (⟨(rd_T43 l0_2 (ji19)).f0, (rd_T43 l0_2 (ji19)).f1, (rd_T43 l0_2 (ji19)).f2, (rd_T43 l0_2 (ji19)).f3⟩ : S43) [.int .u8 ((rd_T43 l0_2 (ji19)).f0), .int .u8 ((rd_T43 l0_2 (ji19)).f1), .int .u8 ((rd_T43 l0_2 (ji19)).f2), .int .u8 ((rd_T43 l0_2 (ji19)).f3)] (fun _ => True) (fun _ => False) rfl rfl ?aP (fun _ hk => hk.elim) ?aF ?aO ?aB ?aS ?aL ?_
             (case aP => exact k43_mkM _ _ _ (⟨(rd_T43 l0_2 (ji19)).f0, (rd_T43 l0_2 (ji19)).f1, (rd_T43 l0_2 (ji19)).f2, (rd_T43 l0_2 (ji19)).f3⟩ : S43))
             (case aB => exact (hq_ HB))
             (case aF => exact (fun _ _ => trivial))
             (case aO => exact (by (with_reducible repeat (first | apply Kd.R_alloc | apply Kd.R_drewN | apply Kd.R_drew)); exact HO_262002.out))
             (case aS => exact (below_size (hq_ HB)))
             (case aL => have := LMc22.out; omega)
             intro v264 w24 ho hb hg hat
             rw [← Ny263.out] at ho
             replace BK258 := Aside0.mk (blk_grown (g := gb258) (o := .cells #[.int .i64 a0_0, .int .i64 a0_1, .slice (some ad262) l0_2.length c0_2] 24 (0, 0)) (bq_ BK258) hg (Kd.R_ne HO_262002.out BK258.out (by decide)))
             replace BK259 := Aside0.mk (blk_grown (g := gb259) (o := .cells #[.int .i64 0, .int .i64 0, .slice none 0 0] 24 (0, 0)) (bq_ BK259) hg (Kd.R_ne HO_262002.out BK259.out (by decide)))
             replace BK261 := Aside0.mk (blk_grown (g := gb261) (o := .cells #[.int .i64 a1, .int .i64 a2, u262002] 24 (0, 0)) (bq_ BK261) hg (Kd.R_ne HO_262002.out BK261.out (by decide)))
             replace HB := Aside0.mk (hb)
             have HO265 := Aside0.mk (ho)
             clear HO_262002
             clear ho hb hg hat
             obtain ⟨Ao25, co25, eo25⟩ := Kd.R_slice HO265.out
             (first | subst eo25 | (injection eo25 with f1_ f2_ f3_; have f4_ := f1_.symm; have f5_ := f3_.symm; clear f1_ f2_ f3_; subst f4_; subst f5_))
             refine hK.out _ _ ⟨(blk_cell BK261.out 0).trans rfl, (blk_cell BK261.out 1).trans rfl, (blk_cell BK261.out 2).trans rfl, (blk_cell BK258.out 0).trans rfl, (blk_cell BK258.out 1).trans rfl, (blk_cell BK258.out 2).trans rfl, ((HB.out.cell (World.block_lt_of_cell? w _ hw262_0)).trans hw262_0), ((HB.out.cell (World.block_lt_of_cell? w _ hw262_1)).trans hw262_1), ((HB.out.cell (World.block_lt_of_cell? w _ hw262_2)).trans hw262_2), ((HB.out.cell (World.block_lt_of_cell? w _ hw262_3)).trans hw262_3)⟩ (fun hHeld => ?_)
             clear hK K
             refine norm_ (a' := ?_) ?_ ?_
             rotate_left
             ·
              show Act.put _ (some 62) _ = _
              simp only [Act.put, List.setIfInBounds_toArray, List.set_cons_zero, List.set_cons_succ, i64_w, i32_w]
              rfl
             refine pv_ 30 63 zq14.q31 HT_ ?_
             refine last_ (i := 31) (N := none) zq14.q32 rfl rfl (one_of HT_.out (by kernel_rfl)) (by decide) (fun K hK => ?_)
             have hs26 : w24.cell? ⟨gb261, 2, none⟩ = some (u262002) := (blk_cell BK261.out 2).trans rfl
             have hfs26 := blk_frozen BK261.out 2
             have hns26_0 := NB258_261.out
             have hns26_1 := NB259_261.out
             have hms26_0 := NB261_258.out
             have hms26_1 := NB261_259.out
             refine skip_ (w1 := ?_) (by rfl) rfl ?_ ?_
             rotate_left
             ·
              go_simp
              rfl
             refine hK.out _ _ ?_
             clear hK K
             refine done_ (done_of HT_.out (by kernel_rfl)) ?_
             try go_wp2
             go_roundg k2
             case measure => have := HK1.out; have := HK2.out; omega
             case rel => exact ⟨(wrap64 (x11_2 + 1)), (y263), (.slice Ao25 y263.length co25), (by first | rfl | (simp; done) | (simp [*]; done)), H', ⟨by have := HK1.out; have := HK2.out; omega⟩, ⟨by (with_reducible repeat (first | apply Kd.R_alloc | apply Kd.R_drewN | apply Kd.R_drew)); exact Kd.R_mono (Kd.R_far (p := ⟨gb261, 2, none⟩) (Kd.R_types HO265.out BK261.out (by decide)) (fun _ hk => hk.2) (.slice Ao25 y263.length co25)) (fun _ hk => trivial)⟩, bf_ BK258, bf_ BK259, ⟨by (with_reducible repeat (first | refine blk_drewN ?_ _ | refine blk_drew ?_ | refine blk_alloc ?_ _)); refine blk_put (cs := #[.int .i64 a1, .int .i64 a2, u262002]) ?_ 2 _ rfl; (with_reducible repeat (first | refine blk_drewN ?_ _ | refine blk_drew ?_ | refine blk_alloc ?_ _)); exact BK261.out⟩, ⟨by repeat (first | (with_reducible first | exact HB.out | apply below_alloc | apply pw_below_drewN | apply below_drew1 | refine below_set ?_ GE258.out | refine below_set ?_ GE259.out | refine below_set ?_ GE261.out) | exact HB.out)⟩⟩
            ·
             rw [if_neg c22] at H
             exact absurd H (by simp)
           ·
            rw [if_neg c21] at H
            exact absurd H (by simp)
          ·
           rw [if_neg c20] at H
           exact absurd H (by simp)
       ·
        rw [if_neg c16] at H
        have c16b0 : decide (x11_2 < a1) = false := decide_eq_false c16
        clear c16
        have H' := Aside0.mk H
        clear H
        go_wp2
        go_roundg k2
        case measure => have := HK1.out; have := HK2.out; omega
        case rel => exact ⟨(wrap64 (x10_1 + 1)), (x262002_2), (u262002), (by first | rfl | (simp; done) | (simp [*]; done)), H', ⟨by have := HK1.out; have := HK2.out; omega⟩, ⟨by (with_reducible repeat (first | apply Kd.R_alloc | apply Kd.R_drewN | apply Kd.R_drew)); exact HO_262002.out⟩, bf_ BK258, bf_ BK259, bf_ BK261, ⟨by repeat (first | (with_reducible first | exact HB.out | apply below_alloc | apply pw_below_drewN | apply below_drew1 | refine below_set ?_ GE258.out | refine below_set ?_ GE259.out | refine below_set ?_ GE261.out) | exact HB.out)⟩⟩
    ·
     rw [if_neg c15] at H
     have c15b0 : decide (x10_1 < a2) = false := decide_eq_false c15
     clear c15
     simp only [Option.some.injEq, Prod.mk.injEq] at H
     obtain ⟨rfl, rfl, rfl, rfl⟩ := H
     have hnb27 := NB261_258.out
     have hnc27 := NB258_261.out
     have hnb28 := NB261_259.out
     have hnc28 := NB259_261.out
     have hcz29_0 : wr.cell? ⟨gb261, 0, none⟩ = some (.int .i64 a1) := (blk_cell BK261.out 0).trans rfl
     have hcz29_1 : wr.cell? ⟨gb261, 1, none⟩ = some (.int .i64 a2) := (blk_cell BK261.out 1).trans rfl
     have hcz29_2 : wr.cell? ⟨gb261, 2, none⟩ = some (u262002) := (blk_cell BK261.out 2).trans rfl
     have hfz29_0 := blk_frozen BK261.out 0
     have hfz29_1 := blk_frozen BK261.out 1
     have hfz29_2 := blk_frozen BK261.out 2
     have hnb30 := NB259_258.out
     have hnc30 := NB258_259.out
     have hcz31_0 : wr.cell? ⟨gb259, 0, none⟩ = some (.int .i64 0) := (blk_cell BK259.out 0).trans rfl
     have hcz31_1 : wr.cell? ⟨gb259, 1, none⟩ = some (.int .i64 0) := (blk_cell BK259.out 1).trans rfl
     have hcz31_2 : wr.cell? ⟨gb259, 2, none⟩ = some (.slice none 0 0) := (blk_cell BK259.out 2).trans rfl
     have hfz31_0 := blk_frozen BK259.out 0
     have hfz31_1 := blk_frozen BK259.out 1
     have hfz31_2 := blk_frozen BK259.out 2
     obtain ⟨Ao32, co32, eo32⟩ := Kd.R_slice HO_262002.out
     subst eo32
     go_wp2
     refine bodyPost_ret (results_ct rfl _ _ gb259 24 #[.int .i64 a1, .int .i64 a2, .slice Ao32 x262002_1.length co32] (0, 0) _ rfl (by (with_reducible repeat (first | refine blk_drewN ?_ _ | refine blk_drew ?_ | refine blk_alloc ?_ _)); refine blk_put (cs := #[.int .i64 a1, .int .i64 a2, .slice none 0 0]) ?_ 2 _ rfl; (with_reducible repeat (first | refine blk_drewN ?_ _ | refine blk_drew ?_ | refine blk_alloc ?_ _)); refine blk_put (cs := #[.int .i64 a1, .int .i64 0, .slice none 0 0]) ?_ 1 _ rfl; (with_reducible repeat (first | refine blk_drewN ?_ _ | refine blk_drew ?_ | refine blk_alloc ?_ _)); refine blk_put (cs := #[.int .i64 0, .int .i64 0, .slice none 0 0]) ?_ 0 _ rfl; (with_reducible repeat (first | refine blk_drewN ?_ _ | refine blk_drew ?_ | refine blk_alloc ?_ _)); exact BK259.out) Try.underlying24 rfl (by kernel_rfl)) rfl ?_
     exact ⟨_, by first | rfl | (simp [errW_none, errW_some] <;> rfl) | (simp [*, errW_none, errW_some] <;> rfl), by (with_reducible repeat (first | apply Kd.R_alloc | apply Kd.R_drewN | apply Kd.R_drew)); exact Kd.R_mono (Kd.R_far (p := ⟨gb259, 2, none⟩) (Kd.R_far (p := ⟨gb259, 1, none⟩) (Kd.R_far (p := ⟨gb259, 0, none⟩) (Kd.R_types HO_262002.out BK259.out (by decide)) (fun _ hk => hk.2) (.int .i64 a1)) (fun _ hk => hk.2) (.int .i64 a2)) (fun _ hk => hk.2) (.slice Ao32 x262002_1.length co32)) (fun _ hk => trivial), by repeat (first | (with_reducible first | exact HB.out | apply below_alloc | apply pw_below_drewN | apply below_drew1 | refine below_set ?_ GE258.out | refine below_set ?_ GE259.out | refine below_set ?_ GE261.out) | exact HB.out)⟩
 ·
  rw [if_neg c5] at H
  have c5b0 : (t260 == 0) = false := beq_eq_false_iff_ne.mpr c5
  have c5b1 : (t260 != 0) = true := bne_iff_ne.mpr c5
  simp only [Option.some.injEq, Prod.mk.injEq] at H
  obtain ⟨rfl, rfl, rfl, rfl⟩ := H
  go_enter Try.func14, Try.ntmps14
  go_wp2_with (first | ((with_reducible refine gate_dst (N := 3) rfl ?_); refine box_event ?hg (N := 3) ?hd (cs := #[.int .i64 a0_0, .int .i64 a0_1, .slice A0_2 l0_2.length c0_2]) (t := 24) ?hr ?_; (case hd => rfl); (case hg => rfl); (case hr => first | (go_simp; done) | (go_simp; rfl)); intro gb258 hg w33 hbox hb; have n0_ := hb_ HB hb; have n1_ := Aside0.mk (hbox); have n2_ := Aside0.mk ((by rw [hg]; exact (below_size (hq_ HB)) : w.heap.size ≤ gb258)); have n3_ := Aside0.mk ((by rw [hg]; exact (below_size (hq_ HB)) : w.heap.size ≤ gb258)); clear HB; have HB := n0_; have BK258 := n1_; have GW258 := n2_; have GE258 := n3_; clear n0_ n1_ n2_ n3_; clear hb hbox hg) | ((with_reducible refine gate_dst (N := 6) rfl ?_); refine box_event ?hg (N := 6) ?hd (cs := #[.int .i64 0, .int .i64 0, .slice none 0 0]) (t := 24) ?hr ?_; (case hd => rfl); (case hg => rfl); (case hr => first | (go_simp; done) | (go_simp; rfl)); intro gb259 hg w34 hbox hb; have n0_ := bb_ BK258 hb; have n1_ := hb_ HB hb; have n2_ := Aside0.mk (hbox); have n3_ := Aside0.mk ((by rw [hg]; exact (below_size (hq_ HB)) : w.heap.size ≤ gb259)); have n4_ := Aside0.mk ((by rw [hg]; exact (below_size (hq_ HB)) : w.heap.size ≤ gb259)); have n5_ := Aside0.mk ((by rw [hg]; exact Nat.ne_of_lt (blk_lt (g := gb258) (o := .cells #[.int .i64 a0_0, .int .i64 a0_1, .slice A0_2 l0_2.length c0_2] 24 (0, 0)) (bq_ BK258)) : gb258 ≠ gb259)); have n6_ := Aside0.mk ((by rw [hg]; exact Nat.ne_of_gt (blk_lt (g := gb258) (o := .cells #[.int .i64 a0_0, .int .i64 a0_1, .slice A0_2 l0_2.length c0_2] 24 (0, 0)) (bq_ BK258)) : gb259 ≠ gb258)); clear BK258; clear HB; have BK258 := n0_; have HB := n1_; have BK259 := n2_; have GW259 := n3_; have GE259 := n4_; have NB258_259 := n5_; have NB259_258 := n6_; clear n0_ n1_ n2_ n3_ n4_ n5_ n6_; clear hb hbox hg; have hnb35 := NB258_259.out; have hnc35 := NB259_258.out; have hcz36_0 : w34.cell? ⟨gb258, 0, none⟩ = some (.int .i64 a0_0) := (blk_cell BK258.out 0).trans rfl; have hcz36_1 : w34.cell? ⟨gb258, 1, none⟩ = some (.int .i64 a0_1) := (blk_cell BK258.out 1).trans rfl; have hcz36_2 : w34.cell? ⟨gb258, 2, none⟩ = some (.slice A0_2 l0_2.length c0_2) := (blk_cell BK258.out 2).trans rfl; have hfz36_0 := blk_frozen BK258.out 0; have hfz36_1 := blk_frozen BK258.out 1; have hfz36_2 := blk_frozen BK258.out 2) | ((with_reducible refine gate_callee (f := 36) rfl ?_); refine goesL_ (some 15) rfl rfl Try.func36 (by kernel_rfl) rfl #[.agg #[.int .i64 a0_0, .int .i64 a0_1, .slice A0_2 l0_2.length c0_2], .int .i64 a1, .int .i64 a2] rfl (by (try simp only [List.map_toArray, List.map_cons, List.map_nil]) <;> rfl) ?_; (with_reducible refine (compositorref10_check.calls k a0_0 a0_1 _ _ l0_2 a1 a2 t260 _ ?side1 ?side2 A4.out).mono ?_); (case side1 => repeat (first | exact (Kd.C_below HR0_2.out HB.out) | (with_reducible refine Kd.C_alloc ?_ _) | (with_reducible refine Kd.C_drewN ?_ _) | (with_reducible refine Kd.C_drew ?_))); (case side2 => exact HC0_2.out); rintro e w37 ⟨rfl, hb⟩; refine ⟨_, rfl, ?_⟩; have n0_ := bb_ BK258 hb; have n1_ := bb_ BK259 hb; have n2_ := hb_ HB hb; clear BK258; clear BK259; clear HB; have BK258 := n0_; have BK259 := n1_; have HB := n2_; clear n0_ n1_ n2_; (try clear hb); (try clear hb2); (try clear hk); (try clear hi); have hcz38_0 : w37.cell? ⟨gb259, 0, none⟩ = some (.int .i64 0) := (blk_cell BK259.out 0).trans rfl; have hcz38_1 : w37.cell? ⟨gb259, 1, none⟩ = some (.int .i64 0) := (blk_cell BK259.out 1).trans rfl; have hcz38_2 : w37.cell? ⟨gb259, 2, none⟩ = some (.slice none 0 0) := (blk_cell BK259.out 2).trans rfl; have hfz38_0 := blk_frozen BK259.out 0; have hfz38_1 := blk_frozen BK259.out 1; have hfz38_2 := blk_frozen BK259.out 2))
  refine bodyPost_ret (results_ct rfl _ _ gb259 24 #[.int .i64 0, .int .i64 0, .slice none 0 0] (0, 0) _ rfl (by (with_reducible repeat (first | refine blk_drewN ?_ _ | refine blk_drew ?_ | refine blk_alloc ?_ _)); refine blk_put (cs := #[.int .i64 0, .int .i64 0, .slice none 0 0]) ?_ 2 _ rfl; (with_reducible repeat (first | refine blk_drewN ?_ _ | refine blk_drew ?_ | refine blk_alloc ?_ _)); refine blk_put (cs := #[.int .i64 0, .int .i64 0, .slice none 0 0]) ?_ 1 _ rfl; (with_reducible repeat (first | refine blk_drewN ?_ _ | refine blk_drew ?_ | refine blk_alloc ?_ _)); refine blk_put (cs := #[.int .i64 0, .int .i64 0, .slice none 0 0]) ?_ 0 _ rfl; (with_reducible repeat (first | refine blk_drewN ?_ _ | refine blk_drew ?_ | refine blk_alloc ?_ _)); exact BK259.out) Try.underlying24 rfl (by kernel_rfl)) rfl ?_
  exact ⟨_, by first | rfl | (simp [errW_none, errW_some] <;> rfl) | (simp [*, errW_none, errW_some] <;> rfl), by first | exact Kd.R_nil _ _ _ _ _ | exact Kd.N_nil _ _ _ _ _ | exact Kd.V_nil _ _ _ _ _ | exact Kd.Q_nil _ _ _ _ _ | exact Kd.S_nil _ _ _ _ _, by repeat (first | (with_reducible first | exact HB.out | apply below_alloc | apply pw_below_drewN | apply below_drew1 | refine below_set ?_ GE258.out | refine below_set ?_ GE259.out) | exact HB.out)⟩

end Go.Proofs.Ythpmfhfnkgbkjaa.All
