-- Written by a program of this session, which runs the kit's print.py and puts in functions that this session typed. Not trusted: Lean checks it.
import Derived.Test.YtmockeaiccpogaaHand
import Derived.Test.YtmockeaiccpogaaAllx0
import Derived.Test.YtmockeaiccpogaaAllx18
namespace Go.Proofs.Ytmockeaiccpogaa.All
open Go.Proofs.YtmockeaiccpogaaSq
open Go.RowKit Go.Proofs.YtmockeaiccpogaaW.PrintWords Go.Proofs.YtmockeaiccpogaaW.PrintLast Go.Proofs.YtmockeaiccpogaaW.PrintMore
attribute [local go_sem] max2_int min2_int max_two min_two max_three min_three max_four min_four   -- for this text's walks alone
set_option linter.unusedVariables false
set_option linter.unusedSimpArgs false

/-! ### compositorref09_Decode: function 15 -/
abbrev zq15.q0 := Go.Proofs.YtmockeaiccpogaaHand.bz 22 0
abbrev zq15.q1 := Go.Proofs.YtmockeaiccpogaaHand.bz 22 1
abbrev zq15.q2 := Go.Proofs.YtmockeaiccpogaaHand.bz 22 3
abbrev zq15.q3 := Go.Proofs.YtmockeaiccpogaaHand.bz 22 7
abbrev zq15.q4 := Go.Proofs.YtmockeaiccpogaaHand.bz 22 15
abbrev zq15.q5 := Go.Proofs.YtmockeaiccpogaaHand.bz 22 47
abbrev zq15.q6 := Go.Proofs.YtmockeaiccpogaaHand.bz 22 111
abbrev zq15.q7 := Go.Proofs.YtmockeaiccpogaaHand.bz 22 239
abbrev zq15.q8 := Go.Proofs.YtmockeaiccpogaaHand.bz 22 495
abbrev zq15.q9 := Go.Proofs.YtmockeaiccpogaaHand.bz 22 1519
abbrev zq15.q10 := Go.Proofs.YtmockeaiccpogaaHand.bz 22 3567
abbrev zq15.q11 := Go.Proofs.YtmockeaiccpogaaHand.bz 22 7663
abbrev zq15.q12 := Go.Proofs.YtmockeaiccpogaaHand.bz 22 24047
abbrev zq15.q13 := Go.Proofs.YtmockeaiccpogaaHand.bz 22 56815
abbrev zq15.q14 := Go.Proofs.YtmockeaiccpogaaHand.bz 22 122351
abbrev zq15.q15 := Go.Proofs.YtmockeaiccpogaaHand.bz 22 253423
abbrev zq15.q16 := Go.Proofs.YtmockeaiccpogaaHand.bz 22 253439
abbrev zq15.q17 := Go.Proofs.YtmockeaiccpogaaHand.bz 22 253951
abbrev zq15.q18 := Go.Proofs.YtmockeaiccpogaaHand.bz 22 262143
abbrev zq15.q19 := Go.Proofs.YtmockeaiccpogaaHand.bz 22 524287
abbrev zq15.q20 := Go.Proofs.YtmockeaiccpogaaHand.bz 22 1048575
abbrev zq15.q21 := Go.Proofs.YtmockeaiccpogaaHand.bz 22 2097151
abbrev zq15.q22 := Go.Proofs.YtmockeaiccpogaaHand.bz 22 4194303
abbrev zq15.q23 := Go.Proofs.YtmockeaiccpogaaHand.bz 8 0
abbrev zq15.q24 := Go.Proofs.YtmockeaiccpogaaHand.bz 8 1
abbrev zq15.q25 := Go.Proofs.YtmockeaiccpogaaHand.bz 8 3
abbrev zq15.q26 := Go.Proofs.YtmockeaiccpogaaHand.bz 8 7
abbrev zq15.q27 := Go.Proofs.YtmockeaiccpogaaHand.bz 8 15
abbrev zq15.q28 := Go.Proofs.YtmockeaiccpogaaHand.bz 8 31
abbrev zq15.q29 := Go.Proofs.YtmockeaiccpogaaHand.bz 8 63
abbrev zq15.q30 := Go.Proofs.YtmockeaiccpogaaHand.bz 8 127
abbrev zq15.q31 := Go.Proofs.YtmockeaiccpogaaHand.bz 8 255
mutual
def compositorref09_Decode.j0 : Nat → Int → Int → Int → Int → List Int → Bool → Option (Int × Int × (List (S43)) × Int)
 | 0, _, _, _, _, _, _ => none
 | k + 1, x0, x1, x2, x3, x4, x22 => if x22 = true then (some (0, 0, ([] : List (S43)), 2)) else ((compositorref09_size.f x1 x2).bind fun t232 => (if t232 = true then (if x3 < (wrap64 (4 * x1)) then (compositorref09_Decode.j1 k x0 x1 x2 x3 x4 true) else (compositorref09_Decode.j1 k x0 x1 x2 x3 x4 ((Int.tmod x3 4) != 0))) else (some (0, 0, ([] : List (S43)), 6))))
def compositorref09_Decode.j1 : Nat → Int → Int → Int → Int → List Int → Bool → Option (Int × Int × (List (S43)) × Int)
 | 0, _, _, _, _, _, _ => none
 | k + 1, x0, x1, x2, x3, x4, x37 => if x37 = true then (some (0, 0, ([] : List (S43)), 15)) else (if x2 = 0 then (none) else (if x3 > (wrap64 ((x4.length : Int) / x2)) then (some (0, 0, ([] : List (S43)), 4)) else (compositorref09_Decode.l0 k x0 x1 x2 x3 x4 0 x1 x2 ([] : List (S43)))))
def compositorref09_Decode.l0 : Nat → Int → Int → Int → Int → List Int → Int → Int → Int → List (S43) → Option (Int × Int × (List (S43)) × Int)
 | 0, _, _, _, _, _, _, _, _, _ => none
 | k + 1, x0, x1, x2, x3, x4, x13, x234000, x234001, x234002 => if x13 < x2 then (compositorref09_Decode.l1 k x0 x1 x2 x3 x4 x13 0 x234000 x234001 x234002) else (some (x234000, x234001, x234002, 0))
def compositorref09_Decode.l1 : Nat → Int → Int → Int → Int → List Int → Int → Int → Int → Int → List (S43) → Option (Int × Int × (List (S43)) × Int)
 | 0, _, _, _, _, _, _, _, _, _, _ => none
 | k + 1, x0, x1, x2, x3, x4, x13, x14, x234000, x234001, x234002 => if x14 < x1 then (if 0 ≤ (wrap64 ((wrap64 ((wrap64 (x13 * x3)) + (wrap64 (4 * x14)))) + 2)) then (if (wrap64 ((wrap64 ((wrap64 (x13 * x3)) + (wrap64 (4 * x14)))) + 2)) < (x4.length : Int) then (if 0 ≤ (wrap64 ((wrap64 ((wrap64 (x13 * x3)) + (wrap64 (4 * x14)))) + 1)) then (if (wrap64 ((wrap64 ((wrap64 (x13 * x3)) + (wrap64 (4 * x14)))) + 1)) < (x4.length : Int) then (if 0 ≤ (wrap64 ((wrap64 (x13 * x3)) + (wrap64 (4 * x14)))) then (if (wrap64 ((wrap64 (x13 * x3)) + (wrap64 (4 * x14)))) < (x4.length : Int) then (if 0 ≤ (wrap64 ((wrap64 ((wrap64 (x13 * x3)) + (wrap64 (4 * x14)))) + 3)) then (if (wrap64 ((wrap64 ((wrap64 (x13 * x3)) + (wrap64 (4 * x14)))) + 3)) < (x4.length : Int) then (if x0 = 2 then ((compositorref08_Clamp.f (rd x4 (wrap64 ((wrap64 ((wrap64 (x13 * x3)) + (wrap64 (4 * x14)))) + 2))) (rd x4 (wrap64 ((wrap64 ((wrap64 (x13 * x3)) + (wrap64 (4 * x14)))) + 1))) (rd x4 (wrap64 ((wrap64 (x13 * x3)) + (wrap64 (4 * x14))))) 255).bind fun bt239 => (if x234002.length < 35184372088832 then (compositorref09_Decode.l1 k x0 x1 x2 x3 x4 x13 (wrap64 (x14 + 1)) x234000 x234001 (x234002 ++ [(⟨bt239.1, bt239.2.1, bt239.2.2.1, bt239.2.2.2⟩ : S43)])) else (none))) else ((compositorref08_Clamp.f (rd x4 (wrap64 ((wrap64 ((wrap64 (x13 * x3)) + (wrap64 (4 * x14)))) + 2))) (rd x4 (wrap64 ((wrap64 ((wrap64 (x13 * x3)) + (wrap64 (4 * x14)))) + 1))) (rd x4 (wrap64 ((wrap64 (x13 * x3)) + (wrap64 (4 * x14))))) (rd x4 (wrap64 ((wrap64 ((wrap64 (x13 * x3)) + (wrap64 (4 * x14)))) + 3)))).bind fun bt246 => (if x234002.length < 35184372088832 then (compositorref09_Decode.l1 k x0 x1 x2 x3 x4 x13 (wrap64 (x14 + 1)) x234000 x234001 (x234002 ++ [(⟨bt246.1, bt246.2.1, bt246.2.2.1, bt246.2.2.2⟩ : S43)])) else (none)))) else (none)) else (none)) else (none)) else (none)) else (none)) else (none)) else (none)) else (none)) else (compositorref09_Decode.l0 k x0 x1 x2 x3 x4 (wrap64 (x13 + 1)) x234000 x234001 x234002)
end
def compositorref09_Decode.f (k : Nat) (a0 : Int) (a1 : Int) (a2 : Int) (a3 : Int) (l4 : List Int) : Option (Int × Int × (List (S43)) × Int) := if a0 = 1 then (compositorref09_Decode.j0 k a0 a1 a2 a3 l4 false) else (compositorref09_Decode.j0 k a0 a1 a2 a3 l4 (a0 != 2))
theorem compositorref09_Decode.mono_l : ∀ k, (∀ y0 y1 y2 y3 y4 y5, LeO (compositorref09_Decode.j0 k y0 y1 y2 y3 y4 y5) (compositorref09_Decode.j0 (k + 1) y0 y1 y2 y3 y4 y5)) ∧ (∀ y0 y1 y2 y3 y4 y5, LeO (compositorref09_Decode.j1 k y0 y1 y2 y3 y4 y5) (compositorref09_Decode.j1 (k + 1) y0 y1 y2 y3 y4 y5)) ∧ (∀ y0 y1 y2 y3 y4 y5 y6 y7 y8, LeO (compositorref09_Decode.l0 k y0 y1 y2 y3 y4 y5 y6 y7 y8) (compositorref09_Decode.l0 (k + 1) y0 y1 y2 y3 y4 y5 y6 y7 y8)) ∧ (∀ y0 y1 y2 y3 y4 y5 y6 y7 y8 y9, LeO (compositorref09_Decode.l1 k y0 y1 y2 y3 y4 y5 y6 y7 y8 y9) (compositorref09_Decode.l1 (k + 1) y0 y1 y2 y3 y4 y5 y6 y7 y8 y9))
 | 0 => ⟨fun _ _ _ _ _ _ r h => by simp [compositorref09_Decode.j0] at h, fun _ _ _ _ _ _ r h => by simp [compositorref09_Decode.j1] at h, fun _ _ _ _ _ _ _ _ _ r h => by simp [compositorref09_Decode.l0] at h, fun _ _ _ _ _ _ _ _ _ _ r h => by simp [compositorref09_Decode.l1] at h⟩
 | k + 1 => by
  obtain ⟨ih0, ih1, ih2, ih3⟩ := compositorref09_Decode.mono_l k
  refine ⟨?_, ?_, ?_, ?_⟩
  ·
   intro y0 y1 y2 y3 y4 y5
   unfold compositorref09_Decode.j0
   repeat' first
   | (with_reducible exact ih0 _ _ _ _ _ _)
   | (with_reducible exact ih1 _ _ _ _ _ _)
   | (with_reducible exact ih2 _ _ _ _ _ _ _ _ _)
   | (with_reducible exact ih3 _ _ _ _ _ _ _ _ _ _)
   | (with_reducible exact LeO.refl _)
   | (with_reducible exact LeO.none _)
   | (with_reducible refine LeO.ite ?_ ?_)
   | (with_reducible refine LeO.bind ?_ (fun _ => ?_))
   | exact ih0 _ _ _ _ _ _
   | exact ih1 _ _ _ _ _ _
   | exact ih2 _ _ _ _ _ _ _ _ _
   | exact ih3 _ _ _ _ _ _ _ _ _ _
   | exact LeO.none _
   | refine LeO.ite ?_ ?_
   | refine LeO.bind ?_ (fun _ => ?_)
  ·
   intro y0 y1 y2 y3 y4 y5
   unfold compositorref09_Decode.j1
   repeat' first
   | (with_reducible exact ih0 _ _ _ _ _ _)
   | (with_reducible exact ih1 _ _ _ _ _ _)
   | (with_reducible exact ih2 _ _ _ _ _ _ _ _ _)
   | (with_reducible exact ih3 _ _ _ _ _ _ _ _ _ _)
   | (with_reducible exact LeO.refl _)
   | (with_reducible exact LeO.none _)
   | (with_reducible refine LeO.ite ?_ ?_)
   | (with_reducible refine LeO.bind ?_ (fun _ => ?_))
   | exact ih0 _ _ _ _ _ _
   | exact ih1 _ _ _ _ _ _
   | exact ih2 _ _ _ _ _ _ _ _ _
   | exact ih3 _ _ _ _ _ _ _ _ _ _
   | exact LeO.none _
   | refine LeO.ite ?_ ?_
   | refine LeO.bind ?_ (fun _ => ?_)
  ·
   intro y0 y1 y2 y3 y4 y5 y6 y7 y8
   unfold compositorref09_Decode.l0
   repeat' first
   | (with_reducible exact ih0 _ _ _ _ _ _)
   | (with_reducible exact ih1 _ _ _ _ _ _)
   | (with_reducible exact ih2 _ _ _ _ _ _ _ _ _)
   | (with_reducible exact ih3 _ _ _ _ _ _ _ _ _ _)
   | (with_reducible exact LeO.refl _)
   | (with_reducible exact LeO.none _)
   | (with_reducible refine LeO.ite ?_ ?_)
   | (with_reducible refine LeO.bind ?_ (fun _ => ?_))
   | exact ih0 _ _ _ _ _ _
   | exact ih1 _ _ _ _ _ _
   | exact ih2 _ _ _ _ _ _ _ _ _
   | exact ih3 _ _ _ _ _ _ _ _ _ _
   | exact LeO.none _
   | refine LeO.ite ?_ ?_
   | refine LeO.bind ?_ (fun _ => ?_)
  ·
   intro y0 y1 y2 y3 y4 y5 y6 y7 y8 y9
   unfold compositorref09_Decode.l1
   repeat' first
   | (with_reducible exact ih0 _ _ _ _ _ _)
   | (with_reducible exact ih1 _ _ _ _ _ _)
   | (with_reducible exact ih2 _ _ _ _ _ _ _ _ _)
   | (with_reducible exact ih3 _ _ _ _ _ _ _ _ _ _)
   | (with_reducible exact LeO.refl _)
   | (with_reducible exact LeO.none _)
   | (with_reducible refine LeO.ite ?_ ?_)
   | (with_reducible refine LeO.bind ?_ (fun _ => ?_))
   | exact ih0 _ _ _ _ _ _
   | exact ih1 _ _ _ _ _ _
   | exact ih2 _ _ _ _ _ _ _ _ _
   | exact ih3 _ _ _ _ _ _ _ _ _ _
   | exact LeO.none _
   | refine LeO.ite ?_ ?_
   | refine LeO.bind ?_ (fun _ => ?_)
theorem compositorref09_Decode.mono : ∀ a0 a1 a2 a3 a4 k, LeO (compositorref09_Decode.f k a0 a1 a2 a3 a4) (compositorref09_Decode.f (k + 1) a0 a1 a2 a3 a4) := by
 intro a0 a1 a2 a3 a4 k
 obtain ⟨ih0, ih1, ih2, ih3⟩ := compositorref09_Decode.mono_l k
 unfold compositorref09_Decode.f
 repeat' first
   | (with_reducible exact ih0 _ _ _ _ _ _)
   | (with_reducible exact ih1 _ _ _ _ _ _)
   | (with_reducible exact ih2 _ _ _ _ _ _ _ _ _)
   | (with_reducible exact ih3 _ _ _ _ _ _ _ _ _ _)
   | (with_reducible exact LeO.refl _)
   | (with_reducible exact LeO.none _)
   | (with_reducible refine LeO.ite ?_ ?_)
   | (with_reducible refine LeO.bind ?_ (fun _ => ?_))
   | exact ih0 _ _ _ _ _ _
   | exact ih1 _ _ _ _ _ _
   | exact ih2 _ _ _ _ _ _ _ _ _
   | exact ih3 _ _ _ _ _ _ _ _ _ _
   | exact LeO.none _
   | refine LeO.ite ?_ ?_
   | refine LeO.bind ?_ (fun _ => ?_)
def compositorref09_Decode.T17 : Bool × List (List Nat × List Nat) := (true, [([], []), ([], []), ([1], [1]), ([0, 2], [0, 2]), ([3], [3]), ([], []), ([], []), ([6], [6]), ([5, 7], [5, 7]), ([8], [8]), ([], []), ([], []), ([10, 11], [10, 11]), ([12], [12]), ([], []), ([], []), ([15], [15]), ([14, 16], [14, 16]), ([17], [17]), ([4, 9, 13, 18], [4, 9, 13, 18]), ([], []), ([20, 19, 0, 1, 2, 3, 4, 5, 6, 7, 8, 9, 10, 11, 12, 13, 14, 15, 16, 17, 18, 19, 20], [19, 20])])
def compositorref09_Decode.B17 : List Nat := [0, 0, 2, 7, 15, 0, 0, 64, 224, 480, 0, 0, 3072, 7168, 0, 0, 32768, 114688, 245760, 524287, 0, 2097151]
theorem compositorref09_Decode.tab17 : rtab .any (opsOf Try.f15 17) = compositorref09_Decode.T17 := by kernel_rfl
theorem compositorref09_Decode.bits17 : waitsOk compositorref09_Decode.T17.2 compositorref09_Decode.B17 = true := by kernel_rfl
def compositorref09_Decode.T20 : Bool × List (List Nat × List Nat) := (true, [([], []), ([0], [0]), ([], []), ([2], [2]), ([3], [3]), ([1, 4, 3], [1, 4]), ([0, 1, 2, 3, 4, 5], []), ([6, 5, 5, 0, 1, 2, 3, 4, 5], [5, 6])])
def compositorref09_Decode.B20 : List Nat := [0, 1, 0, 4, 12, 31, 63, 127]
theorem compositorref09_Decode.tab20 : rtab .any (opsOf Try.f15 20) = compositorref09_Decode.T20 := by kernel_rfl
theorem compositorref09_Decode.bits20 : waitsOk compositorref09_Decode.T20.2 compositorref09_Decode.B20 = true := by kernel_rfl
set_option maxHeartbeats 8000000 in
set_option maxRecDepth 100000 in
theorem compositorref09_Decode.calls (k : Nat) (a0 : Int) (a1 : Int) (a2 : Int) (a3 : Int) (A4 : Option Addr) (c4 : Nat) (l4 : List Int) (r1 : Int) (r2 : Int) (r3 : List (S43)) (r4 : Int) (w : World) (hr4 : Kd.C (Kd.int .u8) w A4 l4.length l4) (hc4 : l4.length ≤ c4) (h : compositorref09_Decode.f k a0 a1 a2 a3 l4 = some (r1, r2, r3, r4)) :
  Calls Try.prog 15 #[.int .i64 a0, .int .i64 a1, .int .i64 a2, .int .i64 a3, .slice A4 l4.length c4] w fun e w' => ∃ v2_ : Value, e = .returned (.tuple #[.agg #[.int .i64 r1, .int .i64 r2, v2_], .int .i64 r4]) ∧ Kd.R k43 43 w' w.heap.size (fun _ => True) v2_ r3 ∧ Below w.heap.size w w' := by
 have hu27 := Try.underlying27
 have hu43 := Try.underlying43
 have HR4 := Aside0.mk hr4
 have HC4 := Aside0.mk hc4
 clear hr4 hc4
 have HB := Aside0.mk (Below.refl w.heap.size w)
 have H : (if a0 = 1 then (compositorref09_Decode.j0 k a0 a1 a2 a3 l4 false) else (compositorref09_Decode.j0 k a0 a1 a2 a3 l4 (a0 != 2))) = some (r1, r2, r3, r4) := h
 clear h
 have HC6 := Aside0.mk H
 clear H
 go_enter Try.func15, Try.ntmps15
 go_upto_region 1 with (first | ((with_reducible refine gate_dst (N := 10) rfl ?_); refine box_event ?hg (N := 10) ?hd (cs := #[.int .i64 0, .int .i64 0, .slice none 0 0]) (t := 27) ?hr ?_; (case hd => rfl); (case hg => rfl); (case hr => first | (go_simp; done) | (go_simp; rfl)); intro gb231 hg w7 hbox hb; have n0_ := hb_ HB hb; have n1_ := Aside0.mk (hbox); have n2_ := Aside0.mk ((by rw [hg]; exact (below_size (hq_ HB)) : w.heap.size ≤ gb231)); have n3_ := Aside0.mk ((by rw [hg]; exact (below_size (hq_ HB)) : w.heap.size ≤ gb231)); clear HB; have HB := n0_; have BK231 := n1_; have GW231 := n2_; have GE231 := n3_; clear n0_ n1_ n2_ n3_; clear hb hbox hg))
 (try simp only [Act.put, List.setIfInBounds_toArray, List.set_cons_zero, List.set_cons_succ])
 go_cut [22] (fun v22 wc => ∃ (kq : Nat) (x22_5 : Bool), v22 = .bool x22_5 ∧ Aside0 (compositorref09_Decode.j0 kq a0 a1 a2 a3 l4 x22_5 = some (r1, r2, r3, r4)) ∧ Aside0 (kq ≤ k) ∧ Aside0 (wc.heap[gb231]? = some (.cells #[.int .i64 0, .int .i64 0, (.slice none 0 0)] 27 (0, 0))) ∧ Aside0 (Below w.heap.size w wc))
 case first =>
  have H := HC6.out
  clear HC6
  by_cases c8 : a0 = 1
  ·
   rw [if_pos c8] at H
   have c8b0 : (a0 == 1) = true := beq_iff_eq.mpr c8
   have c8b1 : (a0 != 1) = false := bne_eq_false_iff_eq.mpr c8
   clear c8
   (first | rw [c8b0] | (simp only [i64_w, i32_w]; rw [c8b0]) | skip)
   have H' := Aside0.mk H
   clear H
   go_wp2
   go_meet
   case rel => exact ⟨_, (false), (by first | rfl | (simp; done) | (simp [*]; done)), H', ⟨by first | omega | exact Nat.le_refl _⟩, bf_ BK231, ⟨by repeat (first | (with_reducible first | exact HB.out | apply below_alloc | apply pw_below_drewN | apply below_drew1 | refine below_set ?_ GE231.out) | exact HB.out)⟩⟩
  ·
   rw [if_neg c8] at H
   have c8b0 : (a0 == 1) = false := beq_eq_false_iff_ne.mpr c8
   have c8b1 : (a0 != 1) = true := bne_iff_ne.mpr c8
   (first | rw [c8b0] | (simp only [i64_w, i32_w]; rw [c8b0]) | skip)
   have H' := Aside0.mk H
   clear H
   go_wp2
   go_meet
   case rel => exact ⟨_, ((a0 != 2)), (by first | rfl | (simp; done) | (simp [*]; done)), H', ⟨by first | omega | exact Nat.le_refl _⟩, bf_ BK231, ⟨by repeat (first | (with_reducible first | exact HB.out | apply below_alloc | apply pw_below_drewN | apply below_drew1 | refine below_set ?_ GE231.out) | exact HB.out)⟩⟩
 case rest =>
  clear HC6
  try clear c1
  try clear p2
  try clear c4
  try clear c8
  try clear c8b0
  try clear c8b1
  obtain ⟨kq, x22_5, rfl, HA, HJ5, BK231, HB⟩ := hcut
  cases kq with
  | zero => exact absurd HA.out (by simp [compositorref09_Decode.j0])
  | succ kj5 =>
   have H := HA.out
   clear HA
   simp only [compositorref09_Decode.j0] at H
   by_cases c9 : x22_5 = true
   ·
    subst c9
    have H1 : (some (0, 0, ([] : List (S43)), 2)) = some (r1, r2, r3, r4) := by rw [if_pos rfl] at H; exact H
    clear H
    have H := H1
    clear H1
    simp only [Option.some.injEq, Prod.mk.injEq] at H
    obtain ⟨rfl, rfl, rfl, rfl⟩ := H
    have hcz10_0 : wc.cell? ⟨gb231, 0, none⟩ = some (.int .i64 0) := (blk_cell BK231.out 0).trans rfl
    have hcz10_1 : wc.cell? ⟨gb231, 1, none⟩ = some (.int .i64 0) := (blk_cell BK231.out 1).trans rfl
    have hcz10_2 : wc.cell? ⟨gb231, 2, none⟩ = some (.slice none 0 0) := (blk_cell BK231.out 2).trans rfl
    have hfz10_0 := blk_frozen BK231.out 0
    have hfz10_1 := blk_frozen BK231.out 1
    have hfz10_2 := blk_frozen BK231.out 2
    go_wp2
    refine bodyPost_ret (results_ct rfl _ _ gb231 27 #[.int .i64 0, .int .i64 0, .slice none 0 0] (0, 0) _ rfl (by (with_reducible repeat (first | refine blk_drewN ?_ _ | refine blk_drew ?_ | refine blk_alloc ?_ _)); refine blk_put (cs := #[.int .i64 0, .int .i64 0, .slice none 0 0]) ?_ 2 _ rfl; (with_reducible repeat (first | refine blk_drewN ?_ _ | refine blk_drew ?_ | refine blk_alloc ?_ _)); refine blk_put (cs := #[.int .i64 0, .int .i64 0, .slice none 0 0]) ?_ 1 _ rfl; (with_reducible repeat (first | refine blk_drewN ?_ _ | refine blk_drew ?_ | refine blk_alloc ?_ _)); refine blk_put (cs := #[.int .i64 0, .int .i64 0, .slice none 0 0]) ?_ 0 _ rfl; (with_reducible repeat (first | refine blk_drewN ?_ _ | refine blk_drew ?_ | refine blk_alloc ?_ _)); exact BK231.out) Try.underlying27 rfl (by kernel_rfl)) rfl ?_
    exact ⟨_, by first | rfl | (simp [errW_none, errW_some] <;> rfl) | (simp [*, errW_none, errW_some] <;> rfl), by first | exact Kd.R_nil _ _ _ _ _ | exact Kd.N_nil _ _ _ _ _ | exact Kd.V_nil _ _ _ _ _ | exact Kd.Q_nil _ _ _ _ _ | exact Kd.S_nil _ _ _ _ _, by repeat (first | (with_reducible first | exact HB.out | apply below_alloc | apply pw_below_drewN | apply below_drew1 | refine below_set ?_ GE231.out) | exact HB.out)⟩
   ·
    replace c9 := Bool.eq_false_iff.mpr c9
    subst c9
    have H1 : ((compositorref09_size.f a1 a2).bind fun t232 => (if t232 = true then (if a3 < (wrap64 (4 * a1)) then (compositorref09_Decode.j1 kj5 a0 a1 a2 a3 l4 true) else (compositorref09_Decode.j1 kj5 a0 a1 a2 a3 l4 ((Int.tmod a3 4) != 0))) else (some (0, 0, ([] : List (S43)), 6)))) = some (r1, r2, r3, r4) := by rw [if_neg (show ¬ (false = true) by decide)] at H; exact H
    clear H
    have H := H1
    clear H1
    replace H := Option.bind_eq_some_iff.mp H
    obtain ⟨t232, A110, H⟩ := H
    try dsimp only at H
    have A11 := Aside0.mk A110
    clear A110
    by_cases c12 : t232 = true
    ·
     subst c12
     have H1 : (if a3 < (wrap64 (4 * a1)) then (compositorref09_Decode.j1 kj5 a0 a1 a2 a3 l4 true) else (compositorref09_Decode.j1 kj5 a0 a1 a2 a3 l4 ((Int.tmod a3 4) != 0))) = some (r1, r2, r3, r4) := by rw [if_pos rfl] at H; exact H
     clear H
     have H := H1
     clear H1
     have HC13 := Aside0.mk H
     clear H
     go_upto_region 5 with (first | ((with_reducible refine gate_callee (f := 41) rfl ?_); refine goesL_ (some 26) rfl rfl Try.func41 (by kernel_rfl) rfl #[.int .i64 a1, .int .i64 a2] rfl (by (try simp only [List.map_toArray, List.map_cons, List.map_nil]) <;> rfl) ?_; (with_reducible refine (compositorref09_size.calls a1 a2 true _ A11.out).mono ?_); rintro e w' ⟨rfl, ⟨nd, rfl⟩⟩; refine ⟨_, rfl, ?_⟩))
     (try simp only [Act.put, List.setIfInBounds_toArray, List.set_cons_zero, List.set_cons_succ])
     go_cut [37] (fun v37 wc => ∃ (kq : Nat) (x37_12 : Bool), v37 = .bool x37_12 ∧ Aside0 (compositorref09_Decode.j1 kq a0 a1 a2 a3 l4 x37_12 = some (r1, r2, r3, r4)) ∧ Aside0 (kq ≤ kj5) ∧ Aside0 (wc.heap[gb231]? = some (.cells #[.int .i64 0, .int .i64 0, (.slice none 0 0)] 27 (0, 0))) ∧ Aside0 (Below w.heap.size w wc))
     case first =>
      have H := HC13.out
      clear HC13
      by_cases c14 : a3 < (wrap64 (4 * a1))
      ·
       rw [if_pos c14] at H
       have c14b0 : decide (a3 < (wrap64 (4 * a1))) = true := decide_eq_true c14
       clear c14
       (first | rw [c14b0] | (simp only [i64_w, i32_w]; rw [c14b0]) | skip)
       have H' := Aside0.mk H
       clear H
       go_wp2
       go_meet
       case rel => exact ⟨_, (true), (by first | rfl | (simp; done) | (simp [*]; done)), H', ⟨by have := HJ5.out; first | omega | exact Nat.le_refl _⟩, bf_ BK231, ⟨by repeat (first | (with_reducible first | exact HB.out | apply below_alloc | apply pw_below_drewN | apply below_drew1 | refine below_set ?_ GE231.out) | exact HB.out)⟩⟩
      ·
       rw [if_neg c14] at H
       have c14b0 : decide (a3 < (wrap64 (4 * a1))) = false := decide_eq_false c14
       clear c14
       (first | rw [c14b0] | (simp only [i64_w, i32_w]; rw [c14b0]) | skip)
       have H' := Aside0.mk H
       clear H
       go_wp2
       go_meet
       case rel => exact ⟨_, (((Int.tmod a3 4) != 0)), (by first | rfl | (simp; done) | (simp [*]; done)), H', ⟨by have := HJ5.out; first | omega | exact Nat.le_refl _⟩, bf_ BK231, ⟨by repeat (first | (with_reducible first | exact HB.out | apply below_alloc | apply pw_below_drewN | apply below_drew1 | refine below_set ?_ GE231.out) | exact HB.out)⟩⟩
     case rest =>
      clear HC13
      try clear c1
      try clear p2
      try clear c4
      try clear p6
      try clear c8
      try clear c8b0
      try clear c8b1
      try clear c9
      try clear c12
      try clear c14
      try clear c14b0
      try clear hcz10_0
      try clear hcz10_1
      try clear hcz10_2
      try clear hfz10_0
      try clear hfz10_1
      try clear hfz10_2
      try clear p2
      obtain ⟨kq, x37_12, rfl, HA, HJ12, BK231, HB⟩ := hcut
      cases kq with
      | zero => exact absurd HA.out (by simp [compositorref09_Decode.j1])
      | succ kj12 =>
       have H := HA.out
       clear HA
       simp only [compositorref09_Decode.j1] at H
       by_cases c15 : x37_12 = true
       ·
        subst c15
        have H1 : (some (0, 0, ([] : List (S43)), 15)) = some (r1, r2, r3, r4) := by rw [if_pos rfl] at H; exact H
        clear H
        have H := H1
        clear H1
        simp only [Option.some.injEq, Prod.mk.injEq] at H
        obtain ⟨rfl, rfl, rfl, rfl⟩ := H
        have hcz16_0 : wc.cell? ⟨gb231, 0, none⟩ = some (.int .i64 0) := (blk_cell BK231.out 0).trans rfl
        have hcz16_1 : wc.cell? ⟨gb231, 1, none⟩ = some (.int .i64 0) := (blk_cell BK231.out 1).trans rfl
        have hcz16_2 : wc.cell? ⟨gb231, 2, none⟩ = some (.slice none 0 0) := (blk_cell BK231.out 2).trans rfl
        have hfz16_0 := blk_frozen BK231.out 0
        have hfz16_1 := blk_frozen BK231.out 1
        have hfz16_2 := blk_frozen BK231.out 2
        go_wp2
        refine bodyPost_ret (results_ct rfl _ _ gb231 27 #[.int .i64 0, .int .i64 0, .slice none 0 0] (0, 0) _ rfl (by (with_reducible repeat (first | refine blk_drewN ?_ _ | refine blk_drew ?_ | refine blk_alloc ?_ _)); refine blk_put (cs := #[.int .i64 0, .int .i64 0, .slice none 0 0]) ?_ 2 _ rfl; (with_reducible repeat (first | refine blk_drewN ?_ _ | refine blk_drew ?_ | refine blk_alloc ?_ _)); refine blk_put (cs := #[.int .i64 0, .int .i64 0, .slice none 0 0]) ?_ 1 _ rfl; (with_reducible repeat (first | refine blk_drewN ?_ _ | refine blk_drew ?_ | refine blk_alloc ?_ _)); refine blk_put (cs := #[.int .i64 0, .int .i64 0, .slice none 0 0]) ?_ 0 _ rfl; (with_reducible repeat (first | refine blk_drewN ?_ _ | refine blk_drew ?_ | refine blk_alloc ?_ _)); exact BK231.out) Try.underlying27 rfl (by kernel_rfl)) rfl ?_
        exact ⟨_, by first | rfl | (simp [errW_none, errW_some] <;> rfl) | (simp [*, errW_none, errW_some] <;> rfl), by first | exact Kd.R_nil _ _ _ _ _ | exact Kd.N_nil _ _ _ _ _ | exact Kd.V_nil _ _ _ _ _ | exact Kd.Q_nil _ _ _ _ _ | exact Kd.S_nil _ _ _ _ _, by repeat (first | (with_reducible first | exact HB.out | apply below_alloc | apply pw_below_drewN | apply below_drew1 | refine below_set ?_ GE231.out) | exact HB.out)⟩
       ·
        replace c15 := Bool.eq_false_iff.mpr c15
        subst c15
        have H1 : (if a2 = 0 then (none) else (if a3 > (wrap64 ((l4.length : Int) / a2)) then (some (0, 0, ([] : List (S43)), 4)) else (compositorref09_Decode.l0 kj12 a0 a1 a2 a3 l4 0 a1 a2 ([] : List (S43))))) = some (r1, r2, r3, r4) := by rw [if_neg (show ¬ (false = true) by decide)] at H; exact H
        clear H
        have H := H1
        clear H1
        by_cases c17 : a2 = 0
        ·
         rw [if_pos c17] at H
         exact absurd H (by simp)
        ·
         rw [if_neg c17] at H
         have c17b0 : (a2 == 0) = false := beq_eq_false_iff_ne.mpr c17
         have c17b1 : (a2 != 0) = true := bne_iff_ne.mpr c17
         by_cases c18 : a3 > (wrap64 ((l4.length : Int) / a2))
         ·
          rw [if_pos c18] at H
          have c18b0 : decide ((wrap64 ((l4.length : Int) / a2)) < a3) = true := decide_eq_true c18
          clear c18
          simp only [Option.some.injEq, Prod.mk.injEq] at H
          obtain ⟨rfl, rfl, rfl, rfl⟩ := H
          have hcz19_0 : wc.cell? ⟨gb231, 0, none⟩ = some (.int .i64 0) := (blk_cell BK231.out 0).trans rfl
          have hcz19_1 : wc.cell? ⟨gb231, 1, none⟩ = some (.int .i64 0) := (blk_cell BK231.out 1).trans rfl
          have hcz19_2 : wc.cell? ⟨gb231, 2, none⟩ = some (.slice none 0 0) := (blk_cell BK231.out 2).trans rfl
          have hfz19_0 := blk_frozen BK231.out 0
          have hfz19_1 := blk_frozen BK231.out 1
          have hfz19_2 := blk_frozen BK231.out 2
          go_wp2
          refine bodyPost_ret (results_ct rfl _ _ gb231 27 #[.int .i64 0, .int .i64 0, .slice none 0 0] (0, 0) _ rfl (by (with_reducible repeat (first | refine blk_drewN ?_ _ | refine blk_drew ?_ | refine blk_alloc ?_ _)); refine blk_put (cs := #[.int .i64 0, .int .i64 0, .slice none 0 0]) ?_ 2 _ rfl; (with_reducible repeat (first | refine blk_drewN ?_ _ | refine blk_drew ?_ | refine blk_alloc ?_ _)); refine blk_put (cs := #[.int .i64 0, .int .i64 0, .slice none 0 0]) ?_ 1 _ rfl; (with_reducible repeat (first | refine blk_drewN ?_ _ | refine blk_drew ?_ | refine blk_alloc ?_ _)); refine blk_put (cs := #[.int .i64 0, .int .i64 0, .slice none 0 0]) ?_ 0 _ rfl; (with_reducible repeat (first | refine blk_drewN ?_ _ | refine blk_drew ?_ | refine blk_alloc ?_ _)); exact BK231.out) Try.underlying27 rfl (by kernel_rfl)) rfl ?_
          exact ⟨_, by first | rfl | (simp [errW_none, errW_some] <;> rfl) | (simp [*, errW_none, errW_some] <;> rfl), by first | exact Kd.R_nil _ _ _ _ _ | exact Kd.N_nil _ _ _ _ _ | exact Kd.V_nil _ _ _ _ _ | exact Kd.Q_nil _ _ _ _ _ | exact Kd.S_nil _ _ _ _ _, by repeat (first | (with_reducible first | exact HB.out | apply below_alloc | apply pw_below_drewN | apply below_drew1 | refine below_set ?_ GE231.out) | exact HB.out)⟩
         ·
          rw [if_neg c18] at H
          have c18b0 : decide ((wrap64 ((l4.length : Int) / a2)) < a3) = false := decide_eq_false c18
          clear c18
          have H' := Aside0.mk H
          clear H
          go_wp2_with (first | ((with_reducible refine gate_dst (N := 12) rfl ?_); refine box_event ?hg (N := 12) ?hd (cs := #[.int .i64 0, .int .i64 0, .slice none 0 0]) (t := 27) ?hr ?_; (case hd => rfl); (case hg => rfl); (case hr => first | (go_simp; done) | (go_simp; rfl)); intro gb233 hg w20 hbox hb; have n0_ := bb_ BK231 hb; have n1_ := hb_ HB hb; have n2_ := Aside0.mk (hbox); have n3_ := Aside0.mk ((by rw [hg]; exact (below_size (hq_ HB)) : w.heap.size ≤ gb233)); have n4_ := Aside0.mk ((by rw [hg]; exact (below_size (hq_ HB)) : w.heap.size ≤ gb233)); have n5_ := Aside0.mk ((by rw [hg]; exact Nat.ne_of_lt (blk_lt (g := gb231) (o := .cells #[.int .i64 0, .int .i64 0, .slice none 0 0] 27 (0, 0)) (bq_ BK231)) : gb231 ≠ gb233)); have n6_ := Aside0.mk ((by rw [hg]; exact Nat.ne_of_gt (blk_lt (g := gb231) (o := .cells #[.int .i64 0, .int .i64 0, .slice none 0 0] 27 (0, 0)) (bq_ BK231)) : gb233 ≠ gb231)); clear BK231; clear HB; have BK231 := n0_; have HB := n1_; have BK233 := n2_; have GW233 := n3_; have GE233 := n4_; have NB231_233 := n5_; have NB233_231 := n6_; clear n0_ n1_ n2_ n3_ n4_ n5_ n6_; clear hb hbox hg; have hnb21 := NB233_231.out; have hnc21 := NB231_233.out; have hcz22_0 : w20.cell? ⟨gb233, 0, none⟩ = some (.int .i64 0) := (blk_cell BK233.out 0).trans rfl; have hcz22_1 : w20.cell? ⟨gb233, 1, none⟩ = some (.int .i64 0) := (blk_cell BK233.out 1).trans rfl; have hcz22_2 : w20.cell? ⟨gb233, 2, none⟩ = some (.slice none 0 0) := (blk_cell BK233.out 2).trans rfl; have hfz22_0 := blk_frozen BK233.out 0; have hfz22_1 := blk_frozen BK233.out 1; have hfz22_2 := blk_frozen BK233.out 2))
          go_loopg [13] kj12 (fun kq v13 w' => ∃ (x13_3 : Int) (x234002_3 : List (S43)) (u234002 : Value), v13 = .int .i64 x13_3 ∧ Aside0 (compositorref09_Decode.l0 kq a0 a1 a2 a3 l4 x13_3 a1 a2 x234002_3 = some (r1, r2, r3, r4)) ∧ Aside0 (kq ≤ kj12) ∧ Aside0 (Kd.R k43 43 w' w.heap.size (fun _ => True) u234002 x234002_3) ∧ Aside0 (w'.heap[gb231]? = some (.cells #[.int .i64 0, .int .i64 0, (.slice none 0 0)] 27 (0, 0))) ∧ Aside0 (w'.heap[gb233]? = some (.cells #[.int .i64 a1, .int .i64 a2, u234002] 27 (0, 0))) ∧ Aside0 (Below w.heap.size w w'))
          case atStart => exact ⟨(0), (([] : List (S43))), (.slice none 0 0), (by first | rfl | (simp; done) | (simp [*]; done)), H', ⟨Nat.le_refl _⟩, ⟨by first | exact Kd.R_nil _ _ _ _ _ | exact Kd.N_nil _ _ _ _ _ | exact Kd.V_nil _ _ _ _ _ | exact Kd.Q_nil _ _ _ _ _ | exact Kd.S_nil _ _ _ _ _⟩, bf_ BK231, ⟨by (with_reducible repeat (first | refine blk_drewN ?_ _ | refine blk_drew ?_ | refine blk_alloc ?_ _)); refine blk_put (cs := #[.int .i64 a1, .int .i64 a2, .slice none 0 0]) ?_ 2 _ rfl; (with_reducible repeat (first | refine blk_drewN ?_ _ | refine blk_drew ?_ | refine blk_alloc ?_ _)); refine blk_put (cs := #[.int .i64 a1, .int .i64 0, .slice none 0 0]) ?_ 1 _ rfl; (with_reducible repeat (first | refine blk_drewN ?_ _ | refine blk_drew ?_ | refine blk_alloc ?_ _)); refine blk_put (cs := #[.int .i64 0, .int .i64 0, .slice none 0 0]) ?_ 0 _ rfl; (with_reducible repeat (first | refine blk_drewN ?_ _ | refine blk_drew ?_ | refine blk_alloc ?_ _)); exact BK233.out⟩, ⟨by repeat (first | (with_reducible first | exact HB.out | apply below_alloc | apply pw_below_drewN | apply below_drew1 | refine below_set ?_ GE231.out | refine below_set ?_ GE233.out) | exact HB.out)⟩⟩
          case round =>
           clear H'
           try clear c1
           try clear c2
           try clear p2
           try clear c4
           try clear p6
           try clear c8
           try clear c8b0
           try clear c8b1
           try clear c9
           try clear c12
           try clear c14
           try clear c14b0
           try clear c15
           try clear c17
           try clear c17b0
           try clear c17b1
           try clear c18
           try clear c18b0
           try clear c21
           try clear hcz10_0
           try clear hcz10_1
           try clear hcz10_2
           try clear hcz16_0
           try clear hcz16_1
           try clear hcz16_2
           try clear hcz19_0
           try clear hcz19_1
           try clear hcz19_2
           try clear hcz22_0
           try clear hcz22_1
           try clear hcz22_2
           try clear hfz10_0
           try clear hfz10_1
           try clear hfz10_2
           try clear hfz16_0
           try clear hfz16_1
           try clear hfz16_2
           try clear hfz19_0
           try clear hfz19_1
           try clear hfz19_2
           try clear hfz22_0
           try clear hfz22_1
           try clear hfz22_2
           try clear p2
           try clear p6
           obtain ⟨x13_3, x234002_3, u234002, rfl, HA, HK3, HO_234002, BK231, BK233, HB⟩ := hrel
           cases gk with
           | zero => exact absurd HA.out (by simp [compositorref09_Decode.l0])
           | succ k3 =>
            have H := HA.out
            clear HA
            simp only [compositorref09_Decode.l0] at H
            by_cases c23 : x13_3 < a2
            ·
             rw [if_pos c23] at H
             have c23b0 : decide (x13_3 < a2) = true := decide_eq_true c23
             clear c23
             have H' := Aside0.mk H
             clear H
             go_wp2
             go_loopg [14] k3 (fun kq v14 w' => ∃ (x14_4 : Int) (x234002_4 : List (S43)) (u234002 : Value), v14 = .int .i64 x14_4 ∧ Aside0 (compositorref09_Decode.l1 kq a0 a1 a2 a3 l4 x13_3 x14_4 a1 a2 x234002_4 = some (r1, r2, r3, r4)) ∧ Aside0 (kq ≤ k3) ∧ Aside0 (Kd.R k43 43 w' w.heap.size (fun _ => True) u234002 x234002_4) ∧ Aside0 (w'.heap[gb231]? = some (.cells #[.int .i64 0, .int .i64 0, (.slice none 0 0)] 27 (0, 0))) ∧ Aside0 (w'.heap[gb233]? = some (.cells #[.int .i64 a1, .int .i64 a2, u234002] 27 (0, 0))) ∧ Aside0 (Below w.heap.size w w'))
             case atStart => exact ⟨(0), (x234002_3), (u234002), (by first | rfl | (simp; done) | (simp [*]; done)), H', ⟨Nat.le_refl _⟩, ⟨by (with_reducible repeat (first | apply Kd.R_alloc | apply Kd.R_drewN | apply Kd.R_drew)); exact HO_234002.out⟩, bf_ BK231, bf_ BK233, ⟨by repeat (first | (with_reducible first | exact HB.out | apply below_alloc | apply pw_below_drewN | apply below_drew1 | refine below_set ?_ GE231.out | refine below_set ?_ GE233.out) | exact HB.out)⟩⟩
             case round =>
              clear H'
              try clear c1
              try clear c2
              try clear p2
              try clear c4
              try clear p6
              try clear c8
              try clear c8b0
              try clear c8b1
              try clear c9
              try clear c12
              try clear c14
              try clear c14b0
              try clear c15
              try clear c17
              try clear c17b0
              try clear c17b1
              try clear c18
              try clear c18b0
              try clear c21
              try clear c23
              try clear c23b0
              try clear hcz10_0
              try clear hcz10_1
              try clear hcz10_2
              try clear hcz16_0
              try clear hcz16_1
              try clear hcz16_2
              try clear hcz19_0
              try clear hcz19_1
              try clear hcz19_2
              try clear hcz22_0
              try clear hcz22_1
              try clear hcz22_2
              try clear hfz10_0
              try clear hfz10_1
              try clear hfz10_2
              try clear hfz16_0
              try clear hfz16_1
              try clear hfz16_2
              try clear hfz19_0
              try clear hfz19_1
              try clear hfz19_2
              try clear hfz22_0
              try clear hfz22_1
              try clear hfz22_2
              try clear p2
              try clear p6
              obtain ⟨x14_4, x234002_4, u234002, rfl, HA, HK4, HO_234002, BK231, BK233, HB⟩ := hrel
              cases gk with
              | zero => exact absurd HA.out (by simp [compositorref09_Decode.l1])
              | succ k4 =>
               have H := HA.out
               clear HA
               simp only [compositorref09_Decode.l1] at H
               by_cases c24 : x14_4 < a1
               ·
                rw [if_pos c24] at H
                have c24b0 : decide (x14_4 < a1) = true := decide_eq_true c24
                clear c24
                obtain ⟨ji25, hji25⟩ : ∃ j_ : Int, (wrap64 ((wrap64 ((wrap64 (x13_3 * a3)) + (wrap64 (4 * x14_4)))) + 2)) = j_ := ⟨_, rfl⟩
                replace H : (if 0 ≤ (ji25) then (if (ji25) < (l4.length : Int) then (if 0 ≤ (wrap64 ((wrap64 ((wrap64 (x13_3 * a3)) + (wrap64 (4 * x14_4)))) + 1)) then (if (wrap64 ((wrap64 ((wrap64 (x13_3 * a3)) + (wrap64 (4 * x14_4)))) + 1)) < (l4.length : Int) then (if 0 ≤ (wrap64 ((wrap64 (x13_3 * a3)) + (wrap64 (4 * x14_4)))) then (if (wrap64 ((wrap64 (x13_3 * a3)) + (wrap64 (4 * x14_4)))) < (l4.length : Int) then (if 0 ≤ (wrap64 ((wrap64 ((wrap64 (x13_3 * a3)) + (wrap64 (4 * x14_4)))) + 3)) then (if (wrap64 ((wrap64 ((wrap64 (x13_3 * a3)) + (wrap64 (4 * x14_4)))) + 3)) < (l4.length : Int) then (if a0 = 2 then ((compositorref08_Clamp.f (rd l4 (ji25)) (rd l4 (wrap64 ((wrap64 ((wrap64 (x13_3 * a3)) + (wrap64 (4 * x14_4)))) + 1))) (rd l4 (wrap64 ((wrap64 (x13_3 * a3)) + (wrap64 (4 * x14_4))))) 255).bind fun bt239 => (if x234002_4.length < 35184372088832 then (compositorref09_Decode.l1 k4 a0 a1 a2 a3 l4 x13_3 (wrap64 (x14_4 + 1)) a1 a2 (x234002_4 ++ [(⟨bt239.1, bt239.2.1, bt239.2.2.1, bt239.2.2.2⟩ : S43)])) else (none))) else ((compositorref08_Clamp.f (rd l4 (ji25)) (rd l4 (wrap64 ((wrap64 ((wrap64 (x13_3 * a3)) + (wrap64 (4 * x14_4)))) + 1))) (rd l4 (wrap64 ((wrap64 (x13_3 * a3)) + (wrap64 (4 * x14_4))))) (rd l4 (wrap64 ((wrap64 ((wrap64 (x13_3 * a3)) + (wrap64 (4 * x14_4)))) + 3)))).bind fun bt246 => (if x234002_4.length < 35184372088832 then (compositorref09_Decode.l1 k4 a0 a1 a2 a3 l4 x13_3 (wrap64 (x14_4 + 1)) a1 a2 (x234002_4 ++ [(⟨bt246.1, bt246.2.1, bt246.2.2.1, bt246.2.2.2⟩ : S43)])) else (none)))) else (none)) else (none)) else (none)) else (none)) else (none)) else (none)) else (none)) else (none)) = some (r1, r2, r3, r4) := by first | (rw [hji25] at H; exact H) | (simp only [hji25] at H ⊢; exact H)
                have hji25w : (IntKind.i64.wrap ((wrap64 ((wrap64 (x13_3 * a3)) + (wrap64 (4 * x14_4)))) + 2)) = ji25 := (i64_w _).trans hji25
                by_cases c26 : 0 ≤ (ji25)
                ·
                 rw [if_pos c26] at H
                 have c26b0 : decide (0 ≤ (ji25)) = true := decide_eq_true c26
                 clear c26
                 by_cases c27 : (ji25) < (l4.length : Int)
                 ·
                  rw [if_pos c27] at H
                  have c27b0 : decide ((ji25) < (l4.length : Int)) = true := decide_eq_true c27
                  clear c27
                  obtain ⟨ji28, hji28⟩ : ∃ j_ : Int, (wrap64 ((wrap64 ((wrap64 (x13_3 * a3)) + (wrap64 (4 * x14_4)))) + 1)) = j_ := ⟨_, rfl⟩
                  replace H : (if 0 ≤ (ji28) then (if (ji28) < (l4.length : Int) then (if 0 ≤ (wrap64 ((wrap64 (x13_3 * a3)) + (wrap64 (4 * x14_4)))) then (if (wrap64 ((wrap64 (x13_3 * a3)) + (wrap64 (4 * x14_4)))) < (l4.length : Int) then (if 0 ≤ (wrap64 ((wrap64 ((wrap64 (x13_3 * a3)) + (wrap64 (4 * x14_4)))) + 3)) then (if (wrap64 ((wrap64 ((wrap64 (x13_3 * a3)) + (wrap64 (4 * x14_4)))) + 3)) < (l4.length : Int) then (if a0 = 2 then ((compositorref08_Clamp.f (rd l4 (ji25)) (rd l4 (ji28)) (rd l4 (wrap64 ((wrap64 (x13_3 * a3)) + (wrap64 (4 * x14_4))))) 255).bind fun bt239 => (if x234002_4.length < 35184372088832 then (compositorref09_Decode.l1 k4 a0 a1 a2 a3 l4 x13_3 (wrap64 (x14_4 + 1)) a1 a2 (x234002_4 ++ [(⟨bt239.1, bt239.2.1, bt239.2.2.1, bt239.2.2.2⟩ : S43)])) else (none))) else ((compositorref08_Clamp.f (rd l4 (ji25)) (rd l4 (ji28)) (rd l4 (wrap64 ((wrap64 (x13_3 * a3)) + (wrap64 (4 * x14_4))))) (rd l4 (wrap64 ((wrap64 ((wrap64 (x13_3 * a3)) + (wrap64 (4 * x14_4)))) + 3)))).bind fun bt246 => (if x234002_4.length < 35184372088832 then (compositorref09_Decode.l1 k4 a0 a1 a2 a3 l4 x13_3 (wrap64 (x14_4 + 1)) a1 a2 (x234002_4 ++ [(⟨bt246.1, bt246.2.1, bt246.2.2.1, bt246.2.2.2⟩ : S43)])) else (none)))) else (none)) else (none)) else (none)) else (none)) else (none)) else (none)) = some (r1, r2, r3, r4) := by first | (rw [hji28] at H; exact H) | (simp only [hji28] at H ⊢; exact H)
                  have hji28w : (IntKind.i64.wrap ((wrap64 ((wrap64 (x13_3 * a3)) + (wrap64 (4 * x14_4)))) + 1)) = ji28 := (i64_w _).trans hji28
                  by_cases c29 : 0 ≤ (ji28)
                  ·
                   rw [if_pos c29] at H
                   have c29b0 : decide (0 ≤ (ji28)) = true := decide_eq_true c29
                   clear c29
                   by_cases c30 : (ji28) < (l4.length : Int)
                   ·
                    rw [if_pos c30] at H
                    have c30b0 : decide ((ji28) < (l4.length : Int)) = true := decide_eq_true c30
                    clear c30
                    obtain ⟨ji31, hji31⟩ : ∃ j_ : Int, (wrap64 ((wrap64 (x13_3 * a3)) + (wrap64 (4 * x14_4)))) = j_ := ⟨_, rfl⟩
                    replace H : (if 0 ≤ (ji31) then (if (ji31) < (l4.length : Int) then (if 0 ≤ (wrap64 ((ji31) + 3)) then (if (wrap64 ((ji31) + 3)) < (l4.length : Int) then (if a0 = 2 then ((compositorref08_Clamp.f (rd l4 (ji25)) (rd l4 (ji28)) (rd l4 (ji31)) 255).bind fun bt239 => (if x234002_4.length < 35184372088832 then (compositorref09_Decode.l1 k4 a0 a1 a2 a3 l4 x13_3 (wrap64 (x14_4 + 1)) a1 a2 (x234002_4 ++ [(⟨bt239.1, bt239.2.1, bt239.2.2.1, bt239.2.2.2⟩ : S43)])) else (none))) else ((compositorref08_Clamp.f (rd l4 (ji25)) (rd l4 (ji28)) (rd l4 (ji31)) (rd l4 (wrap64 ((ji31) + 3)))).bind fun bt246 => (if x234002_4.length < 35184372088832 then (compositorref09_Decode.l1 k4 a0 a1 a2 a3 l4 x13_3 (wrap64 (x14_4 + 1)) a1 a2 (x234002_4 ++ [(⟨bt246.1, bt246.2.1, bt246.2.2.1, bt246.2.2.2⟩ : S43)])) else (none)))) else (none)) else (none)) else (none)) else (none)) = some (r1, r2, r3, r4) := by first | (rw [hji31] at H; exact H) | (simp only [hji31] at H ⊢; exact H)
                    have hji31w : (IntKind.i64.wrap ((wrap64 (x13_3 * a3)) + (wrap64 (4 * x14_4)))) = ji31 := (i64_w _).trans hji31
                    (try simp only [hji31] at hji25)
                    (try simp only [hji31] at hji25w)
                    (try simp only [hji31] at hji28)
                    (try simp only [hji31] at hji28w)
                    by_cases c32 : 0 ≤ (ji31)
                    ·
                     rw [if_pos c32] at H
                     have c32b0 : decide (0 ≤ (ji31)) = true := decide_eq_true c32
                     clear c32
                     by_cases c33 : (ji31) < (l4.length : Int)
                     ·
                      rw [if_pos c33] at H
                      have c33b0 : decide ((ji31) < (l4.length : Int)) = true := decide_eq_true c33
                      clear c33
                      obtain ⟨ji34, hji34⟩ : ∃ j_ : Int, (wrap64 ((ji31) + 3)) = j_ := ⟨_, rfl⟩
                      replace H : (if 0 ≤ (ji34) then (if (ji34) < (l4.length : Int) then (if a0 = 2 then ((compositorref08_Clamp.f (rd l4 (ji25)) (rd l4 (ji28)) (rd l4 (ji31)) 255).bind fun bt239 => (if x234002_4.length < 35184372088832 then (compositorref09_Decode.l1 k4 a0 a1 a2 a3 l4 x13_3 (wrap64 (x14_4 + 1)) a1 a2 (x234002_4 ++ [(⟨bt239.1, bt239.2.1, bt239.2.2.1, bt239.2.2.2⟩ : S43)])) else (none))) else ((compositorref08_Clamp.f (rd l4 (ji25)) (rd l4 (ji28)) (rd l4 (ji31)) (rd l4 (ji34))).bind fun bt246 => (if x234002_4.length < 35184372088832 then (compositorref09_Decode.l1 k4 a0 a1 a2 a3 l4 x13_3 (wrap64 (x14_4 + 1)) a1 a2 (x234002_4 ++ [(⟨bt246.1, bt246.2.1, bt246.2.2.1, bt246.2.2.2⟩ : S43)])) else (none)))) else (none)) else (none)) = some (r1, r2, r3, r4) := by first | (rw [hji34] at H; exact H) | (simp only [hji34] at H ⊢; exact H)
                      have hji34w : (IntKind.i64.wrap ((ji31) + 3)) = ji34 := (i64_w _).trans hji34
                      by_cases c35 : 0 ≤ (ji34)
                      ·
                       rw [if_pos c35] at H
                       have c35b0 : decide (0 ≤ (ji34)) = true := decide_eq_true c35
                       clear c35
                       by_cases c36 : (ji34) < (l4.length : Int)
                       ·
                        rw [if_pos c36] at H
                        have c36b0 : decide ((ji34) < (l4.length : Int)) = true := decide_eq_true c36
                        clear c36
                        by_cases c37 : a0 = 2
                        ·
                         rw [if_pos c37] at H
                         have c37b0 : (a0 == 2) = true := beq_iff_eq.mpr c37
                         have c37b1 : (a0 != 2) = false := bne_eq_false_iff_eq.mpr c37
                         clear c37
                         replace H := Option.bind_eq_some_iff.mp H
                         obtain ⟨⟨t239, t240, t241, t242⟩, A380, H⟩ := H
                         try dsimp only at H
                         have A38 := Aside0.mk A380
                         clear A380
                         by_cases c39 : x234002_4.length < 35184372088832
                         ·
                          rw [if_pos c39] at H
                          have LMc39 := Aside0.mk c39
                          clear c39
                          obtain ⟨y243, hy243⟩ : ∃ y_ : List (S43), y_ = (x234002_4 ++ [(⟨t239, t240, t241, t242⟩ : S43)]) := ⟨_, rfl⟩
                          replace H : (compositorref09_Decode.l1 k4 a0 a1 a2 a3 l4 x13_3 (wrap64 (x14_4 + 1)) a1 a2 y243) = some (r1, r2, r3, r4) := by first | (rw [hy243]; with_reducible exact H) | (have H2_ := (Option.bind_some _ _).symm.trans H; rw [hy243]; with_reducible exact H2_) | (have H2_ := (Option.bind_some _ _).symm.trans H; with_reducible exact H2_) | with_reducible exact H | (rw [hy243]; exact H) | exact H
                          have Ny243 := Aside0.mk hy243
                          clear hy243
                          have H' := Aside0.mk H
                          clear H
                          try go_wp2
                          replace HO_234002 := Aside0.mk (Kd.R_drew HO_234002.out)
                          replace BK231 := Aside0.mk (blk_drew BK231.out)
                          replace BK233 := Aside0.mk (blk_drew BK233.out)
                          replace HB := Aside0.mk (below_drew1 HB.out)
                          have p234 : 0 ≤ ((ji25) : Int) := of_decide_eq_true (by first | (with_reducible assumption) | assumption)
                          have q234 : (ji25) < (l4.length : Int) := of_decide_eq_true (by first | (with_reducible assumption) | assumption)
                          obtain ⟨ad234, e234, hx234_0⟩ := Kd.at_int HR4.out (ji25) p234 q234
                          have hw234_0 := hx234_0
                          cases e234
                          replace hx234_0 := (HB.out.cell (World.block_lt_of_cell? w _ hx234_0)).trans hx234_0
                          replace p234 := eq_true p234
                          replace q234 := eq_true q234
                          have p235 : 0 ≤ ((ji28) : Int) := of_decide_eq_true (by first | (with_reducible assumption) | assumption)
                          have q235 : (ji28) < (l4.length : Int) := of_decide_eq_true (by first | (with_reducible assumption) | assumption)
                          obtain ⟨ad235, e235, hx235_0⟩ := Kd.at_int HR4.out (ji28) p235 q235
                          have hw235_0 := hx235_0
                          obtain rfl : ad234 = ad235 := (by injection e235)
                          replace hx235_0 := (HB.out.cell (World.block_lt_of_cell? w _ hx235_0)).trans hx235_0
                          replace p235 := eq_true p235
                          replace q235 := eq_true q235
                          have p236 : 0 ≤ ((ji31) : Int) := of_decide_eq_true (by first | (with_reducible assumption) | assumption)
                          have q236 : (ji31) < (l4.length : Int) := of_decide_eq_true (by first | (with_reducible assumption) | assumption)
                          obtain ⟨ad236, e236, hx236_0⟩ := Kd.at_int HR4.out (ji31) p236 q236
                          have hw236_0 := hx236_0
                          obtain rfl : ad234 = ad236 := (by injection e236)
                          replace hx236_0 := (HB.out.cell (World.block_lt_of_cell? w _ hx236_0)).trans hx236_0
                          replace p236 := eq_true p236
                          replace q236 := eq_true q236
                          have p237 : 0 ≤ ((ji34) : Int) := of_decide_eq_true (by first | (with_reducible assumption) | assumption)
                          have q237 : (ji34) < (l4.length : Int) := of_decide_eq_true (by first | (with_reducible assumption) | assumption)
                          obtain ⟨ad237, e237, hx237_0⟩ := Kd.at_int HR4.out (ji34) p237 q237
                          have hw237_0 := hx237_0
                          obtain rfl : ad234 = ad237 := (by injection e237)
                          replace hx237_0 := (HB.out.cell (World.block_lt_of_cell? w _ hx237_0)).trans hx237_0
                          replace p237 := eq_true p237
                          replace q237 := eq_true q237
                          refine start_ (n := 22) (S := fun w' => w'.cell? (ad234.add ((ji25)).toNat) = some (.int .u8 (rd l4 (ji25))) ∧ w'.cell? (ad234.add ((ji28)).toNat) = some (.int .u8 (rd l4 (ji28))) ∧ w'.cell? (ad234.add ((ji31)).toNat) = some (.int .u8 (rd l4 (ji31))) ∧ w'.cell? (ad234.add ((ji34)).toNat) = some (.int .u8 (rd l4 (ji34)))) (ds := []) zq15.q0 (by kernel_rfl) rfl rfl ⟨((HB.out.cell (World.block_lt_of_cell? w _ hw234_0)).trans hw234_0), ((HB.out.cell (World.block_lt_of_cell? w _ hw235_0)).trans hw235_0), ((HB.out.cell (World.block_lt_of_cell? w _ hw236_0)).trans hw236_0), ((HB.out.cell (World.block_lt_of_cell? w _ hw237_0)).trans hw237_0)⟩ (fun hHeld => ?_); refine with_tabW compositorref09_Decode.tab17 compositorref09_Decode.bits17 (fun HT_ HW_ => ?_)
                          generalize wr.drew = w40 at HO_234002 BK231 BK233 HB hx234_0 hx235_0 hx236_0 hx237_0 hHeld ⊢
                          refine pv_ 0 65 zq15.q1 HT_ ?_
                          refine pv_ 1 66 zq15.q2 HT_ ?_
                          refine pv_ 2 67 zq15.q3 HT_ ?_
                          refine pv_ 3 68 zq15.q4 HT_ ?_
                          refine pv_ 5 70 zq15.q5 HT_ ?_
                          refine pv_ 6 71 zq15.q6 HT_ ?_
                          refine pv_ 7 72 zq15.q7 HT_ ?_
                          refine pv_ 8 73 zq15.q8 HT_ ?_
                          refine pv_ 10 75 zq15.q9 HT_ ?_
                          refine pv_ 11 76 zq15.q10 HT_ ?_
                          refine pv_ 12 77 zq15.q11 HT_ ?_
                          refine pv_ 14 79 zq15.q12 HT_ ?_
                          refine pv_ 15 80 zq15.q13 HT_ ?_
                          refine pv_ 16 81 zq15.q14 HT_ ?_
                          refine pv_ 17 82 zq15.q15 HT_ ?_
                          refine tk4_ 4 69 zq15.q16 HT_ HW_ hHeld ?_
                          refine tk4_ 9 74 zq15.q17 HT_ HW_ hHeld ?_
                          refine tk4_ 13 78 zq15.q18 HT_ HW_ hHeld ?_
                          refine tk4_ 18 83 zq15.q19 HT_ HW_ hHeld ?_
                          refine pv_ 19 84 zq15.q20 HT_ ?_
                          refine one_ (i := 20) (N := some 16) zq15.q21 rfl rfl (one_of HT_.out (by kernel_rfl)) (by decide) (fun K hK => ?_)
                          refine box_step ?hg (N := 16) ?hd (cs := #[.int .u8 0, .int .u8 0, .int .u8 0, .int .u8 0]) (t := 43) ?hr ?_; (case hd => rfl); (case hg => rfl); (case hr => first | (go_simp; done) | (go_simp; rfl))
                          intro gb238 hg w41 hbox hb
                          replace HO_234002 := Aside0.mk (Kd.R_below (Kd.R_elderB (by (with_reducible repeat (first | apply Kd.R_alloc | apply Kd.R_drewN | apply Kd.R_drew)); exact HO_234002.out) gb238 (Nat.le_of_eq hg.symm)) hb)
                          have BK238 := Aside0.mk (hbox)
                          have GW238 := Aside0.mk ((by rw [hg]; exact (below_size (hq_ HB)) : w.heap.size ≤ gb238))
                          have GE238 := Aside0.mk ((by rw [hg]; exact (below_size (hq_ HB)) : w.heap.size ≤ gb238))
                          replace HB := hb_ HB hb
                          have NB231_238 := Aside0.mk ((by rw [hg]; exact Nat.ne_of_lt (blk_lt (g := gb231) (o := .cells #[.int .i64 0, .int .i64 0, .slice none 0 0] 27 (0, 0)) (bq_ BK231)) : gb231 ≠ gb238))
                          have NB238_231 := Aside0.mk ((by rw [hg]; exact Nat.ne_of_gt (blk_lt (g := gb231) (o := .cells #[.int .i64 0, .int .i64 0, .slice none 0 0] 27 (0, 0)) (bq_ BK231)) : gb238 ≠ gb231))
                          replace BK231 := bb_ BK231 hb
                          have NB233_238 := Aside0.mk ((by rw [hg]; exact Nat.ne_of_lt (blk_lt (g := gb233) (o := .cells #[.int .i64 a1, .int .i64 a2, u234002] 27 (0, 0)) (bq_ BK233)) : gb233 ≠ gb238))
                          have NB238_233 := Aside0.mk ((by rw [hg]; exact Nat.ne_of_gt (blk_lt (g := gb233) (o := .cells #[.int .i64 a1, .int .i64 a2, u234002] 27 (0, 0)) (bq_ BK233)) : gb238 ≠ gb233))
                          replace BK233 := bb_ BK233 hb
                          clear hb hbox hg
                          refine hK.out _ _ ⟨((HB.out.cell (World.block_lt_of_cell? w _ hw234_0)).trans hw234_0), ((HB.out.cell (World.block_lt_of_cell? w _ hw235_0)).trans hw235_0), ((HB.out.cell (World.block_lt_of_cell? w _ hw236_0)).trans hw236_0), ((HB.out.cell (World.block_lt_of_cell? w _ hw237_0)).trans hw237_0)⟩ (fun hHeld => ?_)
                          clear hK K
                          refine norm_ (a' := ?_) ?_ ?_
                          rotate_left
                          ·
                           show Act.put _ (some 16) _ = _
                           simp only [Act.put, List.setIfInBounds_toArray, List.set_cons_zero, List.set_cons_succ, i64_w, i32_w]
                           rfl
                          refine one_ (i := 21) (N := none) zq15.q22 rfl rfl (one_of HT_.out (by kernel_rfl)) (by decide) (fun K hK => ?_)
                          have hs42 : w41.cell? ⟨gb238, 0, none⟩ = some (.int .u8 0) := (blk_cell BK238.out 0).trans rfl
                          have hfs42 := blk_frozen BK238.out 0
                          have hns42_0 := NB231_238.out
                          have hns42_1 := NB233_238.out
                          have hms42_0 := NB238_231.out
                          have hms42_1 := NB238_233.out
                          have hs43 : w41.cell? ⟨gb238, 1, none⟩ = some (.int .u8 0) := (blk_cell BK238.out 1).trans rfl
                          have hfs43 := blk_frozen BK238.out 1
                          have hns43_0 := NB231_238.out
                          have hns43_1 := NB233_238.out
                          have hms43_0 := NB238_231.out
                          have hms43_1 := NB238_233.out
                          have hs44 : w41.cell? ⟨gb238, 2, none⟩ = some (.int .u8 0) := (blk_cell BK238.out 2).trans rfl
                          have hfs44 := blk_frozen BK238.out 2
                          have hns44_0 := NB231_238.out
                          have hns44_1 := NB233_238.out
                          have hms44_0 := NB238_231.out
                          have hms44_1 := NB238_233.out
                          have hs45 : w41.cell? ⟨gb238, 3, none⟩ = some (.int .u8 0) := (blk_cell BK238.out 3).trans rfl
                          have hfs45 := blk_frozen BK238.out 3
                          have hns45_0 := NB231_238.out
                          have hns45_1 := NB233_238.out
                          have hms45_0 := NB238_231.out
                          have hms45_1 := NB238_233.out
                          refine skip_ (w1 := ?_) (by rfl) rfl ?_ ?_
                          rotate_left
                          ·
                           go_simp
                           rfl
                          refine hK.out _ _ ⟨((cell_far (p := ⟨gb238, _, none⟩) (by first | exact Nat.ne_of_lt (Nat.lt_of_lt_of_le (by have := World.block_lt_of_cell? _ _ hw234_0; first | rwa [add_block] at this | exact this) GW238.out) | (rw [add_block]; exact Nat.ne_of_lt (Nat.lt_of_lt_of_le (by have := World.block_lt_of_cell? _ _ hw234_0; first | rwa [add_block] at this | exact this) GW238.out)) | (show (Addr.add _ _).block ≠ _; rw [add_block]; exact Nat.ne_of_lt (Nat.lt_of_lt_of_le (by have := World.block_lt_of_cell? _ _ hw234_0; first | rwa [add_block] at this | exact this) GW238.out)) | (dsimp only; exact Nat.ne_of_lt (Nat.lt_of_lt_of_le (by have := World.block_lt_of_cell? _ _ hw234_0; first | rwa [add_block] at this | exact this) GW238.out))) _).trans (((cell_far (p := ⟨gb238, _, none⟩) (by first | exact Nat.ne_of_lt (Nat.lt_of_lt_of_le (by have := World.block_lt_of_cell? _ _ hw234_0; first | rwa [add_block] at this | exact this) GW238.out) | (rw [add_block]; exact Nat.ne_of_lt (Nat.lt_of_lt_of_le (by have := World.block_lt_of_cell? _ _ hw234_0; first | rwa [add_block] at this | exact this) GW238.out)) | (show (Addr.add _ _).block ≠ _; rw [add_block]; exact Nat.ne_of_lt (Nat.lt_of_lt_of_le (by have := World.block_lt_of_cell? _ _ hw234_0; first | rwa [add_block] at this | exact this) GW238.out)) | (dsimp only; exact Nat.ne_of_lt (Nat.lt_of_lt_of_le (by have := World.block_lt_of_cell? _ _ hw234_0; first | rwa [add_block] at this | exact this) GW238.out))) _).trans (((cell_far (p := ⟨gb238, _, none⟩) (by first | exact Nat.ne_of_lt (Nat.lt_of_lt_of_le (by have := World.block_lt_of_cell? _ _ hw234_0; first | rwa [add_block] at this | exact this) GW238.out) | (rw [add_block]; exact Nat.ne_of_lt (Nat.lt_of_lt_of_le (by have := World.block_lt_of_cell? _ _ hw234_0; first | rwa [add_block] at this | exact this) GW238.out)) | (show (Addr.add _ _).block ≠ _; rw [add_block]; exact Nat.ne_of_lt (Nat.lt_of_lt_of_le (by have := World.block_lt_of_cell? _ _ hw234_0; first | rwa [add_block] at this | exact this) GW238.out)) | (dsimp only; exact Nat.ne_of_lt (Nat.lt_of_lt_of_le (by have := World.block_lt_of_cell? _ _ hw234_0; first | rwa [add_block] at this | exact this) GW238.out))) _).trans (((cell_far (p := ⟨gb238, _, none⟩) (by first | exact Nat.ne_of_lt (Nat.lt_of_lt_of_le (by have := World.block_lt_of_cell? _ _ hw234_0; first | rwa [add_block] at this | exact this) GW238.out) | (rw [add_block]; exact Nat.ne_of_lt (Nat.lt_of_lt_of_le (by have := World.block_lt_of_cell? _ _ hw234_0; first | rwa [add_block] at this | exact this) GW238.out)) | (show (Addr.add _ _).block ≠ _; rw [add_block]; exact Nat.ne_of_lt (Nat.lt_of_lt_of_le (by have := World.block_lt_of_cell? _ _ hw234_0; first | rwa [add_block] at this | exact this) GW238.out)) | (dsimp only; exact Nat.ne_of_lt (Nat.lt_of_lt_of_le (by have := World.block_lt_of_cell? _ _ hw234_0; first | rwa [add_block] at this | exact this) GW238.out))) _).trans (hHeld.1)))))))), ((cell_far (p := ⟨gb238, _, none⟩) (by first | exact Nat.ne_of_lt (Nat.lt_of_lt_of_le (by have := World.block_lt_of_cell? _ _ hw235_0; first | rwa [add_block] at this | exact this) GW238.out) | (rw [add_block]; exact Nat.ne_of_lt (Nat.lt_of_lt_of_le (by have := World.block_lt_of_cell? _ _ hw235_0; first | rwa [add_block] at this | exact this) GW238.out)) | (show (Addr.add _ _).block ≠ _; rw [add_block]; exact Nat.ne_of_lt (Nat.lt_of_lt_of_le (by have := World.block_lt_of_cell? _ _ hw235_0; first | rwa [add_block] at this | exact this) GW238.out)) | (dsimp only; exact Nat.ne_of_lt (Nat.lt_of_lt_of_le (by have := World.block_lt_of_cell? _ _ hw235_0; first | rwa [add_block] at this | exact this) GW238.out))) _).trans (((cell_far (p := ⟨gb238, _, none⟩) (by first | exact Nat.ne_of_lt (Nat.lt_of_lt_of_le (by have := World.block_lt_of_cell? _ _ hw235_0; first | rwa [add_block] at this | exact this) GW238.out) | (rw [add_block]; exact Nat.ne_of_lt (Nat.lt_of_lt_of_le (by have := World.block_lt_of_cell? _ _ hw235_0; first | rwa [add_block] at this | exact this) GW238.out)) | (show (Addr.add _ _).block ≠ _; rw [add_block]; exact Nat.ne_of_lt (Nat.lt_of_lt_of_le (by have := World.block_lt_of_cell? _ _ hw235_0; first | rwa [add_block] at this | exact this) GW238.out)) | (dsimp only; exact Nat.ne_of_lt (Nat.lt_of_lt_of_le (by have := World.block_lt_of_cell? _ _ hw235_0; first | rwa [add_block] at this | exact this) GW238.out))) _).trans (((cell_far (p := ⟨gb238, _, none⟩) (by first | exact Nat.ne_of_lt (Nat.lt_of_lt_of_le (by have := World.block_lt_of_cell? _ _ hw235_0; first | rwa [add_block] at this | exact this) GW238.out) | (rw [add_block]; exact Nat.ne_of_lt (Nat.lt_of_lt_of_le (by have := World.block_lt_of_cell? _ _ hw235_0; first | rwa [add_block] at this | exact this) GW238.out)) | (show (Addr.add _ _).block ≠ _; rw [add_block]; exact Nat.ne_of_lt (Nat.lt_of_lt_of_le (by have := World.block_lt_of_cell? _ _ hw235_0; first | rwa [add_block] at this | exact this) GW238.out)) | (dsimp only; exact Nat.ne_of_lt (Nat.lt_of_lt_of_le (by have := World.block_lt_of_cell? _ _ hw235_0; first | rwa [add_block] at this | exact this) GW238.out))) _).trans (((cell_far (p := ⟨gb238, _, none⟩) (by first | exact Nat.ne_of_lt (Nat.lt_of_lt_of_le (by have := World.block_lt_of_cell? _ _ hw235_0; first | rwa [add_block] at this | exact this) GW238.out) | (rw [add_block]; exact Nat.ne_of_lt (Nat.lt_of_lt_of_le (by have := World.block_lt_of_cell? _ _ hw235_0; first | rwa [add_block] at this | exact this) GW238.out)) | (show (Addr.add _ _).block ≠ _; rw [add_block]; exact Nat.ne_of_lt (Nat.lt_of_lt_of_le (by have := World.block_lt_of_cell? _ _ hw235_0; first | rwa [add_block] at this | exact this) GW238.out)) | (dsimp only; exact Nat.ne_of_lt (Nat.lt_of_lt_of_le (by have := World.block_lt_of_cell? _ _ hw235_0; first | rwa [add_block] at this | exact this) GW238.out))) _).trans (hHeld.2.1)))))))), ((cell_far (p := ⟨gb238, _, none⟩) (by first | exact Nat.ne_of_lt (Nat.lt_of_lt_of_le (by have := World.block_lt_of_cell? _ _ hw236_0; first | rwa [add_block] at this | exact this) GW238.out) | (rw [add_block]; exact Nat.ne_of_lt (Nat.lt_of_lt_of_le (by have := World.block_lt_of_cell? _ _ hw236_0; first | rwa [add_block] at this | exact this) GW238.out)) | (show (Addr.add _ _).block ≠ _; rw [add_block]; exact Nat.ne_of_lt (Nat.lt_of_lt_of_le (by have := World.block_lt_of_cell? _ _ hw236_0; first | rwa [add_block] at this | exact this) GW238.out)) | (dsimp only; exact Nat.ne_of_lt (Nat.lt_of_lt_of_le (by have := World.block_lt_of_cell? _ _ hw236_0; first | rwa [add_block] at this | exact this) GW238.out))) _).trans (((cell_far (p := ⟨gb238, _, none⟩) (by first | exact Nat.ne_of_lt (Nat.lt_of_lt_of_le (by have := World.block_lt_of_cell? _ _ hw236_0; first | rwa [add_block] at this | exact this) GW238.out) | (rw [add_block]; exact Nat.ne_of_lt (Nat.lt_of_lt_of_le (by have := World.block_lt_of_cell? _ _ hw236_0; first | rwa [add_block] at this | exact this) GW238.out)) | (show (Addr.add _ _).block ≠ _; rw [add_block]; exact Nat.ne_of_lt (Nat.lt_of_lt_of_le (by have := World.block_lt_of_cell? _ _ hw236_0; first | rwa [add_block] at this | exact this) GW238.out)) | (dsimp only; exact Nat.ne_of_lt (Nat.lt_of_lt_of_le (by have := World.block_lt_of_cell? _ _ hw236_0; first | rwa [add_block] at this | exact this) GW238.out))) _).trans (((cell_far (p := ⟨gb238, _, none⟩) (by first | exact Nat.ne_of_lt (Nat.lt_of_lt_of_le (by have := World.block_lt_of_cell? _ _ hw236_0; first | rwa [add_block] at this | exact this) GW238.out) | (rw [add_block]; exact Nat.ne_of_lt (Nat.lt_of_lt_of_le (by have := World.block_lt_of_cell? _ _ hw236_0; first | rwa [add_block] at this | exact this) GW238.out)) | (show (Addr.add _ _).block ≠ _; rw [add_block]; exact Nat.ne_of_lt (Nat.lt_of_lt_of_le (by have := World.block_lt_of_cell? _ _ hw236_0; first | rwa [add_block] at this | exact this) GW238.out)) | (dsimp only; exact Nat.ne_of_lt (Nat.lt_of_lt_of_le (by have := World.block_lt_of_cell? _ _ hw236_0; first | rwa [add_block] at this | exact this) GW238.out))) _).trans (((cell_far (p := ⟨gb238, _, none⟩) (by first | exact Nat.ne_of_lt (Nat.lt_of_lt_of_le (by have := World.block_lt_of_cell? _ _ hw236_0; first | rwa [add_block] at this | exact this) GW238.out) | (rw [add_block]; exact Nat.ne_of_lt (Nat.lt_of_lt_of_le (by have := World.block_lt_of_cell? _ _ hw236_0; first | rwa [add_block] at this | exact this) GW238.out)) | (show (Addr.add _ _).block ≠ _; rw [add_block]; exact Nat.ne_of_lt (Nat.lt_of_lt_of_le (by have := World.block_lt_of_cell? _ _ hw236_0; first | rwa [add_block] at this | exact this) GW238.out)) | (dsimp only; exact Nat.ne_of_lt (Nat.lt_of_lt_of_le (by have := World.block_lt_of_cell? _ _ hw236_0; first | rwa [add_block] at this | exact this) GW238.out))) _).trans (hHeld.2.2.1)))))))), ((cell_far (p := ⟨gb238, _, none⟩) (by first | exact Nat.ne_of_lt (Nat.lt_of_lt_of_le (by have := World.block_lt_of_cell? _ _ hw237_0; first | rwa [add_block] at this | exact this) GW238.out) | (rw [add_block]; exact Nat.ne_of_lt (Nat.lt_of_lt_of_le (by have := World.block_lt_of_cell? _ _ hw237_0; first | rwa [add_block] at this | exact this) GW238.out)) | (show (Addr.add _ _).block ≠ _; rw [add_block]; exact Nat.ne_of_lt (Nat.lt_of_lt_of_le (by have := World.block_lt_of_cell? _ _ hw237_0; first | rwa [add_block] at this | exact this) GW238.out)) | (dsimp only; exact Nat.ne_of_lt (Nat.lt_of_lt_of_le (by have := World.block_lt_of_cell? _ _ hw237_0; first | rwa [add_block] at this | exact this) GW238.out))) _).trans (((cell_far (p := ⟨gb238, _, none⟩) (by first | exact Nat.ne_of_lt (Nat.lt_of_lt_of_le (by have := World.block_lt_of_cell? _ _ hw237_0; first | rwa [add_block] at this | exact this) GW238.out) | (rw [add_block]; exact Nat.ne_of_lt (Nat.lt_of_lt_of_le (by have := World.block_lt_of_cell? _ _ hw237_0; first | rwa [add_block] at this | exact this) GW238.out)) | (show (Addr.add _ _).block ≠ _; rw [add_block]; exact Nat.ne_of_lt (Nat.lt_of_lt_of_le (by have := World.block_lt_of_cell? _ _ hw237_0; first | rwa [add_block] at this | exact this) GW238.out)) | (dsimp only; exact Nat.ne_of_lt (Nat.lt_of_lt_of_le (by have := World.block_lt_of_cell? _ _ hw237_0; first | rwa [add_block] at this | exact this) GW238.out))) _).trans (((cell_far (p := ⟨gb238, _, none⟩) (by first | exact Nat.ne_of_lt (Nat.lt_of_lt_of_le (by have := World.block_lt_of_cell? _ _ hw237_0; first | rwa [add_block] at this | exact this) GW238.out) | (rw [add_block]; exact Nat.ne_of_lt (Nat.lt_of_lt_of_le (by have := World.block_lt_of_cell? _ _ hw237_0; first | rwa [add_block] at this | exact this) GW238.out)) | (show (Addr.add _ _).block ≠ _; rw [add_block]; exact Nat.ne_of_lt (Nat.lt_of_lt_of_le (by have := World.block_lt_of_cell? _ _ hw237_0; first | rwa [add_block] at this | exact this) GW238.out)) | (dsimp only; exact Nat.ne_of_lt (Nat.lt_of_lt_of_le (by have := World.block_lt_of_cell? _ _ hw237_0; first | rwa [add_block] at this | exact this) GW238.out))) _).trans (((cell_far (p := ⟨gb238, _, none⟩) (by first | exact Nat.ne_of_lt (Nat.lt_of_lt_of_le (by have := World.block_lt_of_cell? _ _ hw237_0; first | rwa [add_block] at this | exact this) GW238.out) | (rw [add_block]; exact Nat.ne_of_lt (Nat.lt_of_lt_of_le (by have := World.block_lt_of_cell? _ _ hw237_0; first | rwa [add_block] at this | exact this) GW238.out)) | (show (Addr.add _ _).block ≠ _; rw [add_block]; exact Nat.ne_of_lt (Nat.lt_of_lt_of_le (by have := World.block_lt_of_cell? _ _ hw237_0; first | rwa [add_block] at this | exact this) GW238.out)) | (dsimp only; exact Nat.ne_of_lt (Nat.lt_of_lt_of_le (by have := World.block_lt_of_cell? _ _ hw237_0; first | rwa [add_block] at this | exact this) GW238.out))) _).trans (hHeld.2.2.2))))))))⟩ (fun hHeld => ?_)
                          clear hK K
                          refine done_ (done_of HT_.out (by kernel_rfl)) ?_
                          have hnb46 := NB238_231.out
                          have hnc46 := NB231_238.out
                          have hnb47 := NB238_233.out
                          have hnc47 := NB233_238.out
                          have hcz48_0 : w41.cell? ⟨gb238, 0, none⟩ = some (.int .u8 0) := (blk_cell BK238.out 0).trans rfl
                          have hcz48_1 : w41.cell? ⟨gb238, 1, none⟩ = some (.int .u8 0) := (blk_cell BK238.out 1).trans rfl
                          have hcz48_2 : w41.cell? ⟨gb238, 2, none⟩ = some (.int .u8 0) := (blk_cell BK238.out 2).trans rfl
                          have hcz48_3 : w41.cell? ⟨gb238, 3, none⟩ = some (.int .u8 0) := (blk_cell BK238.out 3).trans rfl
                          have hfz48_0 := blk_frozen BK238.out 0
                          have hfz48_1 := blk_frozen BK238.out 1
                          have hfz48_2 := blk_frozen BK238.out 2
                          have hfz48_3 := blk_frozen BK238.out 3
                          try go_wp2
                          have n0_ : Aside0 (Kd.R k43 43 (((((w41.setCell ⟨gb238, 0, none⟩ (.int .u8 (rd l4 (ji25)))).setCell ⟨gb238, 1, none⟩ (.int .u8 (rd l4 (ji28)))).setCell ⟨gb238, 2, none⟩ (.int .u8 (rd l4 (ji31)))).setCell ⟨gb238, 3, none⟩ (.int .u8 (rd l4 (ji34)))).setCell ⟨gb238, 3, none⟩ (.int .u8 255)) w.heap.size (fun k_ => k_ ≠ gb238) u234002 x234002_4) := ⟨by (with_reducible repeat (first | apply Kd.R_alloc | apply Kd.R_drewN | apply Kd.R_drew)); exact Kd.R_mono (Kd.R_far (p := ⟨gb238, 3, none⟩) (Kd.R_far (p := ⟨gb238, 3, none⟩) (Kd.R_far (p := ⟨gb238, 2, none⟩) (Kd.R_far (p := ⟨gb238, 1, none⟩) (Kd.R_far (p := ⟨gb238, 0, none⟩) (Kd.R_mono HO_234002.out (fun k_ hk => (⟨hk, hk.2⟩ : _ ∧ k_ ≠ gb238))) (fun _ hk => hk.2) (.int .u8 (rd l4 (ji25)))) (fun _ hk => hk.2) (.int .u8 (rd l4 (ji28)))) (fun _ hk => hk.2) (.int .u8 (rd l4 (ji31)))) (fun _ hk => hk.2) (.int .u8 (rd l4 (ji34)))) (fun _ hk => hk.2) (.int .u8 255)) (fun _ hk => hk.1.2)⟩
                          have n1_ : Aside0 ((((((w41.setCell ⟨gb238, 0, none⟩ (.int .u8 (rd l4 (ji25)))).setCell ⟨gb238, 1, none⟩ (.int .u8 (rd l4 (ji28)))).setCell ⟨gb238, 2, none⟩ (.int .u8 (rd l4 (ji31)))).setCell ⟨gb238, 3, none⟩ (.int .u8 (rd l4 (ji34)))).setCell ⟨gb238, 3, none⟩ (.int .u8 255)).heap[gb231]? = some (.cells #[.int .i64 0, .int .i64 0, .slice none 0 0] 27 (0, 0))) := bf_ BK231
                          have n2_ : Aside0 ((((((w41.setCell ⟨gb238, 0, none⟩ (.int .u8 (rd l4 (ji25)))).setCell ⟨gb238, 1, none⟩ (.int .u8 (rd l4 (ji28)))).setCell ⟨gb238, 2, none⟩ (.int .u8 (rd l4 (ji31)))).setCell ⟨gb238, 3, none⟩ (.int .u8 (rd l4 (ji34)))).setCell ⟨gb238, 3, none⟩ (.int .u8 255)).heap[gb233]? = some (.cells #[.int .i64 a1, .int .i64 a2, u234002] 27 (0, 0))) := bf_ BK233
                          have n3_ : Aside0 ((((((w41.setCell ⟨gb238, 0, none⟩ (.int .u8 (rd l4 (ji25)))).setCell ⟨gb238, 1, none⟩ (.int .u8 (rd l4 (ji28)))).setCell ⟨gb238, 2, none⟩ (.int .u8 (rd l4 (ji31)))).setCell ⟨gb238, 3, none⟩ (.int .u8 (rd l4 (ji34)))).setCell ⟨gb238, 3, none⟩ (.int .u8 255)).heap[gb238]? = some (.cells #[.int .u8 (rd l4 (ji25)), .int .u8 (rd l4 (ji28)), .int .u8 (rd l4 (ji31)), .int .u8 255] 43 (0, 0))) := ⟨by (with_reducible repeat (first | refine blk_drewN ?_ _ | refine blk_drew ?_ | refine blk_alloc ?_ _)); refine blk_put (cs := #[.int .u8 (rd l4 (ji25)), .int .u8 (rd l4 (ji28)), .int .u8 (rd l4 (ji31)), .int .u8 (rd l4 (ji34))]) ?_ 3 _ rfl; (with_reducible repeat (first | refine blk_drewN ?_ _ | refine blk_drew ?_ | refine blk_alloc ?_ _)); refine blk_put (cs := #[.int .u8 (rd l4 (ji25)), .int .u8 (rd l4 (ji28)), .int .u8 (rd l4 (ji31)), .int .u8 0]) ?_ 3 _ rfl; (with_reducible repeat (first | refine blk_drewN ?_ _ | refine blk_drew ?_ | refine blk_alloc ?_ _)); refine blk_put (cs := #[.int .u8 (rd l4 (ji25)), .int .u8 (rd l4 (ji28)), .int .u8 0, .int .u8 0]) ?_ 2 _ rfl; (with_reducible repeat (first | refine blk_drewN ?_ _ | refine blk_drew ?_ | refine blk_alloc ?_ _)); refine blk_put (cs := #[.int .u8 (rd l4 (ji25)), .int .u8 0, .int .u8 0, .int .u8 0]) ?_ 1 _ rfl; (with_reducible repeat (first | refine blk_drewN ?_ _ | refine blk_drew ?_ | refine blk_alloc ?_ _)); refine blk_put (cs := #[.int .u8 0, .int .u8 0, .int .u8 0, .int .u8 0]) ?_ 0 _ rfl; (with_reducible repeat (first | refine blk_drewN ?_ _ | refine blk_drew ?_ | refine blk_alloc ?_ _)); exact BK238.out⟩
                          have n4_ : Aside0 (Below w.heap.size w (((((w41.setCell ⟨gb238, 0, none⟩ (.int .u8 (rd l4 (ji25)))).setCell ⟨gb238, 1, none⟩ (.int .u8 (rd l4 (ji28)))).setCell ⟨gb238, 2, none⟩ (.int .u8 (rd l4 (ji31)))).setCell ⟨gb238, 3, none⟩ (.int .u8 (rd l4 (ji34)))).setCell ⟨gb238, 3, none⟩ (.int .u8 255))) := ⟨by repeat (first | (with_reducible first | exact HB.out | apply below_alloc | apply pw_below_drewN | apply below_drew1 | refine below_set ?_ GE231.out | refine below_set ?_ GE233.out | refine below_set ?_ GE238.out) | exact HB.out)⟩
                          (try clear HO_234002)
                          (try clear BK231)
                          (try clear BK233)
                          (try clear BK238)
                          (try clear HB)
                          generalize (((((w41.setCell ⟨gb238, 0, none⟩ (.int .u8 (rd l4 (ji25)))).setCell ⟨gb238, 1, none⟩ (.int .u8 (rd l4 (ji28)))).setCell ⟨gb238, 2, none⟩ (.int .u8 (rd l4 (ji31)))).setCell ⟨gb238, 3, none⟩ (.int .u8 (rd l4 (ji34)))).setCell ⟨gb238, 3, none⟩ (.int .u8 255)) = w49 at n0_ n1_ n2_ n3_ n4_ ⊢
                          have HO_234002 := n0_
                          have BK231 := n1_
                          have BK233 := n2_
                          have BK238 := n3_
                          have HB := n4_
                          clear n0_ n1_ n2_ n3_ n4_
                          replace HO_234002 := Aside0.mk (Kd.R_drew HO_234002.out)
                          replace BK231 := Aside0.mk (blk_drew BK231.out)
                          replace BK233 := Aside0.mk (blk_drew BK233.out)
                          replace BK238 := Aside0.mk (blk_drew BK238.out)
                          replace HB := Aside0.mk (below_drew1 HB.out)
                          refine start_ (n := 8) (S := fun w' => w'.cell? ⟨gb233, 0, none⟩ = some (.int .i64 a1) ∧ w'.cell? ⟨gb233, 1, none⟩ = some (.int .i64 a2) ∧ w'.cell? ⟨gb233, 2, none⟩ = some (u234002) ∧ w'.cell? ⟨gb238, 0, none⟩ = some (.int .u8 (rd l4 (ji25))) ∧ w'.cell? ⟨gb238, 1, none⟩ = some (.int .u8 (rd l4 (ji28))) ∧ w'.cell? ⟨gb238, 2, none⟩ = some (.int .u8 (rd l4 (ji31))) ∧ w'.cell? ⟨gb238, 3, none⟩ = some (.int .u8 255)) (ds := [7]) zq15.q23 (by kernel_rfl) rfl rfl ⟨c_ BK233 0, ⟨c_ BK233 1, ⟨c_ BK233 2, (h4_ BK238)⟩⟩⟩ (fun hHeld => ?_); refine with_tabW compositorref09_Decode.tab20 compositorref09_Decode.bits20 (fun HT_ HW_ => ?_)
                          generalize w49.drew = w50 at HO_234002 BK231 BK233 BK238 HB hHeld ⊢
                          refine pv_ 0 88 zq15.q24 HT_ ?_
                          refine take_ (i := 1) (N := some 89) (v := ?_) (a' := ?_) zq15.q25 rfl rfl (take_ofW HT_.out HW_.out (by kernel_rfl)) (fun _ _ _ h => h) (Or.inl ⟨by rfl, ?_⟩) hHeld ?_ ?_
                          rotate_left
                          ·
                           rintro w' ⟨s0, s1, s2, s3, s4, s5, s6⟩
                           go_simp
                           with_reducible rfl
                          rotate_left
                          ·
                           simp only [Act.put, List.setIfInBounds_toArray, List.set_cons_zero, List.set_cons_succ, i64_w, i32_w]
                           rfl
                          refine take_ (i := 2) (N := some 90) (v := ?_) (a' := ?_) zq15.q26 rfl rfl (take_ofW HT_.out HW_.out (by kernel_rfl)) (fun _ _ _ h => h) (Or.inl ⟨by rfl, ?_⟩) hHeld ?_ ?_
                          rotate_left
                          ·
                           rintro w' ⟨s0, s1, s2, s3, s4, s5, s6⟩
                           go_simp
                           with_reducible rfl
                          rotate_left
                          ·
                           simp only [Act.put, List.setIfInBounds_toArray, List.set_cons_zero, List.set_cons_succ, i64_w, i32_w]
                           rfl
                          refine one_ (i := 3) (N := some 91) zq15.q27 rfl rfl (one_of HT_.out (by kernel_rfl)) (by decide) (fun K hK => ?_)
                          refine goes_ Try.func42 (by kernel_rfl) rfl #[.agg #[.int .u8 (rd l4 (ji25)), .int .u8 (rd l4 (ji28)), .int .u8 (rd l4 (ji31)), .int .u8 255]] (by rfl) rfl rfl (by (try simp only [List.map_toArray, List.map_cons, List.map_nil]); first | done | (simp only [hji25, hji28, hji31]; rfl) | rfl | (simp only [List.length_drop, List.length_take]; rfl)) ?_
                          with_reducible refine (compositorref08_Clamp.calls (rd l4 (ji25)) (rd l4 (ji28)) (rd l4 (ji31)) 255 t239 t240 t241 t242 _ A38.out).mono ?_
                          rintro e w51 ⟨rfl, hb⟩
                          refine ⟨_, rfl, ?_⟩
                          replace HO_234002 := Aside0.mk (Kd.R_below (by (with_reducible repeat (first | apply Kd.R_alloc | apply Kd.R_drewN | apply Kd.R_drew)); exact HO_234002.out) hb)
                          replace BK231 := bb_ BK231 hb
                          replace BK233 := bb_ BK233 hb
                          replace BK238 := bb_ BK238 hb
                          replace HB := hb_ HB hb
                          (try clear hb); (try clear hb2); (try clear hk); (try clear hi)
                          refine hK.out _ _ ⟨c_ BK233 0, ⟨c_ BK233 1, ⟨c_ BK233 2, (h4_ BK238)⟩⟩⟩ (fun hHeld => ?_)
                          clear hK K
                          refine norm_ (a' := ?_) ?_ ?_
                          rotate_left
                          ·
                           show Act.put _ (some 91) _ = _
                           simp only [Act.put, List.setIfInBounds_toArray, List.set_cons_zero, List.set_cons_succ, i64_w, i32_w]
                           rfl
                          refine one_ (i := 4) (N := some 92) zq15.q28 rfl rfl (one_of HT_.out (by kernel_rfl)) (by decide) (fun K hK => ?_)
                          refine value_ (w1 := ?_) (v := ?_) (by rfl) rfl ?_ ?_
                          rotate_left 2
                          ·
                           go_simp
                           constructor
                           ·
                            rfl
                           ·
                            rfl
                          refine hK.out _ _ ⟨(blk_cell (blk_alloc BK233.out _) 0).trans rfl, (blk_cell (blk_alloc BK233.out _) 1).trans rfl, (blk_cell (blk_alloc BK233.out _) 2).trans rfl, (blk_cell (blk_alloc BK238.out _) 0).trans rfl, (blk_cell (blk_alloc BK238.out _) 1).trans rfl, (blk_cell (blk_alloc BK238.out _) 2).trans rfl, (blk_cell (blk_alloc BK238.out _) 3).trans rfl⟩ (fun hHeld => ?_)
                          clear hK K
                          refine norm_ (a' := ?_) ?_ ?_
                          rotate_left
                          ·
                           show Act.put _ (some 92) _ = _
                           simp only [Act.put, List.setIfInBounds_toArray, List.set_cons_zero, List.set_cons_succ, i64_w, i32_w]
                           rfl
                          refine one_ (i := 5) (N := some 93) zq15.q29 rfl rfl (one_of HT_.out (by kernel_rfl)) (by decide) (fun K hK => ?_)
                          refine Kd.R_append_step k43 (w0 := w) w.heap.size (by rfl) (.tmp 89) (.tmp 92) 25 43 (.agg #[(.int .u8 0), (.int .u8 0), (.int .u8 0), (.int .u8 0)]) 4 rfl Try.underlying25 info43 rfl (by decide) (by omega) u234002 x234002_4 (⟨t239, t240, t241, t242⟩ : S43) [.int .u8 t239, .int .u8 t240, .int .u8 t241, .int .u8 t242] (fun k_ => k_ ≠ gb238) (fun _ => False) rfl rfl ?aP (fun _ hk => hk.elim) ?aF ?aO ?aB ?aS ?aL ?_
                          (case aP => exact k43_mkM _ _ _ (⟨t239, t240, t241, t242⟩ : S43))
                          (case aB => exact (hq_ HB))
                          (case aF => exact (fun k_ hk => Kd.freshB (g := gb238) (o := .cells #[.int .u8 (rd l4 (ji25)), .int .u8 (rd l4 (ji28)), .int .u8 (rd l4 (ji31)), .int .u8 255] 43 (0, 0)) (bq_ BK238) k_ hk))
                          (case aO => exact (by (with_reducible repeat (first | apply Kd.R_alloc | apply Kd.R_drewN | apply Kd.R_drew)); exact HO_234002.out))
                          (case aS => exact (below_size (hq_ HB)))
                          (case aL => have := LMc39.out; omega)
                          intro v244 w52 ho hb hg hat
                          rw [← Ny243.out] at ho
                          replace BK231 := Aside0.mk (blk_grown (g := gb231) (o := .cells #[.int .i64 0, .int .i64 0, .slice none 0 0] 27 (0, 0)) (bq_ BK231) hg (Kd.R_ne HO_234002.out BK231.out (by decide)))
                          replace BK233 := Aside0.mk (blk_grown (g := gb233) (o := .cells #[.int .i64 a1, .int .i64 a2, u234002] 27 (0, 0)) (bq_ BK233) hg (Kd.R_ne HO_234002.out BK233.out (by decide)))
                          replace BK238 := Aside0.mk (blk_grown (g := gb238) (o := .cells #[.int .u8 (rd l4 (ji25)), .int .u8 (rd l4 (ji28)), .int .u8 (rd l4 (ji31)), .int .u8 255] 43 (0, 0)) (bq_ BK238) hg (Kd.R_away HO_234002.out (fun _ hk => hk)))
                          replace HB := Aside0.mk (hb)
                          have HO245 := Aside0.mk (ho)
                          clear HO_234002
                          clear ho hb hg hat
                          obtain ⟨Ao53, co53, eo53⟩ := Kd.R_slice HO245.out
                          (first | subst eo53 | (injection eo53 with f1_ f2_ f3_; have f4_ := f1_.symm; have f5_ := f3_.symm; clear f1_ f2_ f3_; subst f4_; subst f5_))
                          refine hK.out _ _ ⟨c_ BK233 0, ⟨c_ BK233 1, ⟨c_ BK233 2, (h4_ BK238)⟩⟩⟩ (fun hHeld => ?_)
                          clear hK K
                          refine norm_ (a' := ?_) ?_ ?_
                          rotate_left
                          ·
                           show Act.put _ (some 93) _ = _
                           simp only [Act.put, List.setIfInBounds_toArray, List.set_cons_zero, List.set_cons_succ, i64_w, i32_w]
                           rfl
                          refine pv_ 6 94 zq15.q30 HT_ ?_
                          refine last_ (i := 7) (N := none) zq15.q31 rfl rfl (one_of HT_.out (by kernel_rfl)) (by decide) (fun K hK => ?_)
                          have hs54 : w52.cell? ⟨gb233, 2, none⟩ = some (u234002) := (blk_cell BK233.out 2).trans rfl
                          have hfs54 := blk_frozen BK233.out 2
                          have hns54_0 := NB231_233.out
                          have hns54_2 := NB238_233.out
                          have hms54_0 := NB233_231.out
                          have hms54_2 := NB233_238.out
                          refine skip_ (w1 := ?_) (by rfl) rfl ?_ ?_
                          rotate_left
                          ·
                           go_simp
                           rfl
                          refine hK.out _ _ ?_
                          clear hK K
                          refine done_ (done_of HT_.out (by kernel_rfl)) ?_
                          try go_wp2
                          go_roundg k4
                          case measure => have := HJ5.out; have := HJ12.out; have := HK3.out; have := HK4.out; omega
                          case rel => exact ⟨(wrap64 (x14_4 + 1)), (y243), (.slice Ao53 y243.length co53), (by first | rfl | (simp; done) | (simp [*]; done)), H', ⟨by have := HJ5.out; have := HJ12.out; have := HK3.out; have := HK4.out; omega⟩, ⟨by (with_reducible repeat (first | apply Kd.R_alloc | apply Kd.R_drewN | apply Kd.R_drew)); exact Kd.R_mono (Kd.R_far (p := ⟨gb233, 2, none⟩) (Kd.R_types HO245.out BK233.out (by decide)) (fun _ hk => hk.2) (.slice Ao53 y243.length co53)) (fun _ hk => trivial)⟩, bf_ BK231, ⟨by (with_reducible repeat (first | refine blk_drewN ?_ _ | refine blk_drew ?_ | refine blk_alloc ?_ _)); refine blk_put (cs := #[.int .i64 a1, .int .i64 a2, u234002]) ?_ 2 _ rfl; (with_reducible repeat (first | refine blk_drewN ?_ _ | refine blk_drew ?_ | refine blk_alloc ?_ _)); exact BK233.out⟩, ⟨by repeat (first | (with_reducible first | exact HB.out | apply below_alloc | apply pw_below_drewN | apply below_drew1 | refine below_set ?_ GE231.out | refine below_set ?_ GE233.out | refine below_set ?_ GE238.out) | exact HB.out)⟩⟩
                         ·
                          rw [if_neg c39] at H
                          exact absurd H (by simp)
                        ·
                         rw [if_neg c37] at H
                         have c37b0 : (a0 == 2) = false := beq_eq_false_iff_ne.mpr c37
                         have c37b1 : (a0 != 2) = true := bne_iff_ne.mpr c37
                         replace H := Option.bind_eq_some_iff.mp H
                         obtain ⟨⟨t246, t247, t248, t249⟩, A550, H⟩ := H
                         try dsimp only at H
                         have A55 := Aside0.mk A550
                         clear A550
                         by_cases c56 : x234002_4.length < 35184372088832
                         ·
                          rw [if_pos c56] at H
                          have LMc56 := Aside0.mk c56
                          clear c56
                          obtain ⟨y250, hy250⟩ : ∃ y_ : List (S43), y_ = (x234002_4 ++ [(⟨t246, t247, t248, t249⟩ : S43)]) := ⟨_, rfl⟩
                          replace H : (compositorref09_Decode.l1 k4 a0 a1 a2 a3 l4 x13_3 (wrap64 (x14_4 + 1)) a1 a2 y250) = some (r1, r2, r3, r4) := by first | (rw [hy250]; with_reducible exact H) | (have H2_ := (Option.bind_some _ _).symm.trans H; rw [hy250]; with_reducible exact H2_) | (have H2_ := (Option.bind_some _ _).symm.trans H; with_reducible exact H2_) | with_reducible exact H | (rw [hy250]; exact H) | exact H
                          have Ny250 := Aside0.mk hy250
                          clear hy250
                          have H' := Aside0.mk H
                          clear H
                          try go_wp2
                          replace HO_234002 := Aside0.mk (Kd.R_drew HO_234002.out)
                          replace BK231 := Aside0.mk (blk_drew BK231.out)
                          replace BK233 := Aside0.mk (blk_drew BK233.out)
                          replace HB := Aside0.mk (below_drew1 HB.out)
                          have p234 : 0 ≤ ((ji25) : Int) := of_decide_eq_true (by first | (with_reducible assumption) | assumption)
                          have q234 : (ji25) < (l4.length : Int) := of_decide_eq_true (by first | (with_reducible assumption) | assumption)
                          obtain ⟨ad234, e234, hx234_0⟩ := Kd.at_int HR4.out (ji25) p234 q234
                          have hw234_0 := hx234_0
                          cases e234
                          replace hx234_0 := (HB.out.cell (World.block_lt_of_cell? w _ hx234_0)).trans hx234_0
                          replace p234 := eq_true p234
                          replace q234 := eq_true q234
                          have p235 : 0 ≤ ((ji28) : Int) := of_decide_eq_true (by first | (with_reducible assumption) | assumption)
                          have q235 : (ji28) < (l4.length : Int) := of_decide_eq_true (by first | (with_reducible assumption) | assumption)
                          obtain ⟨ad235, e235, hx235_0⟩ := Kd.at_int HR4.out (ji28) p235 q235
                          have hw235_0 := hx235_0
                          obtain rfl : ad234 = ad235 := (by injection e235)
                          replace hx235_0 := (HB.out.cell (World.block_lt_of_cell? w _ hx235_0)).trans hx235_0
                          replace p235 := eq_true p235
                          replace q235 := eq_true q235
                          have p236 : 0 ≤ ((ji31) : Int) := of_decide_eq_true (by first | (with_reducible assumption) | assumption)
                          have q236 : (ji31) < (l4.length : Int) := of_decide_eq_true (by first | (with_reducible assumption) | assumption)
                          obtain ⟨ad236, e236, hx236_0⟩ := Kd.at_int HR4.out (ji31) p236 q236
                          have hw236_0 := hx236_0
                          obtain rfl : ad234 = ad236 := (by injection e236)
                          replace hx236_0 := (HB.out.cell (World.block_lt_of_cell? w _ hx236_0)).trans hx236_0
                          replace p236 := eq_true p236
                          replace q236 := eq_true q236
                          have p237 : 0 ≤ ((ji34) : Int) := of_decide_eq_true (by first | (with_reducible assumption) | assumption)
                          have q237 : (ji34) < (l4.length : Int) := of_decide_eq_true (by first | (with_reducible assumption) | assumption)
                          obtain ⟨ad237, e237, hx237_0⟩ := Kd.at_int HR4.out (ji34) p237 q237
                          have hw237_0 := hx237_0
                          obtain rfl : ad234 = ad237 := (by injection e237)
                          replace hx237_0 := (HB.out.cell (World.block_lt_of_cell? w _ hx237_0)).trans hx237_0
                          replace p237 := eq_true p237
                          replace q237 := eq_true q237
                          refine start_ (n := 22) (S := fun w' => w'.cell? (ad234.add ((ji25)).toNat) = some (.int .u8 (rd l4 (ji25))) ∧ w'.cell? (ad234.add ((ji28)).toNat) = some (.int .u8 (rd l4 (ji28))) ∧ w'.cell? (ad234.add ((ji31)).toNat) = some (.int .u8 (rd l4 (ji31))) ∧ w'.cell? (ad234.add ((ji34)).toNat) = some (.int .u8 (rd l4 (ji34)))) (ds := []) zq15.q0 (by kernel_rfl) rfl rfl ⟨((HB.out.cell (World.block_lt_of_cell? w _ hw234_0)).trans hw234_0), ((HB.out.cell (World.block_lt_of_cell? w _ hw235_0)).trans hw235_0), ((HB.out.cell (World.block_lt_of_cell? w _ hw236_0)).trans hw236_0), ((HB.out.cell (World.block_lt_of_cell? w _ hw237_0)).trans hw237_0)⟩ (fun hHeld => ?_); refine with_tabW compositorref09_Decode.tab17 compositorref09_Decode.bits17 (fun HT_ HW_ => ?_)
                          generalize wr.drew = w57 at HO_234002 BK231 BK233 HB hx234_0 hx235_0 hx236_0 hx237_0 hHeld ⊢
                          refine pv_ 0 65 zq15.q1 HT_ ?_
                          refine pv_ 1 66 zq15.q2 HT_ ?_
                          refine pv_ 2 67 zq15.q3 HT_ ?_
                          refine pv_ 3 68 zq15.q4 HT_ ?_
                          refine pv_ 5 70 zq15.q5 HT_ ?_
                          refine pv_ 6 71 zq15.q6 HT_ ?_
                          refine pv_ 7 72 zq15.q7 HT_ ?_
                          refine pv_ 8 73 zq15.q8 HT_ ?_
                          refine pv_ 10 75 zq15.q9 HT_ ?_
                          refine pv_ 11 76 zq15.q10 HT_ ?_
                          refine pv_ 12 77 zq15.q11 HT_ ?_
                          refine pv_ 14 79 zq15.q12 HT_ ?_
                          refine pv_ 15 80 zq15.q13 HT_ ?_
                          refine pv_ 16 81 zq15.q14 HT_ ?_
                          refine pv_ 17 82 zq15.q15 HT_ ?_
                          refine tk4_ 4 69 zq15.q16 HT_ HW_ hHeld ?_
                          refine tk4_ 9 74 zq15.q17 HT_ HW_ hHeld ?_
                          refine tk4_ 13 78 zq15.q18 HT_ HW_ hHeld ?_
                          refine tk4_ 18 83 zq15.q19 HT_ HW_ hHeld ?_
                          refine pv_ 19 84 zq15.q20 HT_ ?_
                          refine one_ (i := 20) (N := some 16) zq15.q21 rfl rfl (one_of HT_.out (by kernel_rfl)) (by decide) (fun K hK => ?_)
                          refine box_step ?hg (N := 16) ?hd (cs := #[.int .u8 0, .int .u8 0, .int .u8 0, .int .u8 0]) (t := 43) ?hr ?_; (case hd => rfl); (case hg => rfl); (case hr => first | (go_simp; done) | (go_simp; rfl))
                          intro gb238 hg w58 hbox hb
                          replace HO_234002 := Aside0.mk (Kd.R_below (Kd.R_elderB (by (with_reducible repeat (first | apply Kd.R_alloc | apply Kd.R_drewN | apply Kd.R_drew)); exact HO_234002.out) gb238 (Nat.le_of_eq hg.symm)) hb)
                          have BK238 := Aside0.mk (hbox)
                          have GW238 := Aside0.mk ((by rw [hg]; exact (below_size (hq_ HB)) : w.heap.size ≤ gb238))
                          have GE238 := Aside0.mk ((by rw [hg]; exact (below_size (hq_ HB)) : w.heap.size ≤ gb238))
                          replace HB := hb_ HB hb
                          have NB231_238 := Aside0.mk ((by rw [hg]; exact Nat.ne_of_lt (blk_lt (g := gb231) (o := .cells #[.int .i64 0, .int .i64 0, .slice none 0 0] 27 (0, 0)) (bq_ BK231)) : gb231 ≠ gb238))
                          have NB238_231 := Aside0.mk ((by rw [hg]; exact Nat.ne_of_gt (blk_lt (g := gb231) (o := .cells #[.int .i64 0, .int .i64 0, .slice none 0 0] 27 (0, 0)) (bq_ BK231)) : gb238 ≠ gb231))
                          replace BK231 := bb_ BK231 hb
                          have NB233_238 := Aside0.mk ((by rw [hg]; exact Nat.ne_of_lt (blk_lt (g := gb233) (o := .cells #[.int .i64 a1, .int .i64 a2, u234002] 27 (0, 0)) (bq_ BK233)) : gb233 ≠ gb238))
                          have NB238_233 := Aside0.mk ((by rw [hg]; exact Nat.ne_of_gt (blk_lt (g := gb233) (o := .cells #[.int .i64 a1, .int .i64 a2, u234002] 27 (0, 0)) (bq_ BK233)) : gb238 ≠ gb233))
                          replace BK233 := bb_ BK233 hb
                          clear hb hbox hg
                          refine hK.out _ _ ⟨((HB.out.cell (World.block_lt_of_cell? w _ hw234_0)).trans hw234_0), ((HB.out.cell (World.block_lt_of_cell? w _ hw235_0)).trans hw235_0), ((HB.out.cell (World.block_lt_of_cell? w _ hw236_0)).trans hw236_0), ((HB.out.cell (World.block_lt_of_cell? w _ hw237_0)).trans hw237_0)⟩ (fun hHeld => ?_)
                          clear hK K
                          refine norm_ (a' := ?_) ?_ ?_
                          rotate_left
                          ·
                           show Act.put _ (some 16) _ = _
                           simp only [Act.put, List.setIfInBounds_toArray, List.set_cons_zero, List.set_cons_succ, i64_w, i32_w]
                           rfl
                          refine one_ (i := 21) (N := none) zq15.q22 rfl rfl (one_of HT_.out (by kernel_rfl)) (by decide) (fun K hK => ?_)
                          have hs59 : w58.cell? ⟨gb238, 0, none⟩ = some (.int .u8 0) := (blk_cell BK238.out 0).trans rfl
                          have hfs59 := blk_frozen BK238.out 0
                          have hns59_0 := NB231_238.out
                          have hns59_1 := NB233_238.out
                          have hms59_0 := NB238_231.out
                          have hms59_1 := NB238_233.out
                          have hs60 : w58.cell? ⟨gb238, 1, none⟩ = some (.int .u8 0) := (blk_cell BK238.out 1).trans rfl
                          have hfs60 := blk_frozen BK238.out 1
                          have hns60_0 := NB231_238.out
                          have hns60_1 := NB233_238.out
                          have hms60_0 := NB238_231.out
                          have hms60_1 := NB238_233.out
                          have hs61 : w58.cell? ⟨gb238, 2, none⟩ = some (.int .u8 0) := (blk_cell BK238.out 2).trans rfl
                          have hfs61 := blk_frozen BK238.out 2
                          have hns61_0 := NB231_238.out
                          have hns61_1 := NB233_238.out
                          have hms61_0 := NB238_231.out
                          have hms61_1 := NB238_233.out
                          have hs62 : w58.cell? ⟨gb238, 3, none⟩ = some (.int .u8 0) := (blk_cell BK238.out 3).trans rfl
                          have hfs62 := blk_frozen BK238.out 3
                          have hns62_0 := NB231_238.out
                          have hns62_1 := NB233_238.out
                          have hms62_0 := NB238_231.out
                          have hms62_1 := NB238_233.out
                          refine skip_ (w1 := ?_) (by rfl) rfl ?_ ?_
                          rotate_left
                          ·
                           go_simp
                           rfl
                          refine hK.out _ _ ⟨((cell_far (p := ⟨gb238, _, none⟩) (by first | exact Nat.ne_of_lt (Nat.lt_of_lt_of_le (by have := World.block_lt_of_cell? _ _ hw234_0; first | rwa [add_block] at this | exact this) GW238.out) | (rw [add_block]; exact Nat.ne_of_lt (Nat.lt_of_lt_of_le (by have := World.block_lt_of_cell? _ _ hw234_0; first | rwa [add_block] at this | exact this) GW238.out)) | (show (Addr.add _ _).block ≠ _; rw [add_block]; exact Nat.ne_of_lt (Nat.lt_of_lt_of_le (by have := World.block_lt_of_cell? _ _ hw234_0; first | rwa [add_block] at this | exact this) GW238.out)) | (dsimp only; exact Nat.ne_of_lt (Nat.lt_of_lt_of_le (by have := World.block_lt_of_cell? _ _ hw234_0; first | rwa [add_block] at this | exact this) GW238.out))) _).trans (((cell_far (p := ⟨gb238, _, none⟩) (by first | exact Nat.ne_of_lt (Nat.lt_of_lt_of_le (by have := World.block_lt_of_cell? _ _ hw234_0; first | rwa [add_block] at this | exact this) GW238.out) | (rw [add_block]; exact Nat.ne_of_lt (Nat.lt_of_lt_of_le (by have := World.block_lt_of_cell? _ _ hw234_0; first | rwa [add_block] at this | exact this) GW238.out)) | (show (Addr.add _ _).block ≠ _; rw [add_block]; exact Nat.ne_of_lt (Nat.lt_of_lt_of_le (by have := World.block_lt_of_cell? _ _ hw234_0; first | rwa [add_block] at this | exact this) GW238.out)) | (dsimp only; exact Nat.ne_of_lt (Nat.lt_of_lt_of_le (by have := World.block_lt_of_cell? _ _ hw234_0; first | rwa [add_block] at this | exact this) GW238.out))) _).trans (((cell_far (p := ⟨gb238, _, none⟩) (by first | exact Nat.ne_of_lt (Nat.lt_of_lt_of_le (by have := World.block_lt_of_cell? _ _ hw234_0; first | rwa [add_block] at this | exact this) GW238.out) | (rw [add_block]; exact Nat.ne_of_lt (Nat.lt_of_lt_of_le (by have := World.block_lt_of_cell? _ _ hw234_0; first | rwa [add_block] at this | exact this) GW238.out)) | (show (Addr.add _ _).block ≠ _; rw [add_block]; exact Nat.ne_of_lt (Nat.lt_of_lt_of_le (by have := World.block_lt_of_cell? _ _ hw234_0; first | rwa [add_block] at this | exact this) GW238.out)) | (dsimp only; exact Nat.ne_of_lt (Nat.lt_of_lt_of_le (by have := World.block_lt_of_cell? _ _ hw234_0; first | rwa [add_block] at this | exact this) GW238.out))) _).trans (((cell_far (p := ⟨gb238, _, none⟩) (by first | exact Nat.ne_of_lt (Nat.lt_of_lt_of_le (by have := World.block_lt_of_cell? _ _ hw234_0; first | rwa [add_block] at this | exact this) GW238.out) | (rw [add_block]; exact Nat.ne_of_lt (Nat.lt_of_lt_of_le (by have := World.block_lt_of_cell? _ _ hw234_0; first | rwa [add_block] at this | exact this) GW238.out)) | (show (Addr.add _ _).block ≠ _; rw [add_block]; exact Nat.ne_of_lt (Nat.lt_of_lt_of_le (by have := World.block_lt_of_cell? _ _ hw234_0; first | rwa [add_block] at this | exact this) GW238.out)) | (dsimp only; exact Nat.ne_of_lt (Nat.lt_of_lt_of_le (by have := World.block_lt_of_cell? _ _ hw234_0; first | rwa [add_block] at this | exact this) GW238.out))) _).trans (hHeld.1)))))))), ((cell_far (p := ⟨gb238, _, none⟩) (by first | exact Nat.ne_of_lt (Nat.lt_of_lt_of_le (by have := World.block_lt_of_cell? _ _ hw235_0; first | rwa [add_block] at this | exact this) GW238.out) | (rw [add_block]; exact Nat.ne_of_lt (Nat.lt_of_lt_of_le (by have := World.block_lt_of_cell? _ _ hw235_0; first | rwa [add_block] at this | exact this) GW238.out)) | (show (Addr.add _ _).block ≠ _; rw [add_block]; exact Nat.ne_of_lt (Nat.lt_of_lt_of_le (by have := World.block_lt_of_cell? _ _ hw235_0; first | rwa [add_block] at this | exact this) GW238.out)) | (dsimp only; exact Nat.ne_of_lt (Nat.lt_of_lt_of_le (by have := World.block_lt_of_cell? _ _ hw235_0; first | rwa [add_block] at this | exact this) GW238.out))) _).trans (((cell_far (p := ⟨gb238, _, none⟩) (by first | exact Nat.ne_of_lt (Nat.lt_of_lt_of_le (by have := World.block_lt_of_cell? _ _ hw235_0; first | rwa [add_block] at this | exact this) GW238.out) | (rw [add_block]; exact Nat.ne_of_lt (Nat.lt_of_lt_of_le (by have := World.block_lt_of_cell? _ _ hw235_0; first | rwa [add_block] at this | exact this) GW238.out)) | (show (Addr.add _ _).block ≠ _; rw [add_block]; exact Nat.ne_of_lt (Nat.lt_of_lt_of_le (by have := World.block_lt_of_cell? _ _ hw235_0; first | rwa [add_block] at this | exact this) GW238.out)) | (dsimp only; exact Nat.ne_of_lt (Nat.lt_of_lt_of_le (by have := World.block_lt_of_cell? _ _ hw235_0; first | rwa [add_block] at this | exact this) GW238.out))) _).trans (((cell_far (p := ⟨gb238, _, none⟩) (by first | exact Nat.ne_of_lt (Nat.lt_of_lt_of_le (by have := World.block_lt_of_cell? _ _ hw235_0; first | rwa [add_block] at this | exact this) GW238.out) | (rw [add_block]; exact Nat.ne_of_lt (Nat.lt_of_lt_of_le (by have := World.block_lt_of_cell? _ _ hw235_0; first | rwa [add_block] at this | exact this) GW238.out)) | (show (Addr.add _ _).block ≠ _; rw [add_block]; exact Nat.ne_of_lt (Nat.lt_of_lt_of_le (by have := World.block_lt_of_cell? _ _ hw235_0; first | rwa [add_block] at this | exact this) GW238.out)) | (dsimp only; exact Nat.ne_of_lt (Nat.lt_of_lt_of_le (by have := World.block_lt_of_cell? _ _ hw235_0; first | rwa [add_block] at this | exact this) GW238.out))) _).trans (((cell_far (p := ⟨gb238, _, none⟩) (by first | exact Nat.ne_of_lt (Nat.lt_of_lt_of_le (by have := World.block_lt_of_cell? _ _ hw235_0; first | rwa [add_block] at this | exact this) GW238.out) | (rw [add_block]; exact Nat.ne_of_lt (Nat.lt_of_lt_of_le (by have := World.block_lt_of_cell? _ _ hw235_0; first | rwa [add_block] at this | exact this) GW238.out)) | (show (Addr.add _ _).block ≠ _; rw [add_block]; exact Nat.ne_of_lt (Nat.lt_of_lt_of_le (by have := World.block_lt_of_cell? _ _ hw235_0; first | rwa [add_block] at this | exact this) GW238.out)) | (dsimp only; exact Nat.ne_of_lt (Nat.lt_of_lt_of_le (by have := World.block_lt_of_cell? _ _ hw235_0; first | rwa [add_block] at this | exact this) GW238.out))) _).trans (hHeld.2.1)))))))), ((cell_far (p := ⟨gb238, _, none⟩) (by first | exact Nat.ne_of_lt (Nat.lt_of_lt_of_le (by have := World.block_lt_of_cell? _ _ hw236_0; first | rwa [add_block] at this | exact this) GW238.out) | (rw [add_block]; exact Nat.ne_of_lt (Nat.lt_of_lt_of_le (by have := World.block_lt_of_cell? _ _ hw236_0; first | rwa [add_block] at this | exact this) GW238.out)) | (show (Addr.add _ _).block ≠ _; rw [add_block]; exact Nat.ne_of_lt (Nat.lt_of_lt_of_le (by have := World.block_lt_of_cell? _ _ hw236_0; first | rwa [add_block] at this | exact this) GW238.out)) | (dsimp only; exact Nat.ne_of_lt (Nat.lt_of_lt_of_le (by have := World.block_lt_of_cell? _ _ hw236_0; first | rwa [add_block] at this | exact this) GW238.out))) _).trans (((cell_far (p := ⟨gb238, _, none⟩) (by first | exact Nat.ne_of_lt (Nat.lt_of_lt_of_le (by have := World.block_lt_of_cell? _ _ hw236_0; first | rwa [add_block] at this | exact this) GW238.out) | (rw [add_block]; exact Nat.ne_of_lt (Nat.lt_of_lt_of_le (by have := World.block_lt_of_cell? _ _ hw236_0; first | rwa [add_block] at this | exact this) GW238.out)) | (show (Addr.add _ _).block ≠ _; rw [add_block]; exact Nat.ne_of_lt (Nat.lt_of_lt_of_le (by have := World.block_lt_of_cell? _ _ hw236_0; first | rwa [add_block] at this | exact this) GW238.out)) | (dsimp only; exact Nat.ne_of_lt (Nat.lt_of_lt_of_le (by have := World.block_lt_of_cell? _ _ hw236_0; first | rwa [add_block] at this | exact this) GW238.out))) _).trans (((cell_far (p := ⟨gb238, _, none⟩) (by first | exact Nat.ne_of_lt (Nat.lt_of_lt_of_le (by have := World.block_lt_of_cell? _ _ hw236_0; first | rwa [add_block] at this | exact this) GW238.out) | (rw [add_block]; exact Nat.ne_of_lt (Nat.lt_of_lt_of_le (by have := World.block_lt_of_cell? _ _ hw236_0; first | rwa [add_block] at this | exact this) GW238.out)) | (show (Addr.add _ _).block ≠ _; rw [add_block]; exact Nat.ne_of_lt (Nat.lt_of_lt_of_le (by have := World.block_lt_of_cell? _ _ hw236_0; first | rwa [add_block] at this | exact this) GW238.out)) | (dsimp only; exact Nat.ne_of_lt (Nat.lt_of_lt_of_le (by have := World.block_lt_of_cell? _ _ hw236_0; first | rwa [add_block] at this | exact this) GW238.out))) _).trans (((cell_far (p := ⟨gb238, _, none⟩) (by first | exact Nat.ne_of_lt (Nat.lt_of_lt_of_le (by have := World.block_lt_of_cell? _ _ hw236_0; first | rwa [add_block] at this | exact this) GW238.out) | (rw [add_block]; exact Nat.ne_of_lt (Nat.lt_of_lt_of_le (by have := World.block_lt_of_cell? _ _ hw236_0; first | rwa [add_block] at this | exact this) GW238.out)) | (show (Addr.add _ _).block ≠ _; rw [add_block]; exact Nat.ne_of_lt (Nat.lt_of_lt_of_le (by have := World.block_lt_of_cell? _ _ hw236_0; first | rwa [add_block] at this | exact this) GW238.out)) | (dsimp only; exact Nat.ne_of_lt (Nat.lt_of_lt_of_le (by have := World.block_lt_of_cell? _ _ hw236_0; first | rwa [add_block] at this | exact this) GW238.out))) _).trans (hHeld.2.2.1)))))))), ((cell_far (p := ⟨gb238, _, none⟩) (by first | exact Nat.ne_of_lt (Nat.lt_of_lt_of_le (by have := World.block_lt_of_cell? _ _ hw237_0; first | rwa [add_block] at this | exact this) GW238.out) | (rw [add_block]; exact Nat.ne_of_lt (Nat.lt_of_lt_of_le (by have := World.block_lt_of_cell? _ _ hw237_0; first | rwa [add_block] at this | exact this) GW238.out)) | (show (Addr.add _ _).block ≠ _; rw [add_block]; exact Nat.ne_of_lt (Nat.lt_of_lt_of_le (by have := World.block_lt_of_cell? _ _ hw237_0; first | rwa [add_block] at this | exact this) GW238.out)) | (dsimp only; exact Nat.ne_of_lt (Nat.lt_of_lt_of_le (by have := World.block_lt_of_cell? _ _ hw237_0; first | rwa [add_block] at this | exact this) GW238.out))) _).trans (((cell_far (p := ⟨gb238, _, none⟩) (by first | exact Nat.ne_of_lt (Nat.lt_of_lt_of_le (by have := World.block_lt_of_cell? _ _ hw237_0; first | rwa [add_block] at this | exact this) GW238.out) | (rw [add_block]; exact Nat.ne_of_lt (Nat.lt_of_lt_of_le (by have := World.block_lt_of_cell? _ _ hw237_0; first | rwa [add_block] at this | exact this) GW238.out)) | (show (Addr.add _ _).block ≠ _; rw [add_block]; exact Nat.ne_of_lt (Nat.lt_of_lt_of_le (by have := World.block_lt_of_cell? _ _ hw237_0; first | rwa [add_block] at this | exact this) GW238.out)) | (dsimp only; exact Nat.ne_of_lt (Nat.lt_of_lt_of_le (by have := World.block_lt_of_cell? _ _ hw237_0; first | rwa [add_block] at this | exact this) GW238.out))) _).trans (((cell_far (p := ⟨gb238, _, none⟩) (by first | exact Nat.ne_of_lt (Nat.lt_of_lt_of_le (by have := World.block_lt_of_cell? _ _ hw237_0; first | rwa [add_block] at this | exact this) GW238.out) | (rw [add_block]; exact Nat.ne_of_lt (Nat.lt_of_lt_of_le (by have := World.block_lt_of_cell? _ _ hw237_0; first | rwa [add_block] at this | exact this) GW238.out)) | (show (Addr.add _ _).block ≠ _; rw [add_block]; exact Nat.ne_of_lt (Nat.lt_of_lt_of_le (by have := World.block_lt_of_cell? _ _ hw237_0; first | rwa [add_block] at this | exact this) GW238.out)) | (dsimp only; exact Nat.ne_of_lt (Nat.lt_of_lt_of_le (by have := World.block_lt_of_cell? _ _ hw237_0; first | rwa [add_block] at this | exact this) GW238.out))) _).trans (((cell_far (p := ⟨gb238, _, none⟩) (by first | exact Nat.ne_of_lt (Nat.lt_of_lt_of_le (by have := World.block_lt_of_cell? _ _ hw237_0; first | rwa [add_block] at this | exact this) GW238.out) | (rw [add_block]; exact Nat.ne_of_lt (Nat.lt_of_lt_of_le (by have := World.block_lt_of_cell? _ _ hw237_0; first | rwa [add_block] at this | exact this) GW238.out)) | (show (Addr.add _ _).block ≠ _; rw [add_block]; exact Nat.ne_of_lt (Nat.lt_of_lt_of_le (by have := World.block_lt_of_cell? _ _ hw237_0; first | rwa [add_block] at this | exact this) GW238.out)) | (dsimp only; exact Nat.ne_of_lt (Nat.lt_of_lt_of_le (by have := World.block_lt_of_cell? _ _ hw237_0; first | rwa [add_block] at this | exact this) GW238.out))) _).trans (hHeld.2.2.2))))))))⟩ (fun hHeld => ?_)
                          clear hK K
                          refine done_ (done_of HT_.out (by kernel_rfl)) ?_
                          try go_wp2
                          have n0_ : Aside0 (Kd.R k43 43 ((((w58.setCell ⟨gb238, 0, none⟩ (.int .u8 (rd l4 (ji25)))).setCell ⟨gb238, 1, none⟩ (.int .u8 (rd l4 (ji28)))).setCell ⟨gb238, 2, none⟩ (.int .u8 (rd l4 (ji31)))).setCell ⟨gb238, 3, none⟩ (.int .u8 (rd l4 (ji34)))) w.heap.size (fun k_ => k_ ≠ gb238) u234002 x234002_4) := ⟨by (with_reducible repeat (first | apply Kd.R_alloc | apply Kd.R_drewN | apply Kd.R_drew)); exact Kd.R_mono (Kd.R_far (p := ⟨gb238, 3, none⟩) (Kd.R_far (p := ⟨gb238, 2, none⟩) (Kd.R_far (p := ⟨gb238, 1, none⟩) (Kd.R_far (p := ⟨gb238, 0, none⟩) (Kd.R_mono HO_234002.out (fun k_ hk => (⟨hk, hk.2⟩ : _ ∧ k_ ≠ gb238))) (fun _ hk => hk.2) (.int .u8 (rd l4 (ji25)))) (fun _ hk => hk.2) (.int .u8 (rd l4 (ji28)))) (fun _ hk => hk.2) (.int .u8 (rd l4 (ji31)))) (fun _ hk => hk.2) (.int .u8 (rd l4 (ji34)))) (fun _ hk => hk.1.2)⟩
                          have n1_ : Aside0 (((((w58.setCell ⟨gb238, 0, none⟩ (.int .u8 (rd l4 (ji25)))).setCell ⟨gb238, 1, none⟩ (.int .u8 (rd l4 (ji28)))).setCell ⟨gb238, 2, none⟩ (.int .u8 (rd l4 (ji31)))).setCell ⟨gb238, 3, none⟩ (.int .u8 (rd l4 (ji34)))).heap[gb231]? = some (.cells #[.int .i64 0, .int .i64 0, .slice none 0 0] 27 (0, 0))) := bf_ BK231
                          have n2_ : Aside0 (((((w58.setCell ⟨gb238, 0, none⟩ (.int .u8 (rd l4 (ji25)))).setCell ⟨gb238, 1, none⟩ (.int .u8 (rd l4 (ji28)))).setCell ⟨gb238, 2, none⟩ (.int .u8 (rd l4 (ji31)))).setCell ⟨gb238, 3, none⟩ (.int .u8 (rd l4 (ji34)))).heap[gb233]? = some (.cells #[.int .i64 a1, .int .i64 a2, u234002] 27 (0, 0))) := bf_ BK233
                          have n3_ : Aside0 (((((w58.setCell ⟨gb238, 0, none⟩ (.int .u8 (rd l4 (ji25)))).setCell ⟨gb238, 1, none⟩ (.int .u8 (rd l4 (ji28)))).setCell ⟨gb238, 2, none⟩ (.int .u8 (rd l4 (ji31)))).setCell ⟨gb238, 3, none⟩ (.int .u8 (rd l4 (ji34)))).heap[gb238]? = some (.cells #[.int .u8 (rd l4 (ji25)), .int .u8 (rd l4 (ji28)), .int .u8 (rd l4 (ji31)), .int .u8 (rd l4 (ji34))] 43 (0, 0))) := ⟨by (with_reducible repeat (first | refine blk_drewN ?_ _ | refine blk_drew ?_ | refine blk_alloc ?_ _)); refine blk_put (cs := #[.int .u8 (rd l4 (ji25)), .int .u8 (rd l4 (ji28)), .int .u8 (rd l4 (ji31)), .int .u8 0]) ?_ 3 _ rfl; (with_reducible repeat (first | refine blk_drewN ?_ _ | refine blk_drew ?_ | refine blk_alloc ?_ _)); refine blk_put (cs := #[.int .u8 (rd l4 (ji25)), .int .u8 (rd l4 (ji28)), .int .u8 0, .int .u8 0]) ?_ 2 _ rfl; (with_reducible repeat (first | refine blk_drewN ?_ _ | refine blk_drew ?_ | refine blk_alloc ?_ _)); refine blk_put (cs := #[.int .u8 (rd l4 (ji25)), .int .u8 0, .int .u8 0, .int .u8 0]) ?_ 1 _ rfl; (with_reducible repeat (first | refine blk_drewN ?_ _ | refine blk_drew ?_ | refine blk_alloc ?_ _)); refine blk_put (cs := #[.int .u8 0, .int .u8 0, .int .u8 0, .int .u8 0]) ?_ 0 _ rfl; (with_reducible repeat (first | refine blk_drewN ?_ _ | refine blk_drew ?_ | refine blk_alloc ?_ _)); exact BK238.out⟩
                          have n4_ : Aside0 (Below w.heap.size w ((((w58.setCell ⟨gb238, 0, none⟩ (.int .u8 (rd l4 (ji25)))).setCell ⟨gb238, 1, none⟩ (.int .u8 (rd l4 (ji28)))).setCell ⟨gb238, 2, none⟩ (.int .u8 (rd l4 (ji31)))).setCell ⟨gb238, 3, none⟩ (.int .u8 (rd l4 (ji34))))) := ⟨by repeat (first | (with_reducible first | exact HB.out | apply below_alloc | apply pw_below_drewN | apply below_drew1 | refine below_set ?_ GE231.out | refine below_set ?_ GE233.out | refine below_set ?_ GE238.out) | exact HB.out)⟩
                          (try clear HO_234002)
                          (try clear BK231)
                          (try clear BK233)
                          (try clear BK238)
                          (try clear HB)
                          generalize ((((w58.setCell ⟨gb238, 0, none⟩ (.int .u8 (rd l4 (ji25)))).setCell ⟨gb238, 1, none⟩ (.int .u8 (rd l4 (ji28)))).setCell ⟨gb238, 2, none⟩ (.int .u8 (rd l4 (ji31)))).setCell ⟨gb238, 3, none⟩ (.int .u8 (rd l4 (ji34)))) = w63 at n0_ n1_ n2_ n3_ n4_ ⊢
                          have HO_234002 := n0_
                          have BK231 := n1_
                          have BK233 := n2_
                          have BK238 := n3_
                          have HB := n4_
                          clear n0_ n1_ n2_ n3_ n4_
                          replace HO_234002 := Aside0.mk (Kd.R_drew HO_234002.out)
                          replace BK231 := Aside0.mk (blk_drew BK231.out)
                          replace BK233 := Aside0.mk (blk_drew BK233.out)
                          replace BK238 := Aside0.mk (blk_drew BK238.out)
                          replace HB := Aside0.mk (below_drew1 HB.out)
                          refine start_ (n := 8) (S := fun w' => w'.cell? ⟨gb233, 0, none⟩ = some (.int .i64 a1) ∧ w'.cell? ⟨gb233, 1, none⟩ = some (.int .i64 a2) ∧ w'.cell? ⟨gb233, 2, none⟩ = some (u234002) ∧ w'.cell? ⟨gb238, 0, none⟩ = some (.int .u8 (rd l4 (ji25))) ∧ w'.cell? ⟨gb238, 1, none⟩ = some (.int .u8 (rd l4 (ji28))) ∧ w'.cell? ⟨gb238, 2, none⟩ = some (.int .u8 (rd l4 (ji31))) ∧ w'.cell? ⟨gb238, 3, none⟩ = some (.int .u8 (rd l4 (ji34)))) (ds := [7]) zq15.q23 (by kernel_rfl) rfl rfl ⟨c_ BK233 0, ⟨c_ BK233 1, ⟨c_ BK233 2, (h4_ BK238)⟩⟩⟩ (fun hHeld => ?_); refine with_tabW compositorref09_Decode.tab20 compositorref09_Decode.bits20 (fun HT_ HW_ => ?_)
                          generalize w63.drew = w64 at HO_234002 BK231 BK233 BK238 HB hHeld ⊢
                          refine pv_ 0 88 zq15.q24 HT_ ?_
                          refine take_ (i := 1) (N := some 89) (v := ?_) (a' := ?_) zq15.q25 rfl rfl (take_ofW HT_.out HW_.out (by kernel_rfl)) (fun _ _ _ h => h) (Or.inl ⟨by rfl, ?_⟩) hHeld ?_ ?_
                          rotate_left
                          ·
                           rintro w' ⟨s0, s1, s2, s3, s4, s5, s6⟩
                           go_simp
                           with_reducible rfl
                          rotate_left
                          ·
                           simp only [Act.put, List.setIfInBounds_toArray, List.set_cons_zero, List.set_cons_succ, i64_w, i32_w]
                           rfl
                          refine take_ (i := 2) (N := some 90) (v := ?_) (a' := ?_) zq15.q26 rfl rfl (take_ofW HT_.out HW_.out (by kernel_rfl)) (fun _ _ _ h => h) (Or.inl ⟨by rfl, ?_⟩) hHeld ?_ ?_
                          rotate_left
                          ·
                           rintro w' ⟨s0, s1, s2, s3, s4, s5, s6⟩
                           go_simp
                           with_reducible rfl
                          rotate_left
                          ·
                           simp only [Act.put, List.setIfInBounds_toArray, List.set_cons_zero, List.set_cons_succ, i64_w, i32_w]
                           rfl
                          refine one_ (i := 3) (N := some 91) zq15.q27 rfl rfl (one_of HT_.out (by kernel_rfl)) (by decide) (fun K hK => ?_)
                          refine goes_ Try.func42 (by kernel_rfl) rfl #[.agg #[.int .u8 (rd l4 (ji25)), .int .u8 (rd l4 (ji28)), .int .u8 (rd l4 (ji31)), .int .u8 (rd l4 (ji34))]] (by rfl) rfl rfl (by (try simp only [List.map_toArray, List.map_cons, List.map_nil]); first | done | (simp only [hji25, hji28, hji31, hji34]; rfl) | rfl | (simp only [List.length_drop, List.length_take]; rfl)) ?_
                          with_reducible refine (compositorref08_Clamp.calls (rd l4 (ji25)) (rd l4 (ji28)) (rd l4 (ji31)) (rd l4 (ji34)) t246 t247 t248 t249 _ A55.out).mono ?_
                          rintro e w65 ⟨rfl, hb⟩
                          refine ⟨_, rfl, ?_⟩
                          replace HO_234002 := Aside0.mk (Kd.R_below (by (with_reducible repeat (first | apply Kd.R_alloc | apply Kd.R_drewN | apply Kd.R_drew)); exact HO_234002.out) hb)
                          replace BK231 := bb_ BK231 hb
                          replace BK233 := bb_ BK233 hb
                          replace BK238 := bb_ BK238 hb
                          replace HB := hb_ HB hb
                          (try clear hb); (try clear hb2); (try clear hk); (try clear hi)
                          refine hK.out _ _ ⟨c_ BK233 0, ⟨c_ BK233 1, ⟨c_ BK233 2, (h4_ BK238)⟩⟩⟩ (fun hHeld => ?_)
                          clear hK K
                          refine norm_ (a' := ?_) ?_ ?_
                          rotate_left
                          ·
                           show Act.put _ (some 91) _ = _
                           simp only [Act.put, List.setIfInBounds_toArray, List.set_cons_zero, List.set_cons_succ, i64_w, i32_w]
                           rfl
                          refine one_ (i := 4) (N := some 92) zq15.q28 rfl rfl (one_of HT_.out (by kernel_rfl)) (by decide) (fun K hK => ?_)
                          refine value_ (w1 := ?_) (v := ?_) (by rfl) rfl ?_ ?_
                          rotate_left 2
                          ·
                           go_simp
                           constructor
                           ·
                            rfl
                           ·
                            rfl
                          refine hK.out _ _ ⟨(blk_cell (blk_alloc BK233.out _) 0).trans rfl, (blk_cell (blk_alloc BK233.out _) 1).trans rfl, (blk_cell (blk_alloc BK233.out _) 2).trans rfl, (blk_cell (blk_alloc BK238.out _) 0).trans rfl, (blk_cell (blk_alloc BK238.out _) 1).trans rfl, (blk_cell (blk_alloc BK238.out _) 2).trans rfl, (blk_cell (blk_alloc BK238.out _) 3).trans rfl⟩ (fun hHeld => ?_)
                          clear hK K
                          refine norm_ (a' := ?_) ?_ ?_
                          rotate_left
                          ·
                           show Act.put _ (some 92) _ = _
                           simp only [Act.put, List.setIfInBounds_toArray, List.set_cons_zero, List.set_cons_succ, i64_w, i32_w]
                           rfl
                          refine one_ (i := 5) (N := some 93) zq15.q29 rfl rfl (one_of HT_.out (by kernel_rfl)) (by decide) (fun K hK => ?_)
                          refine Kd.R_append_step k43 (w0 := w) w.heap.size (by rfl) (.tmp 89) (.tmp 92) 25 43 (.agg #[(.int .u8 0), (.int .u8 0), (.int .u8 0), (.int .u8 0)]) 4 rfl Try.underlying25 info43 rfl (by decide) (by omega) u234002 x234002_4 (⟨t246, t247, t248, t249⟩ : S43) [.int .u8 t246, .int .u8 t247, .int .u8 t248, .int .u8 t249] (fun k_ => k_ ≠ gb238) (fun _ => False) rfl rfl ?aP (fun _ hk => hk.elim) ?aF ?aO ?aB ?aS ?aL ?_
                          (case aP => exact k43_mkM _ _ _ (⟨t246, t247, t248, t249⟩ : S43))
                          (case aB => exact (hq_ HB))
                          (case aF => exact (fun k_ hk => Kd.freshB (g := gb238) (o := .cells #[.int .u8 (rd l4 (ji25)), .int .u8 (rd l4 (ji28)), .int .u8 (rd l4 (ji31)), .int .u8 (rd l4 (ji34))] 43 (0, 0)) (bq_ BK238) k_ hk))
                          (case aO => exact (by (with_reducible repeat (first | apply Kd.R_alloc | apply Kd.R_drewN | apply Kd.R_drew)); exact HO_234002.out))
                          (case aS => exact (below_size (hq_ HB)))
                          (case aL => have := LMc56.out; omega)
                          intro v251 w66 ho hb hg hat
                          rw [← Ny250.out] at ho
                          replace BK231 := Aside0.mk (blk_grown (g := gb231) (o := .cells #[.int .i64 0, .int .i64 0, .slice none 0 0] 27 (0, 0)) (bq_ BK231) hg (Kd.R_ne HO_234002.out BK231.out (by decide)))
                          replace BK233 := Aside0.mk (blk_grown (g := gb233) (o := .cells #[.int .i64 a1, .int .i64 a2, u234002] 27 (0, 0)) (bq_ BK233) hg (Kd.R_ne HO_234002.out BK233.out (by decide)))
                          replace BK238 := Aside0.mk (blk_grown (g := gb238) (o := .cells #[.int .u8 (rd l4 (ji25)), .int .u8 (rd l4 (ji28)), .int .u8 (rd l4 (ji31)), .int .u8 (rd l4 (ji34))] 43 (0, 0)) (bq_ BK238) hg (Kd.R_away HO_234002.out (fun _ hk => hk)))
                          replace HB := Aside0.mk (hb)
                          have HO252 := Aside0.mk (ho)
                          clear HO_234002
                          clear ho hb hg hat
                          obtain ⟨Ao67, co67, eo67⟩ := Kd.R_slice HO252.out
                          (first | subst eo67 | (injection eo67 with f1_ f2_ f3_; have f4_ := f1_.symm; have f5_ := f3_.symm; clear f1_ f2_ f3_; subst f4_; subst f5_))
                          refine hK.out _ _ ⟨c_ BK233 0, ⟨c_ BK233 1, ⟨c_ BK233 2, (h4_ BK238)⟩⟩⟩ (fun hHeld => ?_)
                          clear hK K
                          refine norm_ (a' := ?_) ?_ ?_
                          rotate_left
                          ·
                           show Act.put _ (some 93) _ = _
                           simp only [Act.put, List.setIfInBounds_toArray, List.set_cons_zero, List.set_cons_succ, i64_w, i32_w]
                           rfl
                          refine pv_ 6 94 zq15.q30 HT_ ?_
                          refine last_ (i := 7) (N := none) zq15.q31 rfl rfl (one_of HT_.out (by kernel_rfl)) (by decide) (fun K hK => ?_)
                          have hs68 : w66.cell? ⟨gb233, 2, none⟩ = some (u234002) := (blk_cell BK233.out 2).trans rfl
                          have hfs68 := blk_frozen BK233.out 2
                          have hns68_0 := NB231_233.out
                          have hns68_2 := NB238_233.out
                          have hms68_0 := NB233_231.out
                          have hms68_2 := NB233_238.out
                          refine skip_ (w1 := ?_) (by rfl) rfl ?_ ?_
                          rotate_left
                          ·
                           go_simp
                           rfl
                          refine hK.out _ _ ?_
                          clear hK K
                          refine done_ (done_of HT_.out (by kernel_rfl)) ?_
                          try go_wp2
                          go_roundg k4
                          case measure => have := HJ5.out; have := HJ12.out; have := HK3.out; have := HK4.out; omega
                          case rel => exact ⟨(wrap64 (x14_4 + 1)), (y250), (.slice Ao67 y250.length co67), (by first | rfl | (simp; done) | (simp [*]; done)), H', ⟨by have := HJ5.out; have := HJ12.out; have := HK3.out; have := HK4.out; omega⟩, ⟨by (with_reducible repeat (first | apply Kd.R_alloc | apply Kd.R_drewN | apply Kd.R_drew)); exact Kd.R_mono (Kd.R_far (p := ⟨gb233, 2, none⟩) (Kd.R_types HO252.out BK233.out (by decide)) (fun _ hk => hk.2) (.slice Ao67 y250.length co67)) (fun _ hk => trivial)⟩, bf_ BK231, ⟨by (with_reducible repeat (first | refine blk_drewN ?_ _ | refine blk_drew ?_ | refine blk_alloc ?_ _)); refine blk_put (cs := #[.int .i64 a1, .int .i64 a2, u234002]) ?_ 2 _ rfl; (with_reducible repeat (first | refine blk_drewN ?_ _ | refine blk_drew ?_ | refine blk_alloc ?_ _)); exact BK233.out⟩, ⟨by repeat (first | (with_reducible first | exact HB.out | apply below_alloc | apply pw_below_drewN | apply below_drew1 | refine below_set ?_ GE231.out | refine below_set ?_ GE233.out | refine below_set ?_ GE238.out) | exact HB.out)⟩⟩
                         ·
                          rw [if_neg c56] at H
                          exact absurd H (by simp)
                       ·
                        rw [if_neg c36] at H
                        exact absurd H (by simp)
                      ·
                       rw [if_neg c35] at H
                       exact absurd H (by simp)
                     ·
                      rw [if_neg c33] at H
                      exact absurd H (by simp)
                    ·
                     rw [if_neg c32] at H
                     exact absurd H (by simp)
                   ·
                    rw [if_neg c30] at H
                    exact absurd H (by simp)
                  ·
                   rw [if_neg c29] at H
                   exact absurd H (by simp)
                 ·
                  rw [if_neg c27] at H
                  exact absurd H (by simp)
                ·
                 rw [if_neg c26] at H
                 exact absurd H (by simp)
               ·
                rw [if_neg c24] at H
                have c24b0 : decide (x14_4 < a1) = false := decide_eq_false c24
                clear c24
                have H' := Aside0.mk H
                clear H
                go_wp2
                go_roundg k4
                case measure => have := HJ5.out; have := HJ12.out; have := HK3.out; have := HK4.out; omega
                case rel => exact ⟨(wrap64 (x13_3 + 1)), (x234002_4), (u234002), (by first | rfl | (simp; done) | (simp [*]; done)), H', ⟨by have := HJ5.out; have := HJ12.out; have := HK3.out; have := HK4.out; omega⟩, ⟨by (with_reducible repeat (first | apply Kd.R_alloc | apply Kd.R_drewN | apply Kd.R_drew)); exact HO_234002.out⟩, bf_ BK231, bf_ BK233, ⟨by repeat (first | (with_reducible first | exact HB.out | apply below_alloc | apply pw_below_drewN | apply below_drew1 | refine below_set ?_ GE231.out | refine below_set ?_ GE233.out) | exact HB.out)⟩⟩
            ·
             rw [if_neg c23] at H
             have c23b0 : decide (x13_3 < a2) = false := decide_eq_false c23
             clear c23
             simp only [Option.some.injEq, Prod.mk.injEq] at H
             obtain ⟨rfl, rfl, rfl, rfl⟩ := H
             have hnb69 := NB233_231.out
             have hnc69 := NB231_233.out
             have hcz70_0 : wr.cell? ⟨gb233, 0, none⟩ = some (.int .i64 a1) := (blk_cell BK233.out 0).trans rfl
             have hcz70_1 : wr.cell? ⟨gb233, 1, none⟩ = some (.int .i64 a2) := (blk_cell BK233.out 1).trans rfl
             have hcz70_2 : wr.cell? ⟨gb233, 2, none⟩ = some (u234002) := (blk_cell BK233.out 2).trans rfl
             have hfz70_0 := blk_frozen BK233.out 0
             have hfz70_1 := blk_frozen BK233.out 1
             have hfz70_2 := blk_frozen BK233.out 2
             have hcz71_0 : wr.cell? ⟨gb231, 0, none⟩ = some (.int .i64 0) := (blk_cell BK231.out 0).trans rfl
             have hcz71_1 : wr.cell? ⟨gb231, 1, none⟩ = some (.int .i64 0) := (blk_cell BK231.out 1).trans rfl
             have hcz71_2 : wr.cell? ⟨gb231, 2, none⟩ = some (.slice none 0 0) := (blk_cell BK231.out 2).trans rfl
             have hfz71_0 := blk_frozen BK231.out 0
             have hfz71_1 := blk_frozen BK231.out 1
             have hfz71_2 := blk_frozen BK231.out 2
             obtain ⟨Ao72, co72, eo72⟩ := Kd.R_slice HO_234002.out
             subst eo72
             go_wp2
             refine bodyPost_ret (results_ct rfl _ _ gb231 27 #[.int .i64 a1, .int .i64 a2, .slice Ao72 x234002_3.length co72] (0, 0) _ rfl (by (with_reducible repeat (first | refine blk_drewN ?_ _ | refine blk_drew ?_ | refine blk_alloc ?_ _)); refine blk_put (cs := #[.int .i64 a1, .int .i64 a2, .slice none 0 0]) ?_ 2 _ rfl; (with_reducible repeat (first | refine blk_drewN ?_ _ | refine blk_drew ?_ | refine blk_alloc ?_ _)); refine blk_put (cs := #[.int .i64 a1, .int .i64 0, .slice none 0 0]) ?_ 1 _ rfl; (with_reducible repeat (first | refine blk_drewN ?_ _ | refine blk_drew ?_ | refine blk_alloc ?_ _)); refine blk_put (cs := #[.int .i64 0, .int .i64 0, .slice none 0 0]) ?_ 0 _ rfl; (with_reducible repeat (first | refine blk_drewN ?_ _ | refine blk_drew ?_ | refine blk_alloc ?_ _)); exact BK231.out) Try.underlying27 rfl (by kernel_rfl)) rfl ?_
             exact ⟨_, by first | rfl | (simp [errW_none, errW_some] <;> rfl) | (simp [*, errW_none, errW_some] <;> rfl), by (with_reducible repeat (first | apply Kd.R_alloc | apply Kd.R_drewN | apply Kd.R_drew)); exact Kd.R_mono (Kd.R_far (p := ⟨gb231, 2, none⟩) (Kd.R_far (p := ⟨gb231, 1, none⟩) (Kd.R_far (p := ⟨gb231, 0, none⟩) (Kd.R_types HO_234002.out BK231.out (by decide)) (fun _ hk => hk.2) (.int .i64 a1)) (fun _ hk => hk.2) (.int .i64 a2)) (fun _ hk => hk.2) (.slice Ao72 x234002_3.length co72)) (fun _ hk => trivial), by repeat (first | (with_reducible first | exact HB.out | apply below_alloc | apply pw_below_drewN | apply below_drew1 | refine below_set ?_ GE231.out | refine below_set ?_ GE233.out) | exact HB.out)⟩
    ·
     replace c12 := Bool.eq_false_iff.mpr c12
     subst c12
     have H1 : (some (0, 0, ([] : List (S43)), 6)) = some (r1, r2, r3, r4) := by rw [if_neg (show ¬ (false = true) by decide)] at H; exact H
     clear H
     have H := H1
     clear H1
     simp only [Option.some.injEq, Prod.mk.injEq] at H
     obtain ⟨rfl, rfl, rfl, rfl⟩ := H
     go_wp2_with (first | ((with_reducible refine gate_callee (f := 41) rfl ?_); refine goesL_ (some 26) rfl rfl Try.func41 (by kernel_rfl) rfl #[.int .i64 a1, .int .i64 a2] rfl (by (try simp only [List.map_toArray, List.map_cons, List.map_nil]) <;> rfl) ?_; (with_reducible refine (compositorref09_size.calls a1 a2 false _ A11.out).mono ?_); rintro e w' ⟨rfl, ⟨nd, rfl⟩⟩; refine ⟨_, rfl, ?_⟩; (try (rw [drewN_self wc]; generalize hq_ : World.drewN wc _ = wc; have n0_ : Aside0 (wc.heap[gb231]? = some (.cells #[.int .i64 0, .int .i64 0, .slice none 0 0] 27 (0, 0))) := ⟨by rw [← hq_]; exact (bq_ BK231)⟩; have n1_ : Aside0 (Below w.heap.size w wc) := ⟨by rw [← hq_]; exact (hq_ HB)⟩; clear BK231 HB hq_; have BK231 := n0_; have HB := n1_; clear n0_ n1_)); have hcz73_0 : wc.cell? ⟨gb231, 0, none⟩ = some (.int .i64 0) := (blk_cell BK231.out 0).trans rfl; have hcz73_1 : wc.cell? ⟨gb231, 1, none⟩ = some (.int .i64 0) := (blk_cell BK231.out 1).trans rfl; have hcz73_2 : wc.cell? ⟨gb231, 2, none⟩ = some (.slice none 0 0) := (blk_cell BK231.out 2).trans rfl; have hfz73_0 := blk_frozen BK231.out 0; have hfz73_1 := blk_frozen BK231.out 1; have hfz73_2 := blk_frozen BK231.out 2))
     refine bodyPost_ret (results_ct rfl _ _ gb231 27 #[.int .i64 0, .int .i64 0, .slice none 0 0] (0, 0) _ rfl (by (with_reducible repeat (first | refine blk_drewN ?_ _ | refine blk_drew ?_ | refine blk_alloc ?_ _)); refine blk_put (cs := #[.int .i64 0, .int .i64 0, .slice none 0 0]) ?_ 2 _ rfl; (with_reducible repeat (first | refine blk_drewN ?_ _ | refine blk_drew ?_ | refine blk_alloc ?_ _)); refine blk_put (cs := #[.int .i64 0, .int .i64 0, .slice none 0 0]) ?_ 1 _ rfl; (with_reducible repeat (first | refine blk_drewN ?_ _ | refine blk_drew ?_ | refine blk_alloc ?_ _)); refine blk_put (cs := #[.int .i64 0, .int .i64 0, .slice none 0 0]) ?_ 0 _ rfl; (with_reducible repeat (first | refine blk_drewN ?_ _ | refine blk_drew ?_ | refine blk_alloc ?_ _)); exact BK231.out) Try.underlying27 rfl (by kernel_rfl)) rfl ?_
     exact ⟨_, by first | rfl | (simp [errW_none, errW_some] <;> rfl) | (simp [*, errW_none, errW_some] <;> rfl), by first | exact Kd.R_nil _ _ _ _ _ | exact Kd.N_nil _ _ _ _ _ | exact Kd.V_nil _ _ _ _ _ | exact Kd.Q_nil _ _ _ _ _ | exact Kd.S_nil _ _ _ _ _, by repeat (first | (with_reducible first | exact HB.out | apply below_alloc | apply pw_below_drewN | apply below_drew1 | refine below_set ?_ GE231.out) | exact HB.out)⟩

end Go.Proofs.Ytmockeaiccpogaa.All
