-- Written by a program of this session, which runs the kit's print.py and puts in functions that this session typed. Not trusted: Lean checks it.
import Derived.Test.YtmockeaiccpogaaHand
import Derived.Test.YtmockeaiccpogaaAllx0
import Derived.Test.YtmockeaiccpogaaAllx3
import Derived.Test.YtmockeaiccpogaaAllx5
namespace Go.Proofs.Ytmockeaiccpogaa.All
open Go.Proofs.YtmockeaiccpogaaSq
open Go.RowKit Go.Proofs.YtmockeaiccpogaaW.PrintWords Go.Proofs.YtmockeaiccpogaaW.PrintLast Go.Proofs.YtmockeaiccpogaaW.PrintMore
attribute [local go_sem] max2_int min2_int max_two min_two max_three min_three max_four min_four   -- for this text's walks alone
set_option linter.unusedVariables false
set_option linter.unusedSimpArgs false

/-! ### buffer_Decode: function 14 -/
abbrev zq14.q0 := Go.Proofs.YtmockeaiccpogaaHand.bz 15 0
abbrev zq14.q1 := Go.Proofs.YtmockeaiccpogaaHand.bz 15 1
abbrev zq14.q2 := Go.Proofs.YtmockeaiccpogaaHand.bz 15 3
abbrev zq14.q3 := Go.Proofs.YtmockeaiccpogaaHand.bz 15 11
abbrev zq14.q4 := Go.Proofs.YtmockeaiccpogaaHand.bz 15 27
abbrev zq14.q5 := Go.Proofs.YtmockeaiccpogaaHand.bz 15 91
abbrev zq14.q6 := Go.Proofs.YtmockeaiccpogaaHand.bz 15 219
abbrev zq14.q7 := Go.Proofs.YtmockeaiccpogaaHand.bz 15 731
abbrev zq14.q8 := Go.Proofs.YtmockeaiccpogaaHand.bz 15 1755
abbrev zq14.q9 := Go.Proofs.YtmockeaiccpogaaHand.bz 15 1759
abbrev zq14.q10 := Go.Proofs.YtmockeaiccpogaaHand.bz 15 1791
abbrev zq14.q11 := Go.Proofs.YtmockeaiccpogaaHand.bz 15 2047
abbrev zq14.q12 := Go.Proofs.YtmockeaiccpogaaHand.bz 15 4095
abbrev zq14.q13 := Go.Proofs.YtmockeaiccpogaaHand.bz 15 8191
abbrev zq14.q14 := Go.Proofs.YtmockeaiccpogaaHand.bz 15 16383
abbrev zq14.q15 := Go.Proofs.YtmockeaiccpogaaHand.bz 15 32767
abbrev zq14.q16 := Go.Proofs.YtmockeaiccpogaaHand.bz 8 0
abbrev zq14.q17 := Go.Proofs.YtmockeaiccpogaaHand.bz 8 1
abbrev zq14.q18 := Go.Proofs.YtmockeaiccpogaaHand.bz 8 3
abbrev zq14.q19 := Go.Proofs.YtmockeaiccpogaaHand.bz 8 7
abbrev zq14.q20 := Go.Proofs.YtmockeaiccpogaaHand.bz 8 15
abbrev zq14.q21 := Go.Proofs.YtmockeaiccpogaaHand.bz 8 31
abbrev zq14.q22 := Go.Proofs.YtmockeaiccpogaaHand.bz 8 63
abbrev zq14.q23 := Go.Proofs.YtmockeaiccpogaaHand.bz 8 127
abbrev zq14.q24 := Go.Proofs.YtmockeaiccpogaaHand.bz 8 255
mutual
def buffer_Decode.j0 : Nat → Int → Int → Int → Int → List Int → Bool → Option (Int × Int × (List (S43)) × Int)
 | 0, _, _, _, _, _, _ => none
 | k + 1, x0, x1, x2, x3, x4, x17 => if x17 = true then (some (0, 0, ([] : List (S43)), 2)) else ((buffer_size.f x1).bind fun t121 => (if t121 = true then ((buffer_size.f x2).bind fun t122 => (buffer_Decode.j1 k x0 x1 x2 x3 x4 (!t122))) else (buffer_Decode.j1 k x0 x1 x2 x3 x4 true)))
def buffer_Decode.j1 : Nat → Int → Int → Int → Int → List Int → Bool → Option (Int × Int × (List (S43)) × Int)
 | 0, _, _, _, _, _, _ => none
 | k + 1, x0, x1, x2, x3, x4, x25 => if x25 = true then (some (0, 0, ([] : List (S43)), 6)) else (if x3 < (wrap64 (4 * x1)) then (buffer_Decode.j2 k x0 x1 x2 x3 x4 true) else (buffer_Decode.j2 k x0 x1 x2 x3 x4 ((Int.tmod x3 4) != 0)))
def buffer_Decode.j2 : Nat → Int → Int → Int → Int → List Int → Bool → Option (Int × Int × (List (S43)) × Int)
 | 0, _, _, _, _, _, _ => none
 | k + 1, x0, x1, x2, x3, x4, x35 => if x35 = true then (some (0, 0, ([] : List (S43)), 15)) else (if x2 = 0 then (none) else (if x3 > (wrap64 ((x4.length : Int) / x2)) then (some (0, 0, ([] : List (S43)), 4)) else (buffer_Decode.l0 k x0 x1 x3 x4 x2 0 x1 x2 ([] : List (S43)))))
def buffer_Decode.l0 : Nat → Int → Int → Int → List Int → Int → Int → Int → Int → List (S43) → Option (Int × Int × (List (S43)) × Int)
 | 0, _, _, _, _, _, _, _, _, _ => none
 | k + 1, x0, x1, x3, x4, x57, x58, x124000, x124001, x124002 => if x58 < x57 then (buffer_Decode.l1 k x0 x1 x3 x4 x58 x57 x58 x1 0 x124000 x124001 x124002) else (some (x124000, x124001, x124002, 0))
def buffer_Decode.l1 : Nat → Int → Int → Int → List Int → Int → Int → Int → Int → Int → Int → Int → List (S43) → Option (Int × Int × (List (S43)) × Int)
 | 0, _, _, _, _, _, _, _, _, _, _, _, _ => none
 | k + 1, x0, x1, x3, x4, x13, x57, x58, x61, x62, x124000, x124001, x124002 => if x62 < x61 then (if 0 ≤ (wrap64 ((wrap64 (x13 * x3)) + (wrap64 (4 * x62)))) then (if (wrap64 ((wrap64 (x13 * x3)) + (wrap64 (4 * x62)))) ≤ (x4.length : Int) then (if 0 < ((x4.drop ((wrap64 ((wrap64 (x13 * x3)) + (wrap64 (4 * x62)))) : Int).toNat).length : Int) then (if 1 < ((x4.drop ((wrap64 ((wrap64 (x13 * x3)) + (wrap64 (4 * x62)))) : Int).toNat).length : Int) then (if 2 < ((x4.drop ((wrap64 ((wrap64 (x13 * x3)) + (wrap64 (4 * x62)))) : Int).toNat).length : Int) then (if 3 < ((x4.drop ((wrap64 ((wrap64 (x13 * x3)) + (wrap64 (4 * x62)))) : Int).toNat).length : Int) then (if x0 = 2 then ((pixel_Clamp.f (rd (x4.drop ((wrap64 ((wrap64 (x13 * x3)) + (wrap64 (4 * x62)))) : Int).toNat) 2) (rd (x4.drop ((wrap64 ((wrap64 (x13 * x3)) + (wrap64 (4 * x62)))) : Int).toNat) 1) (rd (x4.drop ((wrap64 ((wrap64 (x13 * x3)) + (wrap64 (4 * x62)))) : Int).toNat) 0) 255).bind fun bt130 => (if x124002.length < 35184372088832 then (buffer_Decode.l1 k x0 x1 x3 x4 x13 x57 x58 x61 (wrap64 (x62 + 1)) x124000 x124001 (x124002 ++ [(⟨bt130.1, bt130.2.1, bt130.2.2.1, bt130.2.2.2⟩ : S43)])) else (none))) else ((pixel_Clamp.f (rd (x4.drop ((wrap64 ((wrap64 (x13 * x3)) + (wrap64 (4 * x62)))) : Int).toNat) 2) (rd (x4.drop ((wrap64 ((wrap64 (x13 * x3)) + (wrap64 (4 * x62)))) : Int).toNat) 1) (rd (x4.drop ((wrap64 ((wrap64 (x13 * x3)) + (wrap64 (4 * x62)))) : Int).toNat) 0) (rd (x4.drop ((wrap64 ((wrap64 (x13 * x3)) + (wrap64 (4 * x62)))) : Int).toNat) 3)).bind fun bt137 => (if x124002.length < 35184372088832 then (buffer_Decode.l1 k x0 x1 x3 x4 x13 x57 x58 x61 (wrap64 (x62 + 1)) x124000 x124001 (x124002 ++ [(⟨bt137.1, bt137.2.1, bt137.2.2.1, bt137.2.2.2⟩ : S43)])) else (none)))) else (none)) else (none)) else (none)) else (none)) else (none)) else (none)) else (buffer_Decode.l0 k x0 x1 x3 x4 x57 (wrap64 (x58 + 1)) x124000 x124001 x124002)
end
def buffer_Decode.f (k : Nat) (a0 : Int) (a1 : Int) (a2 : Int) (a3 : Int) (l4 : List Int) : Option (Int × Int × (List (S43)) × Int) := if a0 = 1 then (buffer_Decode.j0 k a0 a1 a2 a3 l4 false) else (buffer_Decode.j0 k a0 a1 a2 a3 l4 (a0 != 2))
theorem buffer_Decode.mono_l : ∀ k, (∀ y0 y1 y2 y3 y4 y5, LeO (buffer_Decode.j0 k y0 y1 y2 y3 y4 y5) (buffer_Decode.j0 (k + 1) y0 y1 y2 y3 y4 y5)) ∧ (∀ y0 y1 y2 y3 y4 y5, LeO (buffer_Decode.j1 k y0 y1 y2 y3 y4 y5) (buffer_Decode.j1 (k + 1) y0 y1 y2 y3 y4 y5)) ∧ (∀ y0 y1 y2 y3 y4 y5, LeO (buffer_Decode.j2 k y0 y1 y2 y3 y4 y5) (buffer_Decode.j2 (k + 1) y0 y1 y2 y3 y4 y5)) ∧ (∀ y0 y1 y2 y3 y4 y5 y6 y7 y8, LeO (buffer_Decode.l0 k y0 y1 y2 y3 y4 y5 y6 y7 y8) (buffer_Decode.l0 (k + 1) y0 y1 y2 y3 y4 y5 y6 y7 y8)) ∧ (∀ y0 y1 y2 y3 y4 y5 y6 y7 y8 y9 y10 y11, LeO (buffer_Decode.l1 k y0 y1 y2 y3 y4 y5 y6 y7 y8 y9 y10 y11) (buffer_Decode.l1 (k + 1) y0 y1 y2 y3 y4 y5 y6 y7 y8 y9 y10 y11))
 | 0 => ⟨fun _ _ _ _ _ _ r h => by simp [buffer_Decode.j0] at h, fun _ _ _ _ _ _ r h => by simp [buffer_Decode.j1] at h, fun _ _ _ _ _ _ r h => by simp [buffer_Decode.j2] at h, fun _ _ _ _ _ _ _ _ _ r h => by simp [buffer_Decode.l0] at h, fun _ _ _ _ _ _ _ _ _ _ _ _ r h => by simp [buffer_Decode.l1] at h⟩
 | k + 1 => by
  obtain ⟨ih0, ih1, ih2, ih3, ih4⟩ := buffer_Decode.mono_l k
  refine ⟨?_, ?_, ?_, ?_, ?_⟩
  ·
   intro y0 y1 y2 y3 y4 y5
   unfold buffer_Decode.j0
   repeat' first
   | (with_reducible exact ih0 _ _ _ _ _ _)
   | (with_reducible exact ih1 _ _ _ _ _ _)
   | (with_reducible exact ih2 _ _ _ _ _ _)
   | (with_reducible exact ih3 _ _ _ _ _ _ _ _ _)
   | (with_reducible exact ih4 _ _ _ _ _ _ _ _ _ _ _ _)
   | (with_reducible exact LeO.refl _)
   | (with_reducible exact LeO.none _)
   | (with_reducible refine LeO.ite ?_ ?_)
   | (with_reducible refine LeO.bind ?_ (fun _ => ?_))
   | exact ih0 _ _ _ _ _ _
   | exact ih1 _ _ _ _ _ _
   | exact ih2 _ _ _ _ _ _
   | exact ih3 _ _ _ _ _ _ _ _ _
   | exact ih4 _ _ _ _ _ _ _ _ _ _ _ _
   | exact LeO.none _
   | refine LeO.ite ?_ ?_
   | refine LeO.bind ?_ (fun _ => ?_)
  ·
   intro y0 y1 y2 y3 y4 y5
   unfold buffer_Decode.j1
   repeat' first
   | (with_reducible exact ih0 _ _ _ _ _ _)
   | (with_reducible exact ih1 _ _ _ _ _ _)
   | (with_reducible exact ih2 _ _ _ _ _ _)
   | (with_reducible exact ih3 _ _ _ _ _ _ _ _ _)
   | (with_reducible exact ih4 _ _ _ _ _ _ _ _ _ _ _ _)
   | (with_reducible exact LeO.refl _)
   | (with_reducible exact LeO.none _)
   | (with_reducible refine LeO.ite ?_ ?_)
   | (with_reducible refine LeO.bind ?_ (fun _ => ?_))
   | exact ih0 _ _ _ _ _ _
   | exact ih1 _ _ _ _ _ _
   | exact ih2 _ _ _ _ _ _
   | exact ih3 _ _ _ _ _ _ _ _ _
   | exact ih4 _ _ _ _ _ _ _ _ _ _ _ _
   | exact LeO.none _
   | refine LeO.ite ?_ ?_
   | refine LeO.bind ?_ (fun _ => ?_)
  ·
   intro y0 y1 y2 y3 y4 y5
   unfold buffer_Decode.j2
   repeat' first
   | (with_reducible exact ih0 _ _ _ _ _ _)
   | (with_reducible exact ih1 _ _ _ _ _ _)
   | (with_reducible exact ih2 _ _ _ _ _ _)
   | (with_reducible exact ih3 _ _ _ _ _ _ _ _ _)
   | (with_reducible exact ih4 _ _ _ _ _ _ _ _ _ _ _ _)
   | (with_reducible exact LeO.refl _)
   | (with_reducible exact LeO.none _)
   | (with_reducible refine LeO.ite ?_ ?_)
   | (with_reducible refine LeO.bind ?_ (fun _ => ?_))
   | exact ih0 _ _ _ _ _ _
   | exact ih1 _ _ _ _ _ _
   | exact ih2 _ _ _ _ _ _
   | exact ih3 _ _ _ _ _ _ _ _ _
   | exact ih4 _ _ _ _ _ _ _ _ _ _ _ _
   | exact LeO.none _
   | refine LeO.ite ?_ ?_
   | refine LeO.bind ?_ (fun _ => ?_)
  ·
   intro y0 y1 y2 y3 y4 y5 y6 y7 y8
   unfold buffer_Decode.l0
   repeat' first
   | (with_reducible exact ih0 _ _ _ _ _ _)
   | (with_reducible exact ih1 _ _ _ _ _ _)
   | (with_reducible exact ih2 _ _ _ _ _ _)
   | (with_reducible exact ih3 _ _ _ _ _ _ _ _ _)
   | (with_reducible exact ih4 _ _ _ _ _ _ _ _ _ _ _ _)
   | (with_reducible exact LeO.refl _)
   | (with_reducible exact LeO.none _)
   | (with_reducible refine LeO.ite ?_ ?_)
   | (with_reducible refine LeO.bind ?_ (fun _ => ?_))
   | exact ih0 _ _ _ _ _ _
   | exact ih1 _ _ _ _ _ _
   | exact ih2 _ _ _ _ _ _
   | exact ih3 _ _ _ _ _ _ _ _ _
   | exact ih4 _ _ _ _ _ _ _ _ _ _ _ _
   | exact LeO.none _
   | refine LeO.ite ?_ ?_
   | refine LeO.bind ?_ (fun _ => ?_)
  ·
   intro y0 y1 y2 y3 y4 y5 y6 y7 y8 y9 y10 y11
   unfold buffer_Decode.l1
   repeat' first
   | (with_reducible exact ih0 _ _ _ _ _ _)
   | (with_reducible exact ih1 _ _ _ _ _ _)
   | (with_reducible exact ih2 _ _ _ _ _ _)
   | (with_reducible exact ih3 _ _ _ _ _ _ _ _ _)
   | (with_reducible exact ih4 _ _ _ _ _ _ _ _ _ _ _ _)
   | (with_reducible exact LeO.refl _)
   | (with_reducible exact LeO.none _)
   | (with_reducible refine LeO.ite ?_ ?_)
   | (with_reducible refine LeO.bind ?_ (fun _ => ?_))
   | exact ih0 _ _ _ _ _ _
   | exact ih1 _ _ _ _ _ _
   | exact ih2 _ _ _ _ _ _
   | exact ih3 _ _ _ _ _ _ _ _ _
   | exact ih4 _ _ _ _ _ _ _ _ _ _ _ _
   | exact LeO.none _
   | refine LeO.ite ?_ ?_
   | refine LeO.bind ?_ (fun _ => ?_)
theorem buffer_Decode.mono : ∀ a0 a1 a2 a3 a4 k, LeO (buffer_Decode.f k a0 a1 a2 a3 a4) (buffer_Decode.f (k + 1) a0 a1 a2 a3 a4) := by
 intro a0 a1 a2 a3 a4 k
 obtain ⟨ih0, ih1, ih2, ih3, ih4⟩ := buffer_Decode.mono_l k
 unfold buffer_Decode.f
 repeat' first
   | (with_reducible exact ih0 _ _ _ _ _ _)
   | (with_reducible exact ih1 _ _ _ _ _ _)
   | (with_reducible exact ih2 _ _ _ _ _ _)
   | (with_reducible exact ih3 _ _ _ _ _ _ _ _ _)
   | (with_reducible exact ih4 _ _ _ _ _ _ _ _ _ _ _ _)
   | (with_reducible exact LeO.refl _)
   | (with_reducible exact LeO.none _)
   | (with_reducible refine LeO.ite ?_ ?_)
   | (with_reducible refine LeO.bind ?_ (fun _ => ?_))
   | exact ih0 _ _ _ _ _ _
   | exact ih1 _ _ _ _ _ _
   | exact ih2 _ _ _ _ _ _
   | exact ih3 _ _ _ _ _ _ _ _ _
   | exact ih4 _ _ _ _ _ _ _ _ _ _ _ _
   | exact LeO.none _
   | refine LeO.ite ?_ ?_
   | refine LeO.bind ?_ (fun _ => ?_)
def buffer_Decode.T17 : Bool × List (List Nat × List Nat) := (true, [([], []), ([0], [0]), ([1], [1]), ([], []), ([3], [3]), ([4], [4]), ([], []), ([6], [6]), ([7], [7]), ([], []), ([9], [9]), ([10], [10]), ([2, 5, 8, 11], [2, 5, 8, 11]), ([], []), ([13, 12, 0, 1, 2, 3, 4, 5, 6, 7, 8, 9, 10, 11, 12, 13], [12, 13])])
def buffer_Decode.B17 : List Nat := [0, 1, 3, 0, 8, 24, 0, 64, 192, 0, 512, 1536, 4095, 0, 16383]
theorem buffer_Decode.tab17 : rtab .any (opsOf Try.f14 17) = buffer_Decode.T17 := by kernel_rfl
theorem buffer_Decode.bits17 : waitsOk buffer_Decode.T17.2 buffer_Decode.B17 = true := by kernel_rfl
def buffer_Decode.T20 : Bool × List (List Nat × List Nat) := (true, [([], []), ([0], [0]), ([], []), ([2], [2]), ([3], [3]), ([1, 4, 3], [1, 4]), ([0, 1, 2, 3, 4, 5], []), ([6, 5, 5, 0, 1, 2, 3, 4, 5], [5, 6])])
def buffer_Decode.B20 : List Nat := [0, 1, 0, 4, 12, 31, 63, 127]
theorem buffer_Decode.tab20 : rtab .any (opsOf Try.f14 20) = buffer_Decode.T20 := by kernel_rfl
theorem buffer_Decode.bits20 : waitsOk buffer_Decode.T20.2 buffer_Decode.B20 = true := by kernel_rfl
set_option maxHeartbeats 8000000 in
set_option maxRecDepth 100000 in
theorem buffer_Decode.calls (k : Nat) (a0 : Int) (a1 : Int) (a2 : Int) (a3 : Int) (A4 : Option Addr) (c4 : Nat) (l4 : List Int) (r1 : Int) (r2 : Int) (r3 : List (S43)) (r4 : Int) (w : World) (hr4 : Kd.C (Kd.int .u8) w A4 l4.length l4) (hc4 : l4.length ≤ c4) (h : buffer_Decode.f k a0 a1 a2 a3 l4 = some (r1, r2, r3, r4)) :
  Calls Try.prog 14 #[.int .i64 a0, .int .i64 a1, .int .i64 a2, .int .i64 a3, .slice A4 l4.length c4] w fun e w' => ∃ v2_ : Value, e = .returned (.tuple #[.agg #[.int .i64 r1, .int .i64 r2, v2_], .int .i64 r4]) ∧ Kd.R k43 43 w' w.heap.size (fun _ => True) v2_ r3 ∧ Below w.heap.size w w' := by
 have hu27 := Try.underlying27
 have hu43 := Try.underlying43
 have HR4 := Aside0.mk hr4
 have HC4 := Aside0.mk hc4
 clear hr4 hc4
 have HB := Aside0.mk (Below.refl w.heap.size w)
 have H : (if a0 = 1 then (buffer_Decode.j0 k a0 a1 a2 a3 l4 false) else (buffer_Decode.j0 k a0 a1 a2 a3 l4 (a0 != 2))) = some (r1, r2, r3, r4) := h
 clear h
 have HC6 := Aside0.mk H
 clear H
 go_enter Try.func14, Try.ntmps14
 go_upto_region 1 with (first | ((with_reducible refine gate_dst (N := 10) rfl ?_); refine box_event ?hg (N := 10) ?hd (cs := #[.int .i64 0, .int .i64 0, .slice none 0 0]) (t := 27) ?hr ?_; (case hd => rfl); (case hg => rfl); (case hr => first | (go_simp; done) | (go_simp; rfl)); intro gb120 hg w7 hbox hb; have n0_ := hb_ HB hb; have n1_ := Aside0.mk (hbox); have n2_ := Aside0.mk ((by rw [hg]; exact (below_size (hq_ HB)) : w.heap.size ≤ gb120)); have n3_ := Aside0.mk ((by rw [hg]; exact (below_size (hq_ HB)) : w.heap.size ≤ gb120)); clear HB; have HB := n0_; have BK120 := n1_; have GW120 := n2_; have GE120 := n3_; clear n0_ n1_ n2_ n3_; clear hb hbox hg))
 (try simp only [Act.put, List.setIfInBounds_toArray, List.set_cons_zero, List.set_cons_succ])
 go_cut [17] (fun v17 wc => ∃ (kq : Nat) (x17_5 : Bool), v17 = .bool x17_5 ∧ Aside0 (buffer_Decode.j0 kq a0 a1 a2 a3 l4 x17_5 = some (r1, r2, r3, r4)) ∧ Aside0 (kq ≤ k) ∧ Aside0 (wc.heap[gb120]? = some (.cells #[.int .i64 0, .int .i64 0, (.slice none 0 0)] 27 (0, 0))) ∧ Aside0 (Below w.heap.size w wc))
 case first =>
  have H := HC6.out
  clear HC6
  by_cases c8 : a0 = 1
  ·
   rw [if_pos c8] at H
   have c8b0 : (a0 == 1) = true := beq_iff_eq.mpr c8
   have c8b1 : (a0 != 1) = false := bne_eq_false_iff_eq.mpr c8
   clear c8
   (first | rw [c8b0] | (simp only [i64_w, i32_w]; rw [c8b0]) | skip)
   have H' := Aside0.mk H
   clear H
   go_wp2
   go_meet
   case rel => exact ⟨_, (false), (by first | rfl | (simp; done) | (simp [*]; done)), H', ⟨by first | omega | exact Nat.le_refl _⟩, bf_ BK120, ⟨by repeat (first | (with_reducible first | exact HB.out | apply below_alloc | apply pw_below_drewN | apply below_drew1 | refine below_set ?_ GE120.out) | exact HB.out)⟩⟩
  ·
   rw [if_neg c8] at H
   have c8b0 : (a0 == 1) = false := beq_eq_false_iff_ne.mpr c8
   have c8b1 : (a0 != 1) = true := bne_iff_ne.mpr c8
   (first | rw [c8b0] | (simp only [i64_w, i32_w]; rw [c8b0]) | skip)
   have H' := Aside0.mk H
   clear H
   go_wp2
   go_meet
   case rel => exact ⟨_, ((a0 != 2)), (by first | rfl | (simp; done) | (simp [*]; done)), H', ⟨by first | omega | exact Nat.le_refl _⟩, bf_ BK120, ⟨by repeat (first | (with_reducible first | exact HB.out | apply below_alloc | apply pw_below_drewN | apply below_drew1 | refine below_set ?_ GE120.out) | exact HB.out)⟩⟩
 case rest =>
  clear HC6
  try clear c1
  try clear p2
  try clear c4
  try clear c8
  try clear c8b0
  try clear c8b1
  obtain ⟨kq, x17_5, rfl, HA, HJ5, BK120, HB⟩ := hcut
  cases kq with
  | zero => exact absurd HA.out (by simp [buffer_Decode.j0])
  | succ kj5 =>
   have H := HA.out
   clear HA
   simp only [buffer_Decode.j0] at H
   by_cases c9 : x17_5 = true
   ·
    subst c9
    have H1 : (some (0, 0, ([] : List (S43)), 2)) = some (r1, r2, r3, r4) := by rw [if_pos rfl] at H; exact H
    clear H
    have H := H1
    clear H1
    simp only [Option.some.injEq, Prod.mk.injEq] at H
    obtain ⟨rfl, rfl, rfl, rfl⟩ := H
    have hcz10_0 : wc.cell? ⟨gb120, 0, none⟩ = some (.int .i64 0) := (blk_cell BK120.out 0).trans rfl
    have hcz10_1 : wc.cell? ⟨gb120, 1, none⟩ = some (.int .i64 0) := (blk_cell BK120.out 1).trans rfl
    have hcz10_2 : wc.cell? ⟨gb120, 2, none⟩ = some (.slice none 0 0) := (blk_cell BK120.out 2).trans rfl
    have hfz10_0 := blk_frozen BK120.out 0
    have hfz10_1 := blk_frozen BK120.out 1
    have hfz10_2 := blk_frozen BK120.out 2
    go_wp2
    refine bodyPost_ret (results_ct rfl _ _ gb120 27 #[.int .i64 0, .int .i64 0, .slice none 0 0] (0, 0) _ rfl (by (with_reducible repeat (first | refine blk_drewN ?_ _ | refine blk_drew ?_ | refine blk_alloc ?_ _)); refine blk_put (cs := #[.int .i64 0, .int .i64 0, .slice none 0 0]) ?_ 2 _ rfl; (with_reducible repeat (first | refine blk_drewN ?_ _ | refine blk_drew ?_ | refine blk_alloc ?_ _)); refine blk_put (cs := #[.int .i64 0, .int .i64 0, .slice none 0 0]) ?_ 1 _ rfl; (with_reducible repeat (first | refine blk_drewN ?_ _ | refine blk_drew ?_ | refine blk_alloc ?_ _)); refine blk_put (cs := #[.int .i64 0, .int .i64 0, .slice none 0 0]) ?_ 0 _ rfl; (with_reducible repeat (first | refine blk_drewN ?_ _ | refine blk_drew ?_ | refine blk_alloc ?_ _)); exact BK120.out) Try.underlying27 rfl (by kernel_rfl)) rfl ?_
    exact ⟨_, by first | rfl | (simp [errW_none, errW_some] <;> rfl) | (simp [*, errW_none, errW_some] <;> rfl), by first | exact Kd.R_nil _ _ _ _ _ | exact Kd.N_nil _ _ _ _ _ | exact Kd.V_nil _ _ _ _ _ | exact Kd.Q_nil _ _ _ _ _ | exact Kd.S_nil _ _ _ _ _, by repeat (first | (with_reducible first | exact HB.out | apply below_alloc | apply pw_below_drewN | apply below_drew1 | refine below_set ?_ GE120.out) | exact HB.out)⟩
   ·
    replace c9 := Bool.eq_false_iff.mpr c9
    subst c9
    have H1 : ((buffer_size.f a1).bind fun t121 => (if t121 = true then ((buffer_size.f a2).bind fun t122 => (buffer_Decode.j1 kj5 a0 a1 a2 a3 l4 (!t122))) else (buffer_Decode.j1 kj5 a0 a1 a2 a3 l4 true))) = some (r1, r2, r3, r4) := by rw [if_neg (show ¬ (false = true) by decide)] at H; exact H
    clear H
    have H := H1
    clear H1
    have HC11 := Aside0.mk H
    clear H
    go_upto_region 3 with (fail)
    go_cut [25] (fun v25 wc => ∃ (kq : Nat) (x25_10 : Bool), v25 = .bool x25_10 ∧ Aside0 (buffer_Decode.j1 kq a0 a1 a2 a3 l4 x25_10 = some (r1, r2, r3, r4)) ∧ Aside0 (kq ≤ kj5) ∧ Aside0 (wc.heap[gb120]? = some (.cells #[.int .i64 0, .int .i64 0, (.slice none 0 0)] 27 (0, 0))) ∧ Aside0 (Below w.heap.size w wc))
    case first =>
     have H := HC11.out
     clear HC11
     replace H := Option.bind_eq_some_iff.mp H
     obtain ⟨t121, A120, H⟩ := H
     try dsimp only at H
     have A12 := Aside0.mk A120
     clear A120
     by_cases c13 : t121 = true
     ·
      subst c13
      have H1 : ((buffer_size.f a2).bind fun t122 => (buffer_Decode.j1 kj5 a0 a1 a2 a3 l4 (!t122))) = some (r1, r2, r3, r4) := by rw [if_pos rfl] at H; exact H
      clear H
      have H := H1
      clear H1
      replace H := Option.bind_eq_some_iff.mp H
      obtain ⟨t122, A140, H⟩ := H
      try dsimp only at H
      have A14 := Aside0.mk A140
      clear A140
      have H' := Aside0.mk H
      clear H
      go_wp2_with (first | ((with_reducible refine gate_callee (f := 39) rfl ?_); refine goesL_ (some 27) rfl rfl Try.func39 (by kernel_rfl) rfl #[.int .i64 a1] rfl (by (try simp only [List.map_toArray, List.map_cons, List.map_nil]) <;> rfl) ?_; (with_reducible refine (buffer_size.calls a1 true _ A12.out).mono ?_); rintro e w' ⟨rfl, ⟨nd, rfl⟩⟩; refine ⟨_, rfl, ?_⟩) | (go_at_call 39; (with_reducible refine (buffer_size.calls a2 t122 _ A14.out).mono ?_); rintro e w' ⟨rfl, ⟨nd, rfl⟩⟩))
      go_meet
      case rel => exact ⟨_, (!t122), (by first | rfl | (simp; done) | (simp [*]; done)), H', ⟨by have := HJ5.out; first | omega | exact Nat.le_refl _⟩, bf_ BK120, ⟨by repeat (first | (with_reducible first | exact HB.out | apply below_alloc | apply pw_below_drewN | apply below_drew1 | refine below_set ?_ GE120.out) | exact HB.out)⟩⟩
     ·
      replace c13 := Bool.eq_false_iff.mpr c13
      subst c13
      have H1 : (buffer_Decode.j1 kj5 a0 a1 a2 a3 l4 true) = some (r1, r2, r3, r4) := by rw [if_neg (show ¬ (false = true) by decide)] at H; exact H
      clear H
      have H := H1
      clear H1
      have H' := Aside0.mk H
      clear H
      go_wp2_with (first | ((with_reducible refine gate_callee (f := 39) rfl ?_); refine goesL_ (some 27) rfl rfl Try.func39 (by kernel_rfl) rfl #[.int .i64 a1] rfl (by (try simp only [List.map_toArray, List.map_cons, List.map_nil]) <;> rfl) ?_; (with_reducible refine (buffer_size.calls a1 false _ A12.out).mono ?_); rintro e w' ⟨rfl, ⟨nd, rfl⟩⟩; refine ⟨_, rfl, ?_⟩))
      go_meet
      case rel => exact ⟨_, (true), (by first | rfl | (simp; done) | (simp [*]; done)), H', ⟨by have := HJ5.out; first | omega | exact Nat.le_refl _⟩, bf_ BK120, ⟨by repeat (first | (with_reducible first | exact HB.out | apply below_alloc | apply pw_below_drewN | apply below_drew1 | refine below_set ?_ GE120.out) | exact HB.out)⟩⟩
    case rest =>
     clear HC11
     try clear c1
     try clear p2
     try clear c3
     try clear c4
     try clear c8
     try clear c8b0
     try clear c8b1
     try clear c9
     try clear c13
     try clear c14
     try clear hcz10_0
     try clear hcz10_1
     try clear hcz10_2
     try clear hfz10_0
     try clear hfz10_1
     try clear hfz10_2
     try clear p2
     obtain ⟨kq, x25_10, rfl, HA, HJ10, BK120, HB⟩ := hcut
     cases kq with
     | zero => exact absurd HA.out (by simp [buffer_Decode.j1])
     | succ kj10 =>
      have H := HA.out
      clear HA
      simp only [buffer_Decode.j1] at H
      by_cases c15 : x25_10 = true
      ·
       subst c15
       have H1 : (some (0, 0, ([] : List (S43)), 6)) = some (r1, r2, r3, r4) := by rw [if_pos rfl] at H; exact H
       clear H
       have H := H1
       clear H1
       simp only [Option.some.injEq, Prod.mk.injEq] at H
       obtain ⟨rfl, rfl, rfl, rfl⟩ := H
       have hcz16_0 : wc.cell? ⟨gb120, 0, none⟩ = some (.int .i64 0) := (blk_cell BK120.out 0).trans rfl
       have hcz16_1 : wc.cell? ⟨gb120, 1, none⟩ = some (.int .i64 0) := (blk_cell BK120.out 1).trans rfl
       have hcz16_2 : wc.cell? ⟨gb120, 2, none⟩ = some (.slice none 0 0) := (blk_cell BK120.out 2).trans rfl
       have hfz16_0 := blk_frozen BK120.out 0
       have hfz16_1 := blk_frozen BK120.out 1
       have hfz16_2 := blk_frozen BK120.out 2
       go_wp2
       refine bodyPost_ret (results_ct rfl _ _ gb120 27 #[.int .i64 0, .int .i64 0, .slice none 0 0] (0, 0) _ rfl (by (with_reducible repeat (first | refine blk_drewN ?_ _ | refine blk_drew ?_ | refine blk_alloc ?_ _)); refine blk_put (cs := #[.int .i64 0, .int .i64 0, .slice none 0 0]) ?_ 2 _ rfl; (with_reducible repeat (first | refine blk_drewN ?_ _ | refine blk_drew ?_ | refine blk_alloc ?_ _)); refine blk_put (cs := #[.int .i64 0, .int .i64 0, .slice none 0 0]) ?_ 1 _ rfl; (with_reducible repeat (first | refine blk_drewN ?_ _ | refine blk_drew ?_ | refine blk_alloc ?_ _)); refine blk_put (cs := #[.int .i64 0, .int .i64 0, .slice none 0 0]) ?_ 0 _ rfl; (with_reducible repeat (first | refine blk_drewN ?_ _ | refine blk_drew ?_ | refine blk_alloc ?_ _)); exact BK120.out) Try.underlying27 rfl (by kernel_rfl)) rfl ?_
       exact ⟨_, by first | rfl | (simp [errW_none, errW_some] <;> rfl) | (simp [*, errW_none, errW_some] <;> rfl), by first | exact Kd.R_nil _ _ _ _ _ | exact Kd.N_nil _ _ _ _ _ | exact Kd.V_nil _ _ _ _ _ | exact Kd.Q_nil _ _ _ _ _ | exact Kd.S_nil _ _ _ _ _, by repeat (first | (with_reducible first | exact HB.out | apply below_alloc | apply pw_below_drewN | apply below_drew1 | refine below_set ?_ GE120.out) | exact HB.out)⟩
      ·
       replace c15 := Bool.eq_false_iff.mpr c15
       subst c15
       have H1 : (if a3 < (wrap64 (4 * a1)) then (buffer_Decode.j2 kj10 a0 a1 a2 a3 l4 true) else (buffer_Decode.j2 kj10 a0 a1 a2 a3 l4 ((Int.tmod a3 4) != 0))) = some (r1, r2, r3, r4) := by rw [if_neg (show ¬ (false = true) by decide)] at H; exact H
       clear H
       have H := H1
       clear H1
       have HC17 := Aside0.mk H
       clear H
       go_upto_region 5 with (fail)
       go_cut [35] (fun v35 wc => ∃ (kq : Nat) (x35_16 : Bool), v35 = .bool x35_16 ∧ Aside0 (buffer_Decode.j2 kq a0 a1 a2 a3 l4 x35_16 = some (r1, r2, r3, r4)) ∧ Aside0 (kq ≤ kj10) ∧ Aside0 (wc.heap[gb120]? = some (.cells #[.int .i64 0, .int .i64 0, (.slice none 0 0)] 27 (0, 0))) ∧ Aside0 (Below w.heap.size w wc))
       case first =>
        have H := HC17.out
        clear HC17
        by_cases c18 : a3 < (wrap64 (4 * a1))
        ·
         rw [if_pos c18] at H
         have c18b0 : decide (a3 < (wrap64 (4 * a1))) = true := decide_eq_true c18
         clear c18
         (first | rw [c18b0] | (simp only [i64_w, i32_w]; rw [c18b0]) | skip)
         have H' := Aside0.mk H
         clear H
         go_wp2
         go_meet
         case rel => exact ⟨_, (true), (by first | rfl | (simp; done) | (simp [*]; done)), H', ⟨by have := HJ5.out; have := HJ10.out; first | omega | exact Nat.le_refl _⟩, bf_ BK120, ⟨by repeat (first | (with_reducible first | exact HB.out | apply below_alloc | apply pw_below_drewN | apply below_drew1 | refine below_set ?_ GE120.out) | exact HB.out)⟩⟩
        ·
         rw [if_neg c18] at H
         have c18b0 : decide (a3 < (wrap64 (4 * a1))) = false := decide_eq_false c18
         clear c18
         (first | rw [c18b0] | (simp only [i64_w, i32_w]; rw [c18b0]) | skip)
         have H' := Aside0.mk H
         clear H
         go_wp2
         go_meet
         case rel => exact ⟨_, (((Int.tmod a3 4) != 0)), (by first | rfl | (simp; done) | (simp [*]; done)), H', ⟨by have := HJ5.out; have := HJ10.out; first | omega | exact Nat.le_refl _⟩, bf_ BK120, ⟨by repeat (first | (with_reducible first | exact HB.out | apply below_alloc | apply pw_below_drewN | apply below_drew1 | refine below_set ?_ GE120.out) | exact HB.out)⟩⟩
       case rest =>
        clear HC17
        try clear c1
        try clear p2
        try clear c3
        try clear c4
        try clear p6
        try clear c8
        try clear c8b0
        try clear c8b1
        try clear c9
        try clear c13
        try clear c14
        try clear c15
        try clear c18
        try clear c18b0
        try clear hcz10_0
        try clear hcz10_1
        try clear hcz10_2
        try clear hcz16_0
        try clear hcz16_1
        try clear hcz16_2
        try clear hfz10_0
        try clear hfz10_1
        try clear hfz10_2
        try clear hfz16_0
        try clear hfz16_1
        try clear hfz16_2
        try clear p2
        obtain ⟨kq, x35_16, rfl, HA, HJ16, BK120, HB⟩ := hcut
        cases kq with
        | zero => exact absurd HA.out (by simp [buffer_Decode.j2])
        | succ kj16 =>
         have H := HA.out
         clear HA
         simp only [buffer_Decode.j2] at H
         by_cases c19 : x35_16 = true
         ·
          subst c19
          have H1 : (some (0, 0, ([] : List (S43)), 15)) = some (r1, r2, r3, r4) := by rw [if_pos rfl] at H; exact H
          clear H
          have H := H1
          clear H1
          simp only [Option.some.injEq, Prod.mk.injEq] at H
          obtain ⟨rfl, rfl, rfl, rfl⟩ := H
          have hcz20_0 : wc.cell? ⟨gb120, 0, none⟩ = some (.int .i64 0) := (blk_cell BK120.out 0).trans rfl
          have hcz20_1 : wc.cell? ⟨gb120, 1, none⟩ = some (.int .i64 0) := (blk_cell BK120.out 1).trans rfl
          have hcz20_2 : wc.cell? ⟨gb120, 2, none⟩ = some (.slice none 0 0) := (blk_cell BK120.out 2).trans rfl
          have hfz20_0 := blk_frozen BK120.out 0
          have hfz20_1 := blk_frozen BK120.out 1
          have hfz20_2 := blk_frozen BK120.out 2
          go_wp2
          refine bodyPost_ret (results_ct rfl _ _ gb120 27 #[.int .i64 0, .int .i64 0, .slice none 0 0] (0, 0) _ rfl (by (with_reducible repeat (first | refine blk_drewN ?_ _ | refine blk_drew ?_ | refine blk_alloc ?_ _)); refine blk_put (cs := #[.int .i64 0, .int .i64 0, .slice none 0 0]) ?_ 2 _ rfl; (with_reducible repeat (first | refine blk_drewN ?_ _ | refine blk_drew ?_ | refine blk_alloc ?_ _)); refine blk_put (cs := #[.int .i64 0, .int .i64 0, .slice none 0 0]) ?_ 1 _ rfl; (with_reducible repeat (first | refine blk_drewN ?_ _ | refine blk_drew ?_ | refine blk_alloc ?_ _)); refine blk_put (cs := #[.int .i64 0, .int .i64 0, .slice none 0 0]) ?_ 0 _ rfl; (with_reducible repeat (first | refine blk_drewN ?_ _ | refine blk_drew ?_ | refine blk_alloc ?_ _)); exact BK120.out) Try.underlying27 rfl (by kernel_rfl)) rfl ?_
          exact ⟨_, by first | rfl | (simp [errW_none, errW_some] <;> rfl) | (simp [*, errW_none, errW_some] <;> rfl), by first | exact Kd.R_nil _ _ _ _ _ | exact Kd.N_nil _ _ _ _ _ | exact Kd.V_nil _ _ _ _ _ | exact Kd.Q_nil _ _ _ _ _ | exact Kd.S_nil _ _ _ _ _, by repeat (first | (with_reducible first | exact HB.out | apply below_alloc | apply pw_below_drewN | apply below_drew1 | refine below_set ?_ GE120.out) | exact HB.out)⟩
         ·
          replace c19 := Bool.eq_false_iff.mpr c19
          subst c19
          have H1 : (if a2 = 0 then (none) else (if a3 > (wrap64 ((l4.length : Int) / a2)) then (some (0, 0, ([] : List (S43)), 4)) else (buffer_Decode.l0 kj16 a0 a1 a3 l4 a2 0 a1 a2 ([] : List (S43))))) = some (r1, r2, r3, r4) := by rw [if_neg (show ¬ (false = true) by decide)] at H; exact H
          clear H
          have H := H1
          clear H1
          by_cases c21 : a2 = 0
          ·
           rw [if_pos c21] at H
           exact absurd H (by simp)
          ·
           rw [if_neg c21] at H
           have c21b0 : (a2 == 0) = false := beq_eq_false_iff_ne.mpr c21
           have c21b1 : (a2 != 0) = true := bne_iff_ne.mpr c21
           by_cases c22 : a3 > (wrap64 ((l4.length : Int) / a2))
           ·
            rw [if_pos c22] at H
            have c22b0 : decide ((wrap64 ((l4.length : Int) / a2)) < a3) = true := decide_eq_true c22
            clear c22
            simp only [Option.some.injEq, Prod.mk.injEq] at H
            obtain ⟨rfl, rfl, rfl, rfl⟩ := H
            have hcz23_0 : wc.cell? ⟨gb120, 0, none⟩ = some (.int .i64 0) := (blk_cell BK120.out 0).trans rfl
            have hcz23_1 : wc.cell? ⟨gb120, 1, none⟩ = some (.int .i64 0) := (blk_cell BK120.out 1).trans rfl
            have hcz23_2 : wc.cell? ⟨gb120, 2, none⟩ = some (.slice none 0 0) := (blk_cell BK120.out 2).trans rfl
            have hfz23_0 := blk_frozen BK120.out 0
            have hfz23_1 := blk_frozen BK120.out 1
            have hfz23_2 := blk_frozen BK120.out 2
            go_wp2
            refine bodyPost_ret (results_ct rfl _ _ gb120 27 #[.int .i64 0, .int .i64 0, .slice none 0 0] (0, 0) _ rfl (by (with_reducible repeat (first | refine blk_drewN ?_ _ | refine blk_drew ?_ | refine blk_alloc ?_ _)); refine blk_put (cs := #[.int .i64 0, .int .i64 0, .slice none 0 0]) ?_ 2 _ rfl; (with_reducible repeat (first | refine blk_drewN ?_ _ | refine blk_drew ?_ | refine blk_alloc ?_ _)); refine blk_put (cs := #[.int .i64 0, .int .i64 0, .slice none 0 0]) ?_ 1 _ rfl; (with_reducible repeat (first | refine blk_drewN ?_ _ | refine blk_drew ?_ | refine blk_alloc ?_ _)); refine blk_put (cs := #[.int .i64 0, .int .i64 0, .slice none 0 0]) ?_ 0 _ rfl; (with_reducible repeat (first | refine blk_drewN ?_ _ | refine blk_drew ?_ | refine blk_alloc ?_ _)); exact BK120.out) Try.underlying27 rfl (by kernel_rfl)) rfl ?_
            exact ⟨_, by first | rfl | (simp [errW_none, errW_some] <;> rfl) | (simp [*, errW_none, errW_some] <;> rfl), by first | exact Kd.R_nil _ _ _ _ _ | exact Kd.N_nil _ _ _ _ _ | exact Kd.V_nil _ _ _ _ _ | exact Kd.Q_nil _ _ _ _ _ | exact Kd.S_nil _ _ _ _ _, by repeat (first | (with_reducible first | exact HB.out | apply below_alloc | apply pw_below_drewN | apply below_drew1 | refine below_set ?_ GE120.out) | exact HB.out)⟩
           ·
            rw [if_neg c22] at H
            have c22b0 : decide ((wrap64 ((l4.length : Int) / a2)) < a3) = false := decide_eq_false c22
            clear c22
            have H' := Aside0.mk H
            clear H
            go_wp2_with (first | ((with_reducible refine gate_dst (N := 12) rfl ?_); refine box_event ?hg (N := 12) ?hd (cs := #[.int .i64 0, .int .i64 0, .slice none 0 0]) (t := 27) ?hr ?_; (case hd => rfl); (case hg => rfl); (case hr => first | (go_simp; done) | (go_simp; rfl)); intro gb123 hg w24 hbox hb; have n0_ := bb_ BK120 hb; have n1_ := hb_ HB hb; have n2_ := Aside0.mk (hbox); have n3_ := Aside0.mk ((by rw [hg]; exact (below_size (hq_ HB)) : w.heap.size ≤ gb123)); have n4_ := Aside0.mk ((by rw [hg]; exact (below_size (hq_ HB)) : w.heap.size ≤ gb123)); have n5_ := Aside0.mk ((by rw [hg]; exact Nat.ne_of_lt (blk_lt (g := gb120) (o := .cells #[.int .i64 0, .int .i64 0, .slice none 0 0] 27 (0, 0)) (bq_ BK120)) : gb120 ≠ gb123)); have n6_ := Aside0.mk ((by rw [hg]; exact Nat.ne_of_gt (blk_lt (g := gb120) (o := .cells #[.int .i64 0, .int .i64 0, .slice none 0 0] 27 (0, 0)) (bq_ BK120)) : gb123 ≠ gb120)); clear BK120; clear HB; have BK120 := n0_; have HB := n1_; have BK123 := n2_; have GW123 := n3_; have GE123 := n4_; have NB120_123 := n5_; have NB123_120 := n6_; clear n0_ n1_ n2_ n3_ n4_ n5_ n6_; clear hb hbox hg; have hnb25 := NB123_120.out; have hnc25 := NB120_123.out; have hcz26_0 : w24.cell? ⟨gb123, 0, none⟩ = some (.int .i64 0) := (blk_cell BK123.out 0).trans rfl; have hcz26_1 : w24.cell? ⟨gb123, 1, none⟩ = some (.int .i64 0) := (blk_cell BK123.out 1).trans rfl; have hcz26_2 : w24.cell? ⟨gb123, 2, none⟩ = some (.slice none 0 0) := (blk_cell BK123.out 2).trans rfl; have hfz26_0 := blk_frozen BK123.out 0; have hfz26_1 := blk_frozen BK123.out 1; have hfz26_2 := blk_frozen BK123.out 2))
            go_loopg [58] kj16 (fun kq v58 w' => ∃ (x58_4 : Int) (x124002_4 : List (S43)) (u124002 : Value), v58 = .int .i64 x58_4 ∧ Aside0 (buffer_Decode.l0 kq a0 a1 a3 l4 a2 x58_4 a1 a2 x124002_4 = some (r1, r2, r3, r4)) ∧ Aside0 (kq ≤ kj16) ∧ Aside0 (Kd.R k43 43 w' w.heap.size (fun _ => True) u124002 x124002_4) ∧ Aside0 (w'.heap[gb120]? = some (.cells #[.int .i64 0, .int .i64 0, (.slice none 0 0)] 27 (0, 0))) ∧ Aside0 (w'.heap[gb123]? = some (.cells #[.int .i64 a1, .int .i64 a2, u124002] 27 (0, 0))) ∧ Aside0 (Below w.heap.size w w'))
            case atStart => exact ⟨(0), (([] : List (S43))), (.slice none 0 0), (by first | rfl | (simp; done) | (simp [*]; done)), H', ⟨Nat.le_refl _⟩, ⟨by first | exact Kd.R_nil _ _ _ _ _ | exact Kd.N_nil _ _ _ _ _ | exact Kd.V_nil _ _ _ _ _ | exact Kd.Q_nil _ _ _ _ _ | exact Kd.S_nil _ _ _ _ _⟩, bf_ BK120, ⟨by (with_reducible repeat (first | refine blk_drewN ?_ _ | refine blk_drew ?_ | refine blk_alloc ?_ _)); refine blk_put (cs := #[.int .i64 a1, .int .i64 a2, .slice none 0 0]) ?_ 2 _ rfl; (with_reducible repeat (first | refine blk_drewN ?_ _ | refine blk_drew ?_ | refine blk_alloc ?_ _)); refine blk_put (cs := #[.int .i64 a1, .int .i64 0, .slice none 0 0]) ?_ 1 _ rfl; (with_reducible repeat (first | refine blk_drewN ?_ _ | refine blk_drew ?_ | refine blk_alloc ?_ _)); refine blk_put (cs := #[.int .i64 0, .int .i64 0, .slice none 0 0]) ?_ 0 _ rfl; (with_reducible repeat (first | refine blk_drewN ?_ _ | refine blk_drew ?_ | refine blk_alloc ?_ _)); exact BK123.out⟩, ⟨by repeat (first | (with_reducible first | exact HB.out | apply below_alloc | apply pw_below_drewN | apply below_drew1 | refine below_set ?_ GE120.out | refine below_set ?_ GE123.out) | exact HB.out)⟩⟩
            case round =>
             clear H'
             try clear c1
             try clear c2
             try clear p2
             try clear c3
             try clear c4
             try clear p6
             try clear c8
             try clear c8b0
             try clear c8b1
             try clear c9
             try clear c13
             try clear c14
             try clear c15
             try clear c18
             try clear c18b0
             try clear c19
             try clear c21
             try clear c21b0
             try clear c21b1
             try clear c22
             try clear c22b0
             try clear c25
             try clear hcz10_0
             try clear hcz10_1
             try clear hcz10_2
             try clear hcz16_0
             try clear hcz16_1
             try clear hcz16_2
             try clear hcz20_0
             try clear hcz20_1
             try clear hcz20_2
             try clear hcz23_0
             try clear hcz23_1
             try clear hcz23_2
             try clear hcz26_0
             try clear hcz26_1
             try clear hcz26_2
             try clear hfz10_0
             try clear hfz10_1
             try clear hfz10_2
             try clear hfz16_0
             try clear hfz16_1
             try clear hfz16_2
             try clear hfz20_0
             try clear hfz20_1
             try clear hfz20_2
             try clear hfz23_0
             try clear hfz23_1
             try clear hfz23_2
             try clear hfz26_0
             try clear hfz26_1
             try clear hfz26_2
             try clear p2
             try clear p6
             obtain ⟨x58_4, x124002_4, u124002, rfl, HA, HK4, HO_124002, BK120, BK123, HB⟩ := hrel
             cases gk with
             | zero => exact absurd HA.out (by simp [buffer_Decode.l0])
             | succ k4 =>
              have H := HA.out
              clear HA
              simp only [buffer_Decode.l0] at H
              by_cases c27 : x58_4 < a2
              ·
               rw [if_pos c27] at H
               have c27b0 : decide (x58_4 < a2) = true := decide_eq_true c27
               clear c27
               have H' := Aside0.mk H
               clear H
               go_wp2
               go_loopg [62] k4 (fun kq v62 w' => ∃ (x62_5 : Int) (x124002_5 : List (S43)) (u124002 : Value), v62 = .int .i64 x62_5 ∧ Aside0 (buffer_Decode.l1 kq a0 a1 a3 l4 x58_4 a2 x58_4 a1 x62_5 a1 a2 x124002_5 = some (r1, r2, r3, r4)) ∧ Aside0 (kq ≤ k4) ∧ Aside0 (Kd.R k43 43 w' w.heap.size (fun _ => True) u124002 x124002_5) ∧ Aside0 (w'.heap[gb120]? = some (.cells #[.int .i64 0, .int .i64 0, (.slice none 0 0)] 27 (0, 0))) ∧ Aside0 (w'.heap[gb123]? = some (.cells #[.int .i64 a1, .int .i64 a2, u124002] 27 (0, 0))) ∧ Aside0 (Below w.heap.size w w'))
               case atStart => exact ⟨(0), (x124002_4), (u124002), (by first | rfl | (simp; done) | (simp [*]; done)), H', ⟨Nat.le_refl _⟩, ⟨by (with_reducible repeat (first | apply Kd.R_alloc | apply Kd.R_drewN | apply Kd.R_drew)); exact HO_124002.out⟩, bf_ BK120, bf_ BK123, ⟨by repeat (first | (with_reducible first | exact HB.out | apply below_alloc | apply pw_below_drewN | apply below_drew1 | refine below_set ?_ GE120.out | refine below_set ?_ GE123.out) | exact HB.out)⟩⟩
               case round =>
                clear H'
                try clear c1
                try clear c2
                try clear p2
                try clear c3
                try clear c4
                try clear p6
                try clear c8
                try clear c8b0
                try clear c8b1
                try clear c9
                try clear c13
                try clear c14
                try clear c15
                try clear c18
                try clear c18b0
                try clear c19
                try clear c21
                try clear c21b0
                try clear c21b1
                try clear c22
                try clear c22b0
                try clear c25
                try clear c27
                try clear c27b0
                try clear hcz10_0
                try clear hcz10_1
                try clear hcz10_2
                try clear hcz16_0
                try clear hcz16_1
                try clear hcz16_2
                try clear hcz20_0
                try clear hcz20_1
                try clear hcz20_2
                try clear hcz23_0
                try clear hcz23_1
                try clear hcz23_2
                try clear hcz26_0
                try clear hcz26_1
                try clear hcz26_2
                try clear hfz10_0
                try clear hfz10_1
                try clear hfz10_2
                try clear hfz16_0
                try clear hfz16_1
                try clear hfz16_2
                try clear hfz20_0
                try clear hfz20_1
                try clear hfz20_2
                try clear hfz23_0
                try clear hfz23_1
                try clear hfz23_2
                try clear hfz26_0
                try clear hfz26_1
                try clear hfz26_2
                try clear p2
                try clear p6
                obtain ⟨x62_5, x124002_5, u124002, rfl, HA, HK5, HO_124002, BK120, BK123, HB⟩ := hrel
                cases gk with
                | zero => exact absurd HA.out (by simp [buffer_Decode.l1])
                | succ k5 =>
                 have H := HA.out
                 clear HA
                 simp only [buffer_Decode.l1] at H
                 by_cases c28 : x62_5 < a1
                 ·
                  rw [if_pos c28] at H
                  have c28b0 : decide (x62_5 < a1) = true := decide_eq_true c28
                  clear c28
                  obtain ⟨ji29, hji29⟩ : ∃ j_ : Int, (wrap64 ((wrap64 (x58_4 * a3)) + (wrap64 (4 * x62_5)))) = j_ := ⟨_, rfl⟩
                  replace H : (if 0 ≤ (ji29) then (if (ji29) ≤ (l4.length : Int) then (if 0 < ((l4.drop ((ji29) : Int).toNat).length : Int) then (if 1 < ((l4.drop ((ji29) : Int).toNat).length : Int) then (if 2 < ((l4.drop ((ji29) : Int).toNat).length : Int) then (if 3 < ((l4.drop ((ji29) : Int).toNat).length : Int) then (if a0 = 2 then ((pixel_Clamp.f (rd (l4.drop ((ji29) : Int).toNat) 2) (rd (l4.drop ((ji29) : Int).toNat) 1) (rd (l4.drop ((ji29) : Int).toNat) 0) 255).bind fun bt130 => (if x124002_5.length < 35184372088832 then (buffer_Decode.l1 k5 a0 a1 a3 l4 x58_4 a2 x58_4 a1 (wrap64 (x62_5 + 1)) a1 a2 (x124002_5 ++ [(⟨bt130.1, bt130.2.1, bt130.2.2.1, bt130.2.2.2⟩ : S43)])) else (none))) else ((pixel_Clamp.f (rd (l4.drop ((ji29) : Int).toNat) 2) (rd (l4.drop ((ji29) : Int).toNat) 1) (rd (l4.drop ((ji29) : Int).toNat) 0) (rd (l4.drop ((ji29) : Int).toNat) 3)).bind fun bt137 => (if x124002_5.length < 35184372088832 then (buffer_Decode.l1 k5 a0 a1 a3 l4 x58_4 a2 x58_4 a1 (wrap64 (x62_5 + 1)) a1 a2 (x124002_5 ++ [(⟨bt137.1, bt137.2.1, bt137.2.2.1, bt137.2.2.2⟩ : S43)])) else (none)))) else (none)) else (none)) else (none)) else (none)) else (none)) else (none)) = some (r1, r2, r3, r4) := by first | (rw [hji29] at H; exact H) | (simp only [hji29] at H ⊢; exact H)
                  have hji29w : (IntKind.i64.wrap ((wrap64 (x58_4 * a3)) + (wrap64 (4 * x62_5)))) = ji29 := (i64_w _).trans hji29
                  by_cases c30 : 0 ≤ (ji29)
                  ·
                   rw [if_pos c30] at H
                   have c30b0 := eq_true c30
                   have c30b1 : decide (0 ≤ (ji29)) = true := decide_eq_true c30
                   clear c30
                   by_cases c31 : (ji29) ≤ (l4.length : Int)
                   ·
                    rw [if_pos c31] at H
                    have c31b0 := eq_true c31
                    have c31b1 : decide ((ji29) ≤ (l4.length : Int)) = true := decide_eq_true c31
                    clear c31
                    by_cases c32 : 0 < ((l4.drop ((ji29) : Int).toNat).length : Int)
                    ·
                     rw [if_pos c32] at H
                     have c32b0 : decide (0 < ((l4.drop ((ji29) : Int).toNat).length : Int)) = true := decide_eq_true c32
                     have c32b1 : decide (0 < (l4.drop ((ji29) : Int).toNat).length) = true := decide_eq_true (by omega)
                     clear c32
                     by_cases c33 : 1 < ((l4.drop ((ji29) : Int).toNat).length : Int)
                     ·
                      rw [if_pos c33] at H
                      have c33b0 : decide (1 < ((l4.drop ((ji29) : Int).toNat).length : Int)) = true := decide_eq_true c33
                      have c33b1 : decide (1 < (l4.drop ((ji29) : Int).toNat).length) = true := decide_eq_true (by omega)
                      clear c33
                      by_cases c34 : 2 < ((l4.drop ((ji29) : Int).toNat).length : Int)
                      ·
                       rw [if_pos c34] at H
                       have c34b0 : decide (2 < ((l4.drop ((ji29) : Int).toNat).length : Int)) = true := decide_eq_true c34
                       have c34b1 : decide (2 < (l4.drop ((ji29) : Int).toNat).length) = true := decide_eq_true (by omega)
                       clear c34
                       by_cases c35 : 3 < ((l4.drop ((ji29) : Int).toNat).length : Int)
                       ·
                        rw [if_pos c35] at H
                        have c35b0 : decide (3 < ((l4.drop ((ji29) : Int).toNat).length : Int)) = true := decide_eq_true c35
                        have c35b1 : decide (3 < (l4.drop ((ji29) : Int).toNat).length) = true := decide_eq_true (by omega)
                        clear c35
                        by_cases c36 : a0 = 2
                        ·
                         rw [if_pos c36] at H
                         have c36b0 : (a0 == 2) = true := beq_iff_eq.mpr c36
                         have c36b1 : (a0 != 2) = false := bne_eq_false_iff_eq.mpr c36
                         clear c36
                         replace H := Option.bind_eq_some_iff.mp H
                         obtain ⟨⟨t130, t131, t132, t133⟩, A370, H⟩ := H
                         try dsimp only at H
                         have A37 := Aside0.mk A370
                         clear A370
                         by_cases c38 : x124002_5.length < 35184372088832
                         ·
                          rw [if_pos c38] at H
                          have LMc38 := Aside0.mk c38
                          clear c38
                          obtain ⟨y134, hy134⟩ : ∃ y_ : List (S43), y_ = (x124002_5 ++ [(⟨t130, t131, t132, t133⟩ : S43)]) := ⟨_, rfl⟩
                          replace H : (buffer_Decode.l1 k5 a0 a1 a3 l4 x58_4 a2 x58_4 a1 (wrap64 (x62_5 + 1)) a1 a2 y134) = some (r1, r2, r3, r4) := by first | (rw [hy134]; with_reducible exact H) | (have H2_ := (Option.bind_some _ _).symm.trans H; rw [hy134]; with_reducible exact H2_) | (have H2_ := (Option.bind_some _ _).symm.trans H; with_reducible exact H2_) | with_reducible exact H | (rw [hy134]; exact H) | exact H
                          have Ny134 := Aside0.mk hy134
                          clear hy134
                          have H' := Aside0.mk H
                          clear H
                          obtain ⟨i039, hi039, _, hsz39, _⟩ := info_parts info5
                          obtain ⟨A39, hcut39, hA39, hC39⟩ := print_drop_of (P := Try.prog) (Value.int .u8) 0 23 5 .i64 Try.underlying23 hi039 hsz39 A4 c4 l4 (ji29) (of_decide_eq_true (by first | (with_reducible assumption) | assumption)) (of_decide_eq_true (by first | (with_reducible assumption) | assumption)) HC4.out
                          have HR124 := Aside0.mk (Kd.C_of_reads (h1 := fun _ => rfl) (hA39 _ (Kd.reads_of_C HR4.out)))
                          have HC124 := Aside0.mk hC39
                          clear hA39 hC39 hi039 hsz39
                          try go_wp2
                          replace HO_124002 := Aside0.mk (Kd.R_drew HO_124002.out)
                          replace BK120 := Aside0.mk (blk_drew BK120.out)
                          replace BK123 := Aside0.mk (blk_drew BK123.out)
                          replace HB := Aside0.mk (below_drew1 HB.out)
                          have p125 : 0 ≤ (0 : Int) := (by omega)
                          have q125 : 0 < ((l4.drop ((ji29) : Int).toNat).length : Int) := of_decide_eq_true (by first | (with_reducible assumption) | assumption)
                          obtain ⟨ad125, e125, hx125_0⟩ := Kd.at_int HR124.out 0 p125 q125
                          have hw125_0 := hx125_0
                          (try rw [show ((0 : Int)).toNat = 0 from rfl] at hw125_0)
                          (try rw [show 0 * 1 = 0 from rfl] at hw125_0)
                          (try rw [Addr.add_zero'] at hw125_0)
                          cases e125
                          have qi125 : (0 < (l4.drop ((ji29) : Int).toNat).length) = True := eq_true (by omega)
                          have qid_qi125 := qi125
                          (try simp only [List.length_drop] at qid_qi125)
                          have qie_qi125 : ((0 : Int) < ((l4.length - ((ji29) : Int).toNat : Nat) : Int)) = True := eq_true (by have h_ := of_eq_true qid_qi125; omega)
                          (try rw [show ((0 : Int)).toNat = 0 from rfl] at hx125_0)
                          (try rw [Addr.add_zero'] at hx125_0)
                          replace hx125_0 := (HB.out.cell (World.block_lt_of_cell? w _ hx125_0)).trans hx125_0
                          replace p125 := eq_true p125
                          replace q125 := eq_true q125
                          have p126 : 0 ≤ (1 : Int) := (by omega)
                          have q126 : 1 < ((l4.drop ((ji29) : Int).toNat).length : Int) := of_decide_eq_true (by first | (with_reducible assumption) | assumption)
                          obtain ⟨ad126, e126, hx126_0⟩ := Kd.at_int HR124.out 1 p126 q126
                          have hw126_0 := hx126_0
                          (try rw [show ((1 : Int)).toNat = 1 from rfl] at hw126_0)
                          (try rw [show 1 * 1 = 1 from rfl] at hw126_0)
                          (try simp only [Nat.reduceMul, Nat.reduceEqDiff, Go.Addr.add, ↓reduceIte] at hw126_0)
                          obtain rfl : ad125 = ad126 := (by injection e126)
                          (try simp only [show (1 : Int).toNat = 1 from rfl, Nat.reduceMul, Nat.reduceEqDiff, Go.Addr.add, ↓reduceIte] at hx126_0)
                          have qi126 : (1 < (l4.drop ((ji29) : Int).toNat).length) = True := eq_true (by omega)
                          have qid_qi126 := qi126
                          (try simp only [List.length_drop] at qid_qi126)
                          have qie_qi126 : ((1 : Int) < ((l4.length - ((ji29) : Int).toNat : Nat) : Int)) = True := eq_true (by have h_ := of_eq_true qid_qi126; omega)
                          (try rw [show ((1 : Int)).toNat = 1 from rfl] at hx126_0)
                          replace hx126_0 := (HB.out.cell (World.block_lt_of_cell? w _ hx126_0)).trans hx126_0
                          replace p126 := eq_true p126
                          replace q126 := eq_true q126
                          have p127 : 0 ≤ (2 : Int) := (by omega)
                          have q127 : 2 < ((l4.drop ((ji29) : Int).toNat).length : Int) := of_decide_eq_true (by first | (with_reducible assumption) | assumption)
                          obtain ⟨ad127, e127, hx127_0⟩ := Kd.at_int HR124.out 2 p127 q127
                          have hw127_0 := hx127_0
                          (try rw [show ((2 : Int)).toNat = 2 from rfl] at hw127_0)
                          (try rw [show 2 * 1 = 2 from rfl] at hw127_0)
                          (try simp only [Nat.reduceMul, Nat.reduceEqDiff, Go.Addr.add, ↓reduceIte] at hw127_0)
                          obtain rfl : ad125 = ad127 := (by injection e127)
                          (try simp only [show (2 : Int).toNat = 2 from rfl, Nat.reduceMul, Nat.reduceEqDiff, Go.Addr.add, ↓reduceIte] at hx127_0)
                          have qi127 : (2 < (l4.drop ((ji29) : Int).toNat).length) = True := eq_true (by omega)
                          have qid_qi127 := qi127
                          (try simp only [List.length_drop] at qid_qi127)
                          have qie_qi127 : ((2 : Int) < ((l4.length - ((ji29) : Int).toNat : Nat) : Int)) = True := eq_true (by have h_ := of_eq_true qid_qi127; omega)
                          (try rw [show ((2 : Int)).toNat = 2 from rfl] at hx127_0)
                          replace hx127_0 := (HB.out.cell (World.block_lt_of_cell? w _ hx127_0)).trans hx127_0
                          replace p127 := eq_true p127
                          replace q127 := eq_true q127
                          have p128 : 0 ≤ (3 : Int) := (by omega)
                          have q128 : 3 < ((l4.drop ((ji29) : Int).toNat).length : Int) := of_decide_eq_true (by first | (with_reducible assumption) | assumption)
                          obtain ⟨ad128, e128, hx128_0⟩ := Kd.at_int HR124.out 3 p128 q128
                          have hw128_0 := hx128_0
                          (try rw [show ((3 : Int)).toNat = 3 from rfl] at hw128_0)
                          (try rw [show 3 * 1 = 3 from rfl] at hw128_0)
                          (try simp only [Nat.reduceMul, Nat.reduceEqDiff, Go.Addr.add, ↓reduceIte] at hw128_0)
                          obtain rfl : ad125 = ad128 := (by injection e128)
                          (try simp only [show (3 : Int).toNat = 3 from rfl, Nat.reduceMul, Nat.reduceEqDiff, Go.Addr.add, ↓reduceIte] at hx128_0)
                          have qi128 : (3 < (l4.drop ((ji29) : Int).toNat).length) = True := eq_true (by omega)
                          have qid_qi128 := qi128
                          (try simp only [List.length_drop] at qid_qi128)
                          have qie_qi128 : ((3 : Int) < ((l4.length - ((ji29) : Int).toNat : Nat) : Int)) = True := eq_true (by have h_ := of_eq_true qid_qi128; omega)
                          (try rw [show ((3 : Int)).toNat = 3 from rfl] at hx128_0)
                          replace hx128_0 := (HB.out.cell (World.block_lt_of_cell? w _ hx128_0)).trans hx128_0
                          replace p128 := eq_true p128
                          replace q128 := eq_true q128
                          refine start_ (n := 15) (S := fun w' => w'.cell? ad125 = some (.int .u8 (rd (l4.drop ((ji29) : Int).toNat) 0)) ∧ w'.cell? ⟨ad125.block, ad125.off + 1, none⟩ = some (.int .u8 (rd (l4.drop ((ji29) : Int).toNat) 1)) ∧ w'.cell? ⟨ad125.block, ad125.off + 2, none⟩ = some (.int .u8 (rd (l4.drop ((ji29) : Int).toNat) 2)) ∧ w'.cell? ⟨ad125.block, ad125.off + 3, none⟩ = some (.int .u8 (rd (l4.drop ((ji29) : Int).toNat) 3))) (ds := []) zq14.q0 (by kernel_rfl) rfl rfl ⟨((HB.out.cell (World.block_lt_of_cell? w _ hw125_0)).trans hw125_0), ((HB.out.cell (World.block_lt_of_cell? w _ hw126_0)).trans hw126_0), ((HB.out.cell (World.block_lt_of_cell? w _ hw127_0)).trans hw127_0), ((HB.out.cell (World.block_lt_of_cell? w _ hw128_0)).trans hw128_0)⟩ (fun hHeld => ?_); refine with_tabW buffer_Decode.tab17 buffer_Decode.bits17 (fun HT_ HW_ => ?_)
                          generalize wr.drew = w40 at HO_124002 BK120 BK123 HB hx125_0 hx126_0 hx127_0 hx128_0 hHeld ⊢
                          refine pv_ 0 73 zq14.q1 HT_ ?_
                          refine pv_ 1 74 zq14.q2 HT_ ?_
                          refine pv_ 3 76 zq14.q3 HT_ ?_
                          refine pv_ 4 77 zq14.q4 HT_ ?_
                          refine pv_ 6 79 zq14.q5 HT_ ?_
                          refine pv_ 7 80 zq14.q6 HT_ ?_
                          refine pv_ 9 82 zq14.q7 HT_ ?_
                          refine pv_ 10 83 zq14.q8 HT_ ?_
                          refine tk4_ 2 75 zq14.q9 HT_ HW_ hHeld ?_
                          refine tk4_ 5 78 zq14.q10 HT_ HW_ hHeld ?_
                          refine tk4_ 8 81 zq14.q11 HT_ HW_ hHeld ?_
                          refine tk4_ 11 84 zq14.q12 HT_ HW_ hHeld ?_
                          refine pv_ 12 85 zq14.q13 HT_ ?_
                          refine one_ (i := 13) (N := some 16) zq14.q14 rfl rfl (one_of HT_.out (by kernel_rfl)) (by decide) (fun K hK => ?_)
                          refine box_step ?hg (N := 16) ?hd (cs := #[.int .u8 0, .int .u8 0, .int .u8 0, .int .u8 0]) (t := 43) ?hr ?_; (case hd => rfl); (case hg => rfl); (case hr => first | (go_simp; done) | (go_simp; rfl))
                          intro gb129 hg w41 hbox hb
                          replace HO_124002 := Aside0.mk (Kd.R_below (Kd.R_elderB (by (with_reducible repeat (first | apply Kd.R_alloc | apply Kd.R_drewN | apply Kd.R_drew)); exact HO_124002.out) gb129 (Nat.le_of_eq hg.symm)) hb)
                          have BK129 := Aside0.mk (hbox)
                          have GW129 := Aside0.mk ((by rw [hg]; exact (below_size (hq_ HB)) : w.heap.size ≤ gb129))
                          have GE129 := Aside0.mk ((by rw [hg]; exact (below_size (hq_ HB)) : w.heap.size ≤ gb129))
                          replace HB := hb_ HB hb
                          have NB120_129 := Aside0.mk ((by rw [hg]; exact Nat.ne_of_lt (blk_lt (g := gb120) (o := .cells #[.int .i64 0, .int .i64 0, .slice none 0 0] 27 (0, 0)) (bq_ BK120)) : gb120 ≠ gb129))
                          have NB129_120 := Aside0.mk ((by rw [hg]; exact Nat.ne_of_gt (blk_lt (g := gb120) (o := .cells #[.int .i64 0, .int .i64 0, .slice none 0 0] 27 (0, 0)) (bq_ BK120)) : gb129 ≠ gb120))
                          replace BK120 := bb_ BK120 hb
                          have NB123_129 := Aside0.mk ((by rw [hg]; exact Nat.ne_of_lt (blk_lt (g := gb123) (o := .cells #[.int .i64 a1, .int .i64 a2, u124002] 27 (0, 0)) (bq_ BK123)) : gb123 ≠ gb129))
                          have NB129_123 := Aside0.mk ((by rw [hg]; exact Nat.ne_of_gt (blk_lt (g := gb123) (o := .cells #[.int .i64 a1, .int .i64 a2, u124002] 27 (0, 0)) (bq_ BK123)) : gb129 ≠ gb123))
                          replace BK123 := bb_ BK123 hb
                          clear hb hbox hg
                          refine hK.out _ _ ⟨((HB.out.cell (World.block_lt_of_cell? w _ hw125_0)).trans hw125_0), ((HB.out.cell (World.block_lt_of_cell? w _ hw126_0)).trans hw126_0), ((HB.out.cell (World.block_lt_of_cell? w _ hw127_0)).trans hw127_0), ((HB.out.cell (World.block_lt_of_cell? w _ hw128_0)).trans hw128_0)⟩ (fun hHeld => ?_)
                          clear hK K
                          refine norm_ (a' := ?_) ?_ ?_
                          rotate_left
                          ·
                           show Act.put _ (some 16) _ = _
                           simp only [Act.put, List.setIfInBounds_toArray, List.set_cons_zero, List.set_cons_succ, i64_w, i32_w]
                           rfl
                          refine one_ (i := 14) (N := none) zq14.q15 rfl rfl (one_of HT_.out (by kernel_rfl)) (by decide) (fun K hK => ?_)
                          have hs42 : w41.cell? ⟨gb129, 0, none⟩ = some (.int .u8 0) := (blk_cell BK129.out 0).trans rfl
                          have hfs42 := blk_frozen BK129.out 0
                          have hns42_0 := NB120_129.out
                          have hns42_1 := NB123_129.out
                          have hms42_0 := NB129_120.out
                          have hms42_1 := NB129_123.out
                          have hs43 : w41.cell? ⟨gb129, 1, none⟩ = some (.int .u8 0) := (blk_cell BK129.out 1).trans rfl
                          have hfs43 := blk_frozen BK129.out 1
                          have hns43_0 := NB120_129.out
                          have hns43_1 := NB123_129.out
                          have hms43_0 := NB129_120.out
                          have hms43_1 := NB129_123.out
                          have hs44 : w41.cell? ⟨gb129, 2, none⟩ = some (.int .u8 0) := (blk_cell BK129.out 2).trans rfl
                          have hfs44 := blk_frozen BK129.out 2
                          have hns44_0 := NB120_129.out
                          have hns44_1 := NB123_129.out
                          have hms44_0 := NB129_120.out
                          have hms44_1 := NB129_123.out
                          have hs45 : w41.cell? ⟨gb129, 3, none⟩ = some (.int .u8 0) := (blk_cell BK129.out 3).trans rfl
                          have hfs45 := blk_frozen BK129.out 3
                          have hns45_0 := NB120_129.out
                          have hns45_1 := NB123_129.out
                          have hms45_0 := NB129_120.out
                          have hms45_1 := NB129_123.out
                          refine skip_ (w1 := ?_) (by rfl) rfl ?_ ?_
                          rotate_left
                          ·
                           go_simp
                           rfl
                          refine hK.out _ _ ⟨((cell_far (p := ⟨gb129, _, none⟩) (by first | exact Nat.ne_of_lt (Nat.lt_of_lt_of_le (by have := World.block_lt_of_cell? _ _ hw125_0; first | rwa [add_block] at this | exact this) GW129.out) | (rw [add_block]; exact Nat.ne_of_lt (Nat.lt_of_lt_of_le (by have := World.block_lt_of_cell? _ _ hw125_0; first | rwa [add_block] at this | exact this) GW129.out)) | (show (Addr.add _ _).block ≠ _; rw [add_block]; exact Nat.ne_of_lt (Nat.lt_of_lt_of_le (by have := World.block_lt_of_cell? _ _ hw125_0; first | rwa [add_block] at this | exact this) GW129.out)) | (dsimp only; exact Nat.ne_of_lt (Nat.lt_of_lt_of_le (by have := World.block_lt_of_cell? _ _ hw125_0; first | rwa [add_block] at this | exact this) GW129.out))) _).trans (((cell_far (p := ⟨gb129, _, none⟩) (by first | exact Nat.ne_of_lt (Nat.lt_of_lt_of_le (by have := World.block_lt_of_cell? _ _ hw125_0; first | rwa [add_block] at this | exact this) GW129.out) | (rw [add_block]; exact Nat.ne_of_lt (Nat.lt_of_lt_of_le (by have := World.block_lt_of_cell? _ _ hw125_0; first | rwa [add_block] at this | exact this) GW129.out)) | (show (Addr.add _ _).block ≠ _; rw [add_block]; exact Nat.ne_of_lt (Nat.lt_of_lt_of_le (by have := World.block_lt_of_cell? _ _ hw125_0; first | rwa [add_block] at this | exact this) GW129.out)) | (dsimp only; exact Nat.ne_of_lt (Nat.lt_of_lt_of_le (by have := World.block_lt_of_cell? _ _ hw125_0; first | rwa [add_block] at this | exact this) GW129.out))) _).trans (((cell_far (p := ⟨gb129, _, none⟩) (by first | exact Nat.ne_of_lt (Nat.lt_of_lt_of_le (by have := World.block_lt_of_cell? _ _ hw125_0; first | rwa [add_block] at this | exact this) GW129.out) | (rw [add_block]; exact Nat.ne_of_lt (Nat.lt_of_lt_of_le (by have := World.block_lt_of_cell? _ _ hw125_0; first | rwa [add_block] at this | exact this) GW129.out)) | (show (Addr.add _ _).block ≠ _; rw [add_block]; exact Nat.ne_of_lt (Nat.lt_of_lt_of_le (by have := World.block_lt_of_cell? _ _ hw125_0; first | rwa [add_block] at this | exact this) GW129.out)) | (dsimp only; exact Nat.ne_of_lt (Nat.lt_of_lt_of_le (by have := World.block_lt_of_cell? _ _ hw125_0; first | rwa [add_block] at this | exact this) GW129.out))) _).trans (((cell_far (p := ⟨gb129, _, none⟩) (by first | exact Nat.ne_of_lt (Nat.lt_of_lt_of_le (by have := World.block_lt_of_cell? _ _ hw125_0; first | rwa [add_block] at this | exact this) GW129.out) | (rw [add_block]; exact Nat.ne_of_lt (Nat.lt_of_lt_of_le (by have := World.block_lt_of_cell? _ _ hw125_0; first | rwa [add_block] at this | exact this) GW129.out)) | (show (Addr.add _ _).block ≠ _; rw [add_block]; exact Nat.ne_of_lt (Nat.lt_of_lt_of_le (by have := World.block_lt_of_cell? _ _ hw125_0; first | rwa [add_block] at this | exact this) GW129.out)) | (dsimp only; exact Nat.ne_of_lt (Nat.lt_of_lt_of_le (by have := World.block_lt_of_cell? _ _ hw125_0; first | rwa [add_block] at this | exact this) GW129.out))) _).trans (hHeld.1)))))))), ((cell_far (p := ⟨gb129, _, none⟩) (by first | exact Nat.ne_of_lt (Nat.lt_of_lt_of_le (by have := World.block_lt_of_cell? _ _ hw126_0; first | rwa [add_block] at this | exact this) GW129.out) | (rw [add_block]; exact Nat.ne_of_lt (Nat.lt_of_lt_of_le (by have := World.block_lt_of_cell? _ _ hw126_0; first | rwa [add_block] at this | exact this) GW129.out)) | (show (Addr.add _ _).block ≠ _; rw [add_block]; exact Nat.ne_of_lt (Nat.lt_of_lt_of_le (by have := World.block_lt_of_cell? _ _ hw126_0; first | rwa [add_block] at this | exact this) GW129.out)) | (dsimp only; exact Nat.ne_of_lt (Nat.lt_of_lt_of_le (by have := World.block_lt_of_cell? _ _ hw126_0; first | rwa [add_block] at this | exact this) GW129.out))) _).trans (((cell_far (p := ⟨gb129, _, none⟩) (by first | exact Nat.ne_of_lt (Nat.lt_of_lt_of_le (by have := World.block_lt_of_cell? _ _ hw126_0; first | rwa [add_block] at this | exact this) GW129.out) | (rw [add_block]; exact Nat.ne_of_lt (Nat.lt_of_lt_of_le (by have := World.block_lt_of_cell? _ _ hw126_0; first | rwa [add_block] at this | exact this) GW129.out)) | (show (Addr.add _ _).block ≠ _; rw [add_block]; exact Nat.ne_of_lt (Nat.lt_of_lt_of_le (by have := World.block_lt_of_cell? _ _ hw126_0; first | rwa [add_block] at this | exact this) GW129.out)) | (dsimp only; exact Nat.ne_of_lt (Nat.lt_of_lt_of_le (by have := World.block_lt_of_cell? _ _ hw126_0; first | rwa [add_block] at this | exact this) GW129.out))) _).trans (((cell_far (p := ⟨gb129, _, none⟩) (by first | exact Nat.ne_of_lt (Nat.lt_of_lt_of_le (by have := World.block_lt_of_cell? _ _ hw126_0; first | rwa [add_block] at this | exact this) GW129.out) | (rw [add_block]; exact Nat.ne_of_lt (Nat.lt_of_lt_of_le (by have := World.block_lt_of_cell? _ _ hw126_0; first | rwa [add_block] at this | exact this) GW129.out)) | (show (Addr.add _ _).block ≠ _; rw [add_block]; exact Nat.ne_of_lt (Nat.lt_of_lt_of_le (by have := World.block_lt_of_cell? _ _ hw126_0; first | rwa [add_block] at this | exact this) GW129.out)) | (dsimp only; exact Nat.ne_of_lt (Nat.lt_of_lt_of_le (by have := World.block_lt_of_cell? _ _ hw126_0; first | rwa [add_block] at this | exact this) GW129.out))) _).trans (((cell_far (p := ⟨gb129, _, none⟩) (by first | exact Nat.ne_of_lt (Nat.lt_of_lt_of_le (by have := World.block_lt_of_cell? _ _ hw126_0; first | rwa [add_block] at this | exact this) GW129.out) | (rw [add_block]; exact Nat.ne_of_lt (Nat.lt_of_lt_of_le (by have := World.block_lt_of_cell? _ _ hw126_0; first | rwa [add_block] at this | exact this) GW129.out)) | (show (Addr.add _ _).block ≠ _; rw [add_block]; exact Nat.ne_of_lt (Nat.lt_of_lt_of_le (by have := World.block_lt_of_cell? _ _ hw126_0; first | rwa [add_block] at this | exact this) GW129.out)) | (dsimp only; exact Nat.ne_of_lt (Nat.lt_of_lt_of_le (by have := World.block_lt_of_cell? _ _ hw126_0; first | rwa [add_block] at this | exact this) GW129.out))) _).trans (hHeld.2.1)))))))), ((cell_far (p := ⟨gb129, _, none⟩) (by first | exact Nat.ne_of_lt (Nat.lt_of_lt_of_le (by have := World.block_lt_of_cell? _ _ hw127_0; first | rwa [add_block] at this | exact this) GW129.out) | (rw [add_block]; exact Nat.ne_of_lt (Nat.lt_of_lt_of_le (by have := World.block_lt_of_cell? _ _ hw127_0; first | rwa [add_block] at this | exact this) GW129.out)) | (show (Addr.add _ _).block ≠ _; rw [add_block]; exact Nat.ne_of_lt (Nat.lt_of_lt_of_le (by have := World.block_lt_of_cell? _ _ hw127_0; first | rwa [add_block] at this | exact this) GW129.out)) | (dsimp only; exact Nat.ne_of_lt (Nat.lt_of_lt_of_le (by have := World.block_lt_of_cell? _ _ hw127_0; first | rwa [add_block] at this | exact this) GW129.out))) _).trans (((cell_far (p := ⟨gb129, _, none⟩) (by first | exact Nat.ne_of_lt (Nat.lt_of_lt_of_le (by have := World.block_lt_of_cell? _ _ hw127_0; first | rwa [add_block] at this | exact this) GW129.out) | (rw [add_block]; exact Nat.ne_of_lt (Nat.lt_of_lt_of_le (by have := World.block_lt_of_cell? _ _ hw127_0; first | rwa [add_block] at this | exact this) GW129.out)) | (show (Addr.add _ _).block ≠ _; rw [add_block]; exact Nat.ne_of_lt (Nat.lt_of_lt_of_le (by have := World.block_lt_of_cell? _ _ hw127_0; first | rwa [add_block] at this | exact this) GW129.out)) | (dsimp only; exact Nat.ne_of_lt (Nat.lt_of_lt_of_le (by have := World.block_lt_of_cell? _ _ hw127_0; first | rwa [add_block] at this | exact this) GW129.out))) _).trans (((cell_far (p := ⟨gb129, _, none⟩) (by first | exact Nat.ne_of_lt (Nat.lt_of_lt_of_le (by have := World.block_lt_of_cell? _ _ hw127_0; first | rwa [add_block] at this | exact this) GW129.out) | (rw [add_block]; exact Nat.ne_of_lt (Nat.lt_of_lt_of_le (by have := World.block_lt_of_cell? _ _ hw127_0; first | rwa [add_block] at this | exact this) GW129.out)) | (show (Addr.add _ _).block ≠ _; rw [add_block]; exact Nat.ne_of_lt (Nat.lt_of_lt_of_le (by have := World.block_lt_of_cell? _ _ hw127_0; first | rwa [add_block] at this | exact this) GW129.out)) | (dsimp only; exact Nat.ne_of_lt (Nat.lt_of_lt_of_le (by have := World.block_lt_of_cell? _ _ hw127_0; first | rwa [add_block] at this | exact this) GW129.out))) _).trans (((cell_far (p := ⟨gb129, _, none⟩) (by first | exact Nat.ne_of_lt (Nat.lt_of_lt_of_le (by have := World.block_lt_of_cell? _ _ hw127_0; first | rwa [add_block] at this | exact this) GW129.out) | (rw [add_block]; exact Nat.ne_of_lt (Nat.lt_of_lt_of_le (by have := World.block_lt_of_cell? _ _ hw127_0; first | rwa [add_block] at this | exact this) GW129.out)) | (show (Addr.add _ _).block ≠ _; rw [add_block]; exact Nat.ne_of_lt (Nat.lt_of_lt_of_le (by have := World.block_lt_of_cell? _ _ hw127_0; first | rwa [add_block] at this | exact this) GW129.out)) | (dsimp only; exact Nat.ne_of_lt (Nat.lt_of_lt_of_le (by have := World.block_lt_of_cell? _ _ hw127_0; first | rwa [add_block] at this | exact this) GW129.out))) _).trans (hHeld.2.2.1)))))))), ((cell_far (p := ⟨gb129, _, none⟩) (by first | exact Nat.ne_of_lt (Nat.lt_of_lt_of_le (by have := World.block_lt_of_cell? _ _ hw128_0; first | rwa [add_block] at this | exact this) GW129.out) | (rw [add_block]; exact Nat.ne_of_lt (Nat.lt_of_lt_of_le (by have := World.block_lt_of_cell? _ _ hw128_0; first | rwa [add_block] at this | exact this) GW129.out)) | (show (Addr.add _ _).block ≠ _; rw [add_block]; exact Nat.ne_of_lt (Nat.lt_of_lt_of_le (by have := World.block_lt_of_cell? _ _ hw128_0; first | rwa [add_block] at this | exact this) GW129.out)) | (dsimp only; exact Nat.ne_of_lt (Nat.lt_of_lt_of_le (by have := World.block_lt_of_cell? _ _ hw128_0; first | rwa [add_block] at this | exact this) GW129.out))) _).trans (((cell_far (p := ⟨gb129, _, none⟩) (by first | exact Nat.ne_of_lt (Nat.lt_of_lt_of_le (by have := World.block_lt_of_cell? _ _ hw128_0; first | rwa [add_block] at this | exact this) GW129.out) | (rw [add_block]; exact Nat.ne_of_lt (Nat.lt_of_lt_of_le (by have := World.block_lt_of_cell? _ _ hw128_0; first | rwa [add_block] at this | exact this) GW129.out)) | (show (Addr.add _ _).block ≠ _; rw [add_block]; exact Nat.ne_of_lt (Nat.lt_of_lt_of_le (by have := World.block_lt_of_cell? _ _ hw128_0; first | rwa [add_block] at this | exact this) GW129.out)) | (dsimp only; exact Nat.ne_of_lt (Nat.lt_of_lt_of_le (by have := World.block_lt_of_cell? _ _ hw128_0; first | rwa [add_block] at this | exact this) GW129.out))) _).trans (((cell_far (p := ⟨gb129, _, none⟩) (by first | exact Nat.ne_of_lt (Nat.lt_of_lt_of_le (by have := World.block_lt_of_cell? _ _ hw128_0; first | rwa [add_block] at this | exact this) GW129.out) | (rw [add_block]; exact Nat.ne_of_lt (Nat.lt_of_lt_of_le (by have := World.block_lt_of_cell? _ _ hw128_0; first | rwa [add_block] at this | exact this) GW129.out)) | (show (Addr.add _ _).block ≠ _; rw [add_block]; exact Nat.ne_of_lt (Nat.lt_of_lt_of_le (by have := World.block_lt_of_cell? _ _ hw128_0; first | rwa [add_block] at this | exact this) GW129.out)) | (dsimp only; exact Nat.ne_of_lt (Nat.lt_of_lt_of_le (by have := World.block_lt_of_cell? _ _ hw128_0; first | rwa [add_block] at this | exact this) GW129.out))) _).trans (((cell_far (p := ⟨gb129, _, none⟩) (by first | exact Nat.ne_of_lt (Nat.lt_of_lt_of_le (by have := World.block_lt_of_cell? _ _ hw128_0; first | rwa [add_block] at this | exact this) GW129.out) | (rw [add_block]; exact Nat.ne_of_lt (Nat.lt_of_lt_of_le (by have := World.block_lt_of_cell? _ _ hw128_0; first | rwa [add_block] at this | exact this) GW129.out)) | (show (Addr.add _ _).block ≠ _; rw [add_block]; exact Nat.ne_of_lt (Nat.lt_of_lt_of_le (by have := World.block_lt_of_cell? _ _ hw128_0; first | rwa [add_block] at this | exact this) GW129.out)) | (dsimp only; exact Nat.ne_of_lt (Nat.lt_of_lt_of_le (by have := World.block_lt_of_cell? _ _ hw128_0; first | rwa [add_block] at this | exact this) GW129.out))) _).trans (hHeld.2.2.2))))))))⟩ (fun hHeld => ?_)
                          clear hK K
                          refine done_ (done_of HT_.out (by kernel_rfl)) ?_
                          have hnb46 := NB129_120.out
                          have hnc46 := NB120_129.out
                          have hnb47 := NB129_123.out
                          have hnc47 := NB123_129.out
                          have hcz48_0 : w41.cell? ⟨gb129, 0, none⟩ = some (.int .u8 0) := (blk_cell BK129.out 0).trans rfl
                          have hcz48_1 : w41.cell? ⟨gb129, 1, none⟩ = some (.int .u8 0) := (blk_cell BK129.out 1).trans rfl
                          have hcz48_2 : w41.cell? ⟨gb129, 2, none⟩ = some (.int .u8 0) := (blk_cell BK129.out 2).trans rfl
                          have hcz48_3 : w41.cell? ⟨gb129, 3, none⟩ = some (.int .u8 0) := (blk_cell BK129.out 3).trans rfl
                          have hfz48_0 := blk_frozen BK129.out 0
                          have hfz48_1 := blk_frozen BK129.out 1
                          have hfz48_2 := blk_frozen BK129.out 2
                          have hfz48_3 := blk_frozen BK129.out 3
                          try go_wp2
                          have n0_ : Aside0 (Kd.R k43 43 (((((w41.setCell ⟨gb129, 0, none⟩ (.int .u8 (rd (l4.drop ((ji29) : Int).toNat) 2))).setCell ⟨gb129, 1, none⟩ (.int .u8 (rd (l4.drop ((ji29) : Int).toNat) 1))).setCell ⟨gb129, 2, none⟩ (.int .u8 (rd (l4.drop ((ji29) : Int).toNat) 0))).setCell ⟨gb129, 3, none⟩ (.int .u8 (rd (l4.drop ((ji29) : Int).toNat) 3))).setCell ⟨gb129, 3, none⟩ (.int .u8 255)) w.heap.size (fun k_ => k_ ≠ gb129) u124002 x124002_5) := ⟨by (with_reducible repeat (first | apply Kd.R_alloc | apply Kd.R_drewN | apply Kd.R_drew)); exact Kd.R_mono (Kd.R_far (p := ⟨gb129, 3, none⟩) (Kd.R_far (p := ⟨gb129, 3, none⟩) (Kd.R_far (p := ⟨gb129, 2, none⟩) (Kd.R_far (p := ⟨gb129, 1, none⟩) (Kd.R_far (p := ⟨gb129, 0, none⟩) (Kd.R_mono HO_124002.out (fun k_ hk => (⟨hk, hk.2⟩ : _ ∧ k_ ≠ gb129))) (fun _ hk => hk.2) (.int .u8 (rd (l4.drop ((ji29) : Int).toNat) 2))) (fun _ hk => hk.2) (.int .u8 (rd (l4.drop ((ji29) : Int).toNat) 1))) (fun _ hk => hk.2) (.int .u8 (rd (l4.drop ((ji29) : Int).toNat) 0))) (fun _ hk => hk.2) (.int .u8 (rd (l4.drop ((ji29) : Int).toNat) 3))) (fun _ hk => hk.2) (.int .u8 255)) (fun _ hk => hk.1.2)⟩
                          have n1_ : Aside0 ((((((w41.setCell ⟨gb129, 0, none⟩ (.int .u8 (rd (l4.drop ((ji29) : Int).toNat) 2))).setCell ⟨gb129, 1, none⟩ (.int .u8 (rd (l4.drop ((ji29) : Int).toNat) 1))).setCell ⟨gb129, 2, none⟩ (.int .u8 (rd (l4.drop ((ji29) : Int).toNat) 0))).setCell ⟨gb129, 3, none⟩ (.int .u8 (rd (l4.drop ((ji29) : Int).toNat) 3))).setCell ⟨gb129, 3, none⟩ (.int .u8 255)).heap[gb120]? = some (.cells #[.int .i64 0, .int .i64 0, .slice none 0 0] 27 (0, 0))) := bf_ BK120
                          have n2_ : Aside0 ((((((w41.setCell ⟨gb129, 0, none⟩ (.int .u8 (rd (l4.drop ((ji29) : Int).toNat) 2))).setCell ⟨gb129, 1, none⟩ (.int .u8 (rd (l4.drop ((ji29) : Int).toNat) 1))).setCell ⟨gb129, 2, none⟩ (.int .u8 (rd (l4.drop ((ji29) : Int).toNat) 0))).setCell ⟨gb129, 3, none⟩ (.int .u8 (rd (l4.drop ((ji29) : Int).toNat) 3))).setCell ⟨gb129, 3, none⟩ (.int .u8 255)).heap[gb123]? = some (.cells #[.int .i64 a1, .int .i64 a2, u124002] 27 (0, 0))) := bf_ BK123
                          have n3_ : Aside0 ((((((w41.setCell ⟨gb129, 0, none⟩ (.int .u8 (rd (l4.drop ((ji29) : Int).toNat) 2))).setCell ⟨gb129, 1, none⟩ (.int .u8 (rd (l4.drop ((ji29) : Int).toNat) 1))).setCell ⟨gb129, 2, none⟩ (.int .u8 (rd (l4.drop ((ji29) : Int).toNat) 0))).setCell ⟨gb129, 3, none⟩ (.int .u8 (rd (l4.drop ((ji29) : Int).toNat) 3))).setCell ⟨gb129, 3, none⟩ (.int .u8 255)).heap[gb129]? = some (.cells #[.int .u8 (rd (l4.drop ((ji29) : Int).toNat) 2), .int .u8 (rd (l4.drop ((ji29) : Int).toNat) 1), .int .u8 (rd (l4.drop ((ji29) : Int).toNat) 0), .int .u8 255] 43 (0, 0))) := ⟨by (with_reducible repeat (first | refine blk_drewN ?_ _ | refine blk_drew ?_ | refine blk_alloc ?_ _)); refine blk_put (cs := #[.int .u8 (rd (l4.drop ((ji29) : Int).toNat) 2), .int .u8 (rd (l4.drop ((ji29) : Int).toNat) 1), .int .u8 (rd (l4.drop ((ji29) : Int).toNat) 0), .int .u8 (rd (l4.drop ((ji29) : Int).toNat) 3)]) ?_ 3 _ rfl; (with_reducible repeat (first | refine blk_drewN ?_ _ | refine blk_drew ?_ | refine blk_alloc ?_ _)); refine blk_put (cs := #[.int .u8 (rd (l4.drop ((ji29) : Int).toNat) 2), .int .u8 (rd (l4.drop ((ji29) : Int).toNat) 1), .int .u8 (rd (l4.drop ((ji29) : Int).toNat) 0), .int .u8 0]) ?_ 3 _ rfl; (with_reducible repeat (first | refine blk_drewN ?_ _ | refine blk_drew ?_ | refine blk_alloc ?_ _)); refine blk_put (cs := #[.int .u8 (rd (l4.drop ((ji29) : Int).toNat) 2), .int .u8 (rd (l4.drop ((ji29) : Int).toNat) 1), .int .u8 0, .int .u8 0]) ?_ 2 _ rfl; (with_reducible repeat (first | refine blk_drewN ?_ _ | refine blk_drew ?_ | refine blk_alloc ?_ _)); refine blk_put (cs := #[.int .u8 (rd (l4.drop ((ji29) : Int).toNat) 2), .int .u8 0, .int .u8 0, .int .u8 0]) ?_ 1 _ rfl; (with_reducible repeat (first | refine blk_drewN ?_ _ | refine blk_drew ?_ | refine blk_alloc ?_ _)); refine blk_put (cs := #[.int .u8 0, .int .u8 0, .int .u8 0, .int .u8 0]) ?_ 0 _ rfl; (with_reducible repeat (first | refine blk_drewN ?_ _ | refine blk_drew ?_ | refine blk_alloc ?_ _)); exact BK129.out⟩
                          have n4_ : Aside0 (Below w.heap.size w (((((w41.setCell ⟨gb129, 0, none⟩ (.int .u8 (rd (l4.drop ((ji29) : Int).toNat) 2))).setCell ⟨gb129, 1, none⟩ (.int .u8 (rd (l4.drop ((ji29) : Int).toNat) 1))).setCell ⟨gb129, 2, none⟩ (.int .u8 (rd (l4.drop ((ji29) : Int).toNat) 0))).setCell ⟨gb129, 3, none⟩ (.int .u8 (rd (l4.drop ((ji29) : Int).toNat) 3))).setCell ⟨gb129, 3, none⟩ (.int .u8 255))) := ⟨by repeat (first | (with_reducible first | exact HB.out | apply below_alloc | apply pw_below_drewN | apply below_drew1 | refine below_set ?_ GE120.out | refine below_set ?_ GE123.out | refine below_set ?_ GE129.out) | exact HB.out)⟩
                          (try clear HO_124002)
                          (try clear BK120)
                          (try clear BK123)
                          (try clear BK129)
                          (try clear HB)
                          generalize (((((w41.setCell ⟨gb129, 0, none⟩ (.int .u8 (rd (l4.drop ((ji29) : Int).toNat) 2))).setCell ⟨gb129, 1, none⟩ (.int .u8 (rd (l4.drop ((ji29) : Int).toNat) 1))).setCell ⟨gb129, 2, none⟩ (.int .u8 (rd (l4.drop ((ji29) : Int).toNat) 0))).setCell ⟨gb129, 3, none⟩ (.int .u8 (rd (l4.drop ((ji29) : Int).toNat) 3))).setCell ⟨gb129, 3, none⟩ (.int .u8 255)) = w49 at n0_ n1_ n2_ n3_ n4_ ⊢
                          have HO_124002 := n0_
                          have BK120 := n1_
                          have BK123 := n2_
                          have BK129 := n3_
                          have HB := n4_
                          clear n0_ n1_ n2_ n3_ n4_
                          replace HO_124002 := Aside0.mk (Kd.R_drew HO_124002.out)
                          replace BK120 := Aside0.mk (blk_drew BK120.out)
                          replace BK123 := Aside0.mk (blk_drew BK123.out)
                          replace BK129 := Aside0.mk (blk_drew BK129.out)
                          replace HB := Aside0.mk (below_drew1 HB.out)
                          refine start_ (n := 8) (S := fun w' => w'.cell? ⟨gb123, 0, none⟩ = some (.int .i64 a1) ∧ w'.cell? ⟨gb123, 1, none⟩ = some (.int .i64 a2) ∧ w'.cell? ⟨gb123, 2, none⟩ = some (u124002) ∧ w'.cell? ⟨gb129, 0, none⟩ = some (.int .u8 (rd (l4.drop ((ji29) : Int).toNat) 2)) ∧ w'.cell? ⟨gb129, 1, none⟩ = some (.int .u8 (rd (l4.drop ((ji29) : Int).toNat) 1)) ∧ w'.cell? ⟨gb129, 2, none⟩ = some (.int .u8 (rd (l4.drop ((ji29) : Int).toNat) 0)) ∧ w'.cell? ⟨gb129, 3, none⟩ = some (.int .u8 255)) (ds := [7]) zq14.q16 (by kernel_rfl) rfl rfl ⟨c_ BK123 0, ⟨c_ BK123 1, ⟨c_ BK123 2, (h4_ BK129)⟩⟩⟩ (fun hHeld => ?_); refine with_tabW buffer_Decode.tab20 buffer_Decode.bits20 (fun HT_ HW_ => ?_)
                          generalize w49.drew = w50 at HO_124002 BK120 BK123 BK129 HB hHeld ⊢
                          refine pv_ 0 89 zq14.q17 HT_ ?_
                          refine take_ (i := 1) (N := some 90) (v := ?_) (a' := ?_) zq14.q18 rfl rfl (take_ofW HT_.out HW_.out (by kernel_rfl)) (fun _ _ _ h => h) (Or.inl ⟨by rfl, ?_⟩) hHeld ?_ ?_
                          rotate_left
                          ·
                           rintro w' ⟨s0, s1, s2, s3, s4, s5, s6⟩
                           go_simp
                           with_reducible rfl
                          rotate_left
                          ·
                           simp only [Act.put, List.setIfInBounds_toArray, List.set_cons_zero, List.set_cons_succ, i64_w, i32_w]
                           rfl
                          refine take_ (i := 2) (N := some 91) (v := ?_) (a' := ?_) zq14.q19 rfl rfl (take_ofW HT_.out HW_.out (by kernel_rfl)) (fun _ _ _ h => h) (Or.inl ⟨by rfl, ?_⟩) hHeld ?_ ?_
                          rotate_left
                          ·
                           rintro w' ⟨s0, s1, s2, s3, s4, s5, s6⟩
                           go_simp
                           with_reducible rfl
                          rotate_left
                          ·
                           simp only [Act.put, List.setIfInBounds_toArray, List.set_cons_zero, List.set_cons_succ, i64_w, i32_w]
                           rfl
                          refine one_ (i := 3) (N := some 92) zq14.q20 rfl rfl (one_of HT_.out (by kernel_rfl)) (by decide) (fun K hK => ?_)
                          refine goes_ Try.func40 (by kernel_rfl) rfl #[.agg #[.int .u8 (rd (l4.drop ((ji29) : Int).toNat) 2), .int .u8 (rd (l4.drop ((ji29) : Int).toNat) 1), .int .u8 (rd (l4.drop ((ji29) : Int).toNat) 0), .int .u8 255]] (by rfl) rfl rfl (by (try simp only [List.map_toArray, List.map_cons, List.map_nil]); first | done | (simp only [hji29]; rfl) | rfl | (simp only [List.length_drop, List.length_take]; rfl)) ?_
                          with_reducible refine (pixel_Clamp.calls (rd (l4.drop ((ji29) : Int).toNat) 2) (rd (l4.drop ((ji29) : Int).toNat) 1) (rd (l4.drop ((ji29) : Int).toNat) 0) 255 t130 t131 t132 t133 _ A37.out).mono ?_
                          rintro e w51 ⟨rfl, hb⟩
                          refine ⟨_, rfl, ?_⟩
                          replace HO_124002 := Aside0.mk (Kd.R_below (by (with_reducible repeat (first | apply Kd.R_alloc | apply Kd.R_drewN | apply Kd.R_drew)); exact HO_124002.out) hb)
                          replace BK120 := bb_ BK120 hb
                          replace BK123 := bb_ BK123 hb
                          replace BK129 := Aside0.mk (blk_below (g := gb129) (o := .cells #[.int .u8 (rd (l4.drop ((ji29) : Int).toNat) 2), .int .u8 (rd (l4.drop ((ji29) : Int).toNat) 1), .int .u8 (rd (l4.drop ((ji29) : Int).toNat) 0), .int .u8 255] 43 (0, 0)) (bq_ BK129) hb)
                          replace HB := hb_ HB hb
                          (try clear hb); (try clear hb2); (try clear hk); (try clear hi)
                          refine hK.out _ _ ⟨c_ BK123 0, ⟨c_ BK123 1, ⟨c_ BK123 2, (h4_ BK129)⟩⟩⟩ (fun hHeld => ?_)
                          clear hK K
                          refine norm_ (a' := ?_) ?_ ?_
                          rotate_left
                          ·
                           show Act.put _ (some 92) _ = _
                           simp only [Act.put, List.setIfInBounds_toArray, List.set_cons_zero, List.set_cons_succ, i64_w, i32_w]
                           rfl
                          refine one_ (i := 4) (N := some 93) zq14.q21 rfl rfl (one_of HT_.out (by kernel_rfl)) (by decide) (fun K hK => ?_)
                          refine value_ (w1 := ?_) (v := ?_) (by rfl) rfl ?_ ?_
                          rotate_left 2
                          ·
                           go_simp
                           constructor
                           ·
                            rfl
                           ·
                            rfl
                          refine hK.out _ _ ⟨(blk_cell (blk_alloc BK123.out _) 0).trans rfl, (blk_cell (blk_alloc BK123.out _) 1).trans rfl, (blk_cell (blk_alloc BK123.out _) 2).trans rfl, (blk_cell (blk_alloc BK129.out _) 0).trans rfl, (blk_cell (blk_alloc BK129.out _) 1).trans rfl, (blk_cell (blk_alloc BK129.out _) 2).trans rfl, (blk_cell (blk_alloc BK129.out _) 3).trans rfl⟩ (fun hHeld => ?_)
                          clear hK K
                          refine norm_ (a' := ?_) ?_ ?_
                          rotate_left
                          ·
                           show Act.put _ (some 93) _ = _
                           simp only [Act.put, List.setIfInBounds_toArray, List.set_cons_zero, List.set_cons_succ, i64_w, i32_w]
                           rfl
                          refine one_ (i := 5) (N := some 94) zq14.q22 rfl rfl (one_of HT_.out (by kernel_rfl)) (by decide) (fun K hK => ?_)
                          refine Kd.R_append_step k43 (w0 := w) w.heap.size (by rfl) (.tmp 90) (.tmp 93) 25 43 (.agg #[(.int .u8 0), (.int .u8 0), (.int .u8 0), (.int .u8 0)]) 4 rfl Try.underlying25 info43 rfl (by decide) (by omega) u124002 x124002_5 (⟨t130, t131, t132, t133⟩ : S43) [.int .u8 t130, .int .u8 t131, .int .u8 t132, .int .u8 t133] (fun k_ => k_ ≠ gb129) (fun _ => False) rfl rfl ?aP (fun _ hk => hk.elim) ?aF ?aO ?aB ?aS ?aL ?_
                          (case aP => exact k43_mkM _ _ _ (⟨t130, t131, t132, t133⟩ : S43))
                          (case aB => exact (hq_ HB))
                          (case aF => exact (fun k_ hk => Kd.freshB (g := gb129) (o := .cells #[.int .u8 (rd (l4.drop ((ji29) : Int).toNat) 2), .int .u8 (rd (l4.drop ((ji29) : Int).toNat) 1), .int .u8 (rd (l4.drop ((ji29) : Int).toNat) 0), .int .u8 255] 43 (0, 0)) (bq_ BK129) k_ hk))
                          (case aO => exact (by (with_reducible repeat (first | apply Kd.R_alloc | apply Kd.R_drewN | apply Kd.R_drew)); exact HO_124002.out))
                          (case aS => exact (below_size (hq_ HB)))
                          (case aL => have := LMc38.out; omega)
                          intro v135 w52 ho hb hg hat
                          rw [← Ny134.out] at ho
                          replace BK120 := Aside0.mk (blk_grown (g := gb120) (o := .cells #[.int .i64 0, .int .i64 0, .slice none 0 0] 27 (0, 0)) (bq_ BK120) hg (Kd.R_ne HO_124002.out BK120.out (by decide)))
                          replace BK123 := Aside0.mk (blk_grown (g := gb123) (o := .cells #[.int .i64 a1, .int .i64 a2, u124002] 27 (0, 0)) (bq_ BK123) hg (Kd.R_ne HO_124002.out BK123.out (by decide)))
                          replace BK129 := Aside0.mk (blk_grown (g := gb129) (o := .cells #[.int .u8 (rd (l4.drop ((ji29) : Int).toNat) 2), .int .u8 (rd (l4.drop ((ji29) : Int).toNat) 1), .int .u8 (rd (l4.drop ((ji29) : Int).toNat) 0), .int .u8 255] 43 (0, 0)) (bq_ BK129) hg (Kd.R_away HO_124002.out (fun _ hk => hk)))
                          replace HB := Aside0.mk (hb)
                          have HO136 := Aside0.mk (ho)
                          clear HO_124002
                          clear ho hb hg hat
                          obtain ⟨Ao53, co53, eo53⟩ := Kd.R_slice HO136.out
                          (first | subst eo53 | (injection eo53 with f1_ f2_ f3_; have f4_ := f1_.symm; have f5_ := f3_.symm; clear f1_ f2_ f3_; subst f4_; subst f5_))
                          refine hK.out _ _ ⟨c_ BK123 0, ⟨c_ BK123 1, ⟨c_ BK123 2, (h4_ BK129)⟩⟩⟩ (fun hHeld => ?_)
                          clear hK K
                          refine norm_ (a' := ?_) ?_ ?_
                          rotate_left
                          ·
                           show Act.put _ (some 94) _ = _
                           simp only [Act.put, List.setIfInBounds_toArray, List.set_cons_zero, List.set_cons_succ, i64_w, i32_w]
                           rfl
                          refine pv_ 6 95 zq14.q23 HT_ ?_
                          refine last_ (i := 7) (N := none) zq14.q24 rfl rfl (one_of HT_.out (by kernel_rfl)) (by decide) (fun K hK => ?_)
                          have hs54 : w52.cell? ⟨gb123, 2, none⟩ = some (u124002) := (blk_cell BK123.out 2).trans rfl
                          have hfs54 := blk_frozen BK123.out 2
                          have hns54_0 := NB120_123.out
                          have hns54_2 := NB129_123.out
                          have hms54_0 := NB123_120.out
                          have hms54_2 := NB123_129.out
                          refine skip_ (w1 := ?_) (by rfl) rfl ?_ ?_
                          rotate_left
                          ·
                           go_simp
                           rfl
                          refine hK.out _ _ ?_
                          clear hK K
                          refine done_ (done_of HT_.out (by kernel_rfl)) ?_
                          try go_wp2
                          go_roundg k5
                          case measure => have := HJ5.out; have := HJ10.out; have := HJ16.out; have := HK4.out; have := HK5.out; omega
                          case rel => exact ⟨(wrap64 (x62_5 + 1)), (y134), (.slice Ao53 y134.length co53), (by first | rfl | (simp; done) | (simp [*]; done)), H', ⟨by have := HJ5.out; have := HJ10.out; have := HJ16.out; have := HK4.out; have := HK5.out; omega⟩, ⟨by (with_reducible repeat (first | apply Kd.R_alloc | apply Kd.R_drewN | apply Kd.R_drew)); exact Kd.R_mono (Kd.R_far (p := ⟨gb123, 2, none⟩) (Kd.R_types HO136.out BK123.out (by decide)) (fun _ hk => hk.2) (.slice Ao53 y134.length co53)) (fun _ hk => trivial)⟩, bf_ BK120, ⟨by (with_reducible repeat (first | refine blk_drewN ?_ _ | refine blk_drew ?_ | refine blk_alloc ?_ _)); refine blk_put (cs := #[.int .i64 a1, .int .i64 a2, u124002]) ?_ 2 _ rfl; (with_reducible repeat (first | refine blk_drewN ?_ _ | refine blk_drew ?_ | refine blk_alloc ?_ _)); exact BK123.out⟩, ⟨by repeat (first | (with_reducible first | exact HB.out | apply below_alloc | apply pw_below_drewN | apply below_drew1 | refine below_set ?_ GE120.out | refine below_set ?_ GE123.out | refine below_set ?_ GE129.out) | exact HB.out)⟩⟩
                         ·
                          rw [if_neg c38] at H
                          exact absurd H (by simp)
                        ·
                         rw [if_neg c36] at H
                         have c36b0 : (a0 == 2) = false := beq_eq_false_iff_ne.mpr c36
                         have c36b1 : (a0 != 2) = true := bne_iff_ne.mpr c36
                         replace H := Option.bind_eq_some_iff.mp H
                         obtain ⟨⟨t137, t138, t139, t140⟩, A550, H⟩ := H
                         try dsimp only at H
                         have A55 := Aside0.mk A550
                         clear A550
                         by_cases c56 : x124002_5.length < 35184372088832
                         ·
                          rw [if_pos c56] at H
                          have LMc56 := Aside0.mk c56
                          clear c56
                          obtain ⟨y141, hy141⟩ : ∃ y_ : List (S43), y_ = (x124002_5 ++ [(⟨t137, t138, t139, t140⟩ : S43)]) := ⟨_, rfl⟩
                          replace H : (buffer_Decode.l1 k5 a0 a1 a3 l4 x58_4 a2 x58_4 a1 (wrap64 (x62_5 + 1)) a1 a2 y141) = some (r1, r2, r3, r4) := by first | (rw [hy141]; with_reducible exact H) | (have H2_ := (Option.bind_some _ _).symm.trans H; rw [hy141]; with_reducible exact H2_) | (have H2_ := (Option.bind_some _ _).symm.trans H; with_reducible exact H2_) | with_reducible exact H | (rw [hy141]; exact H) | exact H
                          have Ny141 := Aside0.mk hy141
                          clear hy141
                          have H' := Aside0.mk H
                          clear H
                          obtain ⟨i057, hi057, _, hsz57, _⟩ := info_parts info5
                          obtain ⟨A57, hcut57, hA57, hC57⟩ := print_drop_of (P := Try.prog) (Value.int .u8) 0 23 5 .i64 Try.underlying23 hi057 hsz57 A4 c4 l4 (ji29) (of_decide_eq_true (by first | (with_reducible assumption) | assumption)) (of_decide_eq_true (by first | (with_reducible assumption) | assumption)) HC4.out
                          have HR124 := Aside0.mk (Kd.C_of_reads (h1 := fun _ => rfl) (hA57 _ (Kd.reads_of_C HR4.out)))
                          have HC124 := Aside0.mk hC57
                          clear hA57 hC57 hi057 hsz57
                          try go_wp2
                          replace HO_124002 := Aside0.mk (Kd.R_drew HO_124002.out)
                          replace BK120 := Aside0.mk (blk_drew BK120.out)
                          replace BK123 := Aside0.mk (blk_drew BK123.out)
                          replace HB := Aside0.mk (below_drew1 HB.out)
                          have p125 : 0 ≤ (0 : Int) := (by omega)
                          have q125 : 0 < ((l4.drop ((ji29) : Int).toNat).length : Int) := of_decide_eq_true (by first | (with_reducible assumption) | assumption)
                          obtain ⟨ad125, e125, hx125_0⟩ := Kd.at_int HR124.out 0 p125 q125
                          have hw125_0 := hx125_0
                          (try rw [show ((0 : Int)).toNat = 0 from rfl] at hw125_0)
                          (try rw [show 0 * 1 = 0 from rfl] at hw125_0)
                          (try rw [Addr.add_zero'] at hw125_0)
                          cases e125
                          have qi125 : (0 < (l4.drop ((ji29) : Int).toNat).length) = True := eq_true (by omega)
                          have qid_qi125 := qi125
                          (try simp only [List.length_drop] at qid_qi125)
                          have qie_qi125 : ((0 : Int) < ((l4.length - ((ji29) : Int).toNat : Nat) : Int)) = True := eq_true (by have h_ := of_eq_true qid_qi125; omega)
                          (try rw [show ((0 : Int)).toNat = 0 from rfl] at hx125_0)
                          (try rw [Addr.add_zero'] at hx125_0)
                          replace hx125_0 := (HB.out.cell (World.block_lt_of_cell? w _ hx125_0)).trans hx125_0
                          replace p125 := eq_true p125
                          replace q125 := eq_true q125
                          have p126 : 0 ≤ (1 : Int) := (by omega)
                          have q126 : 1 < ((l4.drop ((ji29) : Int).toNat).length : Int) := of_decide_eq_true (by first | (with_reducible assumption) | assumption)
                          obtain ⟨ad126, e126, hx126_0⟩ := Kd.at_int HR124.out 1 p126 q126
                          have hw126_0 := hx126_0
                          (try rw [show ((1 : Int)).toNat = 1 from rfl] at hw126_0)
                          (try rw [show 1 * 1 = 1 from rfl] at hw126_0)
                          (try simp only [Nat.reduceMul, Nat.reduceEqDiff, Go.Addr.add, ↓reduceIte] at hw126_0)
                          obtain rfl : ad125 = ad126 := (by injection e126)
                          (try simp only [show (1 : Int).toNat = 1 from rfl, Nat.reduceMul, Nat.reduceEqDiff, Go.Addr.add, ↓reduceIte] at hx126_0)
                          have qi126 : (1 < (l4.drop ((ji29) : Int).toNat).length) = True := eq_true (by omega)
                          have qid_qi126 := qi126
                          (try simp only [List.length_drop] at qid_qi126)
                          have qie_qi126 : ((1 : Int) < ((l4.length - ((ji29) : Int).toNat : Nat) : Int)) = True := eq_true (by have h_ := of_eq_true qid_qi126; omega)
                          (try rw [show ((1 : Int)).toNat = 1 from rfl] at hx126_0)
                          replace hx126_0 := (HB.out.cell (World.block_lt_of_cell? w _ hx126_0)).trans hx126_0
                          replace p126 := eq_true p126
                          replace q126 := eq_true q126
                          have p127 : 0 ≤ (2 : Int) := (by omega)
                          have q127 : 2 < ((l4.drop ((ji29) : Int).toNat).length : Int) := of_decide_eq_true (by first | (with_reducible assumption) | assumption)
                          obtain ⟨ad127, e127, hx127_0⟩ := Kd.at_int HR124.out 2 p127 q127
                          have hw127_0 := hx127_0
                          (try rw [show ((2 : Int)).toNat = 2 from rfl] at hw127_0)
                          (try rw [show 2 * 1 = 2 from rfl] at hw127_0)
                          (try simp only [Nat.reduceMul, Nat.reduceEqDiff, Go.Addr.add, ↓reduceIte] at hw127_0)
                          obtain rfl : ad125 = ad127 := (by injection e127)
                          (try simp only [show (2 : Int).toNat = 2 from rfl, Nat.reduceMul, Nat.reduceEqDiff, Go.Addr.add, ↓reduceIte] at hx127_0)
                          have qi127 : (2 < (l4.drop ((ji29) : Int).toNat).length) = True := eq_true (by omega)
                          have qid_qi127 := qi127
                          (try simp only [List.length_drop] at qid_qi127)
                          have qie_qi127 : ((2 : Int) < ((l4.length - ((ji29) : Int).toNat : Nat) : Int)) = True := eq_true (by have h_ := of_eq_true qid_qi127; omega)
                          (try rw [show ((2 : Int)).toNat = 2 from rfl] at hx127_0)
                          replace hx127_0 := (HB.out.cell (World.block_lt_of_cell? w _ hx127_0)).trans hx127_0
                          replace p127 := eq_true p127
                          replace q127 := eq_true q127
                          have p128 : 0 ≤ (3 : Int) := (by omega)
                          have q128 : 3 < ((l4.drop ((ji29) : Int).toNat).length : Int) := of_decide_eq_true (by first | (with_reducible assumption) | assumption)
                          obtain ⟨ad128, e128, hx128_0⟩ := Kd.at_int HR124.out 3 p128 q128
                          have hw128_0 := hx128_0
                          (try rw [show ((3 : Int)).toNat = 3 from rfl] at hw128_0)
                          (try rw [show 3 * 1 = 3 from rfl] at hw128_0)
                          (try simp only [Nat.reduceMul, Nat.reduceEqDiff, Go.Addr.add, ↓reduceIte] at hw128_0)
                          obtain rfl : ad125 = ad128 := (by injection e128)
                          (try simp only [show (3 : Int).toNat = 3 from rfl, Nat.reduceMul, Nat.reduceEqDiff, Go.Addr.add, ↓reduceIte] at hx128_0)
                          have qi128 : (3 < (l4.drop ((ji29) : Int).toNat).length) = True := eq_true (by omega)
                          have qid_qi128 := qi128
                          (try simp only [List.length_drop] at qid_qi128)
                          have qie_qi128 : ((3 : Int) < ((l4.length - ((ji29) : Int).toNat : Nat) : Int)) = True := eq_true (by have h_ := of_eq_true qid_qi128; omega)
                          (try rw [show ((3 : Int)).toNat = 3 from rfl] at hx128_0)
                          replace hx128_0 := (HB.out.cell (World.block_lt_of_cell? w _ hx128_0)).trans hx128_0
                          replace p128 := eq_true p128
                          replace q128 := eq_true q128
                          refine start_ (n := 15) (S := fun w' => w'.cell? ad125 = some (.int .u8 (rd (l4.drop ((ji29) : Int).toNat) 0)) ∧ w'.cell? ⟨ad125.block, ad125.off + 1, none⟩ = some (.int .u8 (rd (l4.drop ((ji29) : Int).toNat) 1)) ∧ w'.cell? ⟨ad125.block, ad125.off + 2, none⟩ = some (.int .u8 (rd (l4.drop ((ji29) : Int).toNat) 2)) ∧ w'.cell? ⟨ad125.block, ad125.off + 3, none⟩ = some (.int .u8 (rd (l4.drop ((ji29) : Int).toNat) 3))) (ds := []) zq14.q0 (by kernel_rfl) rfl rfl ⟨((HB.out.cell (World.block_lt_of_cell? w _ hw125_0)).trans hw125_0), ((HB.out.cell (World.block_lt_of_cell? w _ hw126_0)).trans hw126_0), ((HB.out.cell (World.block_lt_of_cell? w _ hw127_0)).trans hw127_0), ((HB.out.cell (World.block_lt_of_cell? w _ hw128_0)).trans hw128_0)⟩ (fun hHeld => ?_); refine with_tabW buffer_Decode.tab17 buffer_Decode.bits17 (fun HT_ HW_ => ?_)
                          generalize wr.drew = w58 at HO_124002 BK120 BK123 HB hx125_0 hx126_0 hx127_0 hx128_0 hHeld ⊢
                          refine pv_ 0 73 zq14.q1 HT_ ?_
                          refine pv_ 1 74 zq14.q2 HT_ ?_
                          refine pv_ 3 76 zq14.q3 HT_ ?_
                          refine pv_ 4 77 zq14.q4 HT_ ?_
                          refine pv_ 6 79 zq14.q5 HT_ ?_
                          refine pv_ 7 80 zq14.q6 HT_ ?_
                          refine pv_ 9 82 zq14.q7 HT_ ?_
                          refine pv_ 10 83 zq14.q8 HT_ ?_
                          refine tk4_ 2 75 zq14.q9 HT_ HW_ hHeld ?_
                          refine tk4_ 5 78 zq14.q10 HT_ HW_ hHeld ?_
                          refine tk4_ 8 81 zq14.q11 HT_ HW_ hHeld ?_
                          refine tk4_ 11 84 zq14.q12 HT_ HW_ hHeld ?_
                          refine pv_ 12 85 zq14.q13 HT_ ?_
                          refine one_ (i := 13) (N := some 16) zq14.q14 rfl rfl (one_of HT_.out (by kernel_rfl)) (by decide) (fun K hK => ?_)
                          refine box_step ?hg (N := 16) ?hd (cs := #[.int .u8 0, .int .u8 0, .int .u8 0, .int .u8 0]) (t := 43) ?hr ?_; (case hd => rfl); (case hg => rfl); (case hr => first | (go_simp; done) | (go_simp; rfl))
                          intro gb129 hg w59 hbox hb
                          replace HO_124002 := Aside0.mk (Kd.R_below (Kd.R_elderB (by (with_reducible repeat (first | apply Kd.R_alloc | apply Kd.R_drewN | apply Kd.R_drew)); exact HO_124002.out) gb129 (Nat.le_of_eq hg.symm)) hb)
                          have BK129 := Aside0.mk (hbox)
                          have GW129 := Aside0.mk ((by rw [hg]; exact (below_size (hq_ HB)) : w.heap.size ≤ gb129))
                          have GE129 := Aside0.mk ((by rw [hg]; exact (below_size (hq_ HB)) : w.heap.size ≤ gb129))
                          replace HB := hb_ HB hb
                          have NB120_129 := Aside0.mk ((by rw [hg]; exact Nat.ne_of_lt (blk_lt (g := gb120) (o := .cells #[.int .i64 0, .int .i64 0, .slice none 0 0] 27 (0, 0)) (bq_ BK120)) : gb120 ≠ gb129))
                          have NB129_120 := Aside0.mk ((by rw [hg]; exact Nat.ne_of_gt (blk_lt (g := gb120) (o := .cells #[.int .i64 0, .int .i64 0, .slice none 0 0] 27 (0, 0)) (bq_ BK120)) : gb129 ≠ gb120))
                          replace BK120 := bb_ BK120 hb
                          have NB123_129 := Aside0.mk ((by rw [hg]; exact Nat.ne_of_lt (blk_lt (g := gb123) (o := .cells #[.int .i64 a1, .int .i64 a2, u124002] 27 (0, 0)) (bq_ BK123)) : gb123 ≠ gb129))
                          have NB129_123 := Aside0.mk ((by rw [hg]; exact Nat.ne_of_gt (blk_lt (g := gb123) (o := .cells #[.int .i64 a1, .int .i64 a2, u124002] 27 (0, 0)) (bq_ BK123)) : gb129 ≠ gb123))
                          replace BK123 := bb_ BK123 hb
                          clear hb hbox hg
                          refine hK.out _ _ ⟨((HB.out.cell (World.block_lt_of_cell? w _ hw125_0)).trans hw125_0), ((HB.out.cell (World.block_lt_of_cell? w _ hw126_0)).trans hw126_0), ((HB.out.cell (World.block_lt_of_cell? w _ hw127_0)).trans hw127_0), ((HB.out.cell (World.block_lt_of_cell? w _ hw128_0)).trans hw128_0)⟩ (fun hHeld => ?_)
                          clear hK K
                          refine norm_ (a' := ?_) ?_ ?_
                          rotate_left
                          ·
                           show Act.put _ (some 16) _ = _
                           simp only [Act.put, List.setIfInBounds_toArray, List.set_cons_zero, List.set_cons_succ, i64_w, i32_w]
                           rfl
                          refine one_ (i := 14) (N := none) zq14.q15 rfl rfl (one_of HT_.out (by kernel_rfl)) (by decide) (fun K hK => ?_)
                          have hs60 : w59.cell? ⟨gb129, 0, none⟩ = some (.int .u8 0) := (blk_cell BK129.out 0).trans rfl
                          have hfs60 := blk_frozen BK129.out 0
                          have hns60_0 := NB120_129.out
                          have hns60_1 := NB123_129.out
                          have hms60_0 := NB129_120.out
                          have hms60_1 := NB129_123.out
                          have hs61 : w59.cell? ⟨gb129, 1, none⟩ = some (.int .u8 0) := (blk_cell BK129.out 1).trans rfl
                          have hfs61 := blk_frozen BK129.out 1
                          have hns61_0 := NB120_129.out
                          have hns61_1 := NB123_129.out
                          have hms61_0 := NB129_120.out
                          have hms61_1 := NB129_123.out
                          have hs62 : w59.cell? ⟨gb129, 2, none⟩ = some (.int .u8 0) := (blk_cell BK129.out 2).trans rfl
                          have hfs62 := blk_frozen BK129.out 2
                          have hns62_0 := NB120_129.out
                          have hns62_1 := NB123_129.out
                          have hms62_0 := NB129_120.out
                          have hms62_1 := NB129_123.out
                          have hs63 : w59.cell? ⟨gb129, 3, none⟩ = some (.int .u8 0) := (blk_cell BK129.out 3).trans rfl
                          have hfs63 := blk_frozen BK129.out 3
                          have hns63_0 := NB120_129.out
                          have hns63_1 := NB123_129.out
                          have hms63_0 := NB129_120.out
                          have hms63_1 := NB129_123.out
                          refine skip_ (w1 := ?_) (by rfl) rfl ?_ ?_
                          rotate_left
                          ·
                           go_simp
                           rfl
                          refine hK.out _ _ ⟨((cell_far (p := ⟨gb129, _, none⟩) (by first | exact Nat.ne_of_lt (Nat.lt_of_lt_of_le (by have := World.block_lt_of_cell? _ _ hw125_0; first | rwa [add_block] at this | exact this) GW129.out) | (rw [add_block]; exact Nat.ne_of_lt (Nat.lt_of_lt_of_le (by have := World.block_lt_of_cell? _ _ hw125_0; first | rwa [add_block] at this | exact this) GW129.out)) | (show (Addr.add _ _).block ≠ _; rw [add_block]; exact Nat.ne_of_lt (Nat.lt_of_lt_of_le (by have := World.block_lt_of_cell? _ _ hw125_0; first | rwa [add_block] at this | exact this) GW129.out)) | (dsimp only; exact Nat.ne_of_lt (Nat.lt_of_lt_of_le (by have := World.block_lt_of_cell? _ _ hw125_0; first | rwa [add_block] at this | exact this) GW129.out))) _).trans (((cell_far (p := ⟨gb129, _, none⟩) (by first | exact Nat.ne_of_lt (Nat.lt_of_lt_of_le (by have := World.block_lt_of_cell? _ _ hw125_0; first | rwa [add_block] at this | exact this) GW129.out) | (rw [add_block]; exact Nat.ne_of_lt (Nat.lt_of_lt_of_le (by have := World.block_lt_of_cell? _ _ hw125_0; first | rwa [add_block] at this | exact this) GW129.out)) | (show (Addr.add _ _).block ≠ _; rw [add_block]; exact Nat.ne_of_lt (Nat.lt_of_lt_of_le (by have := World.block_lt_of_cell? _ _ hw125_0; first | rwa [add_block] at this | exact this) GW129.out)) | (dsimp only; exact Nat.ne_of_lt (Nat.lt_of_lt_of_le (by have := World.block_lt_of_cell? _ _ hw125_0; first | rwa [add_block] at this | exact this) GW129.out))) _).trans (((cell_far (p := ⟨gb129, _, none⟩) (by first | exact Nat.ne_of_lt (Nat.lt_of_lt_of_le (by have := World.block_lt_of_cell? _ _ hw125_0; first | rwa [add_block] at this | exact this) GW129.out) | (rw [add_block]; exact Nat.ne_of_lt (Nat.lt_of_lt_of_le (by have := World.block_lt_of_cell? _ _ hw125_0; first | rwa [add_block] at this | exact this) GW129.out)) | (show (Addr.add _ _).block ≠ _; rw [add_block]; exact Nat.ne_of_lt (Nat.lt_of_lt_of_le (by have := World.block_lt_of_cell? _ _ hw125_0; first | rwa [add_block] at this | exact this) GW129.out)) | (dsimp only; exact Nat.ne_of_lt (Nat.lt_of_lt_of_le (by have := World.block_lt_of_cell? _ _ hw125_0; first | rwa [add_block] at this | exact this) GW129.out))) _).trans (((cell_far (p := ⟨gb129, _, none⟩) (by first | exact Nat.ne_of_lt (Nat.lt_of_lt_of_le (by have := World.block_lt_of_cell? _ _ hw125_0; first | rwa [add_block] at this | exact this) GW129.out) | (rw [add_block]; exact Nat.ne_of_lt (Nat.lt_of_lt_of_le (by have := World.block_lt_of_cell? _ _ hw125_0; first | rwa [add_block] at this | exact this) GW129.out)) | (show (Addr.add _ _).block ≠ _; rw [add_block]; exact Nat.ne_of_lt (Nat.lt_of_lt_of_le (by have := World.block_lt_of_cell? _ _ hw125_0; first | rwa [add_block] at this | exact this) GW129.out)) | (dsimp only; exact Nat.ne_of_lt (Nat.lt_of_lt_of_le (by have := World.block_lt_of_cell? _ _ hw125_0; first | rwa [add_block] at this | exact this) GW129.out))) _).trans (hHeld.1)))))))), ((cell_far (p := ⟨gb129, _, none⟩) (by first | exact Nat.ne_of_lt (Nat.lt_of_lt_of_le (by have := World.block_lt_of_cell? _ _ hw126_0; first | rwa [add_block] at this | exact this) GW129.out) | (rw [add_block]; exact Nat.ne_of_lt (Nat.lt_of_lt_of_le (by have := World.block_lt_of_cell? _ _ hw126_0; first | rwa [add_block] at this | exact this) GW129.out)) | (show (Addr.add _ _).block ≠ _; rw [add_block]; exact Nat.ne_of_lt (Nat.lt_of_lt_of_le (by have := World.block_lt_of_cell? _ _ hw126_0; first | rwa [add_block] at this | exact this) GW129.out)) | (dsimp only; exact Nat.ne_of_lt (Nat.lt_of_lt_of_le (by have := World.block_lt_of_cell? _ _ hw126_0; first | rwa [add_block] at this | exact this) GW129.out))) _).trans (((cell_far (p := ⟨gb129, _, none⟩) (by first | exact Nat.ne_of_lt (Nat.lt_of_lt_of_le (by have := World.block_lt_of_cell? _ _ hw126_0; first | rwa [add_block] at this | exact this) GW129.out) | (rw [add_block]; exact Nat.ne_of_lt (Nat.lt_of_lt_of_le (by have := World.block_lt_of_cell? _ _ hw126_0; first | rwa [add_block] at this | exact this) GW129.out)) | (show (Addr.add _ _).block ≠ _; rw [add_block]; exact Nat.ne_of_lt (Nat.lt_of_lt_of_le (by have := World.block_lt_of_cell? _ _ hw126_0; first | rwa [add_block] at this | exact this) GW129.out)) | (dsimp only; exact Nat.ne_of_lt (Nat.lt_of_lt_of_le (by have := World.block_lt_of_cell? _ _ hw126_0; first | rwa [add_block] at this | exact this) GW129.out))) _).trans (((cell_far (p := ⟨gb129, _, none⟩) (by first | exact Nat.ne_of_lt (Nat.lt_of_lt_of_le (by have := World.block_lt_of_cell? _ _ hw126_0; first | rwa [add_block] at this | exact this) GW129.out) | (rw [add_block]; exact Nat.ne_of_lt (Nat.lt_of_lt_of_le (by have := World.block_lt_of_cell? _ _ hw126_0; first | rwa [add_block] at this | exact this) GW129.out)) | (show (Addr.add _ _).block ≠ _; rw [add_block]; exact Nat.ne_of_lt (Nat.lt_of_lt_of_le (by have := World.block_lt_of_cell? _ _ hw126_0; first | rwa [add_block] at this | exact this) GW129.out)) | (dsimp only; exact Nat.ne_of_lt (Nat.lt_of_lt_of_le (by have := World.block_lt_of_cell? _ _ hw126_0; first | rwa [add_block] at this | exact this) GW129.out))) _).trans (((cell_far (p := ⟨gb129, _, none⟩) (by first | exact Nat.ne_of_lt (Nat.lt_of_lt_of_le (by have := World.block_lt_of_cell? _ _ hw126_0; first | rwa [add_block] at this | exact this) GW129.out) | (rw [add_block]; exact Nat.ne_of_lt (Nat.lt_of_lt_of_le (by have := World.block_lt_of_cell? _ _ hw126_0; first | rwa [add_block] at this | exact this) GW129.out)) | (show (Addr.add _ _).block ≠ _; rw [add_block]; exact Nat.ne_of_lt (Nat.lt_of_lt_of_le (by have := World.block_lt_of_cell? _ _ hw126_0; first | rwa [add_block] at this | exact this) GW129.out)) | (dsimp only; exact Nat.ne_of_lt (Nat.lt_of_lt_of_le (by have := World.block_lt_of_cell? _ _ hw126_0; first | rwa [add_block] at this | exact this) GW129.out))) _).trans (hHeld.2.1)))))))), ((cell_far (p := ⟨gb129, _, none⟩) (by first | exact Nat.ne_of_lt (Nat.lt_of_lt_of_le (by have := World.block_lt_of_cell? _ _ hw127_0; first | rwa [add_block] at this | exact this) GW129.out) | (rw [add_block]; exact Nat.ne_of_lt (Nat.lt_of_lt_of_le (by have := World.block_lt_of_cell? _ _ hw127_0; first | rwa [add_block] at this | exact this) GW129.out)) | (show (Addr.add _ _).block ≠ _; rw [add_block]; exact Nat.ne_of_lt (Nat.lt_of_lt_of_le (by have := World.block_lt_of_cell? _ _ hw127_0; first | rwa [add_block] at this | exact this) GW129.out)) | (dsimp only; exact Nat.ne_of_lt (Nat.lt_of_lt_of_le (by have := World.block_lt_of_cell? _ _ hw127_0; first | rwa [add_block] at this | exact this) GW129.out))) _).trans (((cell_far (p := ⟨gb129, _, none⟩) (by first | exact Nat.ne_of_lt (Nat.lt_of_lt_of_le (by have := World.block_lt_of_cell? _ _ hw127_0; first | rwa [add_block] at this | exact this) GW129.out) | (rw [add_block]; exact Nat.ne_of_lt (Nat.lt_of_lt_of_le (by have := World.block_lt_of_cell? _ _ hw127_0; first | rwa [add_block] at this | exact this) GW129.out)) | (show (Addr.add _ _).block ≠ _; rw [add_block]; exact Nat.ne_of_lt (Nat.lt_of_lt_of_le (by have := World.block_lt_of_cell? _ _ hw127_0; first | rwa [add_block] at this | exact this) GW129.out)) | (dsimp only; exact Nat.ne_of_lt (Nat.lt_of_lt_of_le (by have := World.block_lt_of_cell? _ _ hw127_0; first | rwa [add_block] at this | exact this) GW129.out))) _).trans (((cell_far (p := ⟨gb129, _, none⟩) (by first | exact Nat.ne_of_lt (Nat.lt_of_lt_of_le (by have := World.block_lt_of_cell? _ _ hw127_0; first | rwa [add_block] at this | exact this) GW129.out) | (rw [add_block]; exact Nat.ne_of_lt (Nat.lt_of_lt_of_le (by have := World.block_lt_of_cell? _ _ hw127_0; first | rwa [add_block] at this | exact this) GW129.out)) | (show (Addr.add _ _).block ≠ _; rw [add_block]; exact Nat.ne_of_lt (Nat.lt_of_lt_of_le (by have := World.block_lt_of_cell? _ _ hw127_0; first | rwa [add_block] at this | exact this) GW129.out)) | (dsimp only; exact Nat.ne_of_lt (Nat.lt_of_lt_of_le (by have := World.block_lt_of_cell? _ _ hw127_0; first | rwa [add_block] at this | exact this) GW129.out))) _).trans (((cell_far (p := ⟨gb129, _, none⟩) (by first | exact Nat.ne_of_lt (Nat.lt_of_lt_of_le (by have := World.block_lt_of_cell? _ _ hw127_0; first | rwa [add_block] at this | exact this) GW129.out) | (rw [add_block]; exact Nat.ne_of_lt (Nat.lt_of_lt_of_le (by have := World.block_lt_of_cell? _ _ hw127_0; first | rwa [add_block] at this | exact this) GW129.out)) | (show (Addr.add _ _).block ≠ _; rw [add_block]; exact Nat.ne_of_lt (Nat.lt_of_lt_of_le (by have := World.block_lt_of_cell? _ _ hw127_0; first | rwa [add_block] at this | exact this) GW129.out)) | (dsimp only; exact Nat.ne_of_lt (Nat.lt_of_lt_of_le (by have := World.block_lt_of_cell? _ _ hw127_0; first | rwa [add_block] at this | exact this) GW129.out))) _).trans (hHeld.2.2.1)))))))), ((cell_far (p := ⟨gb129, _, none⟩) (by first | exact Nat.ne_of_lt (Nat.lt_of_lt_of_le (by have := World.block_lt_of_cell? _ _ hw128_0; first | rwa [add_block] at this | exact this) GW129.out) | (rw [add_block]; exact Nat.ne_of_lt (Nat.lt_of_lt_of_le (by have := World.block_lt_of_cell? _ _ hw128_0; first | rwa [add_block] at this | exact this) GW129.out)) | (show (Addr.add _ _).block ≠ _; rw [add_block]; exact Nat.ne_of_lt (Nat.lt_of_lt_of_le (by have := World.block_lt_of_cell? _ _ hw128_0; first | rwa [add_block] at this | exact this) GW129.out)) | (dsimp only; exact Nat.ne_of_lt (Nat.lt_of_lt_of_le (by have := World.block_lt_of_cell? _ _ hw128_0; first | rwa [add_block] at this | exact this) GW129.out))) _).trans (((cell_far (p := ⟨gb129, _, none⟩) (by first | exact Nat.ne_of_lt (Nat.lt_of_lt_of_le (by have := World.block_lt_of_cell? _ _ hw128_0; first | rwa [add_block] at this | exact this) GW129.out) | (rw [add_block]; exact Nat.ne_of_lt (Nat.lt_of_lt_of_le (by have := World.block_lt_of_cell? _ _ hw128_0; first | rwa [add_block] at this | exact this) GW129.out)) | (show (Addr.add _ _).block ≠ _; rw [add_block]; exact Nat.ne_of_lt (Nat.lt_of_lt_of_le (by have := World.block_lt_of_cell? _ _ hw128_0; first | rwa [add_block] at this | exact this) GW129.out)) | (dsimp only; exact Nat.ne_of_lt (Nat.lt_of_lt_of_le (by have := World.block_lt_of_cell? _ _ hw128_0; first | rwa [add_block] at this | exact this) GW129.out))) _).trans (((cell_far (p := ⟨gb129, _, none⟩) (by first | exact Nat.ne_of_lt (Nat.lt_of_lt_of_le (by have := World.block_lt_of_cell? _ _ hw128_0; first | rwa [add_block] at this | exact this) GW129.out) | (rw [add_block]; exact Nat.ne_of_lt (Nat.lt_of_lt_of_le (by have := World.block_lt_of_cell? _ _ hw128_0; first | rwa [add_block] at this | exact this) GW129.out)) | (show (Addr.add _ _).block ≠ _; rw [add_block]; exact Nat.ne_of_lt (Nat.lt_of_lt_of_le (by have := World.block_lt_of_cell? _ _ hw128_0; first | rwa [add_block] at this | exact this) GW129.out)) | (dsimp only; exact Nat.ne_of_lt (Nat.lt_of_lt_of_le (by have := World.block_lt_of_cell? _ _ hw128_0; first | rwa [add_block] at this | exact this) GW129.out))) _).trans (((cell_far (p := ⟨gb129, _, none⟩) (by first | exact Nat.ne_of_lt (Nat.lt_of_lt_of_le (by have := World.block_lt_of_cell? _ _ hw128_0; first | rwa [add_block] at this | exact this) GW129.out) | (rw [add_block]; exact Nat.ne_of_lt (Nat.lt_of_lt_of_le (by have := World.block_lt_of_cell? _ _ hw128_0; first | rwa [add_block] at this | exact this) GW129.out)) | (show (Addr.add _ _).block ≠ _; rw [add_block]; exact Nat.ne_of_lt (Nat.lt_of_lt_of_le (by have := World.block_lt_of_cell? _ _ hw128_0; first | rwa [add_block] at this | exact this) GW129.out)) | (dsimp only; exact Nat.ne_of_lt (Nat.lt_of_lt_of_le (by have := World.block_lt_of_cell? _ _ hw128_0; first | rwa [add_block] at this | exact this) GW129.out))) _).trans (hHeld.2.2.2))))))))⟩ (fun hHeld => ?_)
                          clear hK K
                          refine done_ (done_of HT_.out (by kernel_rfl)) ?_
                          try go_wp2
                          have n0_ : Aside0 (Kd.R k43 43 ((((w59.setCell ⟨gb129, 0, none⟩ (.int .u8 (rd (l4.drop ((ji29) : Int).toNat) 2))).setCell ⟨gb129, 1, none⟩ (.int .u8 (rd (l4.drop ((ji29) : Int).toNat) 1))).setCell ⟨gb129, 2, none⟩ (.int .u8 (rd (l4.drop ((ji29) : Int).toNat) 0))).setCell ⟨gb129, 3, none⟩ (.int .u8 (rd (l4.drop ((ji29) : Int).toNat) 3))) w.heap.size (fun k_ => k_ ≠ gb129) u124002 x124002_5) := ⟨by (with_reducible repeat (first | apply Kd.R_alloc | apply Kd.R_drewN | apply Kd.R_drew)); exact Kd.R_mono (Kd.R_far (p := ⟨gb129, 3, none⟩) (Kd.R_far (p := ⟨gb129, 2, none⟩) (Kd.R_far (p := ⟨gb129, 1, none⟩) (Kd.R_far (p := ⟨gb129, 0, none⟩) (Kd.R_mono HO_124002.out (fun k_ hk => (⟨hk, hk.2⟩ : _ ∧ k_ ≠ gb129))) (fun _ hk => hk.2) (.int .u8 (rd (l4.drop ((ji29) : Int).toNat) 2))) (fun _ hk => hk.2) (.int .u8 (rd (l4.drop ((ji29) : Int).toNat) 1))) (fun _ hk => hk.2) (.int .u8 (rd (l4.drop ((ji29) : Int).toNat) 0))) (fun _ hk => hk.2) (.int .u8 (rd (l4.drop ((ji29) : Int).toNat) 3))) (fun _ hk => hk.1.2)⟩
                          have n1_ : Aside0 (((((w59.setCell ⟨gb129, 0, none⟩ (.int .u8 (rd (l4.drop ((ji29) : Int).toNat) 2))).setCell ⟨gb129, 1, none⟩ (.int .u8 (rd (l4.drop ((ji29) : Int).toNat) 1))).setCell ⟨gb129, 2, none⟩ (.int .u8 (rd (l4.drop ((ji29) : Int).toNat) 0))).setCell ⟨gb129, 3, none⟩ (.int .u8 (rd (l4.drop ((ji29) : Int).toNat) 3))).heap[gb120]? = some (.cells #[.int .i64 0, .int .i64 0, .slice none 0 0] 27 (0, 0))) := bf_ BK120
                          have n2_ : Aside0 (((((w59.setCell ⟨gb129, 0, none⟩ (.int .u8 (rd (l4.drop ((ji29) : Int).toNat) 2))).setCell ⟨gb129, 1, none⟩ (.int .u8 (rd (l4.drop ((ji29) : Int).toNat) 1))).setCell ⟨gb129, 2, none⟩ (.int .u8 (rd (l4.drop ((ji29) : Int).toNat) 0))).setCell ⟨gb129, 3, none⟩ (.int .u8 (rd (l4.drop ((ji29) : Int).toNat) 3))).heap[gb123]? = some (.cells #[.int .i64 a1, .int .i64 a2, u124002] 27 (0, 0))) := bf_ BK123
                          have n3_ : Aside0 (((((w59.setCell ⟨gb129, 0, none⟩ (.int .u8 (rd (l4.drop ((ji29) : Int).toNat) 2))).setCell ⟨gb129, 1, none⟩ (.int .u8 (rd (l4.drop ((ji29) : Int).toNat) 1))).setCell ⟨gb129, 2, none⟩ (.int .u8 (rd (l4.drop ((ji29) : Int).toNat) 0))).setCell ⟨gb129, 3, none⟩ (.int .u8 (rd (l4.drop ((ji29) : Int).toNat) 3))).heap[gb129]? = some (.cells #[.int .u8 (rd (l4.drop ((ji29) : Int).toNat) 2), .int .u8 (rd (l4.drop ((ji29) : Int).toNat) 1), .int .u8 (rd (l4.drop ((ji29) : Int).toNat) 0), .int .u8 (rd (l4.drop ((ji29) : Int).toNat) 3)] 43 (0, 0))) := ⟨by (with_reducible repeat (first | refine blk_drewN ?_ _ | refine blk_drew ?_ | refine blk_alloc ?_ _)); refine blk_put (cs := #[.int .u8 (rd (l4.drop ((ji29) : Int).toNat) 2), .int .u8 (rd (l4.drop ((ji29) : Int).toNat) 1), .int .u8 (rd (l4.drop ((ji29) : Int).toNat) 0), .int .u8 0]) ?_ 3 _ rfl; (with_reducible repeat (first | refine blk_drewN ?_ _ | refine blk_drew ?_ | refine blk_alloc ?_ _)); refine blk_put (cs := #[.int .u8 (rd (l4.drop ((ji29) : Int).toNat) 2), .int .u8 (rd (l4.drop ((ji29) : Int).toNat) 1), .int .u8 0, .int .u8 0]) ?_ 2 _ rfl; (with_reducible repeat (first | refine blk_drewN ?_ _ | refine blk_drew ?_ | refine blk_alloc ?_ _)); refine blk_put (cs := #[.int .u8 (rd (l4.drop ((ji29) : Int).toNat) 2), .int .u8 0, .int .u8 0, .int .u8 0]) ?_ 1 _ rfl; (with_reducible repeat (first | refine blk_drewN ?_ _ | refine blk_drew ?_ | refine blk_alloc ?_ _)); refine blk_put (cs := #[.int .u8 0, .int .u8 0, .int .u8 0, .int .u8 0]) ?_ 0 _ rfl; (with_reducible repeat (first | refine blk_drewN ?_ _ | refine blk_drew ?_ | refine blk_alloc ?_ _)); exact BK129.out⟩
                          have n4_ : Aside0 (Below w.heap.size w ((((w59.setCell ⟨gb129, 0, none⟩ (.int .u8 (rd (l4.drop ((ji29) : Int).toNat) 2))).setCell ⟨gb129, 1, none⟩ (.int .u8 (rd (l4.drop ((ji29) : Int).toNat) 1))).setCell ⟨gb129, 2, none⟩ (.int .u8 (rd (l4.drop ((ji29) : Int).toNat) 0))).setCell ⟨gb129, 3, none⟩ (.int .u8 (rd (l4.drop ((ji29) : Int).toNat) 3)))) := ⟨by repeat (first | (with_reducible first | exact HB.out | apply below_alloc | apply pw_below_drewN | apply below_drew1 | refine below_set ?_ GE120.out | refine below_set ?_ GE123.out | refine below_set ?_ GE129.out) | exact HB.out)⟩
                          (try clear HO_124002)
                          (try clear BK120)
                          (try clear BK123)
                          (try clear BK129)
                          (try clear HB)
                          generalize ((((w59.setCell ⟨gb129, 0, none⟩ (.int .u8 (rd (l4.drop ((ji29) : Int).toNat) 2))).setCell ⟨gb129, 1, none⟩ (.int .u8 (rd (l4.drop ((ji29) : Int).toNat) 1))).setCell ⟨gb129, 2, none⟩ (.int .u8 (rd (l4.drop ((ji29) : Int).toNat) 0))).setCell ⟨gb129, 3, none⟩ (.int .u8 (rd (l4.drop ((ji29) : Int).toNat) 3))) = w64 at n0_ n1_ n2_ n3_ n4_ ⊢
                          have HO_124002 := n0_
                          have BK120 := n1_
                          have BK123 := n2_
                          have BK129 := n3_
                          have HB := n4_
                          clear n0_ n1_ n2_ n3_ n4_
                          replace HO_124002 := Aside0.mk (Kd.R_drew HO_124002.out)
                          replace BK120 := Aside0.mk (blk_drew BK120.out)
                          replace BK123 := Aside0.mk (blk_drew BK123.out)
                          replace BK129 := Aside0.mk (blk_drew BK129.out)
                          replace HB := Aside0.mk (below_drew1 HB.out)
                          refine start_ (n := 8) (S := fun w' => w'.cell? ⟨gb123, 0, none⟩ = some (.int .i64 a1) ∧ w'.cell? ⟨gb123, 1, none⟩ = some (.int .i64 a2) ∧ w'.cell? ⟨gb123, 2, none⟩ = some (u124002) ∧ w'.cell? ⟨gb129, 0, none⟩ = some (.int .u8 (rd (l4.drop ((ji29) : Int).toNat) 2)) ∧ w'.cell? ⟨gb129, 1, none⟩ = some (.int .u8 (rd (l4.drop ((ji29) : Int).toNat) 1)) ∧ w'.cell? ⟨gb129, 2, none⟩ = some (.int .u8 (rd (l4.drop ((ji29) : Int).toNat) 0)) ∧ w'.cell? ⟨gb129, 3, none⟩ = some (.int .u8 (rd (l4.drop ((ji29) : Int).toNat) 3))) (ds := [7]) zq14.q16 (by kernel_rfl) rfl rfl ⟨c_ BK123 0, ⟨c_ BK123 1, ⟨c_ BK123 2, (h4_ BK129)⟩⟩⟩ (fun hHeld => ?_); refine with_tabW buffer_Decode.tab20 buffer_Decode.bits20 (fun HT_ HW_ => ?_)
                          generalize w64.drew = w65 at HO_124002 BK120 BK123 BK129 HB hHeld ⊢
                          refine pv_ 0 89 zq14.q17 HT_ ?_
                          refine take_ (i := 1) (N := some 90) (v := ?_) (a' := ?_) zq14.q18 rfl rfl (take_ofW HT_.out HW_.out (by kernel_rfl)) (fun _ _ _ h => h) (Or.inl ⟨by rfl, ?_⟩) hHeld ?_ ?_
                          rotate_left
                          ·
                           rintro w' ⟨s0, s1, s2, s3, s4, s5, s6⟩
                           go_simp
                           with_reducible rfl
                          rotate_left
                          ·
                           simp only [Act.put, List.setIfInBounds_toArray, List.set_cons_zero, List.set_cons_succ, i64_w, i32_w]
                           rfl
                          refine take_ (i := 2) (N := some 91) (v := ?_) (a' := ?_) zq14.q19 rfl rfl (take_ofW HT_.out HW_.out (by kernel_rfl)) (fun _ _ _ h => h) (Or.inl ⟨by rfl, ?_⟩) hHeld ?_ ?_
                          rotate_left
                          ·
                           rintro w' ⟨s0, s1, s2, s3, s4, s5, s6⟩
                           go_simp
                           with_reducible rfl
                          rotate_left
                          ·
                           simp only [Act.put, List.setIfInBounds_toArray, List.set_cons_zero, List.set_cons_succ, i64_w, i32_w]
                           rfl
                          refine one_ (i := 3) (N := some 92) zq14.q20 rfl rfl (one_of HT_.out (by kernel_rfl)) (by decide) (fun K hK => ?_)
                          refine goes_ Try.func40 (by kernel_rfl) rfl #[.agg #[.int .u8 (rd (l4.drop ((ji29) : Int).toNat) 2), .int .u8 (rd (l4.drop ((ji29) : Int).toNat) 1), .int .u8 (rd (l4.drop ((ji29) : Int).toNat) 0), .int .u8 (rd (l4.drop ((ji29) : Int).toNat) 3)]] (by rfl) rfl rfl (by (try simp only [List.map_toArray, List.map_cons, List.map_nil]); first | done | (simp only [hji29]; rfl) | rfl | (simp only [List.length_drop, List.length_take]; rfl)) ?_
                          with_reducible refine (pixel_Clamp.calls (rd (l4.drop ((ji29) : Int).toNat) 2) (rd (l4.drop ((ji29) : Int).toNat) 1) (rd (l4.drop ((ji29) : Int).toNat) 0) (rd (l4.drop ((ji29) : Int).toNat) 3) t137 t138 t139 t140 _ A55.out).mono ?_
                          rintro e w66 ⟨rfl, hb⟩
                          refine ⟨_, rfl, ?_⟩
                          replace HO_124002 := Aside0.mk (Kd.R_below (by (with_reducible repeat (first | apply Kd.R_alloc | apply Kd.R_drewN | apply Kd.R_drew)); exact HO_124002.out) hb)
                          replace BK120 := bb_ BK120 hb
                          replace BK123 := bb_ BK123 hb
                          replace BK129 := Aside0.mk (blk_below (g := gb129) (o := .cells #[.int .u8 (rd (l4.drop ((ji29) : Int).toNat) 2), .int .u8 (rd (l4.drop ((ji29) : Int).toNat) 1), .int .u8 (rd (l4.drop ((ji29) : Int).toNat) 0), .int .u8 (rd (l4.drop ((ji29) : Int).toNat) 3)] 43 (0, 0)) (bq_ BK129) hb)
                          replace HB := hb_ HB hb
                          (try clear hb); (try clear hb2); (try clear hk); (try clear hi)
                          refine hK.out _ _ ⟨c_ BK123 0, ⟨c_ BK123 1, ⟨c_ BK123 2, (h4_ BK129)⟩⟩⟩ (fun hHeld => ?_)
                          clear hK K
                          refine norm_ (a' := ?_) ?_ ?_
                          rotate_left
                          ·
                           show Act.put _ (some 92) _ = _
                           simp only [Act.put, List.setIfInBounds_toArray, List.set_cons_zero, List.set_cons_succ, i64_w, i32_w]
                           rfl
                          refine one_ (i := 4) (N := some 93) zq14.q21 rfl rfl (one_of HT_.out (by kernel_rfl)) (by decide) (fun K hK => ?_)
                          refine value_ (w1 := ?_) (v := ?_) (by rfl) rfl ?_ ?_
                          rotate_left 2
                          ·
                           go_simp
                           constructor
                           ·
                            rfl
                           ·
                            rfl
                          refine hK.out _ _ ⟨(blk_cell (blk_alloc BK123.out _) 0).trans rfl, (blk_cell (blk_alloc BK123.out _) 1).trans rfl, (blk_cell (blk_alloc BK123.out _) 2).trans rfl, (blk_cell (blk_alloc BK129.out _) 0).trans rfl, (blk_cell (blk_alloc BK129.out _) 1).trans rfl, (blk_cell (blk_alloc BK129.out _) 2).trans rfl, (blk_cell (blk_alloc BK129.out _) 3).trans rfl⟩ (fun hHeld => ?_)
                          clear hK K
                          refine norm_ (a' := ?_) ?_ ?_
                          rotate_left
                          ·
                           show Act.put _ (some 93) _ = _
                           simp only [Act.put, List.setIfInBounds_toArray, List.set_cons_zero, List.set_cons_succ, i64_w, i32_w]
                           rfl
                          refine one_ (i := 5) (N := some 94) zq14.q22 rfl rfl (one_of HT_.out (by kernel_rfl)) (by decide) (fun K hK => ?_)
                          refine Kd.R_append_step k43 (w0 := w) w.heap.size (by rfl) (.tmp 90) (.tmp 93) 25 43 (.agg #[(.int .u8 0), (.int .u8 0), (.int .u8 0), (.int .u8 0)]) 4 rfl Try.underlying25 info43 rfl (by decide) (by omega) u124002 x124002_5 (⟨t137, t138, t139, t140⟩ : S43) [.int .u8 t137, .int .u8 t138, .int .u8 t139, .int .u8 t140] (fun k_ => k_ ≠ gb129) (fun _ => False) rfl rfl ?aP (fun _ hk => hk.elim) ?aF ?aO ?aB ?aS ?aL ?_
                          (case aP => exact k43_mkM _ _ _ (⟨t137, t138, t139, t140⟩ : S43))
                          (case aB => exact (hq_ HB))
                          (case aF => exact (fun k_ hk => Kd.freshB (g := gb129) (o := .cells #[.int .u8 (rd (l4.drop ((ji29) : Int).toNat) 2), .int .u8 (rd (l4.drop ((ji29) : Int).toNat) 1), .int .u8 (rd (l4.drop ((ji29) : Int).toNat) 0), .int .u8 (rd (l4.drop ((ji29) : Int).toNat) 3)] 43 (0, 0)) (bq_ BK129) k_ hk))
                          (case aO => exact (by (with_reducible repeat (first | apply Kd.R_alloc | apply Kd.R_drewN | apply Kd.R_drew)); exact HO_124002.out))
                          (case aS => exact (below_size (hq_ HB)))
                          (case aL => have := LMc56.out; omega)
                          intro v142 w67 ho hb hg hat
                          rw [← Ny141.out] at ho
                          replace BK120 := Aside0.mk (blk_grown (g := gb120) (o := .cells #[.int .i64 0, .int .i64 0, .slice none 0 0] 27 (0, 0)) (bq_ BK120) hg (Kd.R_ne HO_124002.out BK120.out (by decide)))
                          replace BK123 := Aside0.mk (blk_grown (g := gb123) (o := .cells #[.int .i64 a1, .int .i64 a2, u124002] 27 (0, 0)) (bq_ BK123) hg (Kd.R_ne HO_124002.out BK123.out (by decide)))
                          replace BK129 := Aside0.mk (blk_grown (g := gb129) (o := .cells #[.int .u8 (rd (l4.drop ((ji29) : Int).toNat) 2), .int .u8 (rd (l4.drop ((ji29) : Int).toNat) 1), .int .u8 (rd (l4.drop ((ji29) : Int).toNat) 0), .int .u8 (rd (l4.drop ((ji29) : Int).toNat) 3)] 43 (0, 0)) (bq_ BK129) hg (Kd.R_away HO_124002.out (fun _ hk => hk)))
                          replace HB := Aside0.mk (hb)
                          have HO143 := Aside0.mk (ho)
                          clear HO_124002
                          clear ho hb hg hat
                          obtain ⟨Ao68, co68, eo68⟩ := Kd.R_slice HO143.out
                          (first | subst eo68 | (injection eo68 with f1_ f2_ f3_; have f4_ := f1_.symm; have f5_ := f3_.symm; clear f1_ f2_ f3_; subst f4_; subst f5_))
                          refine hK.out _ _ ⟨c_ BK123 0, ⟨c_ BK123 1, ⟨c_ BK123 2, (h4_ BK129)⟩⟩⟩ (fun hHeld => ?_)
                          clear hK K
                          refine norm_ (a' := ?_) ?_ ?_
                          rotate_left
                          ·
                           show Act.put _ (some 94) _ = _
                           simp only [Act.put, List.setIfInBounds_toArray, List.set_cons_zero, List.set_cons_succ, i64_w, i32_w]
                           rfl
                          refine pv_ 6 95 zq14.q23 HT_ ?_
                          refine last_ (i := 7) (N := none) zq14.q24 rfl rfl (one_of HT_.out (by kernel_rfl)) (by decide) (fun K hK => ?_)
                          have hs69 : w67.cell? ⟨gb123, 2, none⟩ = some (u124002) := (blk_cell BK123.out 2).trans rfl
                          have hfs69 := blk_frozen BK123.out 2
                          have hns69_0 := NB120_123.out
                          have hns69_2 := NB129_123.out
                          have hms69_0 := NB123_120.out
                          have hms69_2 := NB123_129.out
                          refine skip_ (w1 := ?_) (by rfl) rfl ?_ ?_
                          rotate_left
                          ·
                           go_simp
                           rfl
                          refine hK.out _ _ ?_
                          clear hK K
                          refine done_ (done_of HT_.out (by kernel_rfl)) ?_
                          try go_wp2
                          go_roundg k5
                          case measure => have := HJ5.out; have := HJ10.out; have := HJ16.out; have := HK4.out; have := HK5.out; omega
                          case rel => exact ⟨(wrap64 (x62_5 + 1)), (y141), (.slice Ao68 y141.length co68), (by first | rfl | (simp; done) | (simp [*]; done)), H', ⟨by have := HJ5.out; have := HJ10.out; have := HJ16.out; have := HK4.out; have := HK5.out; omega⟩, ⟨by (with_reducible repeat (first | apply Kd.R_alloc | apply Kd.R_drewN | apply Kd.R_drew)); exact Kd.R_mono (Kd.R_far (p := ⟨gb123, 2, none⟩) (Kd.R_types HO143.out BK123.out (by decide)) (fun _ hk => hk.2) (.slice Ao68 y141.length co68)) (fun _ hk => trivial)⟩, bf_ BK120, ⟨by (with_reducible repeat (first | refine blk_drewN ?_ _ | refine blk_drew ?_ | refine blk_alloc ?_ _)); refine blk_put (cs := #[.int .i64 a1, .int .i64 a2, u124002]) ?_ 2 _ rfl; (with_reducible repeat (first | refine blk_drewN ?_ _ | refine blk_drew ?_ | refine blk_alloc ?_ _)); exact BK123.out⟩, ⟨by repeat (first | (with_reducible first | exact HB.out | apply below_alloc | apply pw_below_drewN | apply below_drew1 | refine below_set ?_ GE120.out | refine below_set ?_ GE123.out | refine below_set ?_ GE129.out) | exact HB.out)⟩⟩
                         ·
                          rw [if_neg c56] at H
                          exact absurd H (by simp)
                       ·
                        rw [if_neg c35] at H
                        exact absurd H (by simp)
                      ·
                       rw [if_neg c34] at H
                       exact absurd H (by simp)
                     ·
                      rw [if_neg c33] at H
                      exact absurd H (by simp)
                    ·
                     rw [if_neg c32] at H
                     exact absurd H (by simp)
                   ·
                    rw [if_neg c31] at H
                    exact absurd H (by simp)
                  ·
                   rw [if_neg c30] at H
                   exact absurd H (by simp)
                 ·
                  rw [if_neg c28] at H
                  have c28b0 : decide (x62_5 < a1) = false := decide_eq_false c28
                  clear c28
                  have H' := Aside0.mk H
                  clear H
                  go_wp2
                  go_roundg k5
                  case measure => have := HJ5.out; have := HJ10.out; have := HJ16.out; have := HK4.out; have := HK5.out; omega
                  case rel => exact ⟨(wrap64 (x58_4 + 1)), (x124002_5), (u124002), (by first | rfl | (simp; done) | (simp [*]; done)), H', ⟨by have := HJ5.out; have := HJ10.out; have := HJ16.out; have := HK4.out; have := HK5.out; omega⟩, ⟨by (with_reducible repeat (first | apply Kd.R_alloc | apply Kd.R_drewN | apply Kd.R_drew)); exact HO_124002.out⟩, bf_ BK120, bf_ BK123, ⟨by repeat (first | (with_reducible first | exact HB.out | apply below_alloc | apply pw_below_drewN | apply below_drew1 | refine below_set ?_ GE120.out | refine below_set ?_ GE123.out) | exact HB.out)⟩⟩
              ·
               rw [if_neg c27] at H
               have c27b0 : decide (x58_4 < a2) = false := decide_eq_false c27
               clear c27
               simp only [Option.some.injEq, Prod.mk.injEq] at H
               obtain ⟨rfl, rfl, rfl, rfl⟩ := H
               have hnb70 := NB123_120.out
               have hnc70 := NB120_123.out
               have hcz71_0 : wr.cell? ⟨gb123, 0, none⟩ = some (.int .i64 a1) := (blk_cell BK123.out 0).trans rfl
               have hcz71_1 : wr.cell? ⟨gb123, 1, none⟩ = some (.int .i64 a2) := (blk_cell BK123.out 1).trans rfl
               have hcz71_2 : wr.cell? ⟨gb123, 2, none⟩ = some (u124002) := (blk_cell BK123.out 2).trans rfl
               have hfz71_0 := blk_frozen BK123.out 0
               have hfz71_1 := blk_frozen BK123.out 1
               have hfz71_2 := blk_frozen BK123.out 2
               have hcz72_0 : wr.cell? ⟨gb120, 0, none⟩ = some (.int .i64 0) := (blk_cell BK120.out 0).trans rfl
               have hcz72_1 : wr.cell? ⟨gb120, 1, none⟩ = some (.int .i64 0) := (blk_cell BK120.out 1).trans rfl
               have hcz72_2 : wr.cell? ⟨gb120, 2, none⟩ = some (.slice none 0 0) := (blk_cell BK120.out 2).trans rfl
               have hfz72_0 := blk_frozen BK120.out 0
               have hfz72_1 := blk_frozen BK120.out 1
               have hfz72_2 := blk_frozen BK120.out 2
               obtain ⟨Ao73, co73, eo73⟩ := Kd.R_slice HO_124002.out
               subst eo73
               go_wp2
               refine bodyPost_ret (results_ct rfl _ _ gb120 27 #[.int .i64 a1, .int .i64 a2, .slice Ao73 x124002_4.length co73] (0, 0) _ rfl (by (with_reducible repeat (first | refine blk_drewN ?_ _ | refine blk_drew ?_ | refine blk_alloc ?_ _)); refine blk_put (cs := #[.int .i64 a1, .int .i64 a2, .slice none 0 0]) ?_ 2 _ rfl; (with_reducible repeat (first | refine blk_drewN ?_ _ | refine blk_drew ?_ | refine blk_alloc ?_ _)); refine blk_put (cs := #[.int .i64 a1, .int .i64 0, .slice none 0 0]) ?_ 1 _ rfl; (with_reducible repeat (first | refine blk_drewN ?_ _ | refine blk_drew ?_ | refine blk_alloc ?_ _)); refine blk_put (cs := #[.int .i64 0, .int .i64 0, .slice none 0 0]) ?_ 0 _ rfl; (with_reducible repeat (first | refine blk_drewN ?_ _ | refine blk_drew ?_ | refine blk_alloc ?_ _)); exact BK120.out) Try.underlying27 rfl (by kernel_rfl)) rfl ?_
               exact ⟨_, by first | rfl | (simp [errW_none, errW_some] <;> rfl) | (simp [*, errW_none, errW_some] <;> rfl), by (with_reducible repeat (first | apply Kd.R_alloc | apply Kd.R_drewN | apply Kd.R_drew)); exact Kd.R_mono (Kd.R_far (p := ⟨gb120, 2, none⟩) (Kd.R_far (p := ⟨gb120, 1, none⟩) (Kd.R_far (p := ⟨gb120, 0, none⟩) (Kd.R_types HO_124002.out BK120.out (by decide)) (fun _ hk => hk.2) (.int .i64 a1)) (fun _ hk => hk.2) (.int .i64 a2)) (fun _ hk => hk.2) (.slice Ao73 x124002_4.length co73)) (fun _ hk => trivial), by repeat (first | (with_reducible first | exact HB.out | apply below_alloc | apply pw_below_drewN | apply below_drew1 | refine below_set ?_ GE120.out | refine below_set ?_ GE123.out) | exact HB.out)⟩

end Go.Proofs.Ytmockeaiccpogaa.All
