-- The texts behind this claim's law, put together by a program of this session (shake.py): what no text uses is left out. Its words are print.sh's.
import Derived.Test.YtmockeaiccpogaaSBufferDiff14
section
namespace Go.Proofs.Ytmockeaiccpogaa.All
open Go.Proofs.YtmockeaiccpogaaSq
open Go.RowKit Go.Proofs.YtmockeaiccpogaaW.PrintWords Go.Proofs.YtmockeaiccpogaaW.PrintLast Go.Proofs.YtmockeaiccpogaaW.PrintMore
attribute [local go_sem] max2_int min2_int max_two min_two max_three min_three max_four min_four
set_option linter.unusedVariables false
set_option linter.unusedSimpArgs false
abbrev zq14.q0 := Go.Proofs.YtmockeaiccpogaaHand.bz 15 0
abbrev zq14.q1 := Go.Proofs.YtmockeaiccpogaaHand.bz 15 1
abbrev zq14.q2 := Go.Proofs.YtmockeaiccpogaaHand.bz 15 3
abbrev zq14.q3 := Go.Proofs.YtmockeaiccpogaaHand.bz 15 11
abbrev zq14.q4 := Go.Proofs.YtmockeaiccpogaaHand.bz 15 27
abbrev zq14.q5 := Go.Proofs.YtmockeaiccpogaaHand.bz 15 91
abbrev zq14.q6 := Go.Proofs.YtmockeaiccpogaaHand.bz 15 219
abbrev zq14.q7 := Go.Proofs.YtmockeaiccpogaaHand.bz 15 731
abbrev zq14.q8 := Go.Proofs.YtmockeaiccpogaaHand.bz 15 1755
abbrev zq14.q9 := Go.Proofs.YtmockeaiccpogaaHand.bz 15 1759
abbrev zq14.q10 := Go.Proofs.YtmockeaiccpogaaHand.bz 15 1791
abbrev zq14.q11 := Go.Proofs.YtmockeaiccpogaaHand.bz 15 2047
abbrev zq14.q12 := Go.Proofs.YtmockeaiccpogaaHand.bz 15 4095
abbrev zq14.q13 := Go.Proofs.YtmockeaiccpogaaHand.bz 15 8191
abbrev zq14.q14 := Go.Proofs.YtmockeaiccpogaaHand.bz 15 16383
abbrev zq14.q15 := Go.Proofs.YtmockeaiccpogaaHand.bz 15 32767
abbrev zq14.q16 := Go.Proofs.YtmockeaiccpogaaHand.bz 8 0
abbrev zq14.q17 := Go.Proofs.YtmockeaiccpogaaHand.bz 8 1
abbrev zq14.q18 := Go.Proofs.YtmockeaiccpogaaHand.bz 8 3
abbrev zq14.q19 := Go.Proofs.YtmockeaiccpogaaHand.bz 8 7
abbrev zq14.q20 := Go.Proofs.YtmockeaiccpogaaHand.bz 8 15
abbrev zq14.q21 := Go.Proofs.YtmockeaiccpogaaHand.bz 8 31
abbrev zq14.q22 := Go.Proofs.YtmockeaiccpogaaHand.bz 8 63
abbrev zq14.q23 := Go.Proofs.YtmockeaiccpogaaHand.bz 8 127
abbrev zq14.q24 := Go.Proofs.YtmockeaiccpogaaHand.bz 8 255
mutual
def buffer_Decode.j0 : Nat → Int → Int → Int → Int → List Int → Bool → Option (Int × Int × (List (S43)) × Int)
 | 0, _, _, _, _, _, _ => none
 | k + 1, x0, x1, x2, x3, x4, x17 => if x17 = true then (some (0, 0, ([] : List (S43)), 2)) else ((buffer_size.f x1).bind fun t121 => (if t121 = true then ((buffer_size.f x2).bind fun t122 => (buffer_Decode.j1 k x0 x1 x2 x3 x4 (!t122))) else (buffer_Decode.j1 k x0 x1 x2 x3 x4 true)))
def buffer_Decode.j1 : Nat → Int → Int → Int → Int → List Int → Bool → Option (Int × Int × (List (S43)) × Int)
 | 0, _, _, _, _, _, _ => none
 | k + 1, x0, x1, x2, x3, x4, x25 => if x25 = true then (some (0, 0, ([] : List (S43)), 6)) else (if x3 < (wrap64 (4 * x1)) then (buffer_Decode.j2 k x0 x1 x2 x3 x4 true) else (buffer_Decode.j2 k x0 x1 x2 x3 x4 ((Int.tmod x3 4) != 0)))
def buffer_Decode.j2 : Nat → Int → Int → Int → Int → List Int → Bool → Option (Int × Int × (List (S43)) × Int)
 | 0, _, _, _, _, _, _ => none
 | k + 1, x0, x1, x2, x3, x4, x35 => if x35 = true then (some (0, 0, ([] : List (S43)), 15)) else (if x2 = 0 then (none) else (if x3 > (wrap64 ((x4.length : Int) / x2)) then (some (0, 0, ([] : List (S43)), 4)) else (buffer_Decode.l0 k x0 x1 x3 x4 x2 0 x1 x2 ([] : List (S43)))))
def buffer_Decode.l0 : Nat → Int → Int → Int → List Int → Int → Int → Int → Int → List (S43) → Option (Int × Int × (List (S43)) × Int)
 | 0, _, _, _, _, _, _, _, _, _ => none
 | k + 1, x0, x1, x3, x4, x57, x58, x124000, x124001, x124002 => if x58 < x57 then (buffer_Decode.l1 k x0 x1 x3 x4 x58 x57 x58 x1 0 x124000 x124001 x124002) else (some (x124000, x124001, x124002, 0))
def buffer_Decode.l1 : Nat → Int → Int → Int → List Int → Int → Int → Int → Int → Int → Int → Int → List (S43) → Option (Int × Int × (List (S43)) × Int)
 | 0, _, _, _, _, _, _, _, _, _, _, _, _ => none
 | k + 1, x0, x1, x3, x4, x13, x57, x58, x61, x62, x124000, x124001, x124002 => if x62 < x61 then (if 0 ≤ (wrap64 ((wrap64 (x13 * x3)) + (wrap64 (4 * x62)))) then (if (wrap64 ((wrap64 (x13 * x3)) + (wrap64 (4 * x62)))) ≤ (x4.length : Int) then (if 0 < ((x4.drop ((wrap64 ((wrap64 (x13 * x3)) + (wrap64 (4 * x62)))) : Int).toNat).length : Int) then (if 1 < ((x4.drop ((wrap64 ((wrap64 (x13 * x3)) + (wrap64 (4 * x62)))) : Int).toNat).length : Int) then (if 2 < ((x4.drop ((wrap64 ((wrap64 (x13 * x3)) + (wrap64 (4 * x62)))) : Int).toNat).length : Int) then (if 3 < ((x4.drop ((wrap64 ((wrap64 (x13 * x3)) + (wrap64 (4 * x62)))) : Int).toNat).length : Int) then (if x0 = 2 then ((pixel_Clamp.f (rd (x4.drop ((wrap64 ((wrap64 (x13 * x3)) + (wrap64 (4 * x62)))) : Int).toNat) 2) (rd (x4.drop ((wrap64 ((wrap64 (x13 * x3)) + (wrap64 (4 * x62)))) : Int).toNat) 1) (rd (x4.drop ((wrap64 ((wrap64 (x13 * x3)) + (wrap64 (4 * x62)))) : Int).toNat) 0) 255).bind fun bt130 => (if x124002.length < 35184372088832 then (buffer_Decode.l1 k x0 x1 x3 x4 x13 x57 x58 x61 (wrap64 (x62 + 1)) x124000 x124001 (x124002 ++ [(⟨bt130.1, bt130.2.1, bt130.2.2.1, bt130.2.2.2⟩ : S43)])) else (none))) else ((pixel_Clamp.f (rd (x4.drop ((wrap64 ((wrap64 (x13 * x3)) + (wrap64 (4 * x62)))) : Int).toNat) 2) (rd (x4.drop ((wrap64 ((wrap64 (x13 * x3)) + (wrap64 (4 * x62)))) : Int).toNat) 1) (rd (x4.drop ((wrap64 ((wrap64 (x13 * x3)) + (wrap64 (4 * x62)))) : Int).toNat) 0) (rd (x4.drop ((wrap64 ((wrap64 (x13 * x3)) + (wrap64 (4 * x62)))) : Int).toNat) 3)).bind fun bt137 => (if x124002.length < 35184372088832 then (buffer_Decode.l1 k x0 x1 x3 x4 x13 x57 x58 x61 (wrap64 (x62 + 1)) x124000 x124001 (x124002 ++ [(⟨bt137.1, bt137.2.1, bt137.2.2.1, bt137.2.2.2⟩ : S43)])) else (none)))) else (none)) else (none)) else (none)) else (none)) else (none)) else (none)) else (buffer_Decode.l0 k x0 x1 x3 x4 x57 (wrap64 (x58 + 1)) x124000 x124001 x124002)
end
def buffer_Decode.f (k : Nat) (a0 : Int) (a1 : Int) (a2 : Int) (a3 : Int) (l4 : List Int) : Option (Int × Int × (List (S43)) × Int) := if a0 = 1 then (buffer_Decode.j0 k a0 a1 a2 a3 l4 false) else (buffer_Decode.j0 k a0 a1 a2 a3 l4 (a0 != 2))
theorem buffer_Decode.mono_l : ∀ k, (∀ y0 y1 y2 y3 y4 y5, LeO (buffer_Decode.j0 k y0 y1 y2 y3 y4 y5) (buffer_Decode.j0 (k + 1) y0 y1 y2 y3 y4 y5)) ∧ (∀ y0 y1 y2 y3 y4 y5, LeO (buffer_Decode.j1 k y0 y1 y2 y3 y4 y5) (buffer_Decode.j1 (k + 1) y0 y1 y2 y3 y4 y5)) ∧ (∀ y0 y1 y2 y3 y4 y5, LeO (buffer_Decode.j2 k y0 y1 y2 y3 y4 y5) (buffer_Decode.j2 (k + 1) y0 y1 y2 y3 y4 y5)) ∧ (∀ y0 y1 y2 y3 y4 y5 y6 y7 y8, LeO (buffer_Decode.l0 k y0 y1 y2 y3 y4 y5 y6 y7 y8) (buffer_Decode.l0 (k + 1) y0 y1 y2 y3 y4 y5 y6 y7 y8)) ∧ (∀ y0 y1 y2 y3 y4 y5 y6 y7 y8 y9 y10 y11, LeO (buffer_Decode.l1 k y0 y1 y2 y3 y4 y5 y6 y7 y8 y9 y10 y11) (buffer_Decode.l1 (k + 1) y0 y1 y2 y3 y4 y5 y6 y7 y8 y9 y10 y11))
 | 0 => ⟨fun _ _ _ _ _ _ r h => by simp [buffer_Decode.j0] at h, fun _ _ _ _ _ _ r h => by simp [buffer_Decode.j1] at h, fun _ _ _ _ _ _ r h => by simp [buffer_Decode.j2] at h, fun _ _ _ _ _ _ _ _ _ r h => by simp [buffer_Decode.l0] at h, fun _ _ _ _ _ _ _ _ _ _ _ _ r h => by simp [buffer_Decode.l1] at h⟩
 | k + 1 => by
  obtain ⟨ih0, ih1, ih2, ih3, ih4⟩ := buffer_Decode.mono_l k
  refine ⟨?_, ?_, ?_, ?_, ?_⟩
  ·
   intro y0 y1 y2 y3 y4 y5
   unfold buffer_Decode.j0
   repeat' first
   | (with_reducible exact ih0 _ _ _ _ _ _)
   | (with_reducible exact ih1 _ _ _ _ _ _)
   | (with_reducible exact ih2 _ _ _ _ _ _)
   | (with_reducible exact ih3 _ _ _ _ _ _ _ _ _)
   | (with_reducible exact ih4 _ _ _ _ _ _ _ _ _ _ _ _)
   | (with_reducible exact LeO.refl _)
   | (with_reducible exact LeO.none _)
   | (with_reducible refine LeO.ite ?_ ?_)
   | (with_reducible refine LeO.bind ?_ (fun _ => ?_))
   | exact ih0 _ _ _ _ _ _
   | exact ih1 _ _ _ _ _ _
   | exact ih2 _ _ _ _ _ _
   | exact ih3 _ _ _ _ _ _ _ _ _
   | exact ih4 _ _ _ _ _ _ _ _ _ _ _ _
   | exact LeO.none _
   | refine LeO.ite ?_ ?_
   | refine LeO.bind ?_ (fun _ => ?_)
  ·
   intro y0 y1 y2 y3 y4 y5
   unfold buffer_Decode.j1
   repeat' first
   | (with_reducible exact ih0 _ _ _ _ _ _)
   | (with_reducible exact ih1 _ _ _ _ _ _)
   | (with_reducible exact ih2 _ _ _ _ _ _)
   | (with_reducible exact ih3 _ _ _ _ _ _ _ _ _)
   | (with_reducible exact ih4 _ _ _ _ _ _ _ _ _ _ _ _)
   | (with_reducible exact LeO.refl _)
   | (with_reducible exact LeO.none _)
   | (with_reducible refine LeO.ite ?_ ?_)
   | (with_reducible refine LeO.bind ?_ (fun _ => ?_))
   | exact ih0 _ _ _ _ _ _
   | exact ih1 _ _ _ _ _ _
   | exact ih2 _ _ _ _ _ _
   | exact ih3 _ _ _ _ _ _ _ _ _
   | exact ih4 _ _ _ _ _ _ _ _ _ _ _ _
   | exact LeO.none _
   | refine LeO.ite ?_ ?_
   | refine LeO.bind ?_ (fun _ => ?_)
  ·
   intro y0 y1 y2 y3 y4 y5
   unfold buffer_Decode.j2
   repeat' first
   | (with_reducible exact ih0 _ _ _ _ _ _)
   | (with_reducible exact ih1 _ _ _ _ _ _)
   | (with_reducible exact ih2 _ _ _ _ _ _)
   | (with_reducible exact ih3 _ _ _ _ _ _ _ _ _)
   | (with_reducible exact ih4 _ _ _ _ _ _ _ _ _ _ _ _)
   | (with_reducible exact LeO.refl _)
   | (with_reducible exact LeO.none _)
   | (with_reducible refine LeO.ite ?_ ?_)
   | (with_reducible refine LeO.bind ?_ (fun _ => ?_))
   | exact ih0 _ _ _ _ _ _
   | exact ih1 _ _ _ _ _ _
   | exact ih2 _ _ _ _ _ _
   | exact ih3 _ _ _ _ _ _ _ _ _
   | exact ih4 _ _ _ _ _ _ _ _ _ _ _ _
   | exact LeO.none _
   | refine LeO.ite ?_ ?_
   | refine LeO.bind ?_ (fun _ => ?_)
  ·
   intro y0 y1 y2 y3 y4 y5 y6 y7 y8
   unfold buffer_Decode.l0
   repeat' first
   | (with_reducible exact ih0 _ _ _ _ _ _)
   | (with_reducible exact ih1 _ _ _ _ _ _)
   | (with_reducible exact ih2 _ _ _ _ _ _)
   | (with_reducible exact ih3 _ _ _ _ _ _ _ _ _)
   | (with_reducible exact ih4 _ _ _ _ _ _ _ _ _ _ _ _)
   | (with_reducible exact LeO.refl _)
   | (with_reducible exact LeO.none _)
   | (with_reducible refine LeO.ite ?_ ?_)
   | (with_reducible refine LeO.bind ?_ (fun _ => ?_))
   | exact ih0 _ _ _ _ _ _
   | exact ih1 _ _ _ _ _ _
   | exact ih2 _ _ _ _ _ _
   | exact ih3 _ _ _ _ _ _ _ _ _
   | exact ih4 _ _ _ _ _ _ _ _ _ _ _ _
   | exact LeO.none _
   | refine LeO.ite ?_ ?_
   | refine LeO.bind ?_ (fun _ => ?_)
  ·
   intro y0 y1 y2 y3 y4 y5 y6 y7 y8 y9 y10 y11
   unfold buffer_Decode.l1
   repeat' first
   | (with_reducible exact ih0 _ _ _ _ _ _)
   | (with_reducible exact ih1 _ _ _ _ _ _)
   | (with_reducible exact ih2 _ _ _ _ _ _)
   | (with_reducible exact ih3 _ _ _ _ _ _ _ _ _)
   | (with_reducible exact ih4 _ _ _ _ _ _ _ _ _ _ _ _)
   | (with_reducible exact LeO.refl _)
   | (with_reducible exact LeO.none _)
   | (with_reducible refine LeO.ite ?_ ?_)
   | (with_reducible refine LeO.bind ?_ (fun _ => ?_))
   | exact ih0 _ _ _ _ _ _
   | exact ih1 _ _ _ _ _ _
   | exact ih2 _ _ _ _ _ _
   | exact ih3 _ _ _ _ _ _ _ _ _
   | exact ih4 _ _ _ _ _ _ _ _ _ _ _ _
   | exact LeO.none _
   | refine LeO.ite ?_ ?_
   | refine LeO.bind ?_ (fun _ => ?_)
theorem buffer_Decode.mono : ∀ a0 a1 a2 a3 a4 k, LeO (buffer_Decode.f k a0 a1 a2 a3 a4) (buffer_Decode.f (k + 1) a0 a1 a2 a3 a4) := by
 intro a0 a1 a2 a3 a4 k
 obtain ⟨ih0, ih1, ih2, ih3, ih4⟩ := buffer_Decode.mono_l k
 unfold buffer_Decode.f
 repeat' first
   | (with_reducible exact ih0 _ _ _ _ _ _)
   | (with_reducible exact ih1 _ _ _ _ _ _)
   | (with_reducible exact ih2 _ _ _ _ _ _)
   | (with_reducible exact ih3 _ _ _ _ _ _ _ _ _)
   | (with_reducible exact ih4 _ _ _ _ _ _ _ _ _ _ _ _)
   | (with_reducible exact LeO.refl _)
   | (with_reducible exact LeO.none _)
   | (with_reducible refine LeO.ite ?_ ?_)
   | (with_reducible refine LeO.bind ?_ (fun _ => ?_))
   | exact ih0 _ _ _ _ _ _
   | exact ih1 _ _ _ _ _ _
   | exact ih2 _ _ _ _ _ _
   | exact ih3 _ _ _ _ _ _ _ _ _
   | exact ih4 _ _ _ _ _ _ _ _ _ _ _ _
   | exact LeO.none _
   | refine LeO.ite ?_ ?_
   | refine LeO.bind ?_ (fun _ => ?_)
def buffer_Decode.T17 : Bool × List (List Nat × List Nat) := (true, [([], []), ([0], [0]), ([1], [1]), ([], []), ([3], [3]), ([4], [4]), ([], []), ([6], [6]), ([7], [7]), ([], []), ([9], [9]), ([10], [10]), ([2, 5, 8, 11], [2, 5, 8, 11]), ([], []), ([13, 12, 0, 1, 2, 3, 4, 5, 6, 7, 8, 9, 10, 11, 12, 13], [12, 13])])
def buffer_Decode.B17 : List Nat := [0, 1, 3, 0, 8, 24, 0, 64, 192, 0, 512, 1536, 4095, 0, 16383]
theorem buffer_Decode.tab17 : rtab .any (opsOf Try.f14 17) = buffer_Decode.T17 := by kernel_rfl
theorem buffer_Decode.bits17 : waitsOk buffer_Decode.T17.2 buffer_Decode.B17 = true := by kernel_rfl
def buffer_Decode.T20 : Bool × List (List Nat × List Nat) := (true, [([], []), ([0], [0]), ([], []), ([2], [2]), ([3], [3]), ([1, 4, 3], [1, 4]), ([0, 1, 2, 3, 4, 5], []), ([6, 5, 5, 0, 1, 2, 3, 4, 5], [5, 6])])
def buffer_Decode.B20 : List Nat := [0, 1, 0, 4, 12, 31, 63, 127]
theorem buffer_Decode.tab20 : rtab .any (opsOf Try.f14 20) = buffer_Decode.T20 := by kernel_rfl
theorem buffer_Decode.bits20 : waitsOk buffer_Decode.T20.2 buffer_Decode.B20 = true := by kernel_rfl
set_option maxHeartbeats 8000000 in
set_option maxRecDepth 100000 in
theorem buffer_Decode.calls (k : Nat) (a0 : Int) (a1 : Int) (a2 : Int) (a3 : Int) (A4 : Option Addr) (c4 : Nat) (l4 : List Int) (r1 : Int) (r2 : Int) (r3 : List (S43)) (r4 : Int) (w : World) (hr4 : Kd.C (Kd.int .u8) w A4 l4.length l4) (hc4 : l4.length ≤ c4) (h : buffer_Decode.f k a0 a1 a2 a3 l4 = some (r1, r2, r3, r4)) :
  Calls Try.prog 14 #[.int .i64 a0, .int .i64 a1, .int .i64 a2, .int .i64 a3, .slice A4 l4.length c4] w fun e w' => ∃ v2_ : Value, e = .returned (.tuple #[.agg #[.int .i64 r1, .int .i64 r2, v2_], .int .i64 r4]) ∧ Kd.R k43 43 w' w.heap.size (fun _ => True) v2_ r3 ∧ Below w.heap.size w w' := by
 have hu27 := Try.underlying27
 have hu43 := Try.underlying43
 have HR4 := Aside0.mk hr4
 have HC4 := Aside0.mk hc4
 clear hr4 hc4
 have HB := Aside0.mk (Below.refl w.heap.size w)
 have H : (if a0 = 1 then (buffer_Decode.j0 k a0 a1 a2 a3 l4 false) else (buffer_Decode.j0 k a0 a1 a2 a3 l4 (a0 != 2))) = some (r1, r2, r3, r4) := h
 clear h
 have HC6 := Aside0.mk H
 clear H
 go_enter Try.func14, Try.ntmps14
 go_upto_region 1 with (first | ((with_reducible refine gate_dst (N := 10) rfl ?_); refine box_event ?hg (N := 10) ?hd (cs := #[.int .i64 0, .int .i64 0, .slice none 0 0]) (t := 27) ?hr ?_; (case hd => rfl); (case hg => rfl); (case hr => first | (go_simp; done) | (go_simp; rfl)); intro gb120 hg w7 hbox hb; have n0_ := hb_ HB hb; have n1_ := Aside0.mk (hbox); have n2_ := Aside0.mk ((by rw [hg]; exact (below_size (hq_ HB)) : w.heap.size ≤ gb120)); have n3_ := Aside0.mk ((by rw [hg]; exact (below_size (hq_ HB)) : w.heap.size ≤ gb120)); clear HB; have HB := n0_; have BK120 := n1_; have GW120 := n2_; have GE120 := n3_; clear n0_ n1_ n2_ n3_; clear hb hbox hg))
 (try simp only [Act.put, List.setIfInBounds_toArray, List.set_cons_zero, List.set_cons_succ])
 go_cut [17] (fun v17 wc => ∃ (kq : Nat) (x17_5 : Bool), v17 = .bool x17_5 ∧ Aside0 (buffer_Decode.j0 kq a0 a1 a2 a3 l4 x17_5 = some (r1, r2, r3, r4)) ∧ Aside0 (kq ≤ k) ∧ Aside0 (wc.heap[gb120]? = some (.cells #[.int .i64 0, .int .i64 0, (.slice none 0 0)] 27 (0, 0))) ∧ Aside0 (Below w.heap.size w wc))
 case first =>
  have H := HC6.out
  clear HC6
  by_cases c8 : a0 = 1
  ·
   rw [if_pos c8] at H
   have c8b0 : (a0 == 1) = true := beq_iff_eq.mpr c8
   have c8b1 : (a0 != 1) = false := bne_eq_false_iff_eq.mpr c8
   clear c8
   (first | rw [c8b0] | (simp only [i64_w, i32_w]; rw [c8b0]) | skip)
   have H' := Aside0.mk H
   clear H
   go_wp2
   go_meet
   case rel => exact ⟨_, (false), (by first | rfl | (simp; done) | (simp [*]; done)), H', ⟨by first | omega | exact Nat.le_refl _⟩, bf_ BK120, ⟨by repeat (first | (with_reducible first | exact HB.out | apply below_alloc | apply pw_below_drewN | apply below_drew1 | refine below_set ?_ GE120.out) | exact HB.out)⟩⟩
  ·
   rw [if_neg c8] at H
   have c8b0 : (a0 == 1) = false := beq_eq_false_iff_ne.mpr c8
   have c8b1 : (a0 != 1) = true := bne_iff_ne.mpr c8
   (first | rw [c8b0] | (simp only [i64_w, i32_w]; rw [c8b0]) | skip)
   have H' := Aside0.mk H
   clear H
   go_wp2
   go_meet
   case rel => exact ⟨_, ((a0 != 2)), (by first | rfl | (simp; done) | (simp [*]; done)), H', ⟨by first | omega | exact Nat.le_refl _⟩, bf_ BK120, ⟨by repeat (first | (with_reducible first | exact HB.out | apply below_alloc | apply pw_below_drewN | apply below_drew1 | refine below_set ?_ GE120.out) | exact HB.out)⟩⟩
 case rest =>
  clear HC6
  try clear c1
  try clear p2
  try clear c4
  try clear c8
  try clear c8b0
  try clear c8b1
  obtain ⟨kq, x17_5, rfl, HA, HJ5, BK120, HB⟩ := hcut
  cases kq with
  | zero => exact absurd HA.out (by simp [buffer_Decode.j0])
  | succ kj5 =>
   have H := HA.out
   clear HA
   simp only [buffer_Decode.j0] at H
   by_cases c9 : x17_5 = true
   ·
    subst c9
    have H1 : (some (0, 0, ([] : List (S43)), 2)) = some (r1, r2, r3, r4) := by rw [if_pos rfl] at H; exact H
    clear H
    have H := H1
    clear H1
    simp only [Option.some.injEq, Prod.mk.injEq] at H
    obtain ⟨rfl, rfl, rfl, rfl⟩ := H
    have hcz10_0 : wc.cell? ⟨gb120, 0, none⟩ = some (.int .i64 0) := (blk_cell BK120.out 0).trans rfl
    have hcz10_1 : wc.cell? ⟨gb120, 1, none⟩ = some (.int .i64 0) := (blk_cell BK120.out 1).trans rfl
    have hcz10_2 : wc.cell? ⟨gb120, 2, none⟩ = some (.slice none 0 0) := (blk_cell BK120.out 2).trans rfl
    have hfz10_0 := blk_frozen BK120.out 0
    have hfz10_1 := blk_frozen BK120.out 1
    have hfz10_2 := blk_frozen BK120.out 2
    go_wp2
    refine bodyPost_ret (results_ct rfl _ _ gb120 27 #[.int .i64 0, .int .i64 0, .slice none 0 0] (0, 0) _ rfl (by (with_reducible repeat (first | refine blk_drewN ?_ _ | refine blk_drew ?_ | refine blk_alloc ?_ _)); refine blk_put (cs := #[.int .i64 0, .int .i64 0, .slice none 0 0]) ?_ 2 _ rfl; (with_reducible repeat (first | refine blk_drewN ?_ _ | refine blk_drew ?_ | refine blk_alloc ?_ _)); refine blk_put (cs := #[.int .i64 0, .int .i64 0, .slice none 0 0]) ?_ 1 _ rfl; (with_reducible repeat (first | refine blk_drewN ?_ _ | refine blk_drew ?_ | refine blk_alloc ?_ _)); refine blk_put (cs := #[.int .i64 0, .int .i64 0, .slice none 0 0]) ?_ 0 _ rfl; (with_reducible repeat (first | refine blk_drewN ?_ _ | refine blk_drew ?_ | refine blk_alloc ?_ _)); exact BK120.out) Try.underlying27 rfl (by kernel_rfl)) rfl ?_
    exact ⟨_, by first | rfl | (simp [errW_none, errW_some] <;> rfl) | (simp [*, errW_none, errW_some] <;> rfl), by first | exact Kd.R_nil _ _ _ _ _ | exact Kd.N_nil _ _ _ _ _ | exact Kd.V_nil _ _ _ _ _ | exact Kd.Q_nil _ _ _ _ _ | exact Kd.S_nil _ _ _ _ _, by repeat (first | (with_reducible first | exact HB.out | apply below_alloc | apply pw_below_drewN | apply below_drew1 | refine below_set ?_ GE120.out) | exact HB.out)⟩
   ·
    replace c9 := Bool.eq_false_iff.mpr c9
    subst c9
    have H1 : ((buffer_size.f a1).bind fun t121 => (if t121 = true then ((buffer_size.f a2).bind fun t122 => (buffer_Decode.j1 kj5 a0 a1 a2 a3 l4 (!t122))) else (buffer_Decode.j1 kj5 a0 a1 a2 a3 l4 true))) = some (r1, r2, r3, r4) := by rw [if_neg (show ¬ (false = true) by decide)] at H; exact H
    clear H
    have H := H1
    clear H1
    have HC11 := Aside0.mk H
    clear H
    go_upto_region 3 with (fail)
    go_cut [25] (fun v25 wc => ∃ (kq : Nat) (x25_10 : Bool), v25 = .bool x25_10 ∧ Aside0 (buffer_Decode.j1 kq a0 a1 a2 a3 l4 x25_10 = some (r1, r2, r3, r4)) ∧ Aside0 (kq ≤ kj5) ∧ Aside0 (wc.heap[gb120]? = some (.cells #[.int .i64 0, .int .i64 0, (.slice none 0 0)] 27 (0, 0))) ∧ Aside0 (Below w.heap.size w wc))
    case first =>
     have H := HC11.out
     clear HC11
     replace H := Option.bind_eq_some_iff.mp H
     obtain ⟨t121, A120, H⟩ := H
     try dsimp only at H
     have A12 := Aside0.mk A120
     clear A120
     by_cases c13 : t121 = true
     ·
      subst c13
      have H1 : ((buffer_size.f a2).bind fun t122 => (buffer_Decode.j1 kj5 a0 a1 a2 a3 l4 (!t122))) = some (r1, r2, r3, r4) := by rw [if_pos rfl] at H; exact H
      clear H
      have H := H1
      clear H1
      replace H := Option.bind_eq_some_iff.mp H
      obtain ⟨t122, A140, H⟩ := H
      try dsimp only at H
      have A14 := Aside0.mk A140
      clear A140
      have H' := Aside0.mk H
      clear H
      go_wp2_with (first | ((with_reducible refine gate_callee (f := 39) rfl ?_); refine goesL_ (some 27) rfl rfl Try.func39 (by kernel_rfl) rfl #[.int .i64 a1] rfl (by (try simp only [List.map_toArray, List.map_cons, List.map_nil]) <;> rfl) ?_; (with_reducible refine (buffer_size.calls a1 true _ A12.out).mono ?_); rintro e w' ⟨rfl, ⟨nd, rfl⟩⟩; refine ⟨_, rfl, ?_⟩) | (go_at_call 39; (with_reducible refine (buffer_size.calls a2 t122 _ A14.out).mono ?_); rintro e w' ⟨rfl, ⟨nd, rfl⟩⟩))
      go_meet
      case rel => exact ⟨_, (!t122), (by first | rfl | (simp; done) | (simp [*]; done)), H', ⟨by have := HJ5.out; first | omega | exact Nat.le_refl _⟩, bf_ BK120, ⟨by repeat (first | (with_reducible first | exact HB.out | apply below_alloc | apply pw_below_drewN | apply below_drew1 | refine below_set ?_ GE120.out) | exact HB.out)⟩⟩
     ·
      replace c13 := Bool.eq_false_iff.mpr c13
      subst c13
      have H1 : (buffer_Decode.j1 kj5 a0 a1 a2 a3 l4 true) = some (r1, r2, r3, r4) := by rw [if_neg (show ¬ (false = true) by decide)] at H; exact H
      clear H
      have H := H1
      clear H1
      have H' := Aside0.mk H
      clear H
      go_wp2_with (first | ((with_reducible refine gate_callee (f := 39) rfl ?_); refine goesL_ (some 27) rfl rfl Try.func39 (by kernel_rfl) rfl #[.int .i64 a1] rfl (by (try simp only [List.map_toArray, List.map_cons, List.map_nil]) <;> rfl) ?_; (with_reducible refine (buffer_size.calls a1 false _ A12.out).mono ?_); rintro e w' ⟨rfl, ⟨nd, rfl⟩⟩; refine ⟨_, rfl, ?_⟩))
      go_meet
      case rel => exact ⟨_, (true), (by first | rfl | (simp; done) | (simp [*]; done)), H', ⟨by have := HJ5.out; first | omega | exact Nat.le_refl _⟩, bf_ BK120, ⟨by repeat (first | (with_reducible first | exact HB.out | apply below_alloc | apply pw_below_drewN | apply below_drew1 | refine below_set ?_ GE120.out) | exact HB.out)⟩⟩
    case rest =>
     clear HC11
     try clear c1
     try clear p2
     try clear c3
     try clear c4
     try clear c8
     try clear c8b0
     try clear c8b1
     try clear c9
     try clear c13
     try clear c14
     try clear hcz10_0
     try clear hcz10_1
     try clear hcz10_2
     try clear hfz10_0
     try clear hfz10_1
     try clear hfz10_2
     try clear p2
     obtain ⟨kq, x25_10, rfl, HA, HJ10, BK120, HB⟩ := hcut
     cases kq with
     | zero => exact absurd HA.out (by simp [buffer_Decode.j1])
     | succ kj10 =>
      have H := HA.out
      clear HA
      simp only [buffer_Decode.j1] at H
      by_cases c15 : x25_10 = true
      ·
       subst c15
       have H1 : (some (0, 0, ([] : List (S43)), 6)) = some (r1, r2, r3, r4) := by rw [if_pos rfl] at H; exact H
       clear H
       have H := H1
       clear H1
       simp only [Option.some.injEq, Prod.mk.injEq] at H
       obtain ⟨rfl, rfl, rfl, rfl⟩ := H
       have hcz16_0 : wc.cell? ⟨gb120, 0, none⟩ = some (.int .i64 0) := (blk_cell BK120.out 0).trans rfl
       have hcz16_1 : wc.cell? ⟨gb120, 1, none⟩ = some (.int .i64 0) := (blk_cell BK120.out 1).trans rfl
       have hcz16_2 : wc.cell? ⟨gb120, 2, none⟩ = some (.slice none 0 0) := (blk_cell BK120.out 2).trans rfl
       have hfz16_0 := blk_frozen BK120.out 0
       have hfz16_1 := blk_frozen BK120.out 1
       have hfz16_2 := blk_frozen BK120.out 2
       go_wp2
       refine bodyPost_ret (results_ct rfl _ _ gb120 27 #[.int .i64 0, .int .i64 0, .slice none 0 0] (0, 0) _ rfl (by (with_reducible repeat (first | refine blk_drewN ?_ _ | refine blk_drew ?_ | refine blk_alloc ?_ _)); refine blk_put (cs := #[.int .i64 0, .int .i64 0, .slice none 0 0]) ?_ 2 _ rfl; (with_reducible repeat (first | refine blk_drewN ?_ _ | refine blk_drew ?_ | refine blk_alloc ?_ _)); refine blk_put (cs := #[.int .i64 0, .int .i64 0, .slice none 0 0]) ?_ 1 _ rfl; (with_reducible repeat (first | refine blk_drewN ?_ _ | refine blk_drew ?_ | refine blk_alloc ?_ _)); refine blk_put (cs := #[.int .i64 0, .int .i64 0, .slice none 0 0]) ?_ 0 _ rfl; (with_reducible repeat (first | refine blk_drewN ?_ _ | refine blk_drew ?_ | refine blk_alloc ?_ _)); exact BK120.out) Try.underlying27 rfl (by kernel_rfl)) rfl ?_
       exact ⟨_, by first | rfl | (simp [errW_none, errW_some] <;> rfl) | (simp [*, errW_none, errW_some] <;> rfl), by first | exact Kd.R_nil _ _ _ _ _ | exact Kd.N_nil _ _ _ _ _ | exact Kd.V_nil _ _ _ _ _ | exact Kd.Q_nil _ _ _ _ _ | exact Kd.S_nil _ _ _ _ _, by repeat (first | (with_reducible first | exact HB.out | apply below_alloc | apply pw_below_drewN | apply below_drew1 | refine below_set ?_ GE120.out) | exact HB.out)⟩
      ·
       replace c15 := Bool.eq_false_iff.mpr c15
       subst c15
       have H1 : (if a3 < (wrap64 (4 * a1)) then (buffer_Decode.j2 kj10 a0 a1 a2 a3 l4 true) else (buffer_Decode.j2 kj10 a0 a1 a2 a3 l4 ((Int.tmod a3 4) != 0))) = some (r1, r2, r3, r4) := by rw [if_neg (show ¬ (false = true) by decide)] at H; exact H
       clear H
       have H := H1
       clear H1
       have HC17 := Aside0.mk H
       clear H
       go_upto_region 5 with (fail)
       go_cut [35] (fun v35 wc => ∃ (kq : Nat) (x35_16 : Bool), v35 = .bool x35_16 ∧ Aside0 (buffer_Decode.j2 kq a0 a1 a2 a3 l4 x35_16 = some (r1, r2, r3, r4)) ∧ Aside0 (kq ≤ kj10) ∧ Aside0 (wc.heap[gb120]? = some (.cells #[.int .i64 0, .int .i64 0, (.slice none 0 0)] 27 (0, 0))) ∧ Aside0 (Below w.heap.size w wc))
       case first =>
        have H := HC17.out
        clear HC17
        by_cases c18 : a3 < (wrap64 (4 * a1))
        ·
         rw [if_pos c18] at H
         have c18b0 : decide (a3 < (wrap64 (4 * a1))) = true := decide_eq_true c18
         clear c18
         (first | rw [c18b0] | (simp only [i64_w, i32_w]; rw [c18b0]) | skip)
         have H' := Aside0.mk H
         clear H
         go_wp2
         go_meet
         case rel => exact ⟨_, (true), (by first | rfl | (simp; done) | (simp [*]; done)), H', ⟨by have := HJ5.out; have := HJ10.out; first | omega | exact Nat.le_refl _⟩, bf_ BK120, ⟨by repeat (first | (with_reducible first | exact HB.out | apply below_alloc | apply pw_below_drewN | apply below_drew1 | refine below_set ?_ GE120.out) | exact HB.out)⟩⟩
        ·
         rw [if_neg c18] at H
         have c18b0 : decide (a3 < (wrap64 (4 * a1))) = false := decide_eq_false c18
         clear c18
         (first | rw [c18b0] | (simp only [i64_w, i32_w]; rw [c18b0]) | skip)
         have H' := Aside0.mk H
         clear H
         go_wp2
         go_meet
         case rel => exact ⟨_, (((Int.tmod a3 4) != 0)), (by first | rfl | (simp; done) | (simp [*]; done)), H', ⟨by have := HJ5.out; have := HJ10.out; first | omega | exact Nat.le_refl _⟩, bf_ BK120, ⟨by repeat (first | (with_reducible first | exact HB.out | apply below_alloc | apply pw_below_drewN | apply below_drew1 | refine below_set ?_ GE120.out) | exact HB.out)⟩⟩
       case rest =>
        clear HC17
        try clear c1
        try clear p2
        try clear c3
        try clear c4
        try clear p6
        try clear c8
        try clear c8b0
        try clear c8b1
        try clear c9
        try clear c13
        try clear c14
        try clear c15
        try clear c18
        try clear c18b0
        try clear hcz10_0
        try clear hcz10_1
        try clear hcz10_2
        try clear hcz16_0
        try clear hcz16_1
        try clear hcz16_2
        try clear hfz10_0
        try clear hfz10_1
        try clear hfz10_2
        try clear hfz16_0
        try clear hfz16_1
        try clear hfz16_2
        try clear p2
        obtain ⟨kq, x35_16, rfl, HA, HJ16, BK120, HB⟩ := hcut
        cases kq with
        | zero => exact absurd HA.out (by simp [buffer_Decode.j2])
        | succ kj16 =>
         have H := HA.out
         clear HA
         simp only [buffer_Decode.j2] at H
         by_cases c19 : x35_16 = true
         ·
          subst c19
          have H1 : (some (0, 0, ([] : List (S43)), 15)) = some (r1, r2, r3, r4) := by rw [if_pos rfl] at H; exact H
          clear H
          have H := H1
          clear H1
          simp only [Option.some.injEq, Prod.mk.injEq] at H
          obtain ⟨rfl, rfl, rfl, rfl⟩ := H
          have hcz20_0 : wc.cell? ⟨gb120, 0, none⟩ = some (.int .i64 0) := (blk_cell BK120.out 0).trans rfl
          have hcz20_1 : wc.cell? ⟨gb120, 1, none⟩ = some (.int .i64 0) := (blk_cell BK120.out 1).trans rfl
          have hcz20_2 : wc.cell? ⟨gb120, 2, none⟩ = some (.slice none 0 0) := (blk_cell BK120.out 2).trans rfl
          have hfz20_0 := blk_frozen BK120.out 0
          have hfz20_1 := blk_frozen BK120.out 1
          have hfz20_2 := blk_frozen BK120.out 2
          go_wp2
          refine bodyPost_ret (results_ct rfl _ _ gb120 27 #[.int .i64 0, .int .i64 0, .slice none 0 0] (0, 0) _ rfl (by (with_reducible repeat (first | refine blk_drewN ?_ _ | refine blk_drew ?_ | refine blk_alloc ?_ _)); refine blk_put (cs := #[.int .i64 0, .int .i64 0, .slice none 0 0]) ?_ 2 _ rfl; (with_reducible repeat (first | refine blk_drewN ?_ _ | refine blk_drew ?_ | refine blk_alloc ?_ _)); refine blk_put (cs := #[.int .i64 0, .int .i64 0, .slice none 0 0]) ?_ 1 _ rfl; (with_reducible repeat (first | refine blk_drewN ?_ _ | refine blk_drew ?_ | refine blk_alloc ?_ _)); refine blk_put (cs := #[.int .i64 0, .int .i64 0, .slice none 0 0]) ?_ 0 _ rfl; (with_reducible repeat (first | refine blk_drewN ?_ _ | refine blk_drew ?_ | refine blk_alloc ?_ _)); exact BK120.out) Try.underlying27 rfl (by kernel_rfl)) rfl ?_
          exact ⟨_, by first | rfl | (simp [errW_none, errW_some] <;> rfl) | (simp [*, errW_none, errW_some] <;> rfl), by first | exact Kd.R_nil _ _ _ _ _ | exact Kd.N_nil _ _ _ _ _ | exact Kd.V_nil _ _ _ _ _ | exact Kd.Q_nil _ _ _ _ _ | exact Kd.S_nil _ _ _ _ _, by repeat (first | (with_reducible first | exact HB.out | apply below_alloc | apply pw_below_drewN | apply below_drew1 | refine below_set ?_ GE120.out) | exact HB.out)⟩
         ·
          replace c19 := Bool.eq_false_iff.mpr c19
          subst c19
          have H1 : (if a2 = 0 then (none) else (if a3 > (wrap64 ((l4.length : Int) / a2)) then (some (0, 0, ([] : List (S43)), 4)) else (buffer_Decode.l0 kj16 a0 a1 a3 l4 a2 0 a1 a2 ([] : List (S43))))) = some (r1, r2, r3, r4) := by rw [if_neg (show ¬ (false = true) by decide)] at H; exact H
          clear H
          have H := H1
          clear H1
          by_cases c21 : a2 = 0
          ·
           rw [if_pos c21] at H
           exact absurd H (by simp)
          ·
           rw [if_neg c21] at H
           have c21b0 : (a2 == 0) = false := beq_eq_false_iff_ne.mpr c21
           have c21b1 : (a2 != 0) = true := bne_iff_ne.mpr c21
           by_cases c22 : a3 > (wrap64 ((l4.length : Int) / a2))
           ·
            rw [if_pos c22] at H
            have c22b0 : decide ((wrap64 ((l4.length : Int) / a2)) < a3) = true := decide_eq_true c22
            clear c22
            simp only [Option.some.injEq, Prod.mk.injEq] at H
            obtain ⟨rfl, rfl, rfl, rfl⟩ := H
            have hcz23_0 : wc.cell? ⟨gb120, 0, none⟩ = some (.int .i64 0) := (blk_cell BK120.out 0).trans rfl
            have hcz23_1 : wc.cell? ⟨gb120, 1, none⟩ = some (.int .i64 0) := (blk_cell BK120.out 1).trans rfl
            have hcz23_2 : wc.cell? ⟨gb120, 2, none⟩ = some (.slice none 0 0) := (blk_cell BK120.out 2).trans rfl
            have hfz23_0 := blk_frozen BK120.out 0
            have hfz23_1 := blk_frozen BK120.out 1
            have hfz23_2 := blk_frozen BK120.out 2
            go_wp2
            refine bodyPost_ret (results_ct rfl _ _ gb120 27 #[.int .i64 0, .int .i64 0, .slice none 0 0] (0, 0) _ rfl (by (with_reducible repeat (first | refine blk_drewN ?_ _ | refine blk_drew ?_ | refine blk_alloc ?_ _)); refine blk_put (cs := #[.int .i64 0, .int .i64 0, .slice none 0 0]) ?_ 2 _ rfl; (with_reducible repeat (first | refine blk_drewN ?_ _ | refine blk_drew ?_ | refine blk_alloc ?_ _)); refine blk_put (cs := #[.int .i64 0, .int .i64 0, .slice none 0 0]) ?_ 1 _ rfl; (with_reducible repeat (first | refine blk_drewN ?_ _ | refine blk_drew ?_ | refine blk_alloc ?_ _)); refine blk_put (cs := #[.int .i64 0, .int .i64 0, .slice none 0 0]) ?_ 0 _ rfl; (with_reducible repeat (first | refine blk_drewN ?_ _ | refine blk_drew ?_ | refine blk_alloc ?_ _)); exact BK120.out) Try.underlying27 rfl (by kernel_rfl)) rfl ?_
            exact ⟨_, by first | rfl | (simp [errW_none, errW_some] <;> rfl) | (simp [*, errW_none, errW_some] <;> rfl), by first | exact Kd.R_nil _ _ _ _ _ | exact Kd.N_nil _ _ _ _ _ | exact Kd.V_nil _ _ _ _ _ | exact Kd.Q_nil _ _ _ _ _ | exact Kd.S_nil _ _ _ _ _, by repeat (first | (with_reducible first | exact HB.out | apply below_alloc | apply pw_below_drewN | apply below_drew1 | refine below_set ?_ GE120.out) | exact HB.out)⟩
           ·
            rw [if_neg c22] at H
            have c22b0 : decide ((wrap64 ((l4.length : Int) / a2)) < a3) = false := decide_eq_false c22
            clear c22
            have H' := Aside0.mk H
            clear H
            go_wp2_with (first | ((with_reducible refine gate_dst (N := 12) rfl ?_); refine box_event ?hg (N := 12) ?hd (cs := #[.int .i64 0, .int .i64 0, .slice none 0 0]) (t := 27) ?hr ?_; (case hd => rfl); (case hg => rfl); (case hr => first | (go_simp; done) | (go_simp; rfl)); intro gb123 hg w24 hbox hb; have n0_ := bb_ BK120 hb; have n1_ := hb_ HB hb; have n2_ := Aside0.mk (hbox); have n3_ := Aside0.mk ((by rw [hg]; exact (below_size (hq_ HB)) : w.heap.size ≤ gb123)); have n4_ := Aside0.mk ((by rw [hg]; exact (below_size (hq_ HB)) : w.heap.size ≤ gb123)); have n5_ := Aside0.mk ((by rw [hg]; exact Nat.ne_of_lt (blk_lt (g := gb120) (o := .cells #[.int .i64 0, .int .i64 0, .slice none 0 0] 27 (0, 0)) (bq_ BK120)) : gb120 ≠ gb123)); have n6_ := Aside0.mk ((by rw [hg]; exact Nat.ne_of_gt (blk_lt (g := gb120) (o := .cells #[.int .i64 0, .int .i64 0, .slice none 0 0] 27 (0, 0)) (bq_ BK120)) : gb123 ≠ gb120)); clear BK120; clear HB; have BK120 := n0_; have HB := n1_; have BK123 := n2_; have GW123 := n3_; have GE123 := n4_; have NB120_123 := n5_; have NB123_120 := n6_; clear n0_ n1_ n2_ n3_ n4_ n5_ n6_; clear hb hbox hg; have hnb25 := NB123_120.out; have hnc25 := NB120_123.out; have hcz26_0 : w24.cell? ⟨gb123, 0, none⟩ = some (.int .i64 0) := (blk_cell BK123.out 0).trans rfl; have hcz26_1 : w24.cell? ⟨gb123, 1, none⟩ = some (.int .i64 0) := (blk_cell BK123.out 1).trans rfl; have hcz26_2 : w24.cell? ⟨gb123, 2, none⟩ = some (.slice none 0 0) := (blk_cell BK123.out 2).trans rfl; have hfz26_0 := blk_frozen BK123.out 0; have hfz26_1 := blk_frozen BK123.out 1; have hfz26_2 := blk_frozen BK123.out 2))
            go_loopg [58] kj16 (fun kq v58 w' => ∃ (x58_4 : Int) (x124002_4 : List (S43)) (u124002 : Value), v58 = .int .i64 x58_4 ∧ Aside0 (buffer_Decode.l0 kq a0 a1 a3 l4 a2 x58_4 a1 a2 x124002_4 = some (r1, r2, r3, r4)) ∧ Aside0 (kq ≤ kj16) ∧ Aside0 (Kd.R k43 43 w' w.heap.size (fun _ => True) u124002 x124002_4) ∧ Aside0 (w'.heap[gb120]? = some (.cells #[.int .i64 0, .int .i64 0, (.slice none 0 0)] 27 (0, 0))) ∧ Aside0 (w'.heap[gb123]? = some (.cells #[.int .i64 a1, .int .i64 a2, u124002] 27 (0, 0))) ∧ Aside0 (Below w.heap.size w w'))
            case atStart => exact ⟨(0), (([] : List (S43))), (.slice none 0 0), (by first | rfl | (simp; done) | (simp [*]; done)), H', ⟨Nat.le_refl _⟩, ⟨by first | exact Kd.R_nil _ _ _ _ _ | exact Kd.N_nil _ _ _ _ _ | exact Kd.V_nil _ _ _ _ _ | exact Kd.Q_nil _ _ _ _ _ | exact Kd.S_nil _ _ _ _ _⟩, bf_ BK120, ⟨by (with_reducible repeat (first | refine blk_drewN ?_ _ | refine blk_drew ?_ | refine blk_alloc ?_ _)); refine blk_put (cs := #[.int .i64 a1, .int .i64 a2, .slice none 0 0]) ?_ 2 _ rfl; (with_reducible repeat (first | refine blk_drewN ?_ _ | refine blk_drew ?_ | refine blk_alloc ?_ _)); refine blk_put (cs := #[.int .i64 a1, .int .i64 0, .slice none 0 0]) ?_ 1 _ rfl; (with_reducible repeat (first | refine blk_drewN ?_ _ | refine blk_drew ?_ | refine blk_alloc ?_ _)); refine blk_put (cs := #[.int .i64 0, .int .i64 0, .slice none 0 0]) ?_ 0 _ rfl; (with_reducible repeat (first | refine blk_drewN ?_ _ | refine blk_drew ?_ | refine blk_alloc ?_ _)); exact BK123.out⟩, ⟨by repeat (first | (with_reducible first | exact HB.out | apply below_alloc | apply pw_below_drewN | apply below_drew1 | refine below_set ?_ GE120.out | refine below_set ?_ GE123.out) | exact HB.out)⟩⟩
            case round =>
             clear H'
             try clear c1
             try clear c2
             try clear p2
             try clear c3
             try clear c4
             try clear p6
             try clear c8
             try clear c8b0
             try clear c8b1
             try clear c9
             try clear c13
             try clear c14
             try clear c15
             try clear c18
             try clear c18b0
             try clear c19
             try clear c21
             try clear c21b0
             try clear c21b1
             try clear c22
             try clear c22b0
             try clear c25
             try clear hcz10_0
             try clear hcz10_1
             try clear hcz10_2
             try clear hcz16_0
             try clear hcz16_1
             try clear hcz16_2
             try clear hcz20_0
             try clear hcz20_1
             try clear hcz20_2
             try clear hcz23_0
             try clear hcz23_1
             try clear hcz23_2
             try clear hcz26_0
             try clear hcz26_1
             try clear hcz26_2
             try clear hfz10_0
             try clear hfz10_1
             try clear hfz10_2
             try clear hfz16_0
             try clear hfz16_1
             try clear hfz16_2
             try clear hfz20_0
             try clear hfz20_1
             try clear hfz20_2
             try clear hfz23_0
             try clear hfz23_1
             try clear hfz23_2
             try clear hfz26_0
             try clear hfz26_1
             try clear hfz26_2
             try clear p2
             try clear p6
             obtain ⟨x58_4, x124002_4, u124002, rfl, HA, HK4, HO_124002, BK120, BK123, HB⟩ := hrel
             cases gk with
             | zero => exact absurd HA.out (by simp [buffer_Decode.l0])
             | succ k4 =>
              have H := HA.out
              clear HA
              simp only [buffer_Decode.l0] at H
              by_cases c27 : x58_4 < a2
              ·
               rw [if_pos c27] at H
               have c27b0 : decide (x58_4 < a2) = true := decide_eq_true c27
               clear c27
               have H' := Aside0.mk H
               clear H
               go_wp2
               go_loopg [62] k4 (fun kq v62 w' => ∃ (x62_5 : Int) (x124002_5 : List (S43)) (u124002 : Value), v62 = .int .i64 x62_5 ∧ Aside0 (buffer_Decode.l1 kq a0 a1 a3 l4 x58_4 a2 x58_4 a1 x62_5 a1 a2 x124002_5 = some (r1, r2, r3, r4)) ∧ Aside0 (kq ≤ k4) ∧ Aside0 (Kd.R k43 43 w' w.heap.size (fun _ => True) u124002 x124002_5) ∧ Aside0 (w'.heap[gb120]? = some (.cells #[.int .i64 0, .int .i64 0, (.slice none 0 0)] 27 (0, 0))) ∧ Aside0 (w'.heap[gb123]? = some (.cells #[.int .i64 a1, .int .i64 a2, u124002] 27 (0, 0))) ∧ Aside0 (Below w.heap.size w w'))
               case atStart => exact ⟨(0), (x124002_4), (u124002), (by first | rfl | (simp; done) | (simp [*]; done)), H', ⟨Nat.le_refl _⟩, ⟨by (with_reducible repeat (first | apply Kd.R_alloc | apply Kd.R_drewN | apply Kd.R_drew)); exact HO_124002.out⟩, bf_ BK120, bf_ BK123, ⟨by repeat (first | (with_reducible first | exact HB.out | apply below_alloc | apply pw_below_drewN | apply below_drew1 | refine below_set ?_ GE120.out | refine below_set ?_ GE123.out) | exact HB.out)⟩⟩
               case round =>
                clear H'
                try clear c1
                try clear c2
                try clear p2
                try clear c3
                try clear c4
                try clear p6
                try clear c8
                try clear c8b0
                try clear c8b1
                try clear c9
                try clear c13
                try clear c14
                try clear c15
                try clear c18
                try clear c18b0
                try clear c19
                try clear c21
                try clear c21b0
                try clear c21b1
                try clear c22
                try clear c22b0
                try clear c25
                try clear c27
                try clear c27b0
                try clear hcz10_0
                try clear hcz10_1
                try clear hcz10_2
                try clear hcz16_0
                try clear hcz16_1
                try clear hcz16_2
                try clear hcz20_0
                try clear hcz20_1
                try clear hcz20_2
                try clear hcz23_0
                try clear hcz23_1
                try clear hcz23_2
                try clear hcz26_0
                try clear hcz26_1
                try clear hcz26_2
                try clear hfz10_0
                try clear hfz10_1
                try clear hfz10_2
                try clear hfz16_0
                try clear hfz16_1
                try clear hfz16_2
                try clear hfz20_0
                try clear hfz20_1
                try clear hfz20_2
                try clear hfz23_0
                try clear hfz23_1
                try clear hfz23_2
                try clear hfz26_0
                try clear hfz26_1
                try clear hfz26_2
                try clear p2
                try clear p6
                obtain ⟨x62_5, x124002_5, u124002, rfl, HA, HK5, HO_124002, BK120, BK123, HB⟩ := hrel
                cases gk with
                | zero => exact absurd HA.out (by simp [buffer_Decode.l1])
                | succ k5 =>
                 have H := HA.out
                 clear HA
                 simp only [buffer_Decode.l1] at H
                 by_cases c28 : x62_5 < a1
                 ·
                  rw [if_pos c28] at H
                  have c28b0 : decide (x62_5 < a1) = true := decide_eq_true c28
                  clear c28
                  obtain ⟨ji29, hji29⟩ : ∃ j_ : Int, (wrap64 ((wrap64 (x58_4 * a3)) + (wrap64 (4 * x62_5)))) = j_ := ⟨_, rfl⟩
                  replace H : (if 0 ≤ (ji29) then (if (ji29) ≤ (l4.length : Int) then (if 0 < ((l4.drop ((ji29) : Int).toNat).length : Int) then (if 1 < ((l4.drop ((ji29) : Int).toNat).length : Int) then (if 2 < ((l4.drop ((ji29) : Int).toNat).length : Int) then (if 3 < ((l4.drop ((ji29) : Int).toNat).length : Int) then (if a0 = 2 then ((pixel_Clamp.f (rd (l4.drop ((ji29) : Int).toNat) 2) (rd (l4.drop ((ji29) : Int).toNat) 1) (rd (l4.drop ((ji29) : Int).toNat) 0) 255).bind fun bt130 => (if x124002_5.length < 35184372088832 then (buffer_Decode.l1 k5 a0 a1 a3 l4 x58_4 a2 x58_4 a1 (wrap64 (x62_5 + 1)) a1 a2 (x124002_5 ++ [(⟨bt130.1, bt130.2.1, bt130.2.2.1, bt130.2.2.2⟩ : S43)])) else (none))) else ((pixel_Clamp.f (rd (l4.drop ((ji29) : Int).toNat) 2) (rd (l4.drop ((ji29) : Int).toNat) 1) (rd (l4.drop ((ji29) : Int).toNat) 0) (rd (l4.drop ((ji29) : Int).toNat) 3)).bind fun bt137 => (if x124002_5.length < 35184372088832 then (buffer_Decode.l1 k5 a0 a1 a3 l4 x58_4 a2 x58_4 a1 (wrap64 (x62_5 + 1)) a1 a2 (x124002_5 ++ [(⟨bt137.1, bt137.2.1, bt137.2.2.1, bt137.2.2.2⟩ : S43)])) else (none)))) else (none)) else (none)) else (none)) else (none)) else (none)) else (none)) = some (r1, r2, r3, r4) := by first | (rw [hji29] at H; exact H) | (simp only [hji29] at H ⊢; exact H)
                  have hji29w : (IntKind.i64.wrap ((wrap64 (x58_4 * a3)) + (wrap64 (4 * x62_5)))) = ji29 := (i64_w _).trans hji29
                  by_cases c30 : 0 ≤ (ji29)
                  ·
                   rw [if_pos c30] at H
                   have c30b0 := eq_true c30
                   have c30b1 : decide (0 ≤ (ji29)) = true := decide_eq_true c30
                   clear c30
                   by_cases c31 : (ji29) ≤ (l4.length : Int)
                   ·
                    rw [if_pos c31] at H
                    have c31b0 := eq_true c31
                    have c31b1 : decide ((ji29) ≤ (l4.length : Int)) = true := decide_eq_true c31
                    clear c31
                    by_cases c32 : 0 < ((l4.drop ((ji29) : Int).toNat).length : Int)
                    ·
                     rw [if_pos c32] at H
                     have c32b0 : decide (0 < ((l4.drop ((ji29) : Int).toNat).length : Int)) = true := decide_eq_true c32
                     have c32b1 : decide (0 < (l4.drop ((ji29) : Int).toNat).length) = true := decide_eq_true (by omega)
                     clear c32
                     by_cases c33 : 1 < ((l4.drop ((ji29) : Int).toNat).length : Int)
                     ·
                      rw [if_pos c33] at H
                      have c33b0 : decide (1 < ((l4.drop ((ji29) : Int).toNat).length : Int)) = true := decide_eq_true c33
                      have c33b1 : decide (1 < (l4.drop ((ji29) : Int).toNat).length) = true := decide_eq_true (by omega)
                      clear c33
                      by_cases c34 : 2 < ((l4.drop ((ji29) : Int).toNat).length : Int)
                      ·
                       rw [if_pos c34] at H
                       have c34b0 : decide (2 < ((l4.drop ((ji29) : Int).toNat).length : Int)) = true := decide_eq_true c34
                       have c34b1 : decide (2 < (l4.drop ((ji29) : Int).toNat).length) = true := decide_eq_true (by omega)
                       clear c34
                       by_cases c35 : 3 < ((l4.drop ((ji29) : Int).toNat).length : Int)
                       ·
                        rw [if_pos c35] at H
                        have c35b0 : decide (3 < ((l4.drop ((ji29) : Int).toNat).length : Int)) = true := decide_eq_true c35
                        have c35b1 : decide (3 < (l4.drop ((ji29) : Int).toNat).length) = true := decide_eq_true (by omega)
                        clear c35
                        by_cases c36 : a0 = 2
                        ·
                         rw [if_pos c36] at H
                         have c36b0 : (a0 == 2) = true := beq_iff_eq.mpr c36
                         have c36b1 : (a0 != 2) = false := bne_eq_false_iff_eq.mpr c36
                         clear c36
                         replace H := Option.bind_eq_some_iff.mp H
                         obtain ⟨⟨t130, t131, t132, t133⟩, A370, H⟩ := H
                         try dsimp only at H
                         have A37 := Aside0.mk A370
                         clear A370
                         by_cases c38 : x124002_5.length < 35184372088832
                         ·
                          rw [if_pos c38] at H
                          have LMc38 := Aside0.mk c38
                          clear c38
                          obtain ⟨y134, hy134⟩ : ∃ y_ : List (S43), y_ = (x124002_5 ++ [(⟨t130, t131, t132, t133⟩ : S43)]) := ⟨_, rfl⟩
                          replace H : (buffer_Decode.l1 k5 a0 a1 a3 l4 x58_4 a2 x58_4 a1 (wrap64 (x62_5 + 1)) a1 a2 y134) = some (r1, r2, r3, r4) := by first | (rw [hy134]; with_reducible exact H) | (have H2_ := (Option.bind_some _ _).symm.trans H; rw [hy134]; with_reducible exact H2_) | (have H2_ := (Option.bind_some _ _).symm.trans H; with_reducible exact H2_) | with_reducible exact H | (rw [hy134]; exact H) | exact H
                          have Ny134 := Aside0.mk hy134
                          clear hy134
                          have H' := Aside0.mk H
                          clear H
                          obtain ⟨i039, hi039, _, hsz39, _⟩ := info_parts info5
                          obtain ⟨A39, hcut39, hA39, hC39⟩ := print_drop_of (P := Try.prog) (Value.int .u8) 0 23 5 .i64 Try.underlying23 hi039 hsz39 A4 c4 l4 (ji29) (of_decide_eq_true (by first | (with_reducible assumption) | assumption)) (of_decide_eq_true (by first | (with_reducible assumption) | assumption)) HC4.out
                          have HR124 := Aside0.mk (Kd.C_of_reads (h1 := fun _ => rfl) (hA39 _ (Kd.reads_of_C HR4.out)))
                          have HC124 := Aside0.mk hC39
                          clear hA39 hC39 hi039 hsz39
                          try go_wp2
                          replace HO_124002 := Aside0.mk (Kd.R_drew HO_124002.out)
                          replace BK120 := Aside0.mk (blk_drew BK120.out)
                          replace BK123 := Aside0.mk (blk_drew BK123.out)
                          replace HB := Aside0.mk (below_drew1 HB.out)
                          have p125 : 0 ≤ (0 : Int) := (by omega)
                          have q125 : 0 < ((l4.drop ((ji29) : Int).toNat).length : Int) := of_decide_eq_true (by first | (with_reducible assumption) | assumption)
                          obtain ⟨ad125, e125, hx125_0⟩ := Kd.at_int HR124.out 0 p125 q125
                          have hw125_0 := hx125_0
                          (try rw [show ((0 : Int)).toNat = 0 from rfl] at hw125_0)
                          (try rw [show 0 * 1 = 0 from rfl] at hw125_0)
                          (try rw [Addr.add_zero'] at hw125_0)
                          cases e125
                          have qi125 : (0 < (l4.drop ((ji29) : Int).toNat).length) = True := eq_true (by omega)
                          have qid_qi125 := qi125
                          (try simp only [List.length_drop] at qid_qi125)
                          have qie_qi125 : ((0 : Int) < ((l4.length - ((ji29) : Int).toNat : Nat) : Int)) = True := eq_true (by have h_ := of_eq_true qid_qi125; omega)
                          (try rw [show ((0 : Int)).toNat = 0 from rfl] at hx125_0)
                          (try rw [Addr.add_zero'] at hx125_0)
                          replace hx125_0 := (HB.out.cell (World.block_lt_of_cell? w _ hx125_0)).trans hx125_0
                          replace p125 := eq_true p125
                          replace q125 := eq_true q125
                          have p126 : 0 ≤ (1 : Int) := (by omega)
                          have q126 : 1 < ((l4.drop ((ji29) : Int).toNat).length : Int) := of_decide_eq_true (by first | (with_reducible assumption) | assumption)
                          obtain ⟨ad126, e126, hx126_0⟩ := Kd.at_int HR124.out 1 p126 q126
                          have hw126_0 := hx126_0
                          (try rw [show ((1 : Int)).toNat = 1 from rfl] at hw126_0)
                          (try rw [show 1 * 1 = 1 from rfl] at hw126_0)
                          (try simp only [Nat.reduceMul, Nat.reduceEqDiff, Go.Addr.add, ↓reduceIte] at hw126_0)
                          obtain rfl : ad125 = ad126 := (by injection e126)
                          (try simp only [show (1 : Int).toNat = 1 from rfl, Nat.reduceMul, Nat.reduceEqDiff, Go.Addr.add, ↓reduceIte] at hx126_0)
                          have qi126 : (1 < (l4.drop ((ji29) : Int).toNat).length) = True := eq_true (by omega)
                          have qid_qi126 := qi126
                          (try simp only [List.length_drop] at qid_qi126)
                          have qie_qi126 : ((1 : Int) < ((l4.length - ((ji29) : Int).toNat : Nat) : Int)) = True := eq_true (by have h_ := of_eq_true qid_qi126; omega)
                          (try rw [show ((1 : Int)).toNat = 1 from rfl] at hx126_0)
                          replace hx126_0 := (HB.out.cell (World.block_lt_of_cell? w _ hx126_0)).trans hx126_0
                          replace p126 := eq_true p126
                          replace q126 := eq_true q126
                          have p127 : 0 ≤ (2 : Int) := (by omega)
                          have q127 : 2 < ((l4.drop ((ji29) : Int).toNat).length : Int) := of_decide_eq_true (by first | (with_reducible assumption) | assumption)
                          obtain ⟨ad127, e127, hx127_0⟩ := Kd.at_int HR124.out 2 p127 q127
                          have hw127_0 := hx127_0
                          (try rw [show ((2 : Int)).toNat = 2 from rfl] at hw127_0)
                          (try rw [show 2 * 1 = 2 from rfl] at hw127_0)
                          (try simp only [Nat.reduceMul, Nat.reduceEqDiff, Go.Addr.add, ↓reduceIte] at hw127_0)
                          obtain rfl : ad125 = ad127 := (by injection e127)
                          (try simp only [show (2 : Int).toNat = 2 from rfl, Nat.reduceMul, Nat.reduceEqDiff, Go.Addr.add, ↓reduceIte] at hx127_0)
                          have qi127 : (2 < (l4.drop ((ji29) : Int).toNat).length) = True := eq_true (by omega)
                          have qid_qi127 := qi127
                          (try simp only [List.length_drop] at qid_qi127)
                          have qie_qi127 : ((2 : Int) < ((l4.length - ((ji29) : Int).toNat : Nat) : Int)) = True := eq_true (by have h_ := of_eq_true qid_qi127; omega)
                          (try rw [show ((2 : Int)).toNat = 2 from rfl] at hx127_0)
                          replace hx127_0 := (HB.out.cell (World.block_lt_of_cell? w _ hx127_0)).trans hx127_0
                          replace p127 := eq_true p127
                          replace q127 := eq_true q127
                          have p128 : 0 ≤ (3 : Int) := (by omega)
                          have q128 : 3 < ((l4.drop ((ji29) : Int).toNat).length : Int) := of_decide_eq_true (by first | (with_reducible assumption) | assumption)
                          obtain ⟨ad128, e128, hx128_0⟩ := Kd.at_int HR124.out 3 p128 q128
                          have hw128_0 := hx128_0
                          (try rw [show ((3 : Int)).toNat = 3 from rfl] at hw128_0)
                          (try rw [show 3 * 1 = 3 from rfl] at hw128_0)
                          (try simp only [Nat.reduceMul, Nat.reduceEqDiff, Go.Addr.add, ↓reduceIte] at hw128_0)
                          obtain rfl : ad125 = ad128 := (by injection e128)
                          (try simp only [show (3 : Int).toNat = 3 from rfl, Nat.reduceMul, Nat.reduceEqDiff, Go.Addr.add, ↓reduceIte] at hx128_0)
                          have qi128 : (3 < (l4.drop ((ji29) : Int).toNat).length) = True := eq_true (by omega)
                          have qid_qi128 := qi128
                          (try simp only [List.length_drop] at qid_qi128)
                          have qie_qi128 : ((3 : Int) < ((l4.length - ((ji29) : Int).toNat : Nat) : Int)) = True := eq_true (by have h_ := of_eq_true qid_qi128; omega)
                          (try rw [show ((3 : Int)).toNat = 3 from rfl] at hx128_0)
                          replace hx128_0 := (HB.out.cell (World.block_lt_of_cell? w _ hx128_0)).trans hx128_0
                          replace p128 := eq_true p128
                          replace q128 := eq_true q128
                          refine start_ (n := 15) (S := fun w' => w'.cell? ad125 = some (.int .u8 (rd (l4.drop ((ji29) : Int).toNat) 0)) ∧ w'.cell? ⟨ad125.block, ad125.off + 1, none⟩ = some (.int .u8 (rd (l4.drop ((ji29) : Int).toNat) 1)) ∧ w'.cell? ⟨ad125.block, ad125.off + 2, none⟩ = some (.int .u8 (rd (l4.drop ((ji29) : Int).toNat) 2)) ∧ w'.cell? ⟨ad125.block, ad125.off + 3, none⟩ = some (.int .u8 (rd (l4.drop ((ji29) : Int).toNat) 3))) (ds := []) zq14.q0 (by kernel_rfl) rfl rfl ⟨((HB.out.cell (World.block_lt_of_cell? w _ hw125_0)).trans hw125_0), ((HB.out.cell (World.block_lt_of_cell? w _ hw126_0)).trans hw126_0), ((HB.out.cell (World.block_lt_of_cell? w _ hw127_0)).trans hw127_0), ((HB.out.cell (World.block_lt_of_cell? w _ hw128_0)).trans hw128_0)⟩ (fun hHeld => ?_); refine with_tabW buffer_Decode.tab17 buffer_Decode.bits17 (fun HT_ HW_ => ?_)
                          generalize wr.drew = w40 at HO_124002 BK120 BK123 HB hx125_0 hx126_0 hx127_0 hx128_0 hHeld ⊢
                          refine pv_ 0 73 zq14.q1 HT_ ?_
                          refine pv_ 1 74 zq14.q2 HT_ ?_
                          refine pv_ 3 76 zq14.q3 HT_ ?_
                          refine pv_ 4 77 zq14.q4 HT_ ?_
                          refine pv_ 6 79 zq14.q5 HT_ ?_
                          refine pv_ 7 80 zq14.q6 HT_ ?_
                          refine pv_ 9 82 zq14.q7 HT_ ?_
                          refine pv_ 10 83 zq14.q8 HT_ ?_
                          refine tk4_ 2 75 zq14.q9 HT_ HW_ hHeld ?_
                          refine tk4_ 5 78 zq14.q10 HT_ HW_ hHeld ?_
                          refine tk4_ 8 81 zq14.q11 HT_ HW_ hHeld ?_
                          refine tk4_ 11 84 zq14.q12 HT_ HW_ hHeld ?_
                          refine pv_ 12 85 zq14.q13 HT_ ?_
                          refine one_ (i := 13) (N := some 16) zq14.q14 rfl rfl (one_of HT_.out (by kernel_rfl)) (by decide) (fun K hK => ?_)
                          refine box_step ?hg (N := 16) ?hd (cs := #[.int .u8 0, .int .u8 0, .int .u8 0, .int .u8 0]) (t := 43) ?hr ?_; (case hd => rfl); (case hg => rfl); (case hr => first | (go_simp; done) | (go_simp; rfl))
                          intro gb129 hg w41 hbox hb
                          replace HO_124002 := Aside0.mk (Kd.R_below (Kd.R_elderB (by (with_reducible repeat (first | apply Kd.R_alloc | apply Kd.R_drewN | apply Kd.R_drew)); exact HO_124002.out) gb129 (Nat.le_of_eq hg.symm)) hb)
                          have BK129 := Aside0.mk (hbox)
                          have GW129 := Aside0.mk ((by rw [hg]; exact (below_size (hq_ HB)) : w.heap.size ≤ gb129))
                          have GE129 := Aside0.mk ((by rw [hg]; exact (below_size (hq_ HB)) : w.heap.size ≤ gb129))
                          replace HB := hb_ HB hb
                          have NB120_129 := Aside0.mk ((by rw [hg]; exact Nat.ne_of_lt (blk_lt (g := gb120) (o := .cells #[.int .i64 0, .int .i64 0, .slice none 0 0] 27 (0, 0)) (bq_ BK120)) : gb120 ≠ gb129))
                          have NB129_120 := Aside0.mk ((by rw [hg]; exact Nat.ne_of_gt (blk_lt (g := gb120) (o := .cells #[.int .i64 0, .int .i64 0, .slice none 0 0] 27 (0, 0)) (bq_ BK120)) : gb129 ≠ gb120))
                          replace BK120 := bb_ BK120 hb
                          have NB123_129 := Aside0.mk ((by rw [hg]; exact Nat.ne_of_lt (blk_lt (g := gb123) (o := .cells #[.int .i64 a1, .int .i64 a2, u124002] 27 (0, 0)) (bq_ BK123)) : gb123 ≠ gb129))
                          have NB129_123 := Aside0.mk ((by rw [hg]; exact Nat.ne_of_gt (blk_lt (g := gb123) (o := .cells #[.int .i64 a1, .int .i64 a2, u124002] 27 (0, 0)) (bq_ BK123)) : gb129 ≠ gb123))
                          replace BK123 := bb_ BK123 hb
                          clear hb hbox hg
                          refine hK.out _ _ ⟨((HB.out.cell (World.block_lt_of_cell? w _ hw125_0)).trans hw125_0), ((HB.out.cell (World.block_lt_of_cell? w _ hw126_0)).trans hw126_0), ((HB.out.cell (World.block_lt_of_cell? w _ hw127_0)).trans hw127_0), ((HB.out.cell (World.block_lt_of_cell? w _ hw128_0)).trans hw128_0)⟩ (fun hHeld => ?_)
                          clear hK K
                          refine norm_ (a' := ?_) ?_ ?_
                          rotate_left
                          ·
                           show Act.put _ (some 16) _ = _
                           simp only [Act.put, List.setIfInBounds_toArray, List.set_cons_zero, List.set_cons_succ, i64_w, i32_w]
                           rfl
                          refine one_ (i := 14) (N := none) zq14.q15 rfl rfl (one_of HT_.out (by kernel_rfl)) (by decide) (fun K hK => ?_)
                          have hs42 : w41.cell? ⟨gb129, 0, none⟩ = some (.int .u8 0) := (blk_cell BK129.out 0).trans rfl
                          have hfs42 := blk_frozen BK129.out 0
                          have hns42_0 := NB120_129.out
                          have hns42_1 := NB123_129.out
                          have hms42_0 := NB129_120.out
                          have hms42_1 := NB129_123.out
                          have hs43 : w41.cell? ⟨gb129, 1, none⟩ = some (.int .u8 0) := (blk_cell BK129.out 1).trans rfl
                          have hfs43 := blk_frozen BK129.out 1
                          have hns43_0 := NB120_129.out
                          have hns43_1 := NB123_129.out
                          have hms43_0 := NB129_120.out
                          have hms43_1 := NB129_123.out
                          have hs44 : w41.cell? ⟨gb129, 2, none⟩ = some (.int .u8 0) := (blk_cell BK129.out 2).trans rfl
                          have hfs44 := blk_frozen BK129.out 2
                          have hns44_0 := NB120_129.out
                          have hns44_1 := NB123_129.out
                          have hms44_0 := NB129_120.out
                          have hms44_1 := NB129_123.out
                          have hs45 : w41.cell? ⟨gb129, 3, none⟩ = some (.int .u8 0) := (blk_cell BK129.out 3).trans rfl
                          have hfs45 := blk_frozen BK129.out 3
                          have hns45_0 := NB120_129.out
                          have hns45_1 := NB123_129.out
                          have hms45_0 := NB129_120.out
                          have hms45_1 := NB129_123.out
                          refine skip_ (w1 := ?_) (by rfl) rfl ?_ ?_
                          rotate_left
                          ·
                           go_simp
                           rfl
                          refine hK.out _ _ ⟨((cell_far (p := ⟨gb129, _, none⟩) (by first | exact Nat.ne_of_lt (Nat.lt_of_lt_of_le (by have := World.block_lt_of_cell? _ _ hw125_0; first | rwa [add_block] at this | exact this) GW129.out) | (rw [add_block]; exact Nat.ne_of_lt (Nat.lt_of_lt_of_le (by have := World.block_lt_of_cell? _ _ hw125_0; first | rwa [add_block] at this | exact this) GW129.out)) | (show (Addr.add _ _).block ≠ _; rw [add_block]; exact Nat.ne_of_lt (Nat.lt_of_lt_of_le (by have := World.block_lt_of_cell? _ _ hw125_0; first | rwa [add_block] at this | exact this) GW129.out)) | (dsimp only; exact Nat.ne_of_lt (Nat.lt_of_lt_of_le (by have := World.block_lt_of_cell? _ _ hw125_0; first | rwa [add_block] at this | exact this) GW129.out))) _).trans (((cell_far (p := ⟨gb129, _, none⟩) (by first | exact Nat.ne_of_lt (Nat.lt_of_lt_of_le (by have := World.block_lt_of_cell? _ _ hw125_0; first | rwa [add_block] at this | exact this) GW129.out) | (rw [add_block]; exact Nat.ne_of_lt (Nat.lt_of_lt_of_le (by have := World.block_lt_of_cell? _ _ hw125_0; first | rwa [add_block] at this | exact this) GW129.out)) | (show (Addr.add _ _).block ≠ _; rw [add_block]; exact Nat.ne_of_lt (Nat.lt_of_lt_of_le (by have := World.block_lt_of_cell? _ _ hw125_0; first | rwa [add_block] at this | exact this) GW129.out)) | (dsimp only; exact Nat.ne_of_lt (Nat.lt_of_lt_of_le (by have := World.block_lt_of_cell? _ _ hw125_0; first | rwa [add_block] at this | exact this) GW129.out))) _).trans (((cell_far (p := ⟨gb129, _, none⟩) (by first | exact Nat.ne_of_lt (Nat.lt_of_lt_of_le (by have := World.block_lt_of_cell? _ _ hw125_0; first | rwa [add_block] at this | exact this) GW129.out) | (rw [add_block]; exact Nat.ne_of_lt (Nat.lt_of_lt_of_le (by have := World.block_lt_of_cell? _ _ hw125_0; first | rwa [add_block] at this | exact this) GW129.out)) | (show (Addr.add _ _).block ≠ _; rw [add_block]; exact Nat.ne_of_lt (Nat.lt_of_lt_of_le (by have := World.block_lt_of_cell? _ _ hw125_0; first | rwa [add_block] at this | exact this) GW129.out)) | (dsimp only; exact Nat.ne_of_lt (Nat.lt_of_lt_of_le (by have := World.block_lt_of_cell? _ _ hw125_0; first | rwa [add_block] at this | exact this) GW129.out))) _).trans (((cell_far (p := ⟨gb129, _, none⟩) (by first | exact Nat.ne_of_lt (Nat.lt_of_lt_of_le (by have := World.block_lt_of_cell? _ _ hw125_0; first | rwa [add_block] at this | exact this) GW129.out) | (rw [add_block]; exact Nat.ne_of_lt (Nat.lt_of_lt_of_le (by have := World.block_lt_of_cell? _ _ hw125_0; first | rwa [add_block] at this | exact this) GW129.out)) | (show (Addr.add _ _).block ≠ _; rw [add_block]; exact Nat.ne_of_lt (Nat.lt_of_lt_of_le (by have := World.block_lt_of_cell? _ _ hw125_0; first | rwa [add_block] at this | exact this) GW129.out)) | (dsimp only; exact Nat.ne_of_lt (Nat.lt_of_lt_of_le (by have := World.block_lt_of_cell? _ _ hw125_0; first | rwa [add_block] at this | exact this) GW129.out))) _).trans (hHeld.1)))))))), ((cell_far (p := ⟨gb129, _, none⟩) (by first | exact Nat.ne_of_lt (Nat.lt_of_lt_of_le (by have := World.block_lt_of_cell? _ _ hw126_0; first | rwa [add_block] at this | exact this) GW129.out) | (rw [add_block]; exact Nat.ne_of_lt (Nat.lt_of_lt_of_le (by have := World.block_lt_of_cell? _ _ hw126_0; first | rwa [add_block] at this | exact this) GW129.out)) | (show (Addr.add _ _).block ≠ _; rw [add_block]; exact Nat.ne_of_lt (Nat.lt_of_lt_of_le (by have := World.block_lt_of_cell? _ _ hw126_0; first | rwa [add_block] at this | exact this) GW129.out)) | (dsimp only; exact Nat.ne_of_lt (Nat.lt_of_lt_of_le (by have := World.block_lt_of_cell? _ _ hw126_0; first | rwa [add_block] at this | exact this) GW129.out))) _).trans (((cell_far (p := ⟨gb129, _, none⟩) (by first | exact Nat.ne_of_lt (Nat.lt_of_lt_of_le (by have := World.block_lt_of_cell? _ _ hw126_0; first | rwa [add_block] at this | exact this) GW129.out) | (rw [add_block]; exact Nat.ne_of_lt (Nat.lt_of_lt_of_le (by have := World.block_lt_of_cell? _ _ hw126_0; first | rwa [add_block] at this | exact this) GW129.out)) | (show (Addr.add _ _).block ≠ _; rw [add_block]; exact Nat.ne_of_lt (Nat.lt_of_lt_of_le (by have := World.block_lt_of_cell? _ _ hw126_0; first | rwa [add_block] at this | exact this) GW129.out)) | (dsimp only; exact Nat.ne_of_lt (Nat.lt_of_lt_of_le (by have := World.block_lt_of_cell? _ _ hw126_0; first | rwa [add_block] at this | exact this) GW129.out))) _).trans (((cell_far (p := ⟨gb129, _, none⟩) (by first | exact Nat.ne_of_lt (Nat.lt_of_lt_of_le (by have := World.block_lt_of_cell? _ _ hw126_0; first | rwa [add_block] at this | exact this) GW129.out) | (rw [add_block]; exact Nat.ne_of_lt (Nat.lt_of_lt_of_le (by have := World.block_lt_of_cell? _ _ hw126_0; first | rwa [add_block] at this | exact this) GW129.out)) | (show (Addr.add _ _).block ≠ _; rw [add_block]; exact Nat.ne_of_lt (Nat.lt_of_lt_of_le (by have := World.block_lt_of_cell? _ _ hw126_0; first | rwa [add_block] at this | exact this) GW129.out)) | (dsimp only; exact Nat.ne_of_lt (Nat.lt_of_lt_of_le (by have := World.block_lt_of_cell? _ _ hw126_0; first | rwa [add_block] at this | exact this) GW129.out))) _).trans (((cell_far (p := ⟨gb129, _, none⟩) (by first | exact Nat.ne_of_lt (Nat.lt_of_lt_of_le (by have := World.block_lt_of_cell? _ _ hw126_0; first | rwa [add_block] at this | exact this) GW129.out) | (rw [add_block]; exact Nat.ne_of_lt (Nat.lt_of_lt_of_le (by have := World.block_lt_of_cell? _ _ hw126_0; first | rwa [add_block] at this | exact this) GW129.out)) | (show (Addr.add _ _).block ≠ _; rw [add_block]; exact Nat.ne_of_lt (Nat.lt_of_lt_of_le (by have := World.block_lt_of_cell? _ _ hw126_0; first | rwa [add_block] at this | exact this) GW129.out)) | (dsimp only; exact Nat.ne_of_lt (Nat.lt_of_lt_of_le (by have := World.block_lt_of_cell? _ _ hw126_0; first | rwa [add_block] at this | exact this) GW129.out))) _).trans (hHeld.2.1)))))))), ((cell_far (p := ⟨gb129, _, none⟩) (by first | exact Nat.ne_of_lt (Nat.lt_of_lt_of_le (by have := World.block_lt_of_cell? _ _ hw127_0; first | rwa [add_block] at this | exact this) GW129.out) | (rw [add_block]; exact Nat.ne_of_lt (Nat.lt_of_lt_of_le (by have := World.block_lt_of_cell? _ _ hw127_0; first | rwa [add_block] at this | exact this) GW129.out)) | (show (Addr.add _ _).block ≠ _; rw [add_block]; exact Nat.ne_of_lt (Nat.lt_of_lt_of_le (by have := World.block_lt_of_cell? _ _ hw127_0; first | rwa [add_block] at this | exact this) GW129.out)) | (dsimp only; exact Nat.ne_of_lt (Nat.lt_of_lt_of_le (by have := World.block_lt_of_cell? _ _ hw127_0; first | rwa [add_block] at this | exact this) GW129.out))) _).trans (((cell_far (p := ⟨gb129, _, none⟩) (by first | exact Nat.ne_of_lt (Nat.lt_of_lt_of_le (by have := World.block_lt_of_cell? _ _ hw127_0; first | rwa [add_block] at this | exact this) GW129.out) | (rw [add_block]; exact Nat.ne_of_lt (Nat.lt_of_lt_of_le (by have := World.block_lt_of_cell? _ _ hw127_0; first | rwa [add_block] at this | exact this) GW129.out)) | (show (Addr.add _ _).block ≠ _; rw [add_block]; exact Nat.ne_of_lt (Nat.lt_of_lt_of_le (by have := World.block_lt_of_cell? _ _ hw127_0; first | rwa [add_block] at this | exact this) GW129.out)) | (dsimp only; exact Nat.ne_of_lt (Nat.lt_of_lt_of_le (by have := World.block_lt_of_cell? _ _ hw127_0; first | rwa [add_block] at this | exact this) GW129.out))) _).trans (((cell_far (p := ⟨gb129, _, none⟩) (by first | exact Nat.ne_of_lt (Nat.lt_of_lt_of_le (by have := World.block_lt_of_cell? _ _ hw127_0; first | rwa [add_block] at this | exact this) GW129.out) | (rw [add_block]; exact Nat.ne_of_lt (Nat.lt_of_lt_of_le (by have := World.block_lt_of_cell? _ _ hw127_0; first | rwa [add_block] at this | exact this) GW129.out)) | (show (Addr.add _ _).block ≠ _; rw [add_block]; exact Nat.ne_of_lt (Nat.lt_of_lt_of_le (by have := World.block_lt_of_cell? _ _ hw127_0; first | rwa [add_block] at this | exact this) GW129.out)) | (dsimp only; exact Nat.ne_of_lt (Nat.lt_of_lt_of_le (by have := World.block_lt_of_cell? _ _ hw127_0; first | rwa [add_block] at this | exact this) GW129.out))) _).trans (((cell_far (p := ⟨gb129, _, none⟩) (by first | exact Nat.ne_of_lt (Nat.lt_of_lt_of_le (by have := World.block_lt_of_cell? _ _ hw127_0; first | rwa [add_block] at this | exact this) GW129.out) | (rw [add_block]; exact Nat.ne_of_lt (Nat.lt_of_lt_of_le (by have := World.block_lt_of_cell? _ _ hw127_0; first | rwa [add_block] at this | exact this) GW129.out)) | (show (Addr.add _ _).block ≠ _; rw [add_block]; exact Nat.ne_of_lt (Nat.lt_of_lt_of_le (by have := World.block_lt_of_cell? _ _ hw127_0; first | rwa [add_block] at this | exact this) GW129.out)) | (dsimp only; exact Nat.ne_of_lt (Nat.lt_of_lt_of_le (by have := World.block_lt_of_cell? _ _ hw127_0; first | rwa [add_block] at this | exact this) GW129.out))) _).trans (hHeld.2.2.1)))))))), ((cell_far (p := ⟨gb129, _, none⟩) (by first | exact Nat.ne_of_lt (Nat.lt_of_lt_of_le (by have := World.block_lt_of_cell? _ _ hw128_0; first | rwa [add_block] at this | exact this) GW129.out) | (rw [add_block]; exact Nat.ne_of_lt (Nat.lt_of_lt_of_le (by have := World.block_lt_of_cell? _ _ hw128_0; first | rwa [add_block] at this | exact this) GW129.out)) | (show (Addr.add _ _).block ≠ _; rw [add_block]; exact Nat.ne_of_lt (Nat.lt_of_lt_of_le (by have := World.block_lt_of_cell? _ _ hw128_0; first | rwa [add_block] at this | exact this) GW129.out)) | (dsimp only; exact Nat.ne_of_lt (Nat.lt_of_lt_of_le (by have := World.block_lt_of_cell? _ _ hw128_0; first | rwa [add_block] at this | exact this) GW129.out))) _).trans (((cell_far (p := ⟨gb129, _, none⟩) (by first | exact Nat.ne_of_lt (Nat.lt_of_lt_of_le (by have := World.block_lt_of_cell? _ _ hw128_0; first | rwa [add_block] at this | exact this) GW129.out) | (rw [add_block]; exact Nat.ne_of_lt (Nat.lt_of_lt_of_le (by have := World.block_lt_of_cell? _ _ hw128_0; first | rwa [add_block] at this | exact this) GW129.out)) | (show (Addr.add _ _).block ≠ _; rw [add_block]; exact Nat.ne_of_lt (Nat.lt_of_lt_of_le (by have := World.block_lt_of_cell? _ _ hw128_0; first | rwa [add_block] at this | exact this) GW129.out)) | (dsimp only; exact Nat.ne_of_lt (Nat.lt_of_lt_of_le (by have := World.block_lt_of_cell? _ _ hw128_0; first | rwa [add_block] at this | exact this) GW129.out))) _).trans (((cell_far (p := ⟨gb129, _, none⟩) (by first | exact Nat.ne_of_lt (Nat.lt_of_lt_of_le (by have := World.block_lt_of_cell? _ _ hw128_0; first | rwa [add_block] at this | exact this) GW129.out) | (rw [add_block]; exact Nat.ne_of_lt (Nat.lt_of_lt_of_le (by have := World.block_lt_of_cell? _ _ hw128_0; first | rwa [add_block] at this | exact this) GW129.out)) | (show (Addr.add _ _).block ≠ _; rw [add_block]; exact Nat.ne_of_lt (Nat.lt_of_lt_of_le (by have := World.block_lt_of_cell? _ _ hw128_0; first | rwa [add_block] at this | exact this) GW129.out)) | (dsimp only; exact Nat.ne_of_lt (Nat.lt_of_lt_of_le (by have := World.block_lt_of_cell? _ _ hw128_0; first | rwa [add_block] at this | exact this) GW129.out))) _).trans (((cell_far (p := ⟨gb129, _, none⟩) (by first | exact Nat.ne_of_lt (Nat.lt_of_lt_of_le (by have := World.block_lt_of_cell? _ _ hw128_0; first | rwa [add_block] at this | exact this) GW129.out) | (rw [add_block]; exact Nat.ne_of_lt (Nat.lt_of_lt_of_le (by have := World.block_lt_of_cell? _ _ hw128_0; first | rwa [add_block] at this | exact this) GW129.out)) | (show (Addr.add _ _).block ≠ _; rw [add_block]; exact Nat.ne_of_lt (Nat.lt_of_lt_of_le (by have := World.block_lt_of_cell? _ _ hw128_0; first | rwa [add_block] at this | exact this) GW129.out)) | (dsimp only; exact Nat.ne_of_lt (Nat.lt_of_lt_of_le (by have := World.block_lt_of_cell? _ _ hw128_0; first | rwa [add_block] at this | exact this) GW129.out))) _).trans (hHeld.2.2.2))))))))⟩ (fun hHeld => ?_)
                          clear hK K
                          refine done_ (done_of HT_.out (by kernel_rfl)) ?_
                          have hnb46 := NB129_120.out
                          have hnc46 := NB120_129.out
                          have hnb47 := NB129_123.out
                          have hnc47 := NB123_129.out
                          have hcz48_0 : w41.cell? ⟨gb129, 0, none⟩ = some (.int .u8 0) := (blk_cell BK129.out 0).trans rfl
                          have hcz48_1 : w41.cell? ⟨gb129, 1, none⟩ = some (.int .u8 0) := (blk_cell BK129.out 1).trans rfl
                          have hcz48_2 : w41.cell? ⟨gb129, 2, none⟩ = some (.int .u8 0) := (blk_cell BK129.out 2).trans rfl
                          have hcz48_3 : w41.cell? ⟨gb129, 3, none⟩ = some (.int .u8 0) := (blk_cell BK129.out 3).trans rfl
                          have hfz48_0 := blk_frozen BK129.out 0
                          have hfz48_1 := blk_frozen BK129.out 1
                          have hfz48_2 := blk_frozen BK129.out 2
                          have hfz48_3 := blk_frozen BK129.out 3
                          try go_wp2
                          have n0_ : Aside0 (Kd.R k43 43 (((((w41.setCell ⟨gb129, 0, none⟩ (.int .u8 (rd (l4.drop ((ji29) : Int).toNat) 2))).setCell ⟨gb129, 1, none⟩ (.int .u8 (rd (l4.drop ((ji29) : Int).toNat) 1))).setCell ⟨gb129, 2, none⟩ (.int .u8 (rd (l4.drop ((ji29) : Int).toNat) 0))).setCell ⟨gb129, 3, none⟩ (.int .u8 (rd (l4.drop ((ji29) : Int).toNat) 3))).setCell ⟨gb129, 3, none⟩ (.int .u8 255)) w.heap.size (fun k_ => k_ ≠ gb129) u124002 x124002_5) := ⟨by (with_reducible repeat (first | apply Kd.R_alloc | apply Kd.R_drewN | apply Kd.R_drew)); exact Kd.R_mono (Kd.R_far (p := ⟨gb129, 3, none⟩) (Kd.R_far (p := ⟨gb129, 3, none⟩) (Kd.R_far (p := ⟨gb129, 2, none⟩) (Kd.R_far (p := ⟨gb129, 1, none⟩) (Kd.R_far (p := ⟨gb129, 0, none⟩) (Kd.R_mono HO_124002.out (fun k_ hk => (⟨hk, hk.2⟩ : _ ∧ k_ ≠ gb129))) (fun _ hk => hk.2) (.int .u8 (rd (l4.drop ((ji29) : Int).toNat) 2))) (fun _ hk => hk.2) (.int .u8 (rd (l4.drop ((ji29) : Int).toNat) 1))) (fun _ hk => hk.2) (.int .u8 (rd (l4.drop ((ji29) : Int).toNat) 0))) (fun _ hk => hk.2) (.int .u8 (rd (l4.drop ((ji29) : Int).toNat) 3))) (fun _ hk => hk.2) (.int .u8 255)) (fun _ hk => hk.1.2)⟩
                          have n1_ : Aside0 ((((((w41.setCell ⟨gb129, 0, none⟩ (.int .u8 (rd (l4.drop ((ji29) : Int).toNat) 2))).setCell ⟨gb129, 1, none⟩ (.int .u8 (rd (l4.drop ((ji29) : Int).toNat) 1))).setCell ⟨gb129, 2, none⟩ (.int .u8 (rd (l4.drop ((ji29) : Int).toNat) 0))).setCell ⟨gb129, 3, none⟩ (.int .u8 (rd (l4.drop ((ji29) : Int).toNat) 3))).setCell ⟨gb129, 3, none⟩ (.int .u8 255)).heap[gb120]? = some (.cells #[.int .i64 0, .int .i64 0, .slice none 0 0] 27 (0, 0))) := bf_ BK120
                          have n2_ : Aside0 ((((((w41.setCell ⟨gb129, 0, none⟩ (.int .u8 (rd (l4.drop ((ji29) : Int).toNat) 2))).setCell ⟨gb129, 1, none⟩ (.int .u8 (rd (l4.drop ((ji29) : Int).toNat) 1))).setCell ⟨gb129, 2, none⟩ (.int .u8 (rd (l4.drop ((ji29) : Int).toNat) 0))).setCell ⟨gb129, 3, none⟩ (.int .u8 (rd (l4.drop ((ji29) : Int).toNat) 3))).setCell ⟨gb129, 3, none⟩ (.int .u8 255)).heap[gb123]? = some (.cells #[.int .i64 a1, .int .i64 a2, u124002] 27 (0, 0))) := bf_ BK123
                          have n3_ : Aside0 ((((((w41.setCell ⟨gb129, 0, none⟩ (.int .u8 (rd (l4.drop ((ji29) : Int).toNat) 2))).setCell ⟨gb129, 1, none⟩ (.int .u8 (rd (l4.drop ((ji29) : Int).toNat) 1))).setCell ⟨gb129, 2, none⟩ (.int .u8 (rd (l4.drop ((ji29) : Int).toNat) 0))).setCell ⟨gb129, 3, none⟩ (.int .u8 (rd (l4.drop ((ji29) : Int).toNat) 3))).setCell ⟨gb129, 3, none⟩ (.int .u8 255)).heap[gb129]? = some (.cells #[.int .u8 (rd (l4.drop ((ji29) : Int).toNat) 2), .int .u8 (rd (l4.drop ((ji29) : Int).toNat) 1), .int .u8 (rd (l4.drop ((ji29) : Int).toNat) 0), .int .u8 255] 43 (0, 0))) := ⟨by (with_reducible repeat (first | refine blk_drewN ?_ _ | refine blk_drew ?_ | refine blk_alloc ?_ _)); refine blk_put (cs := #[.int .u8 (rd (l4.drop ((ji29) : Int).toNat) 2), .int .u8 (rd (l4.drop ((ji29) : Int).toNat) 1), .int .u8 (rd (l4.drop ((ji29) : Int).toNat) 0), .int .u8 (rd (l4.drop ((ji29) : Int).toNat) 3)]) ?_ 3 _ rfl; (with_reducible repeat (first | refine blk_drewN ?_ _ | refine blk_drew ?_ | refine blk_alloc ?_ _)); refine blk_put (cs := #[.int .u8 (rd (l4.drop ((ji29) : Int).toNat) 2), .int .u8 (rd (l4.drop ((ji29) : Int).toNat) 1), .int .u8 (rd (l4.drop ((ji29) : Int).toNat) 0), .int .u8 0]) ?_ 3 _ rfl; (with_reducible repeat (first | refine blk_drewN ?_ _ | refine blk_drew ?_ | refine blk_alloc ?_ _)); refine blk_put (cs := #[.int .u8 (rd (l4.drop ((ji29) : Int).toNat) 2), .int .u8 (rd (l4.drop ((ji29) : Int).toNat) 1), .int .u8 0, .int .u8 0]) ?_ 2 _ rfl; (with_reducible repeat (first | refine blk_drewN ?_ _ | refine blk_drew ?_ | refine blk_alloc ?_ _)); refine blk_put (cs := #[.int .u8 (rd (l4.drop ((ji29) : Int).toNat) 2), .int .u8 0, .int .u8 0, .int .u8 0]) ?_ 1 _ rfl; (with_reducible repeat (first | refine blk_drewN ?_ _ | refine blk_drew ?_ | refine blk_alloc ?_ _)); refine blk_put (cs := #[.int .u8 0, .int .u8 0, .int .u8 0, .int .u8 0]) ?_ 0 _ rfl; (with_reducible repeat (first | refine blk_drewN ?_ _ | refine blk_drew ?_ | refine blk_alloc ?_ _)); exact BK129.out⟩
                          have n4_ : Aside0 (Below w.heap.size w (((((w41.setCell ⟨gb129, 0, none⟩ (.int .u8 (rd (l4.drop ((ji29) : Int).toNat) 2))).setCell ⟨gb129, 1, none⟩ (.int .u8 (rd (l4.drop ((ji29) : Int).toNat) 1))).setCell ⟨gb129, 2, none⟩ (.int .u8 (rd (l4.drop ((ji29) : Int).toNat) 0))).setCell ⟨gb129, 3, none⟩ (.int .u8 (rd (l4.drop ((ji29) : Int).toNat) 3))).setCell ⟨gb129, 3, none⟩ (.int .u8 255))) := ⟨by repeat (first | (with_reducible first | exact HB.out | apply below_alloc | apply pw_below_drewN | apply below_drew1 | refine below_set ?_ GE120.out | refine below_set ?_ GE123.out | refine below_set ?_ GE129.out) | exact HB.out)⟩
                          (try clear HO_124002)
                          (try clear BK120)
                          (try clear BK123)
                          (try clear BK129)
                          (try clear HB)
                          generalize (((((w41.setCell ⟨gb129, 0, none⟩ (.int .u8 (rd (l4.drop ((ji29) : Int).toNat) 2))).setCell ⟨gb129, 1, none⟩ (.int .u8 (rd (l4.drop ((ji29) : Int).toNat) 1))).setCell ⟨gb129, 2, none⟩ (.int .u8 (rd (l4.drop ((ji29) : Int).toNat) 0))).setCell ⟨gb129, 3, none⟩ (.int .u8 (rd (l4.drop ((ji29) : Int).toNat) 3))).setCell ⟨gb129, 3, none⟩ (.int .u8 255)) = w49 at n0_ n1_ n2_ n3_ n4_ ⊢
                          have HO_124002 := n0_
                          have BK120 := n1_
                          have BK123 := n2_
                          have BK129 := n3_
                          have HB := n4_
                          clear n0_ n1_ n2_ n3_ n4_
                          replace HO_124002 := Aside0.mk (Kd.R_drew HO_124002.out)
                          replace BK120 := Aside0.mk (blk_drew BK120.out)
                          replace BK123 := Aside0.mk (blk_drew BK123.out)
                          replace BK129 := Aside0.mk (blk_drew BK129.out)
                          replace HB := Aside0.mk (below_drew1 HB.out)
                          refine start_ (n := 8) (S := fun w' => w'.cell? ⟨gb123, 0, none⟩ = some (.int .i64 a1) ∧ w'.cell? ⟨gb123, 1, none⟩ = some (.int .i64 a2) ∧ w'.cell? ⟨gb123, 2, none⟩ = some (u124002) ∧ w'.cell? ⟨gb129, 0, none⟩ = some (.int .u8 (rd (l4.drop ((ji29) : Int).toNat) 2)) ∧ w'.cell? ⟨gb129, 1, none⟩ = some (.int .u8 (rd (l4.drop ((ji29) : Int).toNat) 1)) ∧ w'.cell? ⟨gb129, 2, none⟩ = some (.int .u8 (rd (l4.drop ((ji29) : Int).toNat) 0)) ∧ w'.cell? ⟨gb129, 3, none⟩ = some (.int .u8 255)) (ds := [7]) zq14.q16 (by kernel_rfl) rfl rfl ⟨c_ BK123 0, ⟨c_ BK123 1, ⟨c_ BK123 2, (h4_ BK129)⟩⟩⟩ (fun hHeld => ?_); refine with_tabW buffer_Decode.tab20 buffer_Decode.bits20 (fun HT_ HW_ => ?_)
                          generalize w49.drew = w50 at HO_124002 BK120 BK123 BK129 HB hHeld ⊢
                          refine pv_ 0 89 zq14.q17 HT_ ?_
                          refine take_ (i := 1) (N := some 90) (v := ?_) (a' := ?_) zq14.q18 rfl rfl (take_ofW HT_.out HW_.out (by kernel_rfl)) (fun _ _ _ h => h) (Or.inl ⟨by rfl, ?_⟩) hHeld ?_ ?_
                          rotate_left
                          ·
                           rintro w' ⟨s0, s1, s2, s3, s4, s5, s6⟩
                           go_simp
                           with_reducible rfl
                          rotate_left
                          ·
                           simp only [Act.put, List.setIfInBounds_toArray, List.set_cons_zero, List.set_cons_succ, i64_w, i32_w]
                           rfl
                          refine take_ (i := 2) (N := some 91) (v := ?_) (a' := ?_) zq14.q19 rfl rfl (take_ofW HT_.out HW_.out (by kernel_rfl)) (fun _ _ _ h => h) (Or.inl ⟨by rfl, ?_⟩) hHeld ?_ ?_
                          rotate_left
                          ·
                           rintro w' ⟨s0, s1, s2, s3, s4, s5, s6⟩
                           go_simp
                           with_reducible rfl
                          rotate_left
                          ·
                           simp only [Act.put, List.setIfInBounds_toArray, List.set_cons_zero, List.set_cons_succ, i64_w, i32_w]
                           rfl
                          refine one_ (i := 3) (N := some 92) zq14.q20 rfl rfl (one_of HT_.out (by kernel_rfl)) (by decide) (fun K hK => ?_)
                          refine goes_ Try.func40 (by kernel_rfl) rfl #[.agg #[.int .u8 (rd (l4.drop ((ji29) : Int).toNat) 2), .int .u8 (rd (l4.drop ((ji29) : Int).toNat) 1), .int .u8 (rd (l4.drop ((ji29) : Int).toNat) 0), .int .u8 255]] (by rfl) rfl rfl (by (try simp only [List.map_toArray, List.map_cons, List.map_nil]); first | done | (simp only [hji29]; rfl) | rfl | (simp only [List.length_drop, List.length_take]; rfl)) ?_
                          with_reducible refine (pixel_Clamp.calls (rd (l4.drop ((ji29) : Int).toNat) 2) (rd (l4.drop ((ji29) : Int).toNat) 1) (rd (l4.drop ((ji29) : Int).toNat) 0) 255 t130 t131 t132 t133 _ A37.out).mono ?_
                          rintro e w51 ⟨rfl, hb⟩
                          refine ⟨_, rfl, ?_⟩
                          replace HO_124002 := Aside0.mk (Kd.R_below (by (with_reducible repeat (first | apply Kd.R_alloc | apply Kd.R_drewN | apply Kd.R_drew)); exact HO_124002.out) hb)
                          replace BK120 := bb_ BK120 hb
                          replace BK123 := bb_ BK123 hb
                          replace BK129 := Aside0.mk (blk_below (g := gb129) (o := .cells #[.int .u8 (rd (l4.drop ((ji29) : Int).toNat) 2), .int .u8 (rd (l4.drop ((ji29) : Int).toNat) 1), .int .u8 (rd (l4.drop ((ji29) : Int).toNat) 0), .int .u8 255] 43 (0, 0)) (bq_ BK129) hb)
                          replace HB := hb_ HB hb
                          (try clear hb); (try clear hb2); (try clear hk); (try clear hi)
                          refine hK.out _ _ ⟨c_ BK123 0, ⟨c_ BK123 1, ⟨c_ BK123 2, (h4_ BK129)⟩⟩⟩ (fun hHeld => ?_)
                          clear hK K
                          refine norm_ (a' := ?_) ?_ ?_
                          rotate_left
                          ·
                           show Act.put _ (some 92) _ = _
                           simp only [Act.put, List.setIfInBounds_toArray, List.set_cons_zero, List.set_cons_succ, i64_w, i32_w]
                           rfl
                          refine one_ (i := 4) (N := some 93) zq14.q21 rfl rfl (one_of HT_.out (by kernel_rfl)) (by decide) (fun K hK => ?_)
                          refine value_ (w1 := ?_) (v := ?_) (by rfl) rfl ?_ ?_
                          rotate_left 2
                          ·
                           go_simp
                           constructor
                           ·
                            rfl
                           ·
                            rfl
                          refine hK.out _ _ ⟨(blk_cell (blk_alloc BK123.out _) 0).trans rfl, (blk_cell (blk_alloc BK123.out _) 1).trans rfl, (blk_cell (blk_alloc BK123.out _) 2).trans rfl, (blk_cell (blk_alloc BK129.out _) 0).trans rfl, (blk_cell (blk_alloc BK129.out _) 1).trans rfl, (blk_cell (blk_alloc BK129.out _) 2).trans rfl, (blk_cell (blk_alloc BK129.out _) 3).trans rfl⟩ (fun hHeld => ?_)
                          clear hK K
                          refine norm_ (a' := ?_) ?_ ?_
                          rotate_left
                          ·
                           show Act.put _ (some 93) _ = _
                           simp only [Act.put, List.setIfInBounds_toArray, List.set_cons_zero, List.set_cons_succ, i64_w, i32_w]
                           rfl
                          refine one_ (i := 5) (N := some 94) zq14.q22 rfl rfl (one_of HT_.out (by kernel_rfl)) (by decide) (fun K hK => ?_)
                          refine Kd.R_append_step k43 (w0 := w) w.heap.size (by rfl) (.tmp 90) (.tmp 93) 25 43 (.agg #[(.int .u8 0), (.int .u8 0), (.int .u8 0), (.int .u8 0)]) 4 rfl Try.underlying25 info43 rfl (by decide) (by omega) u124002 x124002_5 (⟨t130, t131, t132, t133⟩ : S43) [.int .u8 t130, .int .u8 t131, .int .u8 t132, .int .u8 t133] (fun k_ => k_ ≠ gb129) (fun _ => False) rfl rfl ?aP (fun _ hk => hk.elim) ?aF ?aO ?aB ?aS ?aL ?_
                          (case aP => exact k43_mkM _ _ _ (⟨t130, t131, t132, t133⟩ : S43))
                          (case aB => exact (hq_ HB))
                          (case aF => exact (fun k_ hk => Kd.freshB (g := gb129) (o := .cells #[.int .u8 (rd (l4.drop ((ji29) : Int).toNat) 2), .int .u8 (rd (l4.drop ((ji29) : Int).toNat) 1), .int .u8 (rd (l4.drop ((ji29) : Int).toNat) 0), .int .u8 255] 43 (0, 0)) (bq_ BK129) k_ hk))
                          (case aO => exact (by (with_reducible repeat (first | apply Kd.R_alloc | apply Kd.R_drewN | apply Kd.R_drew)); exact HO_124002.out))
                          (case aS => exact (below_size (hq_ HB)))
                          (case aL => have := LMc38.out; omega)
                          intro v135 w52 ho hb hg hat
                          rw [← Ny134.out] at ho
                          replace BK120 := Aside0.mk (blk_grown (g := gb120) (o := .cells #[.int .i64 0, .int .i64 0, .slice none 0 0] 27 (0, 0)) (bq_ BK120) hg (Kd.R_ne HO_124002.out BK120.out (by decide)))
                          replace BK123 := Aside0.mk (blk_grown (g := gb123) (o := .cells #[.int .i64 a1, .int .i64 a2, u124002] 27 (0, 0)) (bq_ BK123) hg (Kd.R_ne HO_124002.out BK123.out (by decide)))
                          replace BK129 := Aside0.mk (blk_grown (g := gb129) (o := .cells #[.int .u8 (rd (l4.drop ((ji29) : Int).toNat) 2), .int .u8 (rd (l4.drop ((ji29) : Int).toNat) 1), .int .u8 (rd (l4.drop ((ji29) : Int).toNat) 0), .int .u8 255] 43 (0, 0)) (bq_ BK129) hg (Kd.R_away HO_124002.out (fun _ hk => hk)))
                          replace HB := Aside0.mk (hb)
                          have HO136 := Aside0.mk (ho)
                          clear HO_124002
                          clear ho hb hg hat
                          obtain ⟨Ao53, co53, eo53⟩ := Kd.R_slice HO136.out
                          (first | subst eo53 | (injection eo53 with f1_ f2_ f3_; have f4_ := f1_.symm; have f5_ := f3_.symm; clear f1_ f2_ f3_; subst f4_; subst f5_))
                          refine hK.out _ _ ⟨c_ BK123 0, ⟨c_ BK123 1, ⟨c_ BK123 2, (h4_ BK129)⟩⟩⟩ (fun hHeld => ?_)
                          clear hK K
                          refine norm_ (a' := ?_) ?_ ?_
                          rotate_left
                          ·
                           show Act.put _ (some 94) _ = _
                           simp only [Act.put, List.setIfInBounds_toArray, List.set_cons_zero, List.set_cons_succ, i64_w, i32_w]
                           rfl
                          refine pv_ 6 95 zq14.q23 HT_ ?_
                          refine last_ (i := 7) (N := none) zq14.q24 rfl rfl (one_of HT_.out (by kernel_rfl)) (by decide) (fun K hK => ?_)
                          have hs54 : w52.cell? ⟨gb123, 2, none⟩ = some (u124002) := (blk_cell BK123.out 2).trans rfl
                          have hfs54 := blk_frozen BK123.out 2
                          have hns54_0 := NB120_123.out
                          have hns54_2 := NB129_123.out
                          have hms54_0 := NB123_120.out
                          have hms54_2 := NB123_129.out
                          refine skip_ (w1 := ?_) (by rfl) rfl ?_ ?_
                          rotate_left
                          ·
                           go_simp
                           rfl
                          refine hK.out _ _ ?_
                          clear hK K
                          refine done_ (done_of HT_.out (by kernel_rfl)) ?_
                          try go_wp2
                          go_roundg k5
                          case measure => have := HJ5.out; have := HJ10.out; have := HJ16.out; have := HK4.out; have := HK5.out; omega
                          case rel => exact ⟨(wrap64 (x62_5 + 1)), (y134), (.slice Ao53 y134.length co53), (by first | rfl | (simp; done) | (simp [*]; done)), H', ⟨by have := HJ5.out; have := HJ10.out; have := HJ16.out; have := HK4.out; have := HK5.out; omega⟩, ⟨by (with_reducible repeat (first | apply Kd.R_alloc | apply Kd.R_drewN | apply Kd.R_drew)); exact Kd.R_mono (Kd.R_far (p := ⟨gb123, 2, none⟩) (Kd.R_types HO136.out BK123.out (by decide)) (fun _ hk => hk.2) (.slice Ao53 y134.length co53)) (fun _ hk => trivial)⟩, bf_ BK120, ⟨by (with_reducible repeat (first | refine blk_drewN ?_ _ | refine blk_drew ?_ | refine blk_alloc ?_ _)); refine blk_put (cs := #[.int .i64 a1, .int .i64 a2, u124002]) ?_ 2 _ rfl; (with_reducible repeat (first | refine blk_drewN ?_ _ | refine blk_drew ?_ | refine blk_alloc ?_ _)); exact BK123.out⟩, ⟨by repeat (first | (with_reducible first | exact HB.out | apply below_alloc | apply pw_below_drewN | apply below_drew1 | refine below_set ?_ GE120.out | refine below_set ?_ GE123.out | refine below_set ?_ GE129.out) | exact HB.out)⟩⟩
                         ·
                          rw [if_neg c38] at H
                          exact absurd H (by simp)
                        ·
                         rw [if_neg c36] at H
                         have c36b0 : (a0 == 2) = false := beq_eq_false_iff_ne.mpr c36
                         have c36b1 : (a0 != 2) = true := bne_iff_ne.mpr c36
                         replace H := Option.bind_eq_some_iff.mp H
                         obtain ⟨⟨t137, t138, t139, t140⟩, A550, H⟩ := H
                         try dsimp only at H
                         have A55 := Aside0.mk A550
                         clear A550
                         by_cases c56 : x124002_5.length < 35184372088832
                         ·
                          rw [if_pos c56] at H
                          have LMc56 := Aside0.mk c56
                          clear c56
                          obtain ⟨y141, hy141⟩ : ∃ y_ : List (S43), y_ = (x124002_5 ++ [(⟨t137, t138, t139, t140⟩ : S43)]) := ⟨_, rfl⟩
                          replace H : (buffer_Decode.l1 k5 a0 a1 a3 l4 x58_4 a2 x58_4 a1 (wrap64 (x62_5 + 1)) a1 a2 y141) = some (r1, r2, r3, r4) := by first | (rw [hy141]; with_reducible exact H) | (have H2_ := (Option.bind_some _ _).symm.trans H; rw [hy141]; with_reducible exact H2_) | (have H2_ := (Option.bind_some _ _).symm.trans H; with_reducible exact H2_) | with_reducible exact H | (rw [hy141]; exact H) | exact H
                          have Ny141 := Aside0.mk hy141
                          clear hy141
                          have H' := Aside0.mk H
                          clear H
                          obtain ⟨i057, hi057, _, hsz57, _⟩ := info_parts info5
                          obtain ⟨A57, hcut57, hA57, hC57⟩ := print_drop_of (P := Try.prog) (Value.int .u8) 0 23 5 .i64 Try.underlying23 hi057 hsz57 A4 c4 l4 (ji29) (of_decide_eq_true (by first | (with_reducible assumption) | assumption)) (of_decide_eq_true (by first | (with_reducible assumption) | assumption)) HC4.out
                          have HR124 := Aside0.mk (Kd.C_of_reads (h1 := fun _ => rfl) (hA57 _ (Kd.reads_of_C HR4.out)))
                          have HC124 := Aside0.mk hC57
                          clear hA57 hC57 hi057 hsz57
                          try go_wp2
                          replace HO_124002 := Aside0.mk (Kd.R_drew HO_124002.out)
                          replace BK120 := Aside0.mk (blk_drew BK120.out)
                          replace BK123 := Aside0.mk (blk_drew BK123.out)
                          replace HB := Aside0.mk (below_drew1 HB.out)
                          have p125 : 0 ≤ (0 : Int) := (by omega)
                          have q125 : 0 < ((l4.drop ((ji29) : Int).toNat).length : Int) := of_decide_eq_true (by first | (with_reducible assumption) | assumption)
                          obtain ⟨ad125, e125, hx125_0⟩ := Kd.at_int HR124.out 0 p125 q125
                          have hw125_0 := hx125_0
                          (try rw [show ((0 : Int)).toNat = 0 from rfl] at hw125_0)
                          (try rw [show 0 * 1 = 0 from rfl] at hw125_0)
                          (try rw [Addr.add_zero'] at hw125_0)
                          cases e125
                          have qi125 : (0 < (l4.drop ((ji29) : Int).toNat).length) = True := eq_true (by omega)
                          have qid_qi125 := qi125
                          (try simp only [List.length_drop] at qid_qi125)
                          have qie_qi125 : ((0 : Int) < ((l4.length - ((ji29) : Int).toNat : Nat) : Int)) = True := eq_true (by have h_ := of_eq_true qid_qi125; omega)
                          (try rw [show ((0 : Int)).toNat = 0 from rfl] at hx125_0)
                          (try rw [Addr.add_zero'] at hx125_0)
                          replace hx125_0 := (HB.out.cell (World.block_lt_of_cell? w _ hx125_0)).trans hx125_0
                          replace p125 := eq_true p125
                          replace q125 := eq_true q125
                          have p126 : 0 ≤ (1 : Int) := (by omega)
                          have q126 : 1 < ((l4.drop ((ji29) : Int).toNat).length : Int) := of_decide_eq_true (by first | (with_reducible assumption) | assumption)
                          obtain ⟨ad126, e126, hx126_0⟩ := Kd.at_int HR124.out 1 p126 q126
                          have hw126_0 := hx126_0
                          (try rw [show ((1 : Int)).toNat = 1 from rfl] at hw126_0)
                          (try rw [show 1 * 1 = 1 from rfl] at hw126_0)
                          (try simp only [Nat.reduceMul, Nat.reduceEqDiff, Go.Addr.add, ↓reduceIte] at hw126_0)
                          obtain rfl : ad125 = ad126 := (by injection e126)
                          (try simp only [show (1 : Int).toNat = 1 from rfl, Nat.reduceMul, Nat.reduceEqDiff, Go.Addr.add, ↓reduceIte] at hx126_0)
                          have qi126 : (1 < (l4.drop ((ji29) : Int).toNat).length) = True := eq_true (by omega)
                          have qid_qi126 := qi126
                          (try simp only [List.length_drop] at qid_qi126)
                          have qie_qi126 : ((1 : Int) < ((l4.length - ((ji29) : Int).toNat : Nat) : Int)) = True := eq_true (by have h_ := of_eq_true qid_qi126; omega)
                          (try rw [show ((1 : Int)).toNat = 1 from rfl] at hx126_0)
                          replace hx126_0 := (HB.out.cell (World.block_lt_of_cell? w _ hx126_0)).trans hx126_0
                          replace p126 := eq_true p126
                          replace q126 := eq_true q126
                          have p127 : 0 ≤ (2 : Int) := (by omega)
                          have q127 : 2 < ((l4.drop ((ji29) : Int).toNat).length : Int) := of_decide_eq_true (by first | (with_reducible assumption) | assumption)
                          obtain ⟨ad127, e127, hx127_0⟩ := Kd.at_int HR124.out 2 p127 q127
                          have hw127_0 := hx127_0
                          (try rw [show ((2 : Int)).toNat = 2 from rfl] at hw127_0)
                          (try rw [show 2 * 1 = 2 from rfl] at hw127_0)
                          (try simp only [Nat.reduceMul, Nat.reduceEqDiff, Go.Addr.add, ↓reduceIte] at hw127_0)
                          obtain rfl : ad125 = ad127 := (by injection e127)
                          (try simp only [show (2 : Int).toNat = 2 from rfl, Nat.reduceMul, Nat.reduceEqDiff, Go.Addr.add, ↓reduceIte] at hx127_0)
                          have qi127 : (2 < (l4.drop ((ji29) : Int).toNat).length) = True := eq_true (by omega)
                          have qid_qi127 := qi127
                          (try simp only [List.length_drop] at qid_qi127)
                          have qie_qi127 : ((2 : Int) < ((l4.length - ((ji29) : Int).toNat : Nat) : Int)) = True := eq_true (by have h_ := of_eq_true qid_qi127; omega)
                          (try rw [show ((2 : Int)).toNat = 2 from rfl] at hx127_0)
                          replace hx127_0 := (HB.out.cell (World.block_lt_of_cell? w _ hx127_0)).trans hx127_0
                          replace p127 := eq_true p127
                          replace q127 := eq_true q127
                          have p128 : 0 ≤ (3 : Int) := (by omega)
                          have q128 : 3 < ((l4.drop ((ji29) : Int).toNat).length : Int) := of_decide_eq_true (by first | (with_reducible assumption) | assumption)
                          obtain ⟨ad128, e128, hx128_0⟩ := Kd.at_int HR124.out 3 p128 q128
                          have hw128_0 := hx128_0
                          (try rw [show ((3 : Int)).toNat = 3 from rfl] at hw128_0)
                          (try rw [show 3 * 1 = 3 from rfl] at hw128_0)
                          (try simp only [Nat.reduceMul, Nat.reduceEqDiff, Go.Addr.add, ↓reduceIte] at hw128_0)
                          obtain rfl : ad125 = ad128 := (by injection e128)
                          (try simp only [show (3 : Int).toNat = 3 from rfl, Nat.reduceMul, Nat.reduceEqDiff, Go.Addr.add, ↓reduceIte] at hx128_0)
                          have qi128 : (3 < (l4.drop ((ji29) : Int).toNat).length) = True := eq_true (by omega)
                          have qid_qi128 := qi128
                          (try simp only [List.length_drop] at qid_qi128)
                          have qie_qi128 : ((3 : Int) < ((l4.length - ((ji29) : Int).toNat : Nat) : Int)) = True := eq_true (by have h_ := of_eq_true qid_qi128; omega)
                          (try rw [show ((3 : Int)).toNat = 3 from rfl] at hx128_0)
                          replace hx128_0 := (HB.out.cell (World.block_lt_of_cell? w _ hx128_0)).trans hx128_0
                          replace p128 := eq_true p128
                          replace q128 := eq_true q128
                          refine start_ (n := 15) (S := fun w' => w'.cell? ad125 = some (.int .u8 (rd (l4.drop ((ji29) : Int).toNat) 0)) ∧ w'.cell? ⟨ad125.block, ad125.off + 1, none⟩ = some (.int .u8 (rd (l4.drop ((ji29) : Int).toNat) 1)) ∧ w'.cell? ⟨ad125.block, ad125.off + 2, none⟩ = some (.int .u8 (rd (l4.drop ((ji29) : Int).toNat) 2)) ∧ w'.cell? ⟨ad125.block, ad125.off + 3, none⟩ = some (.int .u8 (rd (l4.drop ((ji29) : Int).toNat) 3))) (ds := []) zq14.q0 (by kernel_rfl) rfl rfl ⟨((HB.out.cell (World.block_lt_of_cell? w _ hw125_0)).trans hw125_0), ((HB.out.cell (World.block_lt_of_cell? w _ hw126_0)).trans hw126_0), ((HB.out.cell (World.block_lt_of_cell? w _ hw127_0)).trans hw127_0), ((HB.out.cell (World.block_lt_of_cell? w _ hw128_0)).trans hw128_0)⟩ (fun hHeld => ?_); refine with_tabW buffer_Decode.tab17 buffer_Decode.bits17 (fun HT_ HW_ => ?_)
                          generalize wr.drew = w58 at HO_124002 BK120 BK123 HB hx125_0 hx126_0 hx127_0 hx128_0 hHeld ⊢
                          refine pv_ 0 73 zq14.q1 HT_ ?_
                          refine pv_ 1 74 zq14.q2 HT_ ?_
                          refine pv_ 3 76 zq14.q3 HT_ ?_
                          refine pv_ 4 77 zq14.q4 HT_ ?_
                          refine pv_ 6 79 zq14.q5 HT_ ?_
                          refine pv_ 7 80 zq14.q6 HT_ ?_
                          refine pv_ 9 82 zq14.q7 HT_ ?_
                          refine pv_ 10 83 zq14.q8 HT_ ?_
                          refine tk4_ 2 75 zq14.q9 HT_ HW_ hHeld ?_
                          refine tk4_ 5 78 zq14.q10 HT_ HW_ hHeld ?_
                          refine tk4_ 8 81 zq14.q11 HT_ HW_ hHeld ?_
                          refine tk4_ 11 84 zq14.q12 HT_ HW_ hHeld ?_
                          refine pv_ 12 85 zq14.q13 HT_ ?_
                          refine one_ (i := 13) (N := some 16) zq14.q14 rfl rfl (one_of HT_.out (by kernel_rfl)) (by decide) (fun K hK => ?_)
                          refine box_step ?hg (N := 16) ?hd (cs := #[.int .u8 0, .int .u8 0, .int .u8 0, .int .u8 0]) (t := 43) ?hr ?_; (case hd => rfl); (case hg => rfl); (case hr => first | (go_simp; done) | (go_simp; rfl))
                          intro gb129 hg w59 hbox hb
                          replace HO_124002 := Aside0.mk (Kd.R_below (Kd.R_elderB (by (with_reducible repeat (first | apply Kd.R_alloc | apply Kd.R_drewN | apply Kd.R_drew)); exact HO_124002.out) gb129 (Nat.le_of_eq hg.symm)) hb)
                          have BK129 := Aside0.mk (hbox)
                          have GW129 := Aside0.mk ((by rw [hg]; exact (below_size (hq_ HB)) : w.heap.size ≤ gb129))
                          have GE129 := Aside0.mk ((by rw [hg]; exact (below_size (hq_ HB)) : w.heap.size ≤ gb129))
                          replace HB := hb_ HB hb
                          have NB120_129 := Aside0.mk ((by rw [hg]; exact Nat.ne_of_lt (blk_lt (g := gb120) (o := .cells #[.int .i64 0, .int .i64 0, .slice none 0 0] 27 (0, 0)) (bq_ BK120)) : gb120 ≠ gb129))
                          have NB129_120 := Aside0.mk ((by rw [hg]; exact Nat.ne_of_gt (blk_lt (g := gb120) (o := .cells #[.int .i64 0, .int .i64 0, .slice none 0 0] 27 (0, 0)) (bq_ BK120)) : gb129 ≠ gb120))
                          replace BK120 := bb_ BK120 hb
                          have NB123_129 := Aside0.mk ((by rw [hg]; exact Nat.ne_of_lt (blk_lt (g := gb123) (o := .cells #[.int .i64 a1, .int .i64 a2, u124002] 27 (0, 0)) (bq_ BK123)) : gb123 ≠ gb129))
                          have NB129_123 := Aside0.mk ((by rw [hg]; exact Nat.ne_of_gt (blk_lt (g := gb123) (o := .cells #[.int .i64 a1, .int .i64 a2, u124002] 27 (0, 0)) (bq_ BK123)) : gb129 ≠ gb123))
                          replace BK123 := bb_ BK123 hb
                          clear hb hbox hg
                          refine hK.out _ _ ⟨((HB.out.cell (World.block_lt_of_cell? w _ hw125_0)).trans hw125_0), ((HB.out.cell (World.block_lt_of_cell? w _ hw126_0)).trans hw126_0), ((HB.out.cell (World.block_lt_of_cell? w _ hw127_0)).trans hw127_0), ((HB.out.cell (World.block_lt_of_cell? w _ hw128_0)).trans hw128_0)⟩ (fun hHeld => ?_)
                          clear hK K
                          refine norm_ (a' := ?_) ?_ ?_
                          rotate_left
                          ·
                           show Act.put _ (some 16) _ = _
                           simp only [Act.put, List.setIfInBounds_toArray, List.set_cons_zero, List.set_cons_succ, i64_w, i32_w]
                           rfl
                          refine one_ (i := 14) (N := none) zq14.q15 rfl rfl (one_of HT_.out (by kernel_rfl)) (by decide) (fun K hK => ?_)
                          have hs60 : w59.cell? ⟨gb129, 0, none⟩ = some (.int .u8 0) := (blk_cell BK129.out 0).trans rfl
                          have hfs60 := blk_frozen BK129.out 0
                          have hns60_0 := NB120_129.out
                          have hns60_1 := NB123_129.out
                          have hms60_0 := NB129_120.out
                          have hms60_1 := NB129_123.out
                          have hs61 : w59.cell? ⟨gb129, 1, none⟩ = some (.int .u8 0) := (blk_cell BK129.out 1).trans rfl
                          have hfs61 := blk_frozen BK129.out 1
                          have hns61_0 := NB120_129.out
                          have hns61_1 := NB123_129.out
                          have hms61_0 := NB129_120.out
                          have hms61_1 := NB129_123.out
                          have hs62 : w59.cell? ⟨gb129, 2, none⟩ = some (.int .u8 0) := (blk_cell BK129.out 2).trans rfl
                          have hfs62 := blk_frozen BK129.out 2
                          have hns62_0 := NB120_129.out
                          have hns62_1 := NB123_129.out
                          have hms62_0 := NB129_120.out
                          have hms62_1 := NB129_123.out
                          have hs63 : w59.cell? ⟨gb129, 3, none⟩ = some (.int .u8 0) := (blk_cell BK129.out 3).trans rfl
                          have hfs63 := blk_frozen BK129.out 3
                          have hns63_0 := NB120_129.out
                          have hns63_1 := NB123_129.out
                          have hms63_0 := NB129_120.out
                          have hms63_1 := NB129_123.out
                          refine skip_ (w1 := ?_) (by rfl) rfl ?_ ?_
                          rotate_left
                          ·
                           go_simp
                           rfl
                          refine hK.out _ _ ⟨((cell_far (p := ⟨gb129, _, none⟩) (by first | exact Nat.ne_of_lt (Nat.lt_of_lt_of_le (by have := World.block_lt_of_cell? _ _ hw125_0; first | rwa [add_block] at this | exact this) GW129.out) | (rw [add_block]; exact Nat.ne_of_lt (Nat.lt_of_lt_of_le (by have := World.block_lt_of_cell? _ _ hw125_0; first | rwa [add_block] at this | exact this) GW129.out)) | (show (Addr.add _ _).block ≠ _; rw [add_block]; exact Nat.ne_of_lt (Nat.lt_of_lt_of_le (by have := World.block_lt_of_cell? _ _ hw125_0; first | rwa [add_block] at this | exact this) GW129.out)) | (dsimp only; exact Nat.ne_of_lt (Nat.lt_of_lt_of_le (by have := World.block_lt_of_cell? _ _ hw125_0; first | rwa [add_block] at this | exact this) GW129.out))) _).trans (((cell_far (p := ⟨gb129, _, none⟩) (by first | exact Nat.ne_of_lt (Nat.lt_of_lt_of_le (by have := World.block_lt_of_cell? _ _ hw125_0; first | rwa [add_block] at this | exact this) GW129.out) | (rw [add_block]; exact Nat.ne_of_lt (Nat.lt_of_lt_of_le (by have := World.block_lt_of_cell? _ _ hw125_0; first | rwa [add_block] at this | exact this) GW129.out)) | (show (Addr.add _ _).block ≠ _; rw [add_block]; exact Nat.ne_of_lt (Nat.lt_of_lt_of_le (by have := World.block_lt_of_cell? _ _ hw125_0; first | rwa [add_block] at this | exact this) GW129.out)) | (dsimp only; exact Nat.ne_of_lt (Nat.lt_of_lt_of_le (by have := World.block_lt_of_cell? _ _ hw125_0; first | rwa [add_block] at this | exact this) GW129.out))) _).trans (((cell_far (p := ⟨gb129, _, none⟩) (by first | exact Nat.ne_of_lt (Nat.lt_of_lt_of_le (by have := World.block_lt_of_cell? _ _ hw125_0; first | rwa [add_block] at this | exact this) GW129.out) | (rw [add_block]; exact Nat.ne_of_lt (Nat.lt_of_lt_of_le (by have := World.block_lt_of_cell? _ _ hw125_0; first | rwa [add_block] at this | exact this) GW129.out)) | (show (Addr.add _ _).block ≠ _; rw [add_block]; exact Nat.ne_of_lt (Nat.lt_of_lt_of_le (by have := World.block_lt_of_cell? _ _ hw125_0; first | rwa [add_block] at this | exact this) GW129.out)) | (dsimp only; exact Nat.ne_of_lt (Nat.lt_of_lt_of_le (by have := World.block_lt_of_cell? _ _ hw125_0; first | rwa [add_block] at this | exact this) GW129.out))) _).trans (((cell_far (p := ⟨gb129, _, none⟩) (by first | exact Nat.ne_of_lt (Nat.lt_of_lt_of_le (by have := World.block_lt_of_cell? _ _ hw125_0; first | rwa [add_block] at this | exact this) GW129.out) | (rw [add_block]; exact Nat.ne_of_lt (Nat.lt_of_lt_of_le (by have := World.block_lt_of_cell? _ _ hw125_0; first | rwa [add_block] at this | exact this) GW129.out)) | (show (Addr.add _ _).block ≠ _; rw [add_block]; exact Nat.ne_of_lt (Nat.lt_of_lt_of_le (by have := World.block_lt_of_cell? _ _ hw125_0; first | rwa [add_block] at this | exact this) GW129.out)) | (dsimp only; exact Nat.ne_of_lt (Nat.lt_of_lt_of_le (by have := World.block_lt_of_cell? _ _ hw125_0; first | rwa [add_block] at this | exact this) GW129.out))) _).trans (hHeld.1)))))))), ((cell_far (p := ⟨gb129, _, none⟩) (by first | exact Nat.ne_of_lt (Nat.lt_of_lt_of_le (by have := World.block_lt_of_cell? _ _ hw126_0; first | rwa [add_block] at this | exact this) GW129.out) | (rw [add_block]; exact Nat.ne_of_lt (Nat.lt_of_lt_of_le (by have := World.block_lt_of_cell? _ _ hw126_0; first | rwa [add_block] at this | exact this) GW129.out)) | (show (Addr.add _ _).block ≠ _; rw [add_block]; exact Nat.ne_of_lt (Nat.lt_of_lt_of_le (by have := World.block_lt_of_cell? _ _ hw126_0; first | rwa [add_block] at this | exact this) GW129.out)) | (dsimp only; exact Nat.ne_of_lt (Nat.lt_of_lt_of_le (by have := World.block_lt_of_cell? _ _ hw126_0; first | rwa [add_block] at this | exact this) GW129.out))) _).trans (((cell_far (p := ⟨gb129, _, none⟩) (by first | exact Nat.ne_of_lt (Nat.lt_of_lt_of_le (by have := World.block_lt_of_cell? _ _ hw126_0; first | rwa [add_block] at this | exact this) GW129.out) | (rw [add_block]; exact Nat.ne_of_lt (Nat.lt_of_lt_of_le (by have := World.block_lt_of_cell? _ _ hw126_0; first | rwa [add_block] at this | exact this) GW129.out)) | (show (Addr.add _ _).block ≠ _; rw [add_block]; exact Nat.ne_of_lt (Nat.lt_of_lt_of_le (by have := World.block_lt_of_cell? _ _ hw126_0; first | rwa [add_block] at this | exact this) GW129.out)) | (dsimp only; exact Nat.ne_of_lt (Nat.lt_of_lt_of_le (by have := World.block_lt_of_cell? _ _ hw126_0; first | rwa [add_block] at this | exact this) GW129.out))) _).trans (((cell_far (p := ⟨gb129, _, none⟩) (by first | exact Nat.ne_of_lt (Nat.lt_of_lt_of_le (by have := World.block_lt_of_cell? _ _ hw126_0; first | rwa [add_block] at this | exact this) GW129.out) | (rw [add_block]; exact Nat.ne_of_lt (Nat.lt_of_lt_of_le (by have := World.block_lt_of_cell? _ _ hw126_0; first | rwa [add_block] at this | exact this) GW129.out)) | (show (Addr.add _ _).block ≠ _; rw [add_block]; exact Nat.ne_of_lt (Nat.lt_of_lt_of_le (by have := World.block_lt_of_cell? _ _ hw126_0; first | rwa [add_block] at this | exact this) GW129.out)) | (dsimp only; exact Nat.ne_of_lt (Nat.lt_of_lt_of_le (by have := World.block_lt_of_cell? _ _ hw126_0; first | rwa [add_block] at this | exact this) GW129.out))) _).trans (((cell_far (p := ⟨gb129, _, none⟩) (by first | exact Nat.ne_of_lt (Nat.lt_of_lt_of_le (by have := World.block_lt_of_cell? _ _ hw126_0; first | rwa [add_block] at this | exact this) GW129.out) | (rw [add_block]; exact Nat.ne_of_lt (Nat.lt_of_lt_of_le (by have := World.block_lt_of_cell? _ _ hw126_0; first | rwa [add_block] at this | exact this) GW129.out)) | (show (Addr.add _ _).block ≠ _; rw [add_block]; exact Nat.ne_of_lt (Nat.lt_of_lt_of_le (by have := World.block_lt_of_cell? _ _ hw126_0; first | rwa [add_block] at this | exact this) GW129.out)) | (dsimp only; exact Nat.ne_of_lt (Nat.lt_of_lt_of_le (by have := World.block_lt_of_cell? _ _ hw126_0; first | rwa [add_block] at this | exact this) GW129.out))) _).trans (hHeld.2.1)))))))), ((cell_far (p := ⟨gb129, _, none⟩) (by first | exact Nat.ne_of_lt (Nat.lt_of_lt_of_le (by have := World.block_lt_of_cell? _ _ hw127_0; first | rwa [add_block] at this | exact this) GW129.out) | (rw [add_block]; exact Nat.ne_of_lt (Nat.lt_of_lt_of_le (by have := World.block_lt_of_cell? _ _ hw127_0; first | rwa [add_block] at this | exact this) GW129.out)) | (show (Addr.add _ _).block ≠ _; rw [add_block]; exact Nat.ne_of_lt (Nat.lt_of_lt_of_le (by have := World.block_lt_of_cell? _ _ hw127_0; first | rwa [add_block] at this | exact this) GW129.out)) | (dsimp only; exact Nat.ne_of_lt (Nat.lt_of_lt_of_le (by have := World.block_lt_of_cell? _ _ hw127_0; first | rwa [add_block] at this | exact this) GW129.out))) _).trans (((cell_far (p := ⟨gb129, _, none⟩) (by first | exact Nat.ne_of_lt (Nat.lt_of_lt_of_le (by have := World.block_lt_of_cell? _ _ hw127_0; first | rwa [add_block] at this | exact this) GW129.out) | (rw [add_block]; exact Nat.ne_of_lt (Nat.lt_of_lt_of_le (by have := World.block_lt_of_cell? _ _ hw127_0; first | rwa [add_block] at this | exact this) GW129.out)) | (show (Addr.add _ _).block ≠ _; rw [add_block]; exact Nat.ne_of_lt (Nat.lt_of_lt_of_le (by have := World.block_lt_of_cell? _ _ hw127_0; first | rwa [add_block] at this | exact this) GW129.out)) | (dsimp only; exact Nat.ne_of_lt (Nat.lt_of_lt_of_le (by have := World.block_lt_of_cell? _ _ hw127_0; first | rwa [add_block] at this | exact this) GW129.out))) _).trans (((cell_far (p := ⟨gb129, _, none⟩) (by first | exact Nat.ne_of_lt (Nat.lt_of_lt_of_le (by have := World.block_lt_of_cell? _ _ hw127_0; first | rwa [add_block] at this | exact this) GW129.out) | (rw [add_block]; exact Nat.ne_of_lt (Nat.lt_of_lt_of_le (by have := World.block_lt_of_cell? _ _ hw127_0; first | rwa [add_block] at this | exact this) GW129.out)) | (show (Addr.add _ _).block ≠ _; rw [add_block]; exact Nat.ne_of_lt (Nat.lt_of_lt_of_le (by have := World.block_lt_of_cell? _ _ hw127_0; first | rwa [add_block] at this | exact this) GW129.out)) | (dsimp only; exact Nat.ne_of_lt (Nat.lt_of_lt_of_le (by have := World.block_lt_of_cell? _ _ hw127_0; first | rwa [add_block] at this | exact this) GW129.out))) _).trans (((cell_far (p := ⟨gb129, _, none⟩) (by first | exact Nat.ne_of_lt (Nat.lt_of_lt_of_le (by have := World.block_lt_of_cell? _ _ hw127_0; first | rwa [add_block] at this | exact this) GW129.out) | (rw [add_block]; exact Nat.ne_of_lt (Nat.lt_of_lt_of_le (by have := World.block_lt_of_cell? _ _ hw127_0; first | rwa [add_block] at this | exact this) GW129.out)) | (show (Addr.add _ _).block ≠ _; rw [add_block]; exact Nat.ne_of_lt (Nat.lt_of_lt_of_le (by have := World.block_lt_of_cell? _ _ hw127_0; first | rwa [add_block] at this | exact this) GW129.out)) | (dsimp only; exact Nat.ne_of_lt (Nat.lt_of_lt_of_le (by have := World.block_lt_of_cell? _ _ hw127_0; first | rwa [add_block] at this | exact this) GW129.out))) _).trans (hHeld.2.2.1)))))))), ((cell_far (p := ⟨gb129, _, none⟩) (by first | exact Nat.ne_of_lt (Nat.lt_of_lt_of_le (by have := World.block_lt_of_cell? _ _ hw128_0; first | rwa [add_block] at this | exact this) GW129.out) | (rw [add_block]; exact Nat.ne_of_lt (Nat.lt_of_lt_of_le (by have := World.block_lt_of_cell? _ _ hw128_0; first | rwa [add_block] at this | exact this) GW129.out)) | (show (Addr.add _ _).block ≠ _; rw [add_block]; exact Nat.ne_of_lt (Nat.lt_of_lt_of_le (by have := World.block_lt_of_cell? _ _ hw128_0; first | rwa [add_block] at this | exact this) GW129.out)) | (dsimp only; exact Nat.ne_of_lt (Nat.lt_of_lt_of_le (by have := World.block_lt_of_cell? _ _ hw128_0; first | rwa [add_block] at this | exact this) GW129.out))) _).trans (((cell_far (p := ⟨gb129, _, none⟩) (by first | exact Nat.ne_of_lt (Nat.lt_of_lt_of_le (by have := World.block_lt_of_cell? _ _ hw128_0; first | rwa [add_block] at this | exact this) GW129.out) | (rw [add_block]; exact Nat.ne_of_lt (Nat.lt_of_lt_of_le (by have := World.block_lt_of_cell? _ _ hw128_0; first | rwa [add_block] at this | exact this) GW129.out)) | (show (Addr.add _ _).block ≠ _; rw [add_block]; exact Nat.ne_of_lt (Nat.lt_of_lt_of_le (by have := World.block_lt_of_cell? _ _ hw128_0; first | rwa [add_block] at this | exact this) GW129.out)) | (dsimp only; exact Nat.ne_of_lt (Nat.lt_of_lt_of_le (by have := World.block_lt_of_cell? _ _ hw128_0; first | rwa [add_block] at this | exact this) GW129.out))) _).trans (((cell_far (p := ⟨gb129, _, none⟩) (by first | exact Nat.ne_of_lt (Nat.lt_of_lt_of_le (by have := World.block_lt_of_cell? _ _ hw128_0; first | rwa [add_block] at this | exact this) GW129.out) | (rw [add_block]; exact Nat.ne_of_lt (Nat.lt_of_lt_of_le (by have := World.block_lt_of_cell? _ _ hw128_0; first | rwa [add_block] at this | exact this) GW129.out)) | (show (Addr.add _ _).block ≠ _; rw [add_block]; exact Nat.ne_of_lt (Nat.lt_of_lt_of_le (by have := World.block_lt_of_cell? _ _ hw128_0; first | rwa [add_block] at this | exact this) GW129.out)) | (dsimp only; exact Nat.ne_of_lt (Nat.lt_of_lt_of_le (by have := World.block_lt_of_cell? _ _ hw128_0; first | rwa [add_block] at this | exact this) GW129.out))) _).trans (((cell_far (p := ⟨gb129, _, none⟩) (by first | exact Nat.ne_of_lt (Nat.lt_of_lt_of_le (by have := World.block_lt_of_cell? _ _ hw128_0; first | rwa [add_block] at this | exact this) GW129.out) | (rw [add_block]; exact Nat.ne_of_lt (Nat.lt_of_lt_of_le (by have := World.block_lt_of_cell? _ _ hw128_0; first | rwa [add_block] at this | exact this) GW129.out)) | (show (Addr.add _ _).block ≠ _; rw [add_block]; exact Nat.ne_of_lt (Nat.lt_of_lt_of_le (by have := World.block_lt_of_cell? _ _ hw128_0; first | rwa [add_block] at this | exact this) GW129.out)) | (dsimp only; exact Nat.ne_of_lt (Nat.lt_of_lt_of_le (by have := World.block_lt_of_cell? _ _ hw128_0; first | rwa [add_block] at this | exact this) GW129.out))) _).trans (hHeld.2.2.2))))))))⟩ (fun hHeld => ?_)
                          clear hK K
                          refine done_ (done_of HT_.out (by kernel_rfl)) ?_
                          try go_wp2
                          have n0_ : Aside0 (Kd.R k43 43 ((((w59.setCell ⟨gb129, 0, none⟩ (.int .u8 (rd (l4.drop ((ji29) : Int).toNat) 2))).setCell ⟨gb129, 1, none⟩ (.int .u8 (rd (l4.drop ((ji29) : Int).toNat) 1))).setCell ⟨gb129, 2, none⟩ (.int .u8 (rd (l4.drop ((ji29) : Int).toNat) 0))).setCell ⟨gb129, 3, none⟩ (.int .u8 (rd (l4.drop ((ji29) : Int).toNat) 3))) w.heap.size (fun k_ => k_ ≠ gb129) u124002 x124002_5) := ⟨by (with_reducible repeat (first | apply Kd.R_alloc | apply Kd.R_drewN | apply Kd.R_drew)); exact Kd.R_mono (Kd.R_far (p := ⟨gb129, 3, none⟩) (Kd.R_far (p := ⟨gb129, 2, none⟩) (Kd.R_far (p := ⟨gb129, 1, none⟩) (Kd.R_far (p := ⟨gb129, 0, none⟩) (Kd.R_mono HO_124002.out (fun k_ hk => (⟨hk, hk.2⟩ : _ ∧ k_ ≠ gb129))) (fun _ hk => hk.2) (.int .u8 (rd (l4.drop ((ji29) : Int).toNat) 2))) (fun _ hk => hk.2) (.int .u8 (rd (l4.drop ((ji29) : Int).toNat) 1))) (fun _ hk => hk.2) (.int .u8 (rd (l4.drop ((ji29) : Int).toNat) 0))) (fun _ hk => hk.2) (.int .u8 (rd (l4.drop ((ji29) : Int).toNat) 3))) (fun _ hk => hk.1.2)⟩
                          have n1_ : Aside0 (((((w59.setCell ⟨gb129, 0, none⟩ (.int .u8 (rd (l4.drop ((ji29) : Int).toNat) 2))).setCell ⟨gb129, 1, none⟩ (.int .u8 (rd (l4.drop ((ji29) : Int).toNat) 1))).setCell ⟨gb129, 2, none⟩ (.int .u8 (rd (l4.drop ((ji29) : Int).toNat) 0))).setCell ⟨gb129, 3, none⟩ (.int .u8 (rd (l4.drop ((ji29) : Int).toNat) 3))).heap[gb120]? = some (.cells #[.int .i64 0, .int .i64 0, .slice none 0 0] 27 (0, 0))) := bf_ BK120
                          have n2_ : Aside0 (((((w59.setCell ⟨gb129, 0, none⟩ (.int .u8 (rd (l4.drop ((ji29) : Int).toNat) 2))).setCell ⟨gb129, 1, none⟩ (.int .u8 (rd (l4.drop ((ji29) : Int).toNat) 1))).setCell ⟨gb129, 2, none⟩ (.int .u8 (rd (l4.drop ((ji29) : Int).toNat) 0))).setCell ⟨gb129, 3, none⟩ (.int .u8 (rd (l4.drop ((ji29) : Int).toNat) 3))).heap[gb123]? = some (.cells #[.int .i64 a1, .int .i64 a2, u124002] 27 (0, 0))) := bf_ BK123
                          have n3_ : Aside0 (((((w59.setCell ⟨gb129, 0, none⟩ (.int .u8 (rd (l4.drop ((ji29) : Int).toNat) 2))).setCell ⟨gb129, 1, none⟩ (.int .u8 (rd (l4.drop ((ji29) : Int).toNat) 1))).setCell ⟨gb129, 2, none⟩ (.int .u8 (rd (l4.drop ((ji29) : Int).toNat) 0))).setCell ⟨gb129, 3, none⟩ (.int .u8 (rd (l4.drop ((ji29) : Int).toNat) 3))).heap[gb129]? = some (.cells #[.int .u8 (rd (l4.drop ((ji29) : Int).toNat) 2), .int .u8 (rd (l4.drop ((ji29) : Int).toNat) 1), .int .u8 (rd (l4.drop ((ji29) : Int).toNat) 0), .int .u8 (rd (l4.drop ((ji29) : Int).toNat) 3)] 43 (0, 0))) := ⟨by (with_reducible repeat (first | refine blk_drewN ?_ _ | refine blk_drew ?_ | refine blk_alloc ?_ _)); refine blk_put (cs := #[.int .u8 (rd (l4.drop ((ji29) : Int).toNat) 2), .int .u8 (rd (l4.drop ((ji29) : Int).toNat) 1), .int .u8 (rd (l4.drop ((ji29) : Int).toNat) 0), .int .u8 0]) ?_ 3 _ rfl; (with_reducible repeat (first | refine blk_drewN ?_ _ | refine blk_drew ?_ | refine blk_alloc ?_ _)); refine blk_put (cs := #[.int .u8 (rd (l4.drop ((ji29) : Int).toNat) 2), .int .u8 (rd (l4.drop ((ji29) : Int).toNat) 1), .int .u8 0, .int .u8 0]) ?_ 2 _ rfl; (with_reducible repeat (first | refine blk_drewN ?_ _ | refine blk_drew ?_ | refine blk_alloc ?_ _)); refine blk_put (cs := #[.int .u8 (rd (l4.drop ((ji29) : Int).toNat) 2), .int .u8 0, .int .u8 0, .int .u8 0]) ?_ 1 _ rfl; (with_reducible repeat (first | refine blk_drewN ?_ _ | refine blk_drew ?_ | refine blk_alloc ?_ _)); refine blk_put (cs := #[.int .u8 0, .int .u8 0, .int .u8 0, .int .u8 0]) ?_ 0 _ rfl; (with_reducible repeat (first | refine blk_drewN ?_ _ | refine blk_drew ?_ | refine blk_alloc ?_ _)); exact BK129.out⟩
                          have n4_ : Aside0 (Below w.heap.size w ((((w59.setCell ⟨gb129, 0, none⟩ (.int .u8 (rd (l4.drop ((ji29) : Int).toNat) 2))).setCell ⟨gb129, 1, none⟩ (.int .u8 (rd (l4.drop ((ji29) : Int).toNat) 1))).setCell ⟨gb129, 2, none⟩ (.int .u8 (rd (l4.drop ((ji29) : Int).toNat) 0))).setCell ⟨gb129, 3, none⟩ (.int .u8 (rd (l4.drop ((ji29) : Int).toNat) 3)))) := ⟨by repeat (first | (with_reducible first | exact HB.out | apply below_alloc | apply pw_below_drewN | apply below_drew1 | refine below_set ?_ GE120.out | refine below_set ?_ GE123.out | refine below_set ?_ GE129.out) | exact HB.out)⟩
                          (try clear HO_124002)
                          (try clear BK120)
                          (try clear BK123)
                          (try clear BK129)
                          (try clear HB)
                          generalize ((((w59.setCell ⟨gb129, 0, none⟩ (.int .u8 (rd (l4.drop ((ji29) : Int).toNat) 2))).setCell ⟨gb129, 1, none⟩ (.int .u8 (rd (l4.drop ((ji29) : Int).toNat) 1))).setCell ⟨gb129, 2, none⟩ (.int .u8 (rd (l4.drop ((ji29) : Int).toNat) 0))).setCell ⟨gb129, 3, none⟩ (.int .u8 (rd (l4.drop ((ji29) : Int).toNat) 3))) = w64 at n0_ n1_ n2_ n3_ n4_ ⊢
                          have HO_124002 := n0_
                          have BK120 := n1_
                          have BK123 := n2_
                          have BK129 := n3_
                          have HB := n4_
                          clear n0_ n1_ n2_ n3_ n4_
                          replace HO_124002 := Aside0.mk (Kd.R_drew HO_124002.out)
                          replace BK120 := Aside0.mk (blk_drew BK120.out)
                          replace BK123 := Aside0.mk (blk_drew BK123.out)
                          replace BK129 := Aside0.mk (blk_drew BK129.out)
                          replace HB := Aside0.mk (below_drew1 HB.out)
                          refine start_ (n := 8) (S := fun w' => w'.cell? ⟨gb123, 0, none⟩ = some (.int .i64 a1) ∧ w'.cell? ⟨gb123, 1, none⟩ = some (.int .i64 a2) ∧ w'.cell? ⟨gb123, 2, none⟩ = some (u124002) ∧ w'.cell? ⟨gb129, 0, none⟩ = some (.int .u8 (rd (l4.drop ((ji29) : Int).toNat) 2)) ∧ w'.cell? ⟨gb129, 1, none⟩ = some (.int .u8 (rd (l4.drop ((ji29) : Int).toNat) 1)) ∧ w'.cell? ⟨gb129, 2, none⟩ = some (.int .u8 (rd (l4.drop ((ji29) : Int).toNat) 0)) ∧ w'.cell? ⟨gb129, 3, none⟩ = some (.int .u8 (rd (l4.drop ((ji29) : Int).toNat) 3))) (ds := [7]) zq14.q16 (by kernel_rfl) rfl rfl ⟨c_ BK123 0, ⟨c_ BK123 1, ⟨c_ BK123 2, (h4_ BK129)⟩⟩⟩ (fun hHeld => ?_); refine with_tabW buffer_Decode.tab20 buffer_Decode.bits20 (fun HT_ HW_ => ?_)
                          generalize w64.drew = w65 at HO_124002 BK120 BK123 BK129 HB hHeld ⊢
                          refine pv_ 0 89 zq14.q17 HT_ ?_
                          refine take_ (i := 1) (N := some 90) (v := ?_) (a' := ?_) zq14.q18 rfl rfl (take_ofW HT_.out HW_.out (by kernel_rfl)) (fun _ _ _ h => h) (Or.inl ⟨by rfl, ?_⟩) hHeld ?_ ?_
                          rotate_left
                          ·
                           rintro w' ⟨s0, s1, s2, s3, s4, s5, s6⟩
                           go_simp
                           with_reducible rfl
                          rotate_left
                          ·
                           simp only [Act.put, List.setIfInBounds_toArray, List.set_cons_zero, List.set_cons_succ, i64_w, i32_w]
                           rfl
                          refine take_ (i := 2) (N := some 91) (v := ?_) (a' := ?_) zq14.q19 rfl rfl (take_ofW HT_.out HW_.out (by kernel_rfl)) (fun _ _ _ h => h) (Or.inl ⟨by rfl, ?_⟩) hHeld ?_ ?_
                          rotate_left
                          ·
                           rintro w' ⟨s0, s1, s2, s3, s4, s5, s6⟩
                           go_simp
                           with_reducible rfl
                          rotate_left
                          ·
                           simp only [Act.put, List.setIfInBounds_toArray, List.set_cons_zero, List.set_cons_succ, i64_w, i32_w]
                           rfl
                          refine one_ (i := 3) (N := some 92) zq14.q20 rfl rfl (one_of HT_.out (by kernel_rfl)) (by decide) (fun K hK => ?_)
                          refine goes_ Try.func40 (by kernel_rfl) rfl #[.agg #[.int .u8 (rd (l4.drop ((ji29) : Int).toNat) 2), .int .u8 (rd (l4.drop ((ji29) : Int).toNat) 1), .int .u8 (rd (l4.drop ((ji29) : Int).toNat) 0), .int .u8 (rd (l4.drop ((ji29) : Int).toNat) 3)]] (by rfl) rfl rfl (by (try simp only [List.map_toArray, List.map_cons, List.map_nil]); first | done | (simp only [hji29]; rfl) | rfl | (simp only [List.length_drop, List.length_take]; rfl)) ?_
                          with_reducible refine (pixel_Clamp.calls (rd (l4.drop ((ji29) : Int).toNat) 2) (rd (l4.drop ((ji29) : Int).toNat) 1) (rd (l4.drop ((ji29) : Int).toNat) 0) (rd (l4.drop ((ji29) : Int).toNat) 3) t137 t138 t139 t140 _ A55.out).mono ?_
                          rintro e w66 ⟨rfl, hb⟩
                          refine ⟨_, rfl, ?_⟩
                          replace HO_124002 := Aside0.mk (Kd.R_below (by (with_reducible repeat (first | apply Kd.R_alloc | apply Kd.R_drewN | apply Kd.R_drew)); exact HO_124002.out) hb)
                          replace BK120 := bb_ BK120 hb
                          replace BK123 := bb_ BK123 hb
                          replace BK129 := Aside0.mk (blk_below (g := gb129) (o := .cells #[.int .u8 (rd (l4.drop ((ji29) : Int).toNat) 2), .int .u8 (rd (l4.drop ((ji29) : Int).toNat) 1), .int .u8 (rd (l4.drop ((ji29) : Int).toNat) 0), .int .u8 (rd (l4.drop ((ji29) : Int).toNat) 3)] 43 (0, 0)) (bq_ BK129) hb)
                          replace HB := hb_ HB hb
                          (try clear hb); (try clear hb2); (try clear hk); (try clear hi)
                          refine hK.out _ _ ⟨c_ BK123 0, ⟨c_ BK123 1, ⟨c_ BK123 2, (h4_ BK129)⟩⟩⟩ (fun hHeld => ?_)
                          clear hK K
                          refine norm_ (a' := ?_) ?_ ?_
                          rotate_left
                          ·
                           show Act.put _ (some 92) _ = _
                           simp only [Act.put, List.setIfInBounds_toArray, List.set_cons_zero, List.set_cons_succ, i64_w, i32_w]
                           rfl
                          refine one_ (i := 4) (N := some 93) zq14.q21 rfl rfl (one_of HT_.out (by kernel_rfl)) (by decide) (fun K hK => ?_)
                          refine value_ (w1 := ?_) (v := ?_) (by rfl) rfl ?_ ?_
                          rotate_left 2
                          ·
                           go_simp
                           constructor
                           ·
                            rfl
                           ·
                            rfl
                          refine hK.out _ _ ⟨(blk_cell (blk_alloc BK123.out _) 0).trans rfl, (blk_cell (blk_alloc BK123.out _) 1).trans rfl, (blk_cell (blk_alloc BK123.out _) 2).trans rfl, (blk_cell (blk_alloc BK129.out _) 0).trans rfl, (blk_cell (blk_alloc BK129.out _) 1).trans rfl, (blk_cell (blk_alloc BK129.out _) 2).trans rfl, (blk_cell (blk_alloc BK129.out _) 3).trans rfl⟩ (fun hHeld => ?_)
                          clear hK K
                          refine norm_ (a' := ?_) ?_ ?_
                          rotate_left
                          ·
                           show Act.put _ (some 93) _ = _
                           simp only [Act.put, List.setIfInBounds_toArray, List.set_cons_zero, List.set_cons_succ, i64_w, i32_w]
                           rfl
                          refine one_ (i := 5) (N := some 94) zq14.q22 rfl rfl (one_of HT_.out (by kernel_rfl)) (by decide) (fun K hK => ?_)
                          refine Kd.R_append_step k43 (w0 := w) w.heap.size (by rfl) (.tmp 90) (.tmp 93) 25 43 (.agg #[(.int .u8 0), (.int .u8 0), (.int .u8 0), (.int .u8 0)]) 4 rfl Try.underlying25 info43 rfl (by decide) (by omega) u124002 x124002_5 (⟨t137, t138, t139, t140⟩ : S43) [.int .u8 t137, .int .u8 t138, .int .u8 t139, .int .u8 t140] (fun k_ => k_ ≠ gb129) (fun _ => False) rfl rfl ?aP (fun _ hk => hk.elim) ?aF ?aO ?aB ?aS ?aL ?_
                          (case aP => exact k43_mkM _ _ _ (⟨t137, t138, t139, t140⟩ : S43))
                          (case aB => exact (hq_ HB))
                          (case aF => exact (fun k_ hk => Kd.freshB (g := gb129) (o := .cells #[.int .u8 (rd (l4.drop ((ji29) : Int).toNat) 2), .int .u8 (rd (l4.drop ((ji29) : Int).toNat) 1), .int .u8 (rd (l4.drop ((ji29) : Int).toNat) 0), .int .u8 (rd (l4.drop ((ji29) : Int).toNat) 3)] 43 (0, 0)) (bq_ BK129) k_ hk))
                          (case aO => exact (by (with_reducible repeat (first | apply Kd.R_alloc | apply Kd.R_drewN | apply Kd.R_drew)); exact HO_124002.out))
                          (case aS => exact (below_size (hq_ HB)))
                          (case aL => have := LMc56.out; omega)
                          intro v142 w67 ho hb hg hat
                          rw [← Ny141.out] at ho
                          replace BK120 := Aside0.mk (blk_grown (g := gb120) (o := .cells #[.int .i64 0, .int .i64 0, .slice none 0 0] 27 (0, 0)) (bq_ BK120) hg (Kd.R_ne HO_124002.out BK120.out (by decide)))
                          replace BK123 := Aside0.mk (blk_grown (g := gb123) (o := .cells #[.int .i64 a1, .int .i64 a2, u124002] 27 (0, 0)) (bq_ BK123) hg (Kd.R_ne HO_124002.out BK123.out (by decide)))
                          replace BK129 := Aside0.mk (blk_grown (g := gb129) (o := .cells #[.int .u8 (rd (l4.drop ((ji29) : Int).toNat) 2), .int .u8 (rd (l4.drop ((ji29) : Int).toNat) 1), .int .u8 (rd (l4.drop ((ji29) : Int).toNat) 0), .int .u8 (rd (l4.drop ((ji29) : Int).toNat) 3)] 43 (0, 0)) (bq_ BK129) hg (Kd.R_away HO_124002.out (fun _ hk => hk)))
                          replace HB := Aside0.mk (hb)
                          have HO143 := Aside0.mk (ho)
                          clear HO_124002
                          clear ho hb hg hat
                          obtain ⟨Ao68, co68, eo68⟩ := Kd.R_slice HO143.out
                          (first | subst eo68 | (injection eo68 with f1_ f2_ f3_; have f4_ := f1_.symm; have f5_ := f3_.symm; clear f1_ f2_ f3_; subst f4_; subst f5_))
                          refine hK.out _ _ ⟨c_ BK123 0, ⟨c_ BK123 1, ⟨c_ BK123 2, (h4_ BK129)⟩⟩⟩ (fun hHeld => ?_)
                          clear hK K
                          refine norm_ (a' := ?_) ?_ ?_
                          rotate_left
                          ·
                           show Act.put _ (some 94) _ = _
                           simp only [Act.put, List.setIfInBounds_toArray, List.set_cons_zero, List.set_cons_succ, i64_w, i32_w]
                           rfl
                          refine pv_ 6 95 zq14.q23 HT_ ?_
                          refine last_ (i := 7) (N := none) zq14.q24 rfl rfl (one_of HT_.out (by kernel_rfl)) (by decide) (fun K hK => ?_)
                          have hs69 : w67.cell? ⟨gb123, 2, none⟩ = some (u124002) := (blk_cell BK123.out 2).trans rfl
                          have hfs69 := blk_frozen BK123.out 2
                          have hns69_0 := NB120_123.out
                          have hns69_2 := NB129_123.out
                          have hms69_0 := NB123_120.out
                          have hms69_2 := NB123_129.out
                          refine skip_ (w1 := ?_) (by rfl) rfl ?_ ?_
                          rotate_left
                          ·
                           go_simp
                           rfl
                          refine hK.out _ _ ?_
                          clear hK K
                          refine done_ (done_of HT_.out (by kernel_rfl)) ?_
                          try go_wp2
                          go_roundg k5
                          case measure => have := HJ5.out; have := HJ10.out; have := HJ16.out; have := HK4.out; have := HK5.out; omega
                          case rel => exact ⟨(wrap64 (x62_5 + 1)), (y141), (.slice Ao68 y141.length co68), (by first | rfl | (simp; done) | (simp [*]; done)), H', ⟨by have := HJ5.out; have := HJ10.out; have := HJ16.out; have := HK4.out; have := HK5.out; omega⟩, ⟨by (with_reducible repeat (first | apply Kd.R_alloc | apply Kd.R_drewN | apply Kd.R_drew)); exact Kd.R_mono (Kd.R_far (p := ⟨gb123, 2, none⟩) (Kd.R_types HO143.out BK123.out (by decide)) (fun _ hk => hk.2) (.slice Ao68 y141.length co68)) (fun _ hk => trivial)⟩, bf_ BK120, ⟨by (with_reducible repeat (first | refine blk_drewN ?_ _ | refine blk_drew ?_ | refine blk_alloc ?_ _)); refine blk_put (cs := #[.int .i64 a1, .int .i64 a2, u124002]) ?_ 2 _ rfl; (with_reducible repeat (first | refine blk_drewN ?_ _ | refine blk_drew ?_ | refine blk_alloc ?_ _)); exact BK123.out⟩, ⟨by repeat (first | (with_reducible first | exact HB.out | apply below_alloc | apply pw_below_drewN | apply below_drew1 | refine below_set ?_ GE120.out | refine below_set ?_ GE123.out | refine below_set ?_ GE129.out) | exact HB.out)⟩⟩
                         ·
                          rw [if_neg c56] at H
                          exact absurd H (by simp)
                       ·
                        rw [if_neg c35] at H
                        exact absurd H (by simp)
                      ·
                       rw [if_neg c34] at H
                       exact absurd H (by simp)
                     ·
                      rw [if_neg c33] at H
                      exact absurd H (by simp)
                    ·
                     rw [if_neg c32] at H
                     exact absurd H (by simp)
                   ·
                    rw [if_neg c31] at H
                    exact absurd H (by simp)
                  ·
                   rw [if_neg c30] at H
                   exact absurd H (by simp)
                 ·
                  rw [if_neg c28] at H
                  have c28b0 : decide (x62_5 < a1) = false := decide_eq_false c28
                  clear c28
                  have H' := Aside0.mk H
                  clear H
                  go_wp2
                  go_roundg k5
                  case measure => have := HJ5.out; have := HJ10.out; have := HJ16.out; have := HK4.out; have := HK5.out; omega
                  case rel => exact ⟨(wrap64 (x58_4 + 1)), (x124002_5), (u124002), (by first | rfl | (simp; done) | (simp [*]; done)), H', ⟨by have := HJ5.out; have := HJ10.out; have := HJ16.out; have := HK4.out; have := HK5.out; omega⟩, ⟨by (with_reducible repeat (first | apply Kd.R_alloc | apply Kd.R_drewN | apply Kd.R_drew)); exact HO_124002.out⟩, bf_ BK120, bf_ BK123, ⟨by repeat (first | (with_reducible first | exact HB.out | apply below_alloc | apply pw_below_drewN | apply below_drew1 | refine below_set ?_ GE120.out | refine below_set ?_ GE123.out) | exact HB.out)⟩⟩
              ·
               rw [if_neg c27] at H
               have c27b0 : decide (x58_4 < a2) = false := decide_eq_false c27
               clear c27
               simp only [Option.some.injEq, Prod.mk.injEq] at H
               obtain ⟨rfl, rfl, rfl, rfl⟩ := H
               have hnb70 := NB123_120.out
               have hnc70 := NB120_123.out
               have hcz71_0 : wr.cell? ⟨gb123, 0, none⟩ = some (.int .i64 a1) := (blk_cell BK123.out 0).trans rfl
               have hcz71_1 : wr.cell? ⟨gb123, 1, none⟩ = some (.int .i64 a2) := (blk_cell BK123.out 1).trans rfl
               have hcz71_2 : wr.cell? ⟨gb123, 2, none⟩ = some (u124002) := (blk_cell BK123.out 2).trans rfl
               have hfz71_0 := blk_frozen BK123.out 0
               have hfz71_1 := blk_frozen BK123.out 1
               have hfz71_2 := blk_frozen BK123.out 2
               have hcz72_0 : wr.cell? ⟨gb120, 0, none⟩ = some (.int .i64 0) := (blk_cell BK120.out 0).trans rfl
               have hcz72_1 : wr.cell? ⟨gb120, 1, none⟩ = some (.int .i64 0) := (blk_cell BK120.out 1).trans rfl
               have hcz72_2 : wr.cell? ⟨gb120, 2, none⟩ = some (.slice none 0 0) := (blk_cell BK120.out 2).trans rfl
               have hfz72_0 := blk_frozen BK120.out 0
               have hfz72_1 := blk_frozen BK120.out 1
               have hfz72_2 := blk_frozen BK120.out 2
               obtain ⟨Ao73, co73, eo73⟩ := Kd.R_slice HO_124002.out
               subst eo73
               go_wp2
               refine bodyPost_ret (results_ct rfl _ _ gb120 27 #[.int .i64 a1, .int .i64 a2, .slice Ao73 x124002_4.length co73] (0, 0) _ rfl (by (with_reducible repeat (first | refine blk_drewN ?_ _ | refine blk_drew ?_ | refine blk_alloc ?_ _)); refine blk_put (cs := #[.int .i64 a1, .int .i64 a2, .slice none 0 0]) ?_ 2 _ rfl; (with_reducible repeat (first | refine blk_drewN ?_ _ | refine blk_drew ?_ | refine blk_alloc ?_ _)); refine blk_put (cs := #[.int .i64 a1, .int .i64 0, .slice none 0 0]) ?_ 1 _ rfl; (with_reducible repeat (first | refine blk_drewN ?_ _ | refine blk_drew ?_ | refine blk_alloc ?_ _)); refine blk_put (cs := #[.int .i64 0, .int .i64 0, .slice none 0 0]) ?_ 0 _ rfl; (with_reducible repeat (first | refine blk_drewN ?_ _ | refine blk_drew ?_ | refine blk_alloc ?_ _)); exact BK120.out) Try.underlying27 rfl (by kernel_rfl)) rfl ?_
               exact ⟨_, by first | rfl | (simp [errW_none, errW_some] <;> rfl) | (simp [*, errW_none, errW_some] <;> rfl), by (with_reducible repeat (first | apply Kd.R_alloc | apply Kd.R_drewN | apply Kd.R_drew)); exact Kd.R_mono (Kd.R_far (p := ⟨gb120, 2, none⟩) (Kd.R_far (p := ⟨gb120, 1, none⟩) (Kd.R_far (p := ⟨gb120, 0, none⟩) (Kd.R_types HO_124002.out BK120.out (by decide)) (fun _ hk => hk.2) (.int .i64 a1)) (fun _ hk => hk.2) (.int .i64 a2)) (fun _ hk => hk.2) (.slice Ao73 x124002_4.length co73)) (fun _ hk => trivial), by repeat (first | (with_reducible first | exact HB.out | apply below_alloc | apply pw_below_drewN | apply below_drew1 | refine below_set ?_ GE120.out | refine below_set ?_ GE123.out) | exact HB.out)⟩
end Go.Proofs.Ytmockeaiccpogaa.All
end
section
namespace Go.Proofs.Ytmockeaiccpogaa.All
open Go.Proofs.YtmockeaiccpogaaSq
open Go.RowKit Go.Proofs.YtmockeaiccpogaaW.PrintWords Go.Proofs.YtmockeaiccpogaaW.PrintLast Go.Proofs.YtmockeaiccpogaaW.PrintMore
attribute [local go_sem] max2_int min2_int max_two min_two max_three min_three max_four min_four
set_option linter.unusedVariables false
set_option linter.unusedSimpArgs false
attribute [local go_sem high] eqA43 eqA47
def compositorlaw09_exampleHolds.f (k : Nat)  : Option (Bool) := (buffer_Decode.f k 2 1 1 4 (([1, 2, 3, 0] : List Int))).bind fun bt180 => ((buffer_Decode.f k 2 1 1 6 (([1, 2, 3, 0, 0, 0] : List Int))).bind fun bt190 => ((buffer_Decode.f k 2 1 1 4 (([1, 2, 3] : List Int))).bind fun bt200 => ((buffer_Diff.f 3 1 (([(⟨255, 255, 255, 255⟩ : S43), (⟨255, 255, 255, 255⟩ : S43), (⟨255, 255, 255, 255⟩ : S43)] : List (S43))) 3 1 (([(⟨255, 255, 255, 255⟩ : S43), (⟨0, 0, 0, 255⟩ : S43), (⟨255, 255, 255, 255⟩ : S43)] : List (S43)))).bind fun bt213 => ((buffer_Crop.f 2 2 (([(⟨255, 255, 255, 255⟩ : S43), (⟨255, 255, 255, 255⟩ : S43), (⟨255, 255, 255, 255⟩ : S43), (⟨255, 255, 255, 255⟩ : S43)] : List (S43))) 1 0 3 1).bind fun bt220 => (if bt180.2.2.2 = 0 then (if (bt180.2.2.1.length : Int) = 1 then (if 0 < (bt180.2.2.1.length : Int) then (if (((rd_T43 bt180.2.2.1 0).f0) == 3 && (((rd_T43 bt180.2.2.1 0).f1) == 2 && (((rd_T43 bt180.2.2.1 0).f2) == 1 && (((rd_T43 bt180.2.2.1 0).f3) == 255)))) = true then (if bt190.2.2.2 = 15 then (if bt200.2.2.2 = 4 then (if bt213.2 = 0 then (if (bt213.1.length : Int) = 1 then (if 0 < (bt213.1.length : Int) then (if (((rd_T47 bt213.1 0).f0) == 1 && (((rd_T47 bt213.1 0).f1) == 0 && (((rd_T47 bt213.1 0).f2) == 2 && (((rd_T47 bt213.1 0).f3) == 1)))) = true then (some (bt220.2.2.2 == 6)) else (some false)) else (none)) else (some false)) else (some false)) else (some false)) else (some false)) else (some false)) else (none)) else (some false)) else (some false))))))
theorem compositorlaw09_exampleHolds.mono : ∀ k, LeO (compositorlaw09_exampleHolds.f k ) (compositorlaw09_exampleHolds.f (k + 1) ) := by
 intro  k
 unfold compositorlaw09_exampleHolds.f
 repeat' first
   | (with_reducible exact buffer_Decode.mono _ _ _ _ _ _)
   | (with_reducible exact LeO.refl _)
   | (with_reducible exact LeO.none _)
   | (with_reducible refine LeO.ite ?_ ?_)
   | (with_reducible refine LeO.bind ?_ (fun _ => ?_))
   | exact buffer_Decode.mono _ _ _ _ _ _
   | exact LeO.none _
   | refine LeO.ite ?_ ?_
   | refine LeO.bind ?_ (fun _ => ?_)
set_option maxHeartbeats 8000000 in
set_option maxRecDepth 100000 in
theorem compositorlaw09_exampleHolds.callsT (k : Nat)  (w : World) (h : compositorlaw09_exampleHolds.f k  = some true) :
  Calls Try.prog 13 #[] w fun e w' => e = .returned (.bool true) ∧ Below w.heap.size w w' := by
 have hu43 := Try.underlying43
 have hu27 := Try.underlying27
 have hu47 := Try.underlying47
 have HB := Aside0.mk (Below.refl w.heap.size w)
 have H : ((buffer_Decode.f k 2 1 1 4 (([1, 2, 3, 0] : List Int))).bind fun bt180 => ((buffer_Decode.f k 2 1 1 6 (([1, 2, 3, 0, 0, 0] : List Int))).bind fun bt190 => ((buffer_Decode.f k 2 1 1 4 (([1, 2, 3] : List Int))).bind fun bt200 => ((buffer_Diff.f 3 1 (([(⟨255, 255, 255, 255⟩ : S43), (⟨255, 255, 255, 255⟩ : S43), (⟨255, 255, 255, 255⟩ : S43)] : List (S43))) 3 1 (([(⟨255, 255, 255, 255⟩ : S43), (⟨0, 0, 0, 255⟩ : S43), (⟨255, 255, 255, 255⟩ : S43)] : List (S43)))).bind fun bt213 => ((buffer_Crop.f 2 2 (([(⟨255, 255, 255, 255⟩ : S43), (⟨255, 255, 255, 255⟩ : S43), (⟨255, 255, 255, 255⟩ : S43), (⟨255, 255, 255, 255⟩ : S43)] : List (S43))) 1 0 3 1).bind fun bt220 => (if bt180.2.2.2 = 0 then (if (bt180.2.2.1.length : Int) = 1 then (if 0 < (bt180.2.2.1.length : Int) then (if (((rd_T43 bt180.2.2.1 0).f0) == 3 && (((rd_T43 bt180.2.2.1 0).f1) == 2 && (((rd_T43 bt180.2.2.1 0).f2) == 1 && (((rd_T43 bt180.2.2.1 0).f3) == 255)))) = true then (if bt190.2.2.2 = 15 then (if bt200.2.2.2 = 4 then (if bt213.2 = 0 then (if (bt213.1.length : Int) = 1 then (if 0 < (bt213.1.length : Int) then (if (((rd_T47 bt213.1 0).f0) == 1 && (((rd_T47 bt213.1 0).f1) == 0 && (((rd_T47 bt213.1 0).f2) == 2 && (((rd_T47 bt213.1 0).f3) == 1)))) = true then (some (bt220.2.2.2 == 6)) else (some false)) else (none)) else (some false)) else (some false)) else (some false)) else (some false)) else (some false)) else (none)) else (some false)) else (some false))))))) = some true := h
 clear h
 obtain ⟨y177, hy177⟩ : ∃ y_ : List Int, y_ = (([1, 2, 3, 0] : List Int)) := ⟨_, rfl⟩
 replace H : ((buffer_Decode.f k 2 1 1 4 y177).bind fun bt180 => ((buffer_Decode.f k 2 1 1 6 (([1, 2, 3, 0, 0, 0] : List Int))).bind fun bt190 => ((buffer_Decode.f k 2 1 1 4 (([1, 2, 3] : List Int))).bind fun bt200 => ((buffer_Diff.f 3 1 (([(⟨255, 255, 255, 255⟩ : S43), (⟨255, 255, 255, 255⟩ : S43), (⟨255, 255, 255, 255⟩ : S43)] : List (S43))) 3 1 (([(⟨255, 255, 255, 255⟩ : S43), (⟨0, 0, 0, 255⟩ : S43), (⟨255, 255, 255, 255⟩ : S43)] : List (S43)))).bind fun bt213 => ((buffer_Crop.f 2 2 (([(⟨255, 255, 255, 255⟩ : S43), (⟨255, 255, 255, 255⟩ : S43), (⟨255, 255, 255, 255⟩ : S43), (⟨255, 255, 255, 255⟩ : S43)] : List (S43))) 1 0 3 1).bind fun bt220 => (if bt180.2.2.2 = 0 then (if (bt180.2.2.1.length : Int) = 1 then (if 0 < (bt180.2.2.1.length : Int) then (if (((rd_T43 bt180.2.2.1 0).f0) == 3 && (((rd_T43 bt180.2.2.1 0).f1) == 2 && (((rd_T43 bt180.2.2.1 0).f2) == 1 && (((rd_T43 bt180.2.2.1 0).f3) == 255)))) = true then (if bt190.2.2.2 = 15 then (if bt200.2.2.2 = 4 then (if bt213.2 = 0 then (if (bt213.1.length : Int) = 1 then (if 0 < (bt213.1.length : Int) then (if (((rd_T47 bt213.1 0).f0) == 1 && (((rd_T47 bt213.1 0).f1) == 0 && (((rd_T47 bt213.1 0).f2) == 2 && (((rd_T47 bt213.1 0).f3) == 1)))) = true then (some (bt220.2.2.2 == 6)) else (some false)) else (none)) else (some false)) else (some false)) else (some false)) else (some false)) else (some false)) else (none)) else (some false)) else (some false))))))) = some true := by first | (rw [hy177]; with_reducible exact H) | (have H2_ := (Option.bind_some _ _).symm.trans H; rw [hy177]; with_reducible exact H2_) | (have H2_ := (Option.bind_some _ _).symm.trans H; with_reducible exact H2_) | with_reducible exact H | (rw [hy177]; exact H) | exact H
 have Ny177 := Aside0.mk hy177
 clear hy177
 replace H := Option.bind_eq_some_iff.mp H
 obtain ⟨⟨t180, t181, t182, t185⟩, A10, H⟩ := H
 try dsimp only at H
 have A1 := Aside0.mk A10
 clear A10
 obtain ⟨y187, hy187⟩ : ∃ y_ : List Int, y_ = (([1, 2, 3, 0, 0, 0] : List Int)) := ⟨_, rfl⟩
 replace H : ((buffer_Decode.f k 2 1 1 6 y187).bind fun bt190 => ((buffer_Decode.f k 2 1 1 4 (([1, 2, 3] : List Int))).bind fun bt200 => ((buffer_Diff.f 3 1 (([(⟨255, 255, 255, 255⟩ : S43), (⟨255, 255, 255, 255⟩ : S43), (⟨255, 255, 255, 255⟩ : S43)] : List (S43))) 3 1 (([(⟨255, 255, 255, 255⟩ : S43), (⟨0, 0, 0, 255⟩ : S43), (⟨255, 255, 255, 255⟩ : S43)] : List (S43)))).bind fun bt213 => ((buffer_Crop.f 2 2 (([(⟨255, 255, 255, 255⟩ : S43), (⟨255, 255, 255, 255⟩ : S43), (⟨255, 255, 255, 255⟩ : S43), (⟨255, 255, 255, 255⟩ : S43)] : List (S43))) 1 0 3 1).bind fun bt220 => (if t185 = 0 then (if (t182.length : Int) = 1 then (if 0 < (t182.length : Int) then (if (((rd_T43 t182 0).f0) == 3 && (((rd_T43 t182 0).f1) == 2 && (((rd_T43 t182 0).f2) == 1 && (((rd_T43 t182 0).f3) == 255)))) = true then (if bt190.2.2.2 = 15 then (if bt200.2.2.2 = 4 then (if bt213.2 = 0 then (if (bt213.1.length : Int) = 1 then (if 0 < (bt213.1.length : Int) then (if (((rd_T47 bt213.1 0).f0) == 1 && (((rd_T47 bt213.1 0).f1) == 0 && (((rd_T47 bt213.1 0).f2) == 2 && (((rd_T47 bt213.1 0).f3) == 1)))) = true then (some (bt220.2.2.2 == 6)) else (some false)) else (none)) else (some false)) else (some false)) else (some false)) else (some false)) else (some false)) else (none)) else (some false)) else (some false)))))) = some true := by first | (rw [hy187]; with_reducible exact H) | (have H2_ := (Option.bind_some _ _).symm.trans H; rw [hy187]; with_reducible exact H2_) | (have H2_ := (Option.bind_some _ _).symm.trans H; with_reducible exact H2_) | with_reducible exact H | (rw [hy187]; exact H) | exact H
 have Ny187 := Aside0.mk hy187
 clear hy187
 replace H := Option.bind_eq_some_iff.mp H
 obtain ⟨⟨t190, t191, t192, t195⟩, A20, H⟩ := H
 try dsimp only at H
 have A2 := Aside0.mk A20
 clear A20
 obtain ⟨y197, hy197⟩ : ∃ y_ : List Int, y_ = (([1, 2, 3] : List Int)) := ⟨_, rfl⟩
 replace H : ((buffer_Decode.f k 2 1 1 4 y197).bind fun bt200 => ((buffer_Diff.f 3 1 (([(⟨255, 255, 255, 255⟩ : S43), (⟨255, 255, 255, 255⟩ : S43), (⟨255, 255, 255, 255⟩ : S43)] : List (S43))) 3 1 (([(⟨255, 255, 255, 255⟩ : S43), (⟨0, 0, 0, 255⟩ : S43), (⟨255, 255, 255, 255⟩ : S43)] : List (S43)))).bind fun bt213 => ((buffer_Crop.f 2 2 (([(⟨255, 255, 255, 255⟩ : S43), (⟨255, 255, 255, 255⟩ : S43), (⟨255, 255, 255, 255⟩ : S43), (⟨255, 255, 255, 255⟩ : S43)] : List (S43))) 1 0 3 1).bind fun bt220 => (if t185 = 0 then (if (t182.length : Int) = 1 then (if 0 < (t182.length : Int) then (if (((rd_T43 t182 0).f0) == 3 && (((rd_T43 t182 0).f1) == 2 && (((rd_T43 t182 0).f2) == 1 && (((rd_T43 t182 0).f3) == 255)))) = true then (if t195 = 15 then (if bt200.2.2.2 = 4 then (if bt213.2 = 0 then (if (bt213.1.length : Int) = 1 then (if 0 < (bt213.1.length : Int) then (if (((rd_T47 bt213.1 0).f0) == 1 && (((rd_T47 bt213.1 0).f1) == 0 && (((rd_T47 bt213.1 0).f2) == 2 && (((rd_T47 bt213.1 0).f3) == 1)))) = true then (some (bt220.2.2.2 == 6)) else (some false)) else (none)) else (some false)) else (some false)) else (some false)) else (some false)) else (some false)) else (none)) else (some false)) else (some false))))) = some true := by first | (rw [hy197]; with_reducible exact H) | (have H2_ := (Option.bind_some _ _).symm.trans H; rw [hy197]; with_reducible exact H2_) | (have H2_ := (Option.bind_some _ _).symm.trans H; with_reducible exact H2_) | with_reducible exact H | (rw [hy197]; exact H) | exact H
 have Ny197 := Aside0.mk hy197
 clear hy197
 replace H := Option.bind_eq_some_iff.mp H
 obtain ⟨⟨t200, t201, t202, t205⟩, A30, H⟩ := H
 try dsimp only at H
 have A3 := Aside0.mk A30
 clear A30
 obtain ⟨y207, hy207⟩ : ∃ y_ : List (S43), y_ = (([(⟨255, 255, 255, 255⟩ : S43), (⟨255, 255, 255, 255⟩ : S43), (⟨255, 255, 255, 255⟩ : S43)] : List (S43))) := ⟨_, rfl⟩
 replace H : ((buffer_Diff.f 3 1 y207 3 1 (([(⟨255, 255, 255, 255⟩ : S43), (⟨0, 0, 0, 255⟩ : S43), (⟨255, 255, 255, 255⟩ : S43)] : List (S43)))).bind fun bt213 => ((buffer_Crop.f 2 2 (([(⟨255, 255, 255, 255⟩ : S43), (⟨255, 255, 255, 255⟩ : S43), (⟨255, 255, 255, 255⟩ : S43), (⟨255, 255, 255, 255⟩ : S43)] : List (S43))) 1 0 3 1).bind fun bt220 => (if t185 = 0 then (if (t182.length : Int) = 1 then (if 0 < (t182.length : Int) then (if (((rd_T43 t182 0).f0) == 3 && (((rd_T43 t182 0).f1) == 2 && (((rd_T43 t182 0).f2) == 1 && (((rd_T43 t182 0).f3) == 255)))) = true then (if t195 = 15 then (if t205 = 4 then (if bt213.2 = 0 then (if (bt213.1.length : Int) = 1 then (if 0 < (bt213.1.length : Int) then (if (((rd_T47 bt213.1 0).f0) == 1 && (((rd_T47 bt213.1 0).f1) == 0 && (((rd_T47 bt213.1 0).f2) == 2 && (((rd_T47 bt213.1 0).f3) == 1)))) = true then (some (bt220.2.2.2 == 6)) else (some false)) else (none)) else (some false)) else (some false)) else (some false)) else (some false)) else (some false)) else (none)) else (some false)) else (some false)))) = some true := by first | (rw [hy207]; with_reducible exact H) | (have H2_ := (Option.bind_some _ _).symm.trans H; rw [hy207]; with_reducible exact H2_) | (have H2_ := (Option.bind_some _ _).symm.trans H; with_reducible exact H2_) | with_reducible exact H | (rw [hy207]; exact H) | exact H
 have Ny207 := Aside0.mk hy207
 clear hy207
 obtain ⟨y210, hy210⟩ : ∃ y_ : List (S43), y_ = (([(⟨255, 255, 255, 255⟩ : S43), (⟨0, 0, 0, 255⟩ : S43), (⟨255, 255, 255, 255⟩ : S43)] : List (S43))) := ⟨_, rfl⟩
 replace H : ((buffer_Diff.f 3 1 y207 3 1 y210).bind fun bt213 => ((buffer_Crop.f 2 2 (([(⟨255, 255, 255, 255⟩ : S43), (⟨255, 255, 255, 255⟩ : S43), (⟨255, 255, 255, 255⟩ : S43), (⟨255, 255, 255, 255⟩ : S43)] : List (S43))) 1 0 3 1).bind fun bt220 => (if t185 = 0 then (if (t182.length : Int) = 1 then (if 0 < (t182.length : Int) then (if (((rd_T43 t182 0).f0) == 3 && (((rd_T43 t182 0).f1) == 2 && (((rd_T43 t182 0).f2) == 1 && (((rd_T43 t182 0).f3) == 255)))) = true then (if t195 = 15 then (if t205 = 4 then (if bt213.2 = 0 then (if (bt213.1.length : Int) = 1 then (if 0 < (bt213.1.length : Int) then (if (((rd_T47 bt213.1 0).f0) == 1 && (((rd_T47 bt213.1 0).f1) == 0 && (((rd_T47 bt213.1 0).f2) == 2 && (((rd_T47 bt213.1 0).f3) == 1)))) = true then (some (bt220.2.2.2 == 6)) else (some false)) else (none)) else (some false)) else (some false)) else (some false)) else (some false)) else (some false)) else (none)) else (some false)) else (some false)))) = some true := by first | (rw [hy210]; with_reducible exact H) | (have H2_ := (Option.bind_some _ _).symm.trans H; rw [hy210]; with_reducible exact H2_) | (have H2_ := (Option.bind_some _ _).symm.trans H; with_reducible exact H2_) | with_reducible exact H | (rw [hy210]; exact H) | exact H
 have Ny210 := Aside0.mk hy210
 clear hy210
 replace H := Option.bind_eq_some_iff.mp H
 obtain ⟨⟨t213, t216⟩, A40, H⟩ := H
 try dsimp only at H
 have A4 := Aside0.mk A40
 clear A40
 obtain ⟨y217, hy217⟩ : ∃ y_ : List (S43), y_ = (([(⟨255, 255, 255, 255⟩ : S43), (⟨255, 255, 255, 255⟩ : S43), (⟨255, 255, 255, 255⟩ : S43), (⟨255, 255, 255, 255⟩ : S43)] : List (S43))) := ⟨_, rfl⟩
 replace H : ((buffer_Crop.f 2 2 y217 1 0 3 1).bind fun bt220 => (if t185 = 0 then (if (t182.length : Int) = 1 then (if 0 < (t182.length : Int) then (if (((rd_T43 t182 0).f0) == 3 && (((rd_T43 t182 0).f1) == 2 && (((rd_T43 t182 0).f2) == 1 && (((rd_T43 t182 0).f3) == 255)))) = true then (if t195 = 15 then (if t205 = 4 then (if t216 = 0 then (if (t213.length : Int) = 1 then (if 0 < (t213.length : Int) then (if (((rd_T47 t213 0).f0) == 1 && (((rd_T47 t213 0).f1) == 0 && (((rd_T47 t213 0).f2) == 2 && (((rd_T47 t213 0).f3) == 1)))) = true then (some (bt220.2.2.2 == 6)) else (some false)) else (none)) else (some false)) else (some false)) else (some false)) else (some false)) else (some false)) else (none)) else (some false)) else (some false))) = some true := by first | (rw [hy217]; with_reducible exact H) | (have H2_ := (Option.bind_some _ _).symm.trans H; rw [hy217]; with_reducible exact H2_) | (have H2_ := (Option.bind_some _ _).symm.trans H; with_reducible exact H2_) | with_reducible exact H | (rw [hy217]; exact H) | exact H
 have Ny217 := Aside0.mk hy217
 clear hy217
 replace H := Option.bind_eq_some_iff.mp H
 obtain ⟨⟨t220, t221, t222, t225⟩, A50, H⟩ := H
 try dsimp only at H
 have A5 := Aside0.mk A50
 clear A50
 by_cases c6 : t185 = 0
 ·
  rw [if_pos c6] at H
  have c6b0 : (t185 == 0) = true := beq_iff_eq.mpr c6
  have c6b1 : (t185 != 0) = false := bne_eq_false_iff_eq.mpr c6
  clear c6
  by_cases c7 : (t182.length : Int) = 1
  ·
   rw [if_pos c7] at H
   have c7b0 : ((t182.length : Int) == 1) = true := beq_iff_eq.mpr c7
   have c7b1 : ((t182.length : Int) != 1) = false := bne_eq_false_iff_eq.mpr c7
   clear c7
   by_cases c8 : 0 < (t182.length : Int)
   ·
    rw [if_pos c8] at H
    have c8b0 : decide (0 < (t182.length : Int)) = true := decide_eq_true c8
    have c8b1 : decide (0 < t182.length) = true := decide_eq_true (by omega)
    clear c8
    by_cases c9 : (((rd_T43 t182 0).f0) == 3 && (((rd_T43 t182 0).f1) == 2 && (((rd_T43 t182 0).f2) == 1 && (((rd_T43 t182 0).f3) == 255)))) = true
    ·
     rw [if_pos c9] at H
     have c9b0 : (((rd_T43 t182 0).f0) == 3 && (((rd_T43 t182 0).f1) == 2 && (((rd_T43 t182 0).f2) == 1 && (((rd_T43 t182 0).f3) == 255)))) = true := c9
     (try (have c9b1 : decide (((rd_T43 t182 0).f0) = 3 && (((rd_T43 t182 0).f1) == 2 && (((rd_T43 t182 0).f2) == 1 && (((rd_T43 t182 0).f3) == 255)))) = true := by simpa using c9))
     (try (have c9b2 : (((rd_T43 t182 0).f0) == 3 && (((rd_T43 t182 0).f1) == 2 && (((rd_T43 t182 0).f2) == 1 && (((rd_T43 t182 0).f3) == 255)))) = true := by simpa using c9))
     clear c9
     by_cases c10 : t195 = 15
     ·
      rw [if_pos c10] at H
      have c10b0 : (t195 == 15) = true := beq_iff_eq.mpr c10
      have c10b1 : (t195 != 15) = false := bne_eq_false_iff_eq.mpr c10
      clear c10
      by_cases c11 : t205 = 4
      ·
       rw [if_pos c11] at H
       have c11b0 : (t205 == 4) = true := beq_iff_eq.mpr c11
       have c11b1 : (t205 != 4) = false := bne_eq_false_iff_eq.mpr c11
       clear c11
       by_cases c12 : t216 = 0
       ·
        rw [if_pos c12] at H
        have c12b0 : (t216 == 0) = true := beq_iff_eq.mpr c12
        have c12b1 : (t216 != 0) = false := bne_eq_false_iff_eq.mpr c12
        clear c12
        by_cases c13 : (t213.length : Int) = 1
        ·
         rw [if_pos c13] at H
         have c13b0 : ((t213.length : Int) == 1) = true := beq_iff_eq.mpr c13
         have c13b1 : ((t213.length : Int) != 1) = false := bne_eq_false_iff_eq.mpr c13
         clear c13
         by_cases c14 : 0 < (t213.length : Int)
         ·
          rw [if_pos c14] at H
          have c14b0 : decide (0 < (t213.length : Int)) = true := decide_eq_true c14
          have c14b1 : decide (0 < t213.length) = true := decide_eq_true (by omega)
          clear c14
          by_cases c15 : (((rd_T47 t213 0).f0) == 1 && (((rd_T47 t213 0).f1) == 0 && (((rd_T47 t213 0).f2) == 2 && (((rd_T47 t213 0).f3) == 1)))) = true
          ·
           rw [if_pos c15] at H
           have c15b0 : (((rd_T47 t213 0).f0) == 1 && (((rd_T47 t213 0).f1) == 0 && (((rd_T47 t213 0).f2) == 2 && (((rd_T47 t213 0).f3) == 1)))) = true := c15
           (try (have c15b1 : decide (((rd_T47 t213 0).f0) = 1 && (((rd_T47 t213 0).f1) == 0 && (((rd_T47 t213 0).f2) == 2 && (((rd_T47 t213 0).f3) == 1)))) = true := by simpa using c15))
           (try (have c15b2 : (((rd_T47 t213 0).f0) == 1 && (((rd_T47 t213 0).f1) == 0 && (((rd_T47 t213 0).f2) == 2 && (((rd_T47 t213 0).f3) == 1)))) = true := by simpa using c15))
           clear c15
           have Hq_ := Option.some.inj H
           go_enter Try.func13, Try.ntmps13
           go_wp2_with (first | ((with_reducible refine gate_dst (N := 1) rfl ?_); (try (refine gate_guard (by rfl) ?_; dsimp only)); refine box_event ?hg (N := 1) ?hd (cs := #[.int .u8 0, .int .u8 0, .int .u8 0, .int .u8 0]) (t := 43) ?hr ?_; (case hd => rfl); (case hg => rfl); (case hr => first | (go_simp; done) | (go_simp; rfl)); intro gb175 hg w16 hbox hb; have n0_ := hb_ HB hb; have n1_ := Aside0.mk (hbox); have n2_ := Aside0.mk ((by rw [hg]; exact (below_size (hq_ HB)) : w.heap.size ≤ gb175)); have n3_ := Aside0.mk ((by rw [hg]; exact (below_size (hq_ HB)) : w.heap.size ≤ gb175)); clear HB; have HB := n0_; have BK175 := n1_; have GW175 := n2_; have GE175 := n3_; clear n0_ n1_ n2_ n3_; clear hb hbox hg) | ((with_reducible refine gate_dst (N := 2) rfl ?_); (try (refine gate_guard (by rfl) ?_; dsimp only)); refine box_event ?hg (N := 2) ?hd (cs := #[.int .u8 0, .int .u8 0, .int .u8 0, .int .u8 0]) (t := 43) ?hr ?_; (case hd => rfl); (case hg => rfl); (case hr => first | (go_simp; done) | (go_simp; rfl)); intro gb176 hg w17 hbox hb; have n0_ := bb_ BK175 hb; have n1_ := hb_ HB hb; have n2_ := Aside0.mk (hbox); have n3_ := Aside0.mk ((by rw [hg]; exact (below_size (hq_ HB)) : w.heap.size ≤ gb176)); have n4_ := Aside0.mk ((by rw [hg]; exact (below_size (hq_ HB)) : w.heap.size ≤ gb176)); have n5_ := Aside0.mk ((by rw [hg]; exact Nat.ne_of_lt (blk_lt (g := gb175) (o := .cells #[.int .u8 0, .int .u8 0, .int .u8 0, .int .u8 0] 43 (0, 0)) (bq_ BK175)) : gb175 ≠ gb176)); have n6_ := Aside0.mk ((by rw [hg]; exact Nat.ne_of_gt (blk_lt (g := gb175) (o := .cells #[.int .u8 0, .int .u8 0, .int .u8 0, .int .u8 0] 43 (0, 0)) (bq_ BK175)) : gb176 ≠ gb175)); clear BK175; clear HB; have BK175 := n0_; have HB := n1_; have BK176 := n2_; have GW176 := n3_; have GE176 := n4_; have NB175_176 := n5_; have NB176_175 := n6_; clear n0_ n1_ n2_ n3_ n4_ n5_ n6_; clear hb hbox hg; have hnb18 := NB175_176.out; have hnc18 := NB176_175.out; have hcz19_0 : w17.cell? ⟨gb175, 0, none⟩ = some (.int .u8 0) := (blk_cell BK175.out 0).trans rfl; have hcz19_1 : w17.cell? ⟨gb175, 1, none⟩ = some (.int .u8 0) := (blk_cell BK175.out 1).trans rfl; have hcz19_2 : w17.cell? ⟨gb175, 2, none⟩ = some (.int .u8 0) := (blk_cell BK175.out 2).trans rfl; have hcz19_3 : w17.cell? ⟨gb175, 3, none⟩ = some (.int .u8 0) := (blk_cell BK175.out 3).trans rfl; have hfz19_0 := blk_frozen BK175.out 0; have hfz19_1 := blk_frozen BK175.out 1; have hfz19_2 := blk_frozen BK175.out 2; have hfz19_3 := blk_frozen BK175.out 3; have hcz20_0 : w17.cell? ⟨gb176, 0, none⟩ = some (.int .u8 0) := (blk_cell BK176.out 0).trans rfl; have hcz20_1 : w17.cell? ⟨gb176, 1, none⟩ = some (.int .u8 0) := (blk_cell BK176.out 1).trans rfl; have hcz20_2 : w17.cell? ⟨gb176, 2, none⟩ = some (.int .u8 0) := (blk_cell BK176.out 2).trans rfl; have hcz20_3 : w17.cell? ⟨gb176, 3, none⟩ = some (.int .u8 0) := (blk_cell BK176.out 3).trans rfl; have hfz20_0 := blk_frozen BK176.out 0; have hfz20_1 := blk_frozen BK176.out 1; have hfz20_2 := blk_frozen BK176.out 2; have hfz20_3 := blk_frozen BK176.out 3) | ((with_reducible refine gate_dst (N := 16) rfl ?_); (try (refine gate_guard (by rfl) ?_; dsimp only)); refine Kd.R_lit (Kd.int .u8) _ 5 ?hg (N := 16) ?hd (xs := ([1, 2, 3, 0] : List Int)) (inner := [.int .u8 1, .int .u8 2, .int .u8 3, .int .u8 0]) (ok := fun _ => True) (okp := fun _ => True) ?hr ?hp (fun _ hk => hk) trivial (Below.refl _ _) (Nat.le_refl _) (by simp) ?_; (case hd => rfl); (case hg => rfl); (case hr => first | (go_simp; done) | (go_simp; rfl)); (case hp => exact (Reps.one (show Kd.M (Kd.int .u8) _ _ _ 1 [.int .u8 1] from rfl) (Reps.one (show Kd.M (Kd.int .u8) _ _ _ 2 [.int .u8 2] from rfl) (Reps.one (show Kd.M (Kd.int .u8) _ _ _ 3 [.int .u8 3] from rfl) (Reps.one (show Kd.M (Kd.int .u8) _ _ _ 0 [.int .u8 0] from rfl) (Reps.none _ _)))))); intro v178 w21 ho22 hb hg_ hnew_; clear hg_ hnew_; (first | rw [← Ny177.out] at ho22 | (simp only [Int.reduceToNat] at ho22; rw [← Ny177.out] at ho22)); have n0_ := Aside0.mk (Kd.R_lower ho22 (below_size (hq_ HB))); have n1_ := Aside0.mk (blk_below (g := gb175) (o := .cells #[.int .u8 255, .int .u8 255, .int .u8 255, .int .u8 255] 43 (0, 0)) (by (with_reducible repeat (first | refine blk_drewN ?_ _ | refine blk_drew ?_ | refine blk_alloc ?_ _)); refine blk_far ?_ NB175_176.out _; (with_reducible repeat (first | refine blk_drewN ?_ _ | refine blk_drew ?_ | refine blk_alloc ?_ _)); refine blk_far ?_ NB175_176.out _; (with_reducible repeat (first | refine blk_drewN ?_ _ | refine blk_drew ?_ | refine blk_alloc ?_ _)); refine blk_far ?_ NB175_176.out _; (with_reducible repeat (first | refine blk_drewN ?_ _ | refine blk_drew ?_ | refine blk_alloc ?_ _)); refine blk_far ?_ NB175_176.out _; (with_reducible repeat (first | refine blk_drewN ?_ _ | refine blk_drew ?_ | refine blk_alloc ?_ _)); refine blk_put (cs := #[.int .u8 255, .int .u8 255, .int .u8 255, .int .u8 0]) ?_ 3 _ rfl; (with_reducible repeat (first | refine blk_drewN ?_ _ | refine blk_drew ?_ | refine blk_alloc ?_ _)); refine blk_put (cs := #[.int .u8 255, .int .u8 255, .int .u8 0, .int .u8 0]) ?_ 2 _ rfl; (with_reducible repeat (first | refine blk_drewN ?_ _ | refine blk_drew ?_ | refine blk_alloc ?_ _)); refine blk_put (cs := #[.int .u8 255, .int .u8 0, .int .u8 0, .int .u8 0]) ?_ 1 _ rfl; (with_reducible repeat (first | refine blk_drewN ?_ _ | refine blk_drew ?_ | refine blk_alloc ?_ _)); refine blk_put (cs := #[.int .u8 0, .int .u8 0, .int .u8 0, .int .u8 0]) ?_ 0 _ rfl; (with_reducible repeat (first | refine blk_drewN ?_ _ | refine blk_drew ?_ | refine blk_alloc ?_ _)); exact BK175.out) hb); have n2_ := Aside0.mk (blk_below (g := gb176) (o := .cells #[.int .u8 0, .int .u8 0, .int .u8 0, .int .u8 255] 43 (0, 0)) (by (with_reducible repeat (first | refine blk_drewN ?_ _ | refine blk_drew ?_ | refine blk_alloc ?_ _)); refine blk_put (cs := #[.int .u8 0, .int .u8 0, .int .u8 0, .int .u8 0]) ?_ 3 _ rfl; (with_reducible repeat (first | refine blk_drewN ?_ _ | refine blk_drew ?_ | refine blk_alloc ?_ _)); refine blk_put (cs := #[.int .u8 0, .int .u8 0, .int .u8 0, .int .u8 0]) ?_ 2 _ rfl; (with_reducible repeat (first | refine blk_drewN ?_ _ | refine blk_drew ?_ | refine blk_alloc ?_ _)); refine blk_put (cs := #[.int .u8 0, .int .u8 0, .int .u8 0, .int .u8 0]) ?_ 1 _ rfl; (with_reducible repeat (first | refine blk_drewN ?_ _ | refine blk_drew ?_ | refine blk_alloc ?_ _)); refine blk_put (cs := #[.int .u8 0, .int .u8 0, .int .u8 0, .int .u8 0]) ?_ 0 _ rfl; (with_reducible repeat (first | refine blk_drewN ?_ _ | refine blk_drew ?_ | refine blk_alloc ?_ _)); refine blk_far ?_ NB176_175.out _; (with_reducible repeat (first | refine blk_drewN ?_ _ | refine blk_drew ?_ | refine blk_alloc ?_ _)); refine blk_far ?_ NB176_175.out _; (with_reducible repeat (first | refine blk_drewN ?_ _ | refine blk_drew ?_ | refine blk_alloc ?_ _)); refine blk_far ?_ NB176_175.out _; (with_reducible repeat (first | refine blk_drewN ?_ _ | refine blk_drew ?_ | refine blk_alloc ?_ _)); refine blk_far ?_ NB176_175.out _; (with_reducible repeat (first | refine blk_drewN ?_ _ | refine blk_drew ?_ | refine blk_alloc ?_ _)); exact BK176.out) hb); have n3_ := hb_ HB hb; clear BK175; clear BK176; clear HB; have HO179 := n0_; have BK175 := n1_; have BK176 := n2_; have HB := n3_; clear n0_ n1_ n2_ n3_; clear hb ho22; obtain ⟨Ao23, co23, eo23⟩ := Kd.R_slice HO179.out; subst eo23) | ((with_reducible refine gate_callee (f := 14) rfl ?_); refine goesL_ (some 17) rfl rfl Try.func14 (by kernel_rfl) rfl #[.int .i64 2, .int .i64 1, .int .i64 1, .int .i64 4, .slice Ao23 y177.length co23] rfl (by (try simp only [List.map_toArray, List.map_cons, List.map_nil]) <;> rfl) ?_; (with_reducible refine (buffer_Decode.calls k 2 1 1 4 _ _ y177 t180 t181 t182 t185 _ ?side1 ?side2 A1.out).mono ?_); (case side1 => repeat (first | exact (Kd.R_reads' HO179.out).2.2 | (with_reducible refine Kd.C_alloc ?_ _) | (with_reducible refine Kd.C_drewN ?_ _) | (with_reducible refine Kd.C_drew ?_))); (case side2 => exact (Kd.R_reads' HO179.out).2.1); rintro e w24 ⟨v183, rfl, ho0, hb⟩; refine ⟨_, rfl, ?_⟩; have n0_ := Aside0.mk (Kd.R_below (by (with_reducible repeat (first | apply Kd.R_alloc | apply Kd.R_drewN | apply Kd.R_drew)); exact HO179.out) hb); have n1_ := Aside0.mk (Kd.R_lower (Kd.R_newB (Kd.R_newB ho0 (g := gb175) (o := .cells #[.int .u8 255, .int .u8 255, .int .u8 255, .int .u8 255] 43 (0, 0)) (bq_ BK175)) (g := gb176) (o := .cells #[.int .u8 0, .int .u8 0, .int .u8 0, .int .u8 255] 43 (0, 0)) (bq_ BK176)) (below_size (hq_ HB))); have n2_ := bb_ BK175 hb; have n3_ := bb_ BK176 hb; have n4_ := hb_ HB hb; clear HO179; clear BK175; clear BK176; clear HB; have HO179 := n0_; have HO184 := n1_; have BK175 := n2_; have BK176 := n3_; have HB := n4_; clear n0_ n1_ n2_ n3_ n4_; (try clear hb); (try clear hb2); (try clear hk); (try clear hi); (try clear ho0)) | ((with_reducible refine gate_dst (N := 3) rfl ?_); (try (refine gate_guard (by rfl) ?_; dsimp only)); refine box_event ?hg (N := 3) ?hd (cs := #[.int .i64 0, .int .i64 0, .slice none 0 0]) (t := 27) ?hr ?_; (case hd => rfl); (case hg => rfl); (case hr => first | (go_simp; done) | (go_simp; rfl)); intro gb186 hg w25 hbox hb; have n0_ := Aside0.mk (Kd.R_below (by (with_reducible repeat (first | apply Kd.R_alloc | apply Kd.R_drewN | apply Kd.R_drew)); exact HO179.out) hb); have n1_ := Aside0.mk (Kd.R_below (by (with_reducible repeat (first | apply Kd.R_alloc | apply Kd.R_drewN | apply Kd.R_drew)); exact HO184.out) hb); have n2_ := bb_ BK175 hb; have n3_ := bb_ BK176 hb; have n4_ := hb_ HB hb; have n5_ := Aside0.mk (hbox); have n6_ := Aside0.mk ((by rw [hg]; exact (below_size (hq_ HB)) : w.heap.size ≤ gb186)); have n7_ := Aside0.mk ((by rw [hg]; exact (below_size (hq_ HB)) : w.heap.size ≤ gb186)); have n8_ := Aside0.mk ((by rw [hg]; exact Nat.ne_of_lt (blk_lt (g := gb175) (o := .cells #[.int .u8 255, .int .u8 255, .int .u8 255, .int .u8 255] 43 (0, 0)) (bq_ BK175)) : gb175 ≠ gb186)); have n9_ := Aside0.mk ((by rw [hg]; exact Nat.ne_of_gt (blk_lt (g := gb175) (o := .cells #[.int .u8 255, .int .u8 255, .int .u8 255, .int .u8 255] 43 (0, 0)) (bq_ BK175)) : gb186 ≠ gb175)); have n10_ := Aside0.mk ((by rw [hg]; exact Nat.ne_of_lt (blk_lt (g := gb176) (o := .cells #[.int .u8 0, .int .u8 0, .int .u8 0, .int .u8 255] 43 (0, 0)) (bq_ BK176)) : gb176 ≠ gb186)); have n11_ := Aside0.mk ((by rw [hg]; exact Nat.ne_of_gt (blk_lt (g := gb176) (o := .cells #[.int .u8 0, .int .u8 0, .int .u8 0, .int .u8 255] 43 (0, 0)) (bq_ BK176)) : gb186 ≠ gb176)); clear HO179; clear HO184; clear BK175; clear BK176; clear HB; have HO179 := n0_; have HO184 := n1_; have BK175 := n2_; have BK176 := n3_; have HB := n4_; have BK186 := n5_; have GW186 := n6_; have GE186 := n7_; have NB175_186 := n8_; have NB186_175 := n9_; have NB176_186 := n10_; have NB186_176 := n11_; clear n0_ n1_ n2_ n3_ n4_ n5_ n6_ n7_ n8_ n9_ n10_ n11_; clear hb hbox hg; have hnb26 := NB186_175.out; have hnc26 := NB175_186.out; have hnb27 := NB186_176.out; have hnc27 := NB176_186.out; have hcz28_0 : w25.cell? ⟨gb186, 0, none⟩ = some (.int .i64 0) := (blk_cell BK186.out 0).trans rfl; have hcz28_1 : w25.cell? ⟨gb186, 1, none⟩ = some (.int .i64 0) := (blk_cell BK186.out 1).trans rfl; have hcz28_2 : w25.cell? ⟨gb186, 2, none⟩ = some (.slice none 0 0) := (blk_cell BK186.out 2).trans rfl; have hfz28_0 := blk_frozen BK186.out 0; have hfz28_1 := blk_frozen BK186.out 1; have hfz28_2 := blk_frozen BK186.out 2; obtain ⟨Ao29, co29, eo29⟩ := Kd.R_slice HO184.out; subst eo29) | ((with_reducible refine gate_dst (N := 21) rfl ?_); (try (refine gate_guard (by rfl) ?_; dsimp only)); refine Kd.R_lit (Kd.int .u8) _ 5 ?hg (N := 21) ?hd (xs := ([1, 2, 3, 0, 0, 0] : List Int)) (inner := [.int .u8 1, .int .u8 2, .int .u8 3, .int .u8 0, .int .u8 0, .int .u8 0]) (ok := fun _ => True) (okp := fun _ => True) ?hr ?hp (fun _ hk => hk) trivial (Below.refl _ _) (Nat.le_refl _) (by simp) ?_; (case hd => rfl); (case hg => rfl); (case hr => first | (go_simp; done) | (go_simp; rfl)); (case hp => exact (Reps.one (show Kd.M (Kd.int .u8) _ _ _ 1 [.int .u8 1] from rfl) (Reps.one (show Kd.M (Kd.int .u8) _ _ _ 2 [.int .u8 2] from rfl) (Reps.one (show Kd.M (Kd.int .u8) _ _ _ 3 [.int .u8 3] from rfl) (Reps.one (show Kd.M (Kd.int .u8) _ _ _ 0 [.int .u8 0] from rfl) (Reps.one (show Kd.M (Kd.int .u8) _ _ _ 0 [.int .u8 0] from rfl) (Reps.one (show Kd.M (Kd.int .u8) _ _ _ 0 [.int .u8 0] from rfl) (Reps.none _ _)))))))); intro v188 w30 ho31 hb hg_ hnew_; clear hg_ hnew_; (first | rw [← Ny187.out] at ho31 | (simp only [Int.reduceToNat] at ho31; rw [← Ny187.out] at ho31)); have n0_ := Aside0.mk (Kd.R_elder' (by (with_reducible repeat (first | apply Kd.R_alloc | apply Kd.R_drewN | apply Kd.R_drew)); exact (Kd.R_mono (Kd.R_far (p := ⟨gb186, 2, none⟩) (Kd.R_far (p := ⟨gb186, 1, none⟩) (Kd.R_far (p := ⟨gb186, 0, none⟩) (Kd.R_types HO179.out BK186.out (by decide)) (fun _ hk => hk.2) (.int .i64 t180)) (fun _ hk => hk.2) (.int .i64 t181)) (fun _ hk => hk.2) (.slice Ao29 t182.length co29)) (fun _ h_ => h_.1))) (Kd.R_base ho31) hb); have n1_ := Aside0.mk (Kd.R_below (by (with_reducible repeat (first | apply Kd.R_alloc | apply Kd.R_drewN | apply Kd.R_drew)); exact (Kd.R_mono (Kd.R_far (p := ⟨gb186, 2, none⟩) (Kd.R_far (p := ⟨gb186, 1, none⟩) (Kd.R_far (p := ⟨gb186, 0, none⟩) (Kd.R_types HO184.out BK186.out (by decide)) (fun _ hk => hk.2) (.int .i64 t180)) (fun _ hk => hk.2) (.int .i64 t181)) (fun _ hk => hk.2) (.slice Ao29 t182.length co29)) (fun _ h_ => h_.1))) hb); have n2_ := Aside0.mk (Kd.R_lower (Kd.R_new' ho31 (Kd.R_lt (by (with_reducible repeat (first | apply Kd.R_alloc | apply Kd.R_drewN | apply Kd.R_drew)); exact (Kd.R_mono (Kd.R_far (p := ⟨gb186, 2, none⟩) (Kd.R_far (p := ⟨gb186, 1, none⟩) (Kd.R_far (p := ⟨gb186, 0, none⟩) (Kd.R_types HO179.out BK186.out (by decide)) (fun _ hk => hk.2) (.int .i64 t180)) (fun _ hk => hk.2) (.int .i64 t181)) (fun _ hk => hk.2) (.slice Ao29 t182.length co29)) (fun _ h_ => h_.1))))) (below_size (hq_ HB))); have n3_ := Aside0.mk (blk_below (g := gb175) (o := .cells #[.int .u8 255, .int .u8 255, .int .u8 255, .int .u8 255] 43 (0, 0)) (by (with_reducible repeat (first | refine blk_drewN ?_ _ | refine blk_drew ?_ | refine blk_alloc ?_ _)); refine blk_far ?_ NB175_186.out _; (with_reducible repeat (first | refine blk_drewN ?_ _ | refine blk_drew ?_ | refine blk_alloc ?_ _)); refine blk_far ?_ NB175_186.out _; (with_reducible repeat (first | refine blk_drewN ?_ _ | refine blk_drew ?_ | refine blk_alloc ?_ _)); refine blk_far ?_ NB175_186.out _; (with_reducible repeat (first | refine blk_drewN ?_ _ | refine blk_drew ?_ | refine blk_alloc ?_ _)); exact BK175.out) hb); have n4_ := Aside0.mk (blk_below (g := gb176) (o := .cells #[.int .u8 0, .int .u8 0, .int .u8 0, .int .u8 255] 43 (0, 0)) (by (with_reducible repeat (first | refine blk_drewN ?_ _ | refine blk_drew ?_ | refine blk_alloc ?_ _)); refine blk_far ?_ NB176_186.out _; (with_reducible repeat (first | refine blk_drewN ?_ _ | refine blk_drew ?_ | refine blk_alloc ?_ _)); refine blk_far ?_ NB176_186.out _; (with_reducible repeat (first | refine blk_drewN ?_ _ | refine blk_drew ?_ | refine blk_alloc ?_ _)); refine blk_far ?_ NB176_186.out _; (with_reducible repeat (first | refine blk_drewN ?_ _ | refine blk_drew ?_ | refine blk_alloc ?_ _)); exact BK176.out) hb); have n5_ := Aside0.mk (blk_below (g := gb186) (o := .cells #[.int .i64 t180, .int .i64 t181, .slice Ao29 t182.length co29] 27 (0, 0)) (by (with_reducible repeat (first | refine blk_drewN ?_ _ | refine blk_drew ?_ | refine blk_alloc ?_ _)); refine blk_put (cs := #[.int .i64 t180, .int .i64 t181, .slice none 0 0]) ?_ 2 _ rfl; (with_reducible repeat (first | refine blk_drewN ?_ _ | refine blk_drew ?_ | refine blk_alloc ?_ _)); refine blk_put (cs := #[.int .i64 t180, .int .i64 0, .slice none 0 0]) ?_ 1 _ rfl; (with_reducible repeat (first | refine blk_drewN ?_ _ | refine blk_drew ?_ | refine blk_alloc ?_ _)); refine blk_put (cs := #[.int .i64 0, .int .i64 0, .slice none 0 0]) ?_ 0 _ rfl; (with_reducible repeat (first | refine blk_drewN ?_ _ | refine blk_drew ?_ | refine blk_alloc ?_ _)); exact BK186.out) hb); have n6_ := hb_ HB hb; clear HO179; clear HO184; clear BK175; clear BK176; clear BK186; clear HB; have HO179 := n0_; have HO184 := n1_; have HO189 := n2_; have BK175 := n3_; have BK176 := n4_; have BK186 := n5_; have HB := n6_; clear n0_ n1_ n2_ n3_ n4_ n5_ n6_; clear hb ho31; obtain ⟨Ao32, co32, eo32⟩ := Kd.R_slice HO189.out; subst eo32) | ((with_reducible refine gate_callee (f := 14) rfl ?_); refine goesL_ (some 22) rfl rfl Try.func14 (by kernel_rfl) rfl #[.int .i64 2, .int .i64 1, .int .i64 1, .int .i64 6, .slice Ao32 y187.length co32] rfl (by (try simp only [List.map_toArray, List.map_cons, List.map_nil]) <;> rfl) ?_; (with_reducible refine (buffer_Decode.calls k 2 1 1 6 _ _ y187 t190 t191 t192 t195 _ ?side1 ?side2 A2.out).mono ?_); (case side1 => repeat (first | exact (Kd.R_reads' HO189.out).2.2 | (with_reducible refine Kd.C_alloc ?_ _) | (with_reducible refine Kd.C_drewN ?_ _) | (with_reducible refine Kd.C_drew ?_))); (case side2 => exact (Kd.R_reads' HO189.out).2.1); rintro e w33 ⟨v193, rfl, ho0, hb⟩; refine ⟨_, rfl, ?_⟩; have n0_ := Aside0.mk (Kd.R_below (by (with_reducible repeat (first | apply Kd.R_alloc | apply Kd.R_drewN | apply Kd.R_drew)); exact HO179.out) hb); have n1_ := Aside0.mk (Kd.R_elder' (by (with_reducible repeat (first | apply Kd.R_alloc | apply Kd.R_drewN | apply Kd.R_drew)); exact HO184.out) (Kd.R_base ho0) hb); have n2_ := Aside0.mk (Kd.R_below (by (with_reducible repeat (first | apply Kd.R_alloc | apply Kd.R_drewN | apply Kd.R_drew)); exact HO189.out) hb); have n3_ := Aside0.mk (Kd.R_lower (Kd.R_newB (Kd.R_newB (Kd.R_new' ho0 (Kd.R_lt (by (with_reducible repeat (first | apply Kd.R_alloc | apply Kd.R_drewN | apply Kd.R_drew)); exact HO184.out))) (g := gb175) (o := .cells #[.int .u8 255, .int .u8 255, .int .u8 255, .int .u8 255] 43 (0, 0)) (bq_ BK175)) (g := gb176) (o := .cells #[.int .u8 0, .int .u8 0, .int .u8 0, .int .u8 255] 43 (0, 0)) (bq_ BK176)) (below_size (hq_ HB))); have n4_ := bb_ BK175 hb; have n5_ := bb_ BK176 hb; have n6_ := bb_ BK186 hb; have n7_ := hb_ HB hb; clear HO179; clear HO184; clear HO189; clear BK175; clear BK176; clear BK186; clear HB; have HO179 := n0_; have HO184 := n1_; have HO189 := n2_; have HO194 := n3_; have BK175 := n4_; have BK176 := n5_; have BK186 := n6_; have HB := n7_; clear n0_ n1_ n2_ n3_ n4_ n5_ n6_ n7_; (try clear hb); (try clear hb2); (try clear hk); (try clear hi); (try clear ho0)) | ((with_reducible refine gate_dst (N := 5) rfl ?_); (try (refine gate_guard (by rfl) ?_; dsimp only)); refine box_event ?hg (N := 5) ?hd (cs := #[.int .i64 0, .int .i64 0, .slice none 0 0]) (t := 27) ?hr ?_; (case hd => rfl); (case hg => rfl); (case hr => first | (go_simp; done) | (go_simp; rfl)); intro gb196 hg w34 hbox hb; have n0_ := Aside0.mk (Kd.R_below (by (with_reducible repeat (first | apply Kd.R_alloc | apply Kd.R_drewN | apply Kd.R_drew)); exact HO179.out) hb); have n1_ := Aside0.mk (Kd.R_below (by (with_reducible repeat (first | apply Kd.R_alloc | apply Kd.R_drewN | apply Kd.R_drew)); exact HO184.out) hb); have n2_ := Aside0.mk (Kd.R_below (by (with_reducible repeat (first | apply Kd.R_alloc | apply Kd.R_drewN | apply Kd.R_drew)); exact HO189.out) hb); have n3_ := Aside0.mk (Kd.R_below (by (with_reducible repeat (first | apply Kd.R_alloc | apply Kd.R_drewN | apply Kd.R_drew)); exact HO194.out) hb); have n4_ := bb_ BK175 hb; have n5_ := bb_ BK176 hb; have n6_ := bb_ BK186 hb; have n7_ := hb_ HB hb; have n8_ := Aside0.mk (hbox); have n9_ := Aside0.mk ((by rw [hg]; exact (below_size (hq_ HB)) : w.heap.size ≤ gb196)); have n10_ := Aside0.mk ((by rw [hg]; exact (below_size (hq_ HB)) : w.heap.size ≤ gb196)); have n11_ := Aside0.mk ((by rw [hg]; exact Nat.ne_of_lt (blk_lt (g := gb175) (o := .cells #[.int .u8 255, .int .u8 255, .int .u8 255, .int .u8 255] 43 (0, 0)) (bq_ BK175)) : gb175 ≠ gb196)); have n12_ := Aside0.mk ((by rw [hg]; exact Nat.ne_of_gt (blk_lt (g := gb175) (o := .cells #[.int .u8 255, .int .u8 255, .int .u8 255, .int .u8 255] 43 (0, 0)) (bq_ BK175)) : gb196 ≠ gb175)); have n13_ := Aside0.mk ((by rw [hg]; exact Nat.ne_of_lt (blk_lt (g := gb176) (o := .cells #[.int .u8 0, .int .u8 0, .int .u8 0, .int .u8 255] 43 (0, 0)) (bq_ BK176)) : gb176 ≠ gb196)); have n14_ := Aside0.mk ((by rw [hg]; exact Nat.ne_of_gt (blk_lt (g := gb176) (o := .cells #[.int .u8 0, .int .u8 0, .int .u8 0, .int .u8 255] 43 (0, 0)) (bq_ BK176)) : gb196 ≠ gb176)); have n15_ := Aside0.mk ((by rw [hg]; exact Nat.ne_of_lt (blk_lt (g := gb186) (o := .cells #[.int .i64 t180, .int .i64 t181, .slice Ao29 t182.length co29] 27 (0, 0)) (bq_ BK186)) : gb186 ≠ gb196)); have n16_ := Aside0.mk ((by rw [hg]; exact Nat.ne_of_gt (blk_lt (g := gb186) (o := .cells #[.int .i64 t180, .int .i64 t181, .slice Ao29 t182.length co29] 27 (0, 0)) (bq_ BK186)) : gb196 ≠ gb186)); clear HO179; clear HO184; clear HO189; clear HO194; clear BK175; clear BK176; clear BK186; clear HB; have HO179 := n0_; have HO184 := n1_; have HO189 := n2_; have HO194 := n3_; have BK175 := n4_; have BK176 := n5_; have BK186 := n6_; have HB := n7_; have BK196 := n8_; have GW196 := n9_; have GE196 := n10_; have NB175_196 := n11_; have NB196_175 := n12_; have NB176_196 := n13_; have NB196_176 := n14_; have NB186_196 := n15_; have NB196_186 := n16_; clear n0_ n1_ n2_ n3_ n4_ n5_ n6_ n7_ n8_ n9_ n10_ n11_ n12_ n13_ n14_ n15_ n16_; clear hb hbox hg; have hnb35 := NB196_175.out; have hnc35 := NB175_196.out; have hnb36 := NB196_176.out; have hnc36 := NB176_196.out; have hnb37 := NB196_186.out; have hnc37 := NB186_196.out; have hcz38_0 : w34.cell? ⟨gb196, 0, none⟩ = some (.int .i64 0) := (blk_cell BK196.out 0).trans rfl; have hcz38_1 : w34.cell? ⟨gb196, 1, none⟩ = some (.int .i64 0) := (blk_cell BK196.out 1).trans rfl; have hcz38_2 : w34.cell? ⟨gb196, 2, none⟩ = some (.slice none 0 0) := (blk_cell BK196.out 2).trans rfl; have hfz38_0 := blk_frozen BK196.out 0; have hfz38_1 := blk_frozen BK196.out 1; have hfz38_2 := blk_frozen BK196.out 2; obtain ⟨Ao39, co39, eo39⟩ := Kd.R_slice HO194.out; subst eo39) | ((with_reducible refine gate_dst (N := 26) rfl ?_); (try (refine gate_guard (by rfl) ?_; dsimp only)); refine Kd.R_lit (Kd.int .u8) _ 5 ?hg (N := 26) ?hd (xs := ([1, 2, 3] : List Int)) (inner := [.int .u8 1, .int .u8 2, .int .u8 3]) (ok := fun _ => True) (okp := fun _ => True) ?hr ?hp (fun _ hk => hk) trivial (Below.refl _ _) (Nat.le_refl _) (by simp) ?_; (case hd => rfl); (case hg => rfl); (case hr => first | (go_simp; done) | (go_simp; rfl)); (case hp => exact (Reps.one (show Kd.M (Kd.int .u8) _ _ _ 1 [.int .u8 1] from rfl) (Reps.one (show Kd.M (Kd.int .u8) _ _ _ 2 [.int .u8 2] from rfl) (Reps.one (show Kd.M (Kd.int .u8) _ _ _ 3 [.int .u8 3] from rfl) (Reps.none _ _))))); intro v198 w40 ho41 hb hg_ hnew_; clear hg_ hnew_; (first | rw [← Ny197.out] at ho41 | (simp only [Int.reduceToNat] at ho41; rw [← Ny197.out] at ho41)); have n0_ := Aside0.mk (Kd.R_elder' (by (with_reducible repeat (first | apply Kd.R_alloc | apply Kd.R_drewN | apply Kd.R_drew)); exact (Kd.R_mono (Kd.R_far (p := ⟨gb196, 2, none⟩) (Kd.R_far (p := ⟨gb196, 1, none⟩) (Kd.R_far (p := ⟨gb196, 0, none⟩) (Kd.R_types HO179.out BK196.out (by decide)) (fun _ hk => hk.2) (.int .i64 t190)) (fun _ hk => hk.2) (.int .i64 t191)) (fun _ hk => hk.2) (.slice Ao39 t192.length co39)) (fun _ h_ => h_.1))) (Kd.R_base ho41) hb); have n1_ := Aside0.mk (Kd.R_below (by (with_reducible repeat (first | apply Kd.R_alloc | apply Kd.R_drewN | apply Kd.R_drew)); exact (Kd.R_mono (Kd.R_far (p := ⟨gb196, 2, none⟩) (Kd.R_far (p := ⟨gb196, 1, none⟩) (Kd.R_far (p := ⟨gb196, 0, none⟩) (Kd.R_types HO184.out BK196.out (by decide)) (fun _ hk => hk.2) (.int .i64 t190)) (fun _ hk => hk.2) (.int .i64 t191)) (fun _ hk => hk.2) (.slice Ao39 t192.length co39)) (fun _ h_ => h_.1))) hb); have n2_ := Aside0.mk (Kd.R_elder' (by (with_reducible repeat (first | apply Kd.R_alloc | apply Kd.R_drewN | apply Kd.R_drew)); exact (Kd.R_mono (Kd.R_far (p := ⟨gb196, 2, none⟩) (Kd.R_far (p := ⟨gb196, 1, none⟩) (Kd.R_far (p := ⟨gb196, 0, none⟩) (Kd.R_types HO189.out BK196.out (by decide)) (fun _ hk => hk.2) (.int .i64 t190)) (fun _ hk => hk.2) (.int .i64 t191)) (fun _ hk => hk.2) (.slice Ao39 t192.length co39)) (fun _ h_ => h_.1))) (Kd.R_base ho41) hb); have n3_ := Aside0.mk (Kd.R_below (by (with_reducible repeat (first | apply Kd.R_alloc | apply Kd.R_drewN | apply Kd.R_drew)); exact (Kd.R_mono (Kd.R_far (p := ⟨gb196, 2, none⟩) (Kd.R_far (p := ⟨gb196, 1, none⟩) (Kd.R_far (p := ⟨gb196, 0, none⟩) (Kd.R_types HO194.out BK196.out (by decide)) (fun _ hk => hk.2) (.int .i64 t190)) (fun _ hk => hk.2) (.int .i64 t191)) (fun _ hk => hk.2) (.slice Ao39 t192.length co39)) (fun _ h_ => h_.1))) hb); have n4_ := Aside0.mk (Kd.R_lower (Kd.R_new' (Kd.R_new' ho41 (Kd.R_lt (by (with_reducible repeat (first | apply Kd.R_alloc | apply Kd.R_drewN | apply Kd.R_drew)); exact (Kd.R_mono (Kd.R_far (p := ⟨gb196, 2, none⟩) (Kd.R_far (p := ⟨gb196, 1, none⟩) (Kd.R_far (p := ⟨gb196, 0, none⟩) (Kd.R_types HO179.out BK196.out (by decide)) (fun _ hk => hk.2) (.int .i64 t190)) (fun _ hk => hk.2) (.int .i64 t191)) (fun _ hk => hk.2) (.slice Ao39 t192.length co39)) (fun _ h_ => h_.1))))) (Kd.R_lt (by (with_reducible repeat (first | apply Kd.R_alloc | apply Kd.R_drewN | apply Kd.R_drew)); exact (Kd.R_mono (Kd.R_far (p := ⟨gb196, 2, none⟩) (Kd.R_far (p := ⟨gb196, 1, none⟩) (Kd.R_far (p := ⟨gb196, 0, none⟩) (Kd.R_types HO189.out BK196.out (by decide)) (fun _ hk => hk.2) (.int .i64 t190)) (fun _ hk => hk.2) (.int .i64 t191)) (fun _ hk => hk.2) (.slice Ao39 t192.length co39)) (fun _ h_ => h_.1))))) (below_size (hq_ HB))); have n5_ := Aside0.mk (blk_below (g := gb175) (o := .cells #[.int .u8 255, .int .u8 255, .int .u8 255, .int .u8 255] 43 (0, 0)) (by (with_reducible repeat (first | refine blk_drewN ?_ _ | refine blk_drew ?_ | refine blk_alloc ?_ _)); refine blk_far ?_ NB175_196.out _; (with_reducible repeat (first | refine blk_drewN ?_ _ | refine blk_drew ?_ | refine blk_alloc ?_ _)); refine blk_far ?_ NB175_196.out _; (with_reducible repeat (first | refine blk_drewN ?_ _ | refine blk_drew ?_ | refine blk_alloc ?_ _)); refine blk_far ?_ NB175_196.out _; (with_reducible repeat (first | refine blk_drewN ?_ _ | refine blk_drew ?_ | refine blk_alloc ?_ _)); exact BK175.out) hb); have n6_ := Aside0.mk (blk_below (g := gb176) (o := .cells #[.int .u8 0, .int .u8 0, .int .u8 0, .int .u8 255] 43 (0, 0)) (by (with_reducible repeat (first | refine blk_drewN ?_ _ | refine blk_drew ?_ | refine blk_alloc ?_ _)); refine blk_far ?_ NB176_196.out _; (with_reducible repeat (first | refine blk_drewN ?_ _ | refine blk_drew ?_ | refine blk_alloc ?_ _)); refine blk_far ?_ NB176_196.out _; (with_reducible repeat (first | refine blk_drewN ?_ _ | refine blk_drew ?_ | refine blk_alloc ?_ _)); refine blk_far ?_ NB176_196.out _; (with_reducible repeat (first | refine blk_drewN ?_ _ | refine blk_drew ?_ | refine blk_alloc ?_ _)); exact BK176.out) hb); have n7_ := Aside0.mk (blk_below (g := gb186) (o := .cells #[.int .i64 t180, .int .i64 t181, .slice Ao29 t182.length co29] 27 (0, 0)) (by (with_reducible repeat (first | refine blk_drewN ?_ _ | refine blk_drew ?_ | refine blk_alloc ?_ _)); refine blk_far ?_ NB186_196.out _; (with_reducible repeat (first | refine blk_drewN ?_ _ | refine blk_drew ?_ | refine blk_alloc ?_ _)); refine blk_far ?_ NB186_196.out _; (with_reducible repeat (first | refine blk_drewN ?_ _ | refine blk_drew ?_ | refine blk_alloc ?_ _)); refine blk_far ?_ NB186_196.out _; (with_reducible repeat (first | refine blk_drewN ?_ _ | refine blk_drew ?_ | refine blk_alloc ?_ _)); exact BK186.out) hb); have n8_ := Aside0.mk (blk_below (g := gb196) (o := .cells #[.int .i64 t190, .int .i64 t191, .slice Ao39 t192.length co39] 27 (0, 0)) (by (with_reducible repeat (first | refine blk_drewN ?_ _ | refine blk_drew ?_ | refine blk_alloc ?_ _)); refine blk_put (cs := #[.int .i64 t190, .int .i64 t191, .slice none 0 0]) ?_ 2 _ rfl; (with_reducible repeat (first | refine blk_drewN ?_ _ | refine blk_drew ?_ | refine blk_alloc ?_ _)); refine blk_put (cs := #[.int .i64 t190, .int .i64 0, .slice none 0 0]) ?_ 1 _ rfl; (with_reducible repeat (first | refine blk_drewN ?_ _ | refine blk_drew ?_ | refine blk_alloc ?_ _)); refine blk_put (cs := #[.int .i64 0, .int .i64 0, .slice none 0 0]) ?_ 0 _ rfl; (with_reducible repeat (first | refine blk_drewN ?_ _ | refine blk_drew ?_ | refine blk_alloc ?_ _)); exact BK196.out) hb); have n9_ := hb_ HB hb; clear HO179; clear HO184; clear HO189; clear HO194; clear BK175; clear BK176; clear BK186; clear BK196; clear HB; have HO179 := n0_; have HO184 := n1_; have HO189 := n2_; have HO194 := n3_; have HO199 := n4_; have BK175 := n5_; have BK176 := n6_; have BK186 := n7_; have BK196 := n8_; have HB := n9_; clear n0_ n1_ n2_ n3_ n4_ n5_ n6_ n7_ n8_ n9_; clear hb ho41; obtain ⟨Ao42, co42, eo42⟩ := Kd.R_slice HO199.out; subst eo42) | ((with_reducible refine gate_callee (f := 14) rfl ?_); refine goesL_ (some 27) rfl rfl Try.func14 (by kernel_rfl) rfl #[.int .i64 2, .int .i64 1, .int .i64 1, .int .i64 4, .slice Ao42 y197.length co42] rfl (by (try simp only [List.map_toArray, List.map_cons, List.map_nil]) <;> rfl) ?_; (with_reducible refine (buffer_Decode.calls k 2 1 1 4 _ _ y197 t200 t201 t202 t205 _ ?side1 ?side2 A3.out).mono ?_); (case side1 => repeat (first | exact (Kd.R_reads' HO199.out).2.2 | (with_reducible refine Kd.C_alloc ?_ _) | (with_reducible refine Kd.C_drewN ?_ _) | (with_reducible refine Kd.C_drew ?_))); (case side2 => exact (Kd.R_reads' HO199.out).2.1); rintro e w43 ⟨v203, rfl, ho0, hb⟩; refine ⟨_, rfl, ?_⟩; have n0_ := Aside0.mk (Kd.R_below (by (with_reducible repeat (first | apply Kd.R_alloc | apply Kd.R_drewN | apply Kd.R_drew)); exact HO179.out) hb); have n1_ := Aside0.mk (Kd.R_elder' (by (with_reducible repeat (first | apply Kd.R_alloc | apply Kd.R_drewN | apply Kd.R_drew)); exact HO184.out) (Kd.R_base ho0) hb); have n2_ := Aside0.mk (Kd.R_below (by (with_reducible repeat (first | apply Kd.R_alloc | apply Kd.R_drewN | apply Kd.R_drew)); exact HO189.out) hb); have n3_ := Aside0.mk (Kd.R_elder' (by (with_reducible repeat (first | apply Kd.R_alloc | apply Kd.R_drewN | apply Kd.R_drew)); exact HO194.out) (Kd.R_base ho0) hb); have n4_ := Aside0.mk (Kd.R_below (by (with_reducible repeat (first | apply Kd.R_alloc | apply Kd.R_drewN | apply Kd.R_drew)); exact HO199.out) hb); have n5_ := Aside0.mk (Kd.R_lower (Kd.R_newB (Kd.R_newB (Kd.R_new' (Kd.R_new' ho0 (Kd.R_lt (by (with_reducible repeat (first | apply Kd.R_alloc | apply Kd.R_drewN | apply Kd.R_drew)); exact HO184.out))) (Kd.R_lt (by (with_reducible repeat (first | apply Kd.R_alloc | apply Kd.R_drewN | apply Kd.R_drew)); exact HO194.out))) (g := gb175) (o := .cells #[.int .u8 255, .int .u8 255, .int .u8 255, .int .u8 255] 43 (0, 0)) (bq_ BK175)) (g := gb176) (o := .cells #[.int .u8 0, .int .u8 0, .int .u8 0, .int .u8 255] 43 (0, 0)) (bq_ BK176)) (below_size (hq_ HB))); have n6_ := bb_ BK175 hb; have n7_ := bb_ BK176 hb; have n8_ := bb_ BK186 hb; have n9_ := bb_ BK196 hb; have n10_ := hb_ HB hb; clear HO179; clear HO184; clear HO189; clear HO194; clear HO199; clear BK175; clear BK176; clear BK186; clear BK196; clear HB; have HO179 := n0_; have HO184 := n1_; have HO189 := n2_; have HO194 := n3_; have HO199 := n4_; have HO204 := n5_; have BK175 := n6_; have BK176 := n7_; have BK186 := n8_; have BK196 := n9_; have HB := n10_; clear n0_ n1_ n2_ n3_ n4_ n5_ n6_ n7_ n8_ n9_ n10_; (try clear hb); (try clear hb2); (try clear hk); (try clear hi); (try clear ho0)) | ((with_reducible refine gate_dst (N := 7) rfl ?_); (try (refine gate_guard (by rfl) ?_; dsimp only)); refine box_event ?hg (N := 7) ?hd (cs := #[.int .i64 0, .int .i64 0, .slice none 0 0]) (t := 27) ?hr ?_; (case hd => rfl); (case hg => rfl); (case hr => first | (go_simp; done) | (go_simp; rfl)); intro gb206 hg w44 hbox hb; have n0_ := Aside0.mk (Kd.R_below (by (with_reducible repeat (first | apply Kd.R_alloc | apply Kd.R_drewN | apply Kd.R_drew)); exact HO179.out) hb); have n1_ := Aside0.mk (Kd.R_below (by (with_reducible repeat (first | apply Kd.R_alloc | apply Kd.R_drewN | apply Kd.R_drew)); exact HO184.out) hb); have n2_ := Aside0.mk (Kd.R_below (by (with_reducible repeat (first | apply Kd.R_alloc | apply Kd.R_drewN | apply Kd.R_drew)); exact HO189.out) hb); have n3_ := Aside0.mk (Kd.R_below (by (with_reducible repeat (first | apply Kd.R_alloc | apply Kd.R_drewN | apply Kd.R_drew)); exact HO194.out) hb); have n4_ := Aside0.mk (Kd.R_below (by (with_reducible repeat (first | apply Kd.R_alloc | apply Kd.R_drewN | apply Kd.R_drew)); exact HO199.out) hb); have n5_ := Aside0.mk (Kd.R_below (by (with_reducible repeat (first | apply Kd.R_alloc | apply Kd.R_drewN | apply Kd.R_drew)); exact HO204.out) hb); have n6_ := bb_ BK175 hb; have n7_ := bb_ BK176 hb; have n8_ := bb_ BK186 hb; have n9_ := bb_ BK196 hb; have n10_ := hb_ HB hb; have n11_ := Aside0.mk (hbox); have n12_ := Aside0.mk ((by rw [hg]; exact (below_size (hq_ HB)) : w.heap.size ≤ gb206)); have n13_ := Aside0.mk ((by rw [hg]; exact (below_size (hq_ HB)) : w.heap.size ≤ gb206)); have n14_ := Aside0.mk ((by rw [hg]; exact Nat.ne_of_lt (blk_lt (g := gb175) (o := .cells #[.int .u8 255, .int .u8 255, .int .u8 255, .int .u8 255] 43 (0, 0)) (bq_ BK175)) : gb175 ≠ gb206)); have n15_ := Aside0.mk ((by rw [hg]; exact Nat.ne_of_gt (blk_lt (g := gb175) (o := .cells #[.int .u8 255, .int .u8 255, .int .u8 255, .int .u8 255] 43 (0, 0)) (bq_ BK175)) : gb206 ≠ gb175)); have n16_ := Aside0.mk ((by rw [hg]; exact Nat.ne_of_lt (blk_lt (g := gb176) (o := .cells #[.int .u8 0, .int .u8 0, .int .u8 0, .int .u8 255] 43 (0, 0)) (bq_ BK176)) : gb176 ≠ gb206)); have n17_ := Aside0.mk ((by rw [hg]; exact Nat.ne_of_gt (blk_lt (g := gb176) (o := .cells #[.int .u8 0, .int .u8 0, .int .u8 0, .int .u8 255] 43 (0, 0)) (bq_ BK176)) : gb206 ≠ gb176)); have n18_ := Aside0.mk ((by rw [hg]; exact Nat.ne_of_lt (blk_lt (g := gb186) (o := .cells #[.int .i64 t180, .int .i64 t181, .slice Ao29 t182.length co29] 27 (0, 0)) (bq_ BK186)) : gb186 ≠ gb206)); have n19_ := Aside0.mk ((by rw [hg]; exact Nat.ne_of_gt (blk_lt (g := gb186) (o := .cells #[.int .i64 t180, .int .i64 t181, .slice Ao29 t182.length co29] 27 (0, 0)) (bq_ BK186)) : gb206 ≠ gb186)); have n20_ := Aside0.mk ((by rw [hg]; exact Nat.ne_of_lt (blk_lt (g := gb196) (o := .cells #[.int .i64 t190, .int .i64 t191, .slice Ao39 t192.length co39] 27 (0, 0)) (bq_ BK196)) : gb196 ≠ gb206)); have n21_ := Aside0.mk ((by rw [hg]; exact Nat.ne_of_gt (blk_lt (g := gb196) (o := .cells #[.int .i64 t190, .int .i64 t191, .slice Ao39 t192.length co39] 27 (0, 0)) (bq_ BK196)) : gb206 ≠ gb196)); clear HO179; clear HO184; clear HO189; clear HO194; clear HO199; clear HO204; clear BK175; clear BK176; clear BK186; clear BK196; clear HB; have HO179 := n0_; have HO184 := n1_; have HO189 := n2_; have HO194 := n3_; have HO199 := n4_; have HO204 := n5_; have BK175 := n6_; have BK176 := n7_; have BK186 := n8_; have BK196 := n9_; have HB := n10_; have BK206 := n11_; have GW206 := n12_; have GE206 := n13_; have NB175_206 := n14_; have NB206_175 := n15_; have NB176_206 := n16_; have NB206_176 := n17_; have NB186_206 := n18_; have NB206_186 := n19_; have NB196_206 := n20_; have NB206_196 := n21_; clear n0_ n1_ n2_ n3_ n4_ n5_ n6_ n7_ n8_ n9_ n10_ n11_ n12_ n13_ n14_ n15_ n16_ n17_ n18_ n19_ n20_ n21_; clear hb hbox hg; have hnb45 := NB206_175.out; have hnc45 := NB175_206.out; have hnb46 := NB206_176.out; have hnc46 := NB176_206.out; have hnb47 := NB206_186.out; have hnc47 := NB186_206.out; have hnb48 := NB206_196.out; have hnc48 := NB196_206.out; have hcz49_0 : w44.cell? ⟨gb206, 0, none⟩ = some (.int .i64 0) := (blk_cell BK206.out 0).trans rfl; have hcz49_1 : w44.cell? ⟨gb206, 1, none⟩ = some (.int .i64 0) := (blk_cell BK206.out 1).trans rfl; have hcz49_2 : w44.cell? ⟨gb206, 2, none⟩ = some (.slice none 0 0) := (blk_cell BK206.out 2).trans rfl; have hfz49_0 := blk_frozen BK206.out 0; have hfz49_1 := blk_frozen BK206.out 1; have hfz49_2 := blk_frozen BK206.out 2; obtain ⟨Ao50, co50, eo50⟩ := Kd.R_slice HO204.out; subst eo50; have hcz51_0 : w44.cell? ⟨gb175, 0, none⟩ = some (.int .u8 255) := (blk_cell BK175.out 0).trans rfl; have hcz51_1 : w44.cell? ⟨gb175, 1, none⟩ = some (.int .u8 255) := (blk_cell BK175.out 1).trans rfl; have hcz51_2 : w44.cell? ⟨gb175, 2, none⟩ = some (.int .u8 255) := (blk_cell BK175.out 2).trans rfl; have hcz51_3 : w44.cell? ⟨gb175, 3, none⟩ = some (.int .u8 255) := (blk_cell BK175.out 3).trans rfl; have hfz51_0 := blk_frozen BK175.out 0; have hfz51_1 := blk_frozen BK175.out 1; have hfz51_2 := blk_frozen BK175.out 2; have hfz51_3 := blk_frozen BK175.out 3) | ((with_reducible refine gate_dst (N := 34) rfl ?_); (try (refine gate_guard (by rfl) ?_; dsimp only)); refine Kd.R_lit k43 _ 43 ?hg (N := 34) ?hd (xs := ([(⟨255, 255, 255, 255⟩ : S43), (⟨255, 255, 255, 255⟩ : S43), (⟨255, 255, 255, 255⟩ : S43)] : List (S43))) (inner := [.int .u8 255, .int .u8 255, .int .u8 255, .int .u8 255, .int .u8 255, .int .u8 255, .int .u8 255, .int .u8 255, .int .u8 255, .int .u8 255, .int .u8 255, .int .u8 255]) (ok := fun _ => True) (okp := fun _ => True) ?hr ?hp (fun _ hk => hk) trivial (Below.refl _ _) (Nat.le_refl _) (by simp) ?_; (case hd => rfl); (case hg => rfl); (case hr => first | (go_simp; done) | (go_simp; rfl)); (case hp => exact (Reps.c4 (show Kd.M k43 _ _ _ (⟨255, 255, 255, 255⟩ : S43) [.int .u8 255, .int .u8 255, .int .u8 255, .int .u8 255] from (k43_mkM _ _ _ (⟨255, 255, 255, 255⟩ : S43) )) (Reps.c4 (show Kd.M k43 _ _ _ (⟨255, 255, 255, 255⟩ : S43) [.int .u8 255, .int .u8 255, .int .u8 255, .int .u8 255] from (k43_mkM _ _ _ (⟨255, 255, 255, 255⟩ : S43) )) (Reps.c4 (show Kd.M k43 _ _ _ (⟨255, 255, 255, 255⟩ : S43) [.int .u8 255, .int .u8 255, .int .u8 255, .int .u8 255] from (k43_mkM _ _ _ (⟨255, 255, 255, 255⟩ : S43) )) (Reps.none _ _))))); intro v208 w52 ho53 hb hg_ hnew_; clear hg_ hnew_; (first | rw [← Ny207.out] at ho53 | (simp only [Int.reduceToNat] at ho53; rw [← Ny207.out] at ho53)); have n0_ := Aside0.mk (Kd.R_below (by (with_reducible repeat (first | apply Kd.R_alloc | apply Kd.R_drewN | apply Kd.R_drew)); exact (Kd.R_mono (Kd.R_far (p := ⟨gb206, 2, none⟩) (Kd.R_far (p := ⟨gb206, 1, none⟩) (Kd.R_far (p := ⟨gb206, 0, none⟩) (Kd.R_types HO179.out BK206.out (by decide)) (fun _ hk => hk.2) (.int .i64 t200)) (fun _ hk => hk.2) (.int .i64 t201)) (fun _ hk => hk.2) (.slice Ao50 t202.length co50)) (fun _ h_ => h_.1))) hb); have n1_ := Aside0.mk (Kd.R_elder' (by (with_reducible repeat (first | apply Kd.R_alloc | apply Kd.R_drewN | apply Kd.R_drew)); exact (Kd.R_mono (Kd.R_far (p := ⟨gb206, 2, none⟩) (Kd.R_far (p := ⟨gb206, 1, none⟩) (Kd.R_far (p := ⟨gb206, 0, none⟩) (Kd.R_types HO184.out BK206.out (by decide)) (fun _ hk => hk.2) (.int .i64 t200)) (fun _ hk => hk.2) (.int .i64 t201)) (fun _ hk => hk.2) (.slice Ao50 t202.length co50)) (fun _ h_ => h_.1))) (Kd.R_base ho53) hb); have n2_ := Aside0.mk (Kd.R_below (by (with_reducible repeat (first | apply Kd.R_alloc | apply Kd.R_drewN | apply Kd.R_drew)); exact (Kd.R_mono (Kd.R_far (p := ⟨gb206, 2, none⟩) (Kd.R_far (p := ⟨gb206, 1, none⟩) (Kd.R_far (p := ⟨gb206, 0, none⟩) (Kd.R_types HO189.out BK206.out (by decide)) (fun _ hk => hk.2) (.int .i64 t200)) (fun _ hk => hk.2) (.int .i64 t201)) (fun _ hk => hk.2) (.slice Ao50 t202.length co50)) (fun _ h_ => h_.1))) hb); have n3_ := Aside0.mk (Kd.R_elder' (by (with_reducible repeat (first | apply Kd.R_alloc | apply Kd.R_drewN | apply Kd.R_drew)); exact (Kd.R_mono (Kd.R_far (p := ⟨gb206, 2, none⟩) (Kd.R_far (p := ⟨gb206, 1, none⟩) (Kd.R_far (p := ⟨gb206, 0, none⟩) (Kd.R_types HO194.out BK206.out (by decide)) (fun _ hk => hk.2) (.int .i64 t200)) (fun _ hk => hk.2) (.int .i64 t201)) (fun _ hk => hk.2) (.slice Ao50 t202.length co50)) (fun _ h_ => h_.1))) (Kd.R_base ho53) hb); have n4_ := Aside0.mk (Kd.R_below (by (with_reducible repeat (first | apply Kd.R_alloc | apply Kd.R_drewN | apply Kd.R_drew)); exact (Kd.R_mono (Kd.R_far (p := ⟨gb206, 2, none⟩) (Kd.R_far (p := ⟨gb206, 1, none⟩) (Kd.R_far (p := ⟨gb206, 0, none⟩) (Kd.R_types HO199.out BK206.out (by decide)) (fun _ hk => hk.2) (.int .i64 t200)) (fun _ hk => hk.2) (.int .i64 t201)) (fun _ hk => hk.2) (.slice Ao50 t202.length co50)) (fun _ h_ => h_.1))) hb); have n5_ := Aside0.mk (Kd.R_elder' (by (with_reducible repeat (first | apply Kd.R_alloc | apply Kd.R_drewN | apply Kd.R_drew)); exact (Kd.R_mono (Kd.R_far (p := ⟨gb206, 2, none⟩) (Kd.R_far (p := ⟨gb206, 1, none⟩) (Kd.R_far (p := ⟨gb206, 0, none⟩) (Kd.R_types HO204.out BK206.out (by decide)) (fun _ hk => hk.2) (.int .i64 t200)) (fun _ hk => hk.2) (.int .i64 t201)) (fun _ hk => hk.2) (.slice Ao50 t202.length co50)) (fun _ h_ => h_.1))) (Kd.R_base ho53) hb); have n6_ := Aside0.mk (Kd.R_lower (Kd.R_newB (Kd.R_newB (Kd.R_new' (Kd.R_new' (Kd.R_new' ho53 (Kd.R_lt (by (with_reducible repeat (first | apply Kd.R_alloc | apply Kd.R_drewN | apply Kd.R_drew)); exact (Kd.R_mono (Kd.R_far (p := ⟨gb206, 2, none⟩) (Kd.R_far (p := ⟨gb206, 1, none⟩) (Kd.R_far (p := ⟨gb206, 0, none⟩) (Kd.R_types HO184.out BK206.out (by decide)) (fun _ hk => hk.2) (.int .i64 t200)) (fun _ hk => hk.2) (.int .i64 t201)) (fun _ hk => hk.2) (.slice Ao50 t202.length co50)) (fun _ h_ => h_.1))))) (Kd.R_lt (by (with_reducible repeat (first | apply Kd.R_alloc | apply Kd.R_drewN | apply Kd.R_drew)); exact (Kd.R_mono (Kd.R_far (p := ⟨gb206, 2, none⟩) (Kd.R_far (p := ⟨gb206, 1, none⟩) (Kd.R_far (p := ⟨gb206, 0, none⟩) (Kd.R_types HO194.out BK206.out (by decide)) (fun _ hk => hk.2) (.int .i64 t200)) (fun _ hk => hk.2) (.int .i64 t201)) (fun _ hk => hk.2) (.slice Ao50 t202.length co50)) (fun _ h_ => h_.1))))) (Kd.R_lt (by (with_reducible repeat (first | apply Kd.R_alloc | apply Kd.R_drewN | apply Kd.R_drew)); exact (Kd.R_mono (Kd.R_far (p := ⟨gb206, 2, none⟩) (Kd.R_far (p := ⟨gb206, 1, none⟩) (Kd.R_far (p := ⟨gb206, 0, none⟩) (Kd.R_types HO204.out BK206.out (by decide)) (fun _ hk => hk.2) (.int .i64 t200)) (fun _ hk => hk.2) (.int .i64 t201)) (fun _ hk => hk.2) (.slice Ao50 t202.length co50)) (fun _ h_ => h_.1))))) (g := gb175) (o := .cells #[.int .u8 255, .int .u8 255, .int .u8 255, .int .u8 255] 43 (0, 0)) (by (with_reducible repeat (first | refine blk_drewN ?_ _ | refine blk_drew ?_ | refine blk_alloc ?_ _)); refine blk_far ?_ NB175_206.out _; (with_reducible repeat (first | refine blk_drewN ?_ _ | refine blk_drew ?_ | refine blk_alloc ?_ _)); refine blk_far ?_ NB175_206.out _; (with_reducible repeat (first | refine blk_drewN ?_ _ | refine blk_drew ?_ | refine blk_alloc ?_ _)); refine blk_far ?_ NB175_206.out _; (with_reducible repeat (first | refine blk_drewN ?_ _ | refine blk_drew ?_ | refine blk_alloc ?_ _)); exact BK175.out)) (g := gb176) (o := .cells #[.int .u8 0, .int .u8 0, .int .u8 0, .int .u8 255] 43 (0, 0)) (by (with_reducible repeat (first | refine blk_drewN ?_ _ | refine blk_drew ?_ | refine blk_alloc ?_ _)); refine blk_far ?_ NB176_206.out _; (with_reducible repeat (first | refine blk_drewN ?_ _ | refine blk_drew ?_ | refine blk_alloc ?_ _)); refine blk_far ?_ NB176_206.out _; (with_reducible repeat (first | refine blk_drewN ?_ _ | refine blk_drew ?_ | refine blk_alloc ?_ _)); refine blk_far ?_ NB176_206.out _; (with_reducible repeat (first | refine blk_drewN ?_ _ | refine blk_drew ?_ | refine blk_alloc ?_ _)); exact BK176.out)) (below_size (hq_ HB))); have n7_ := Aside0.mk (blk_below (g := gb175) (o := .cells #[.int .u8 255, .int .u8 255, .int .u8 255, .int .u8 255] 43 (0, 0)) (by (with_reducible repeat (first | refine blk_drewN ?_ _ | refine blk_drew ?_ | refine blk_alloc ?_ _)); refine blk_far ?_ NB175_206.out _; (with_reducible repeat (first | refine blk_drewN ?_ _ | refine blk_drew ?_ | refine blk_alloc ?_ _)); refine blk_far ?_ NB175_206.out _; (with_reducible repeat (first | refine blk_drewN ?_ _ | refine blk_drew ?_ | refine blk_alloc ?_ _)); refine blk_far ?_ NB175_206.out _; (with_reducible repeat (first | refine blk_drewN ?_ _ | refine blk_drew ?_ | refine blk_alloc ?_ _)); exact BK175.out) hb); have n8_ := Aside0.mk (blk_below (g := gb176) (o := .cells #[.int .u8 0, .int .u8 0, .int .u8 0, .int .u8 255] 43 (0, 0)) (by (with_reducible repeat (first | refine blk_drewN ?_ _ | refine blk_drew ?_ | refine blk_alloc ?_ _)); refine blk_far ?_ NB176_206.out _; (with_reducible repeat (first | refine blk_drewN ?_ _ | refine blk_drew ?_ | refine blk_alloc ?_ _)); refine blk_far ?_ NB176_206.out _; (with_reducible repeat (first | refine blk_drewN ?_ _ | refine blk_drew ?_ | refine blk_alloc ?_ _)); refine blk_far ?_ NB176_206.out _; (with_reducible repeat (first | refine blk_drewN ?_ _ | refine blk_drew ?_ | refine blk_alloc ?_ _)); exact BK176.out) hb); have n9_ := Aside0.mk (blk_below (g := gb186) (o := .cells #[.int .i64 t180, .int .i64 t181, .slice Ao29 t182.length co29] 27 (0, 0)) (by (with_reducible repeat (first | refine blk_drewN ?_ _ | refine blk_drew ?_ | refine blk_alloc ?_ _)); refine blk_far ?_ NB186_206.out _; (with_reducible repeat (first | refine blk_drewN ?_ _ | refine blk_drew ?_ | refine blk_alloc ?_ _)); refine blk_far ?_ NB186_206.out _; (with_reducible repeat (first | refine blk_drewN ?_ _ | refine blk_drew ?_ | refine blk_alloc ?_ _)); refine blk_far ?_ NB186_206.out _; (with_reducible repeat (first | refine blk_drewN ?_ _ | refine blk_drew ?_ | refine blk_alloc ?_ _)); exact BK186.out) hb); have n10_ := Aside0.mk (blk_below (g := gb196) (o := .cells #[.int .i64 t190, .int .i64 t191, .slice Ao39 t192.length co39] 27 (0, 0)) (by (with_reducible repeat (first | refine blk_drewN ?_ _ | refine blk_drew ?_ | refine blk_alloc ?_ _)); refine blk_far ?_ NB196_206.out _; (with_reducible repeat (first | refine blk_drewN ?_ _ | refine blk_drew ?_ | refine blk_alloc ?_ _)); refine blk_far ?_ NB196_206.out _; (with_reducible repeat (first | refine blk_drewN ?_ _ | refine blk_drew ?_ | refine blk_alloc ?_ _)); refine blk_far ?_ NB196_206.out _; (with_reducible repeat (first | refine blk_drewN ?_ _ | refine blk_drew ?_ | refine blk_alloc ?_ _)); exact BK196.out) hb); have n11_ := Aside0.mk (blk_below (g := gb206) (o := .cells #[.int .i64 t200, .int .i64 t201, .slice Ao50 t202.length co50] 27 (0, 0)) (by (with_reducible repeat (first | refine blk_drewN ?_ _ | refine blk_drew ?_ | refine blk_alloc ?_ _)); refine blk_put (cs := #[.int .i64 t200, .int .i64 t201, .slice none 0 0]) ?_ 2 _ rfl; (with_reducible repeat (first | refine blk_drewN ?_ _ | refine blk_drew ?_ | refine blk_alloc ?_ _)); refine blk_put (cs := #[.int .i64 t200, .int .i64 0, .slice none 0 0]) ?_ 1 _ rfl; (with_reducible repeat (first | refine blk_drewN ?_ _ | refine blk_drew ?_ | refine blk_alloc ?_ _)); refine blk_put (cs := #[.int .i64 0, .int .i64 0, .slice none 0 0]) ?_ 0 _ rfl; (with_reducible repeat (first | refine blk_drewN ?_ _ | refine blk_drew ?_ | refine blk_alloc ?_ _)); exact BK206.out) hb); have n12_ := hb_ HB hb; clear HO179; clear HO184; clear HO189; clear HO194; clear HO199; clear HO204; clear BK175; clear BK176; clear BK186; clear BK196; clear BK206; clear HB; have HO179 := n0_; have HO184 := n1_; have HO189 := n2_; have HO194 := n3_; have HO199 := n4_; have HO204 := n5_; have HO209 := n6_; have BK175 := n7_; have BK176 := n8_; have BK186 := n9_; have BK196 := n10_; have BK206 := n11_; have HB := n12_; clear n0_ n1_ n2_ n3_ n4_ n5_ n6_ n7_ n8_ n9_ n10_ n11_ n12_; clear hb ho53; obtain ⟨Ao54, co54, eo54⟩ := Kd.R_slice HO209.out; subst eo54; have hcz55_0 : w52.cell? ⟨gb175, 0, none⟩ = some (.int .u8 255) := (blk_cell BK175.out 0).trans rfl; have hcz55_1 : w52.cell? ⟨gb175, 1, none⟩ = some (.int .u8 255) := (blk_cell BK175.out 1).trans rfl; have hcz55_2 : w52.cell? ⟨gb175, 2, none⟩ = some (.int .u8 255) := (blk_cell BK175.out 2).trans rfl; have hcz55_3 : w52.cell? ⟨gb175, 3, none⟩ = some (.int .u8 255) := (blk_cell BK175.out 3).trans rfl; have hfz55_0 := blk_frozen BK175.out 0; have hfz55_1 := blk_frozen BK175.out 1; have hfz55_2 := blk_frozen BK175.out 2; have hfz55_3 := blk_frozen BK175.out 3; have hcz56_0 : w52.cell? ⟨gb176, 0, none⟩ = some (.int .u8 0) := (blk_cell BK176.out 0).trans rfl; have hcz56_1 : w52.cell? ⟨gb176, 1, none⟩ = some (.int .u8 0) := (blk_cell BK176.out 1).trans rfl; have hcz56_2 : w52.cell? ⟨gb176, 2, none⟩ = some (.int .u8 0) := (blk_cell BK176.out 2).trans rfl; have hcz56_3 : w52.cell? ⟨gb176, 3, none⟩ = some (.int .u8 255) := (blk_cell BK176.out 3).trans rfl; have hfz56_0 := blk_frozen BK176.out 0; have hfz56_1 := blk_frozen BK176.out 1; have hfz56_2 := blk_frozen BK176.out 2; have hfz56_3 := blk_frozen BK176.out 3) | ((with_reducible refine gate_dst (N := 39) rfl ?_); (try (refine gate_guard (by rfl) ?_; dsimp only)); refine Kd.R_lit k43 _ 43 ?hg (N := 39) ?hd (xs := ([(⟨255, 255, 255, 255⟩ : S43), (⟨0, 0, 0, 255⟩ : S43), (⟨255, 255, 255, 255⟩ : S43)] : List (S43))) (inner := [.int .u8 255, .int .u8 255, .int .u8 255, .int .u8 255, .int .u8 0, .int .u8 0, .int .u8 0, .int .u8 255, .int .u8 255, .int .u8 255, .int .u8 255, .int .u8 255]) (ok := fun _ => True) (okp := fun _ => True) ?hr ?hp (fun _ hk => hk) trivial (Below.refl _ _) (Nat.le_refl _) (by simp) ?_; (case hd => rfl); (case hg => rfl); (case hr => first | (go_simp; done) | (go_simp; rfl)); (case hp => exact (Reps.c4 (show Kd.M k43 _ _ _ (⟨255, 255, 255, 255⟩ : S43) [.int .u8 255, .int .u8 255, .int .u8 255, .int .u8 255] from (k43_mkM _ _ _ (⟨255, 255, 255, 255⟩ : S43) )) (Reps.c4 (show Kd.M k43 _ _ _ (⟨0, 0, 0, 255⟩ : S43) [.int .u8 0, .int .u8 0, .int .u8 0, .int .u8 255] from (k43_mkM _ _ _ (⟨0, 0, 0, 255⟩ : S43) )) (Reps.c4 (show Kd.M k43 _ _ _ (⟨255, 255, 255, 255⟩ : S43) [.int .u8 255, .int .u8 255, .int .u8 255, .int .u8 255] from (k43_mkM _ _ _ (⟨255, 255, 255, 255⟩ : S43) )) (Reps.none _ _))))); intro v211 w57 ho58 hb hg_ hnew_; clear hg_ hnew_; (first | rw [← Ny210.out] at ho58 | (simp only [Int.reduceToNat] at ho58; rw [← Ny210.out] at ho58)); have n0_ := Aside0.mk (Kd.R_below (by (with_reducible repeat (first | apply Kd.R_alloc | apply Kd.R_drewN | apply Kd.R_drew)); exact HO179.out) hb); have n1_ := Aside0.mk (Kd.R_elder' (by (with_reducible repeat (first | apply Kd.R_alloc | apply Kd.R_drewN | apply Kd.R_drew)); exact HO184.out) (Kd.R_base ho58) hb); have n2_ := Aside0.mk (Kd.R_below (by (with_reducible repeat (first | apply Kd.R_alloc | apply Kd.R_drewN | apply Kd.R_drew)); exact HO189.out) hb); have n3_ := Aside0.mk (Kd.R_elder' (by (with_reducible repeat (first | apply Kd.R_alloc | apply Kd.R_drewN | apply Kd.R_drew)); exact HO194.out) (Kd.R_base ho58) hb); have n4_ := Aside0.mk (Kd.R_below (by (with_reducible repeat (first | apply Kd.R_alloc | apply Kd.R_drewN | apply Kd.R_drew)); exact HO199.out) hb); have n5_ := Aside0.mk (Kd.R_elder' (by (with_reducible repeat (first | apply Kd.R_alloc | apply Kd.R_drewN | apply Kd.R_drew)); exact HO204.out) (Kd.R_base ho58) hb); have n6_ := Aside0.mk (Kd.R_elder' (by (with_reducible repeat (first | apply Kd.R_alloc | apply Kd.R_drewN | apply Kd.R_drew)); exact HO209.out) (Kd.R_base ho58) hb); have n7_ := Aside0.mk (Kd.R_lower (Kd.R_newB (Kd.R_newB (Kd.R_new' (Kd.R_new' (Kd.R_new' (Kd.R_new' ho58 (Kd.R_lt (by (with_reducible repeat (first | apply Kd.R_alloc | apply Kd.R_drewN | apply Kd.R_drew)); exact HO184.out))) (Kd.R_lt (by (with_reducible repeat (first | apply Kd.R_alloc | apply Kd.R_drewN | apply Kd.R_drew)); exact HO194.out))) (Kd.R_lt (by (with_reducible repeat (first | apply Kd.R_alloc | apply Kd.R_drewN | apply Kd.R_drew)); exact HO204.out))) (Kd.R_lt (by (with_reducible repeat (first | apply Kd.R_alloc | apply Kd.R_drewN | apply Kd.R_drew)); exact HO209.out))) (g := gb175) (o := .cells #[.int .u8 255, .int .u8 255, .int .u8 255, .int .u8 255] 43 (0, 0)) (bq_ BK175)) (g := gb176) (o := .cells #[.int .u8 0, .int .u8 0, .int .u8 0, .int .u8 255] 43 (0, 0)) (bq_ BK176)) (below_size (hq_ HB))); have n8_ := bb_ BK175 hb; have n9_ := bb_ BK176 hb; have n10_ := bb_ BK186 hb; have n11_ := bb_ BK196 hb; have n12_ := bb_ BK206 hb; have n13_ := hb_ HB hb; clear HO179; clear HO184; clear HO189; clear HO194; clear HO199; clear HO204; clear HO209; clear BK175; clear BK176; clear BK186; clear BK196; clear BK206; clear HB; have HO179 := n0_; have HO184 := n1_; have HO189 := n2_; have HO194 := n3_; have HO199 := n4_; have HO204 := n5_; have HO209 := n6_; have HO212 := n7_; have BK175 := n8_; have BK176 := n9_; have BK186 := n10_; have BK196 := n11_; have BK206 := n12_; have HB := n13_; clear n0_ n1_ n2_ n3_ n4_ n5_ n6_ n7_ n8_ n9_ n10_ n11_ n12_ n13_; clear hb ho58; obtain ⟨Ao59, co59, eo59⟩ := Kd.R_slice HO212.out; subst eo59) | ((with_reducible refine gate_callee (f := 17) rfl ?_); refine goesL_ (some 41) rfl rfl Try.func17 (by kernel_rfl) rfl #[.agg #[.int .i64 3, .int .i64 1, .slice Ao54 y207.length co54], .agg #[.int .i64 3, .int .i64 1, .slice Ao59 y210.length co59]] rfl (by (try simp only [List.map_toArray, List.map_cons, List.map_nil]) <;> rfl) ?_; (with_reducible refine (buffer_Diff.calls 3 1 _ _ y207 3 1 _ _ y210 t213 t216 _ ?side1 ?side2 ?side3 ?side4 A4.out).mono ?_); (case side1 => repeat (first | exact (Kd.R_reads' HO209.out).2.2 | (with_reducible refine Kd.C_alloc ?_ _) | (with_reducible refine Kd.C_drewN ?_ _) | (with_reducible refine Kd.C_drew ?_))); (case side2 => exact (Kd.R_reads' HO209.out).2.1); (case side3 => repeat (first | exact (Kd.R_reads' HO212.out).2.2 | (with_reducible refine Kd.C_alloc ?_ _) | (with_reducible refine Kd.C_drewN ?_ _) | (with_reducible refine Kd.C_drew ?_))); (case side4 => exact (Kd.R_reads' HO212.out).2.1); rintro e w60 ⟨v214, rfl, ho0, hb⟩; refine ⟨_, rfl, ?_⟩; have n0_ := Aside0.mk (Kd.R_below (by (with_reducible repeat (first | apply Kd.R_alloc | apply Kd.R_drewN | apply Kd.R_drew)); exact HO179.out) hb); have n1_ := Aside0.mk (Kd.R_below (by (with_reducible repeat (first | apply Kd.R_alloc | apply Kd.R_drewN | apply Kd.R_drew)); exact HO184.out) hb); have n2_ := Aside0.mk (Kd.R_below (by (with_reducible repeat (first | apply Kd.R_alloc | apply Kd.R_drewN | apply Kd.R_drew)); exact HO189.out) hb); have n3_ := Aside0.mk (Kd.R_below (by (with_reducible repeat (first | apply Kd.R_alloc | apply Kd.R_drewN | apply Kd.R_drew)); exact HO194.out) hb); have n4_ := Aside0.mk (Kd.R_below (by (with_reducible repeat (first | apply Kd.R_alloc | apply Kd.R_drewN | apply Kd.R_drew)); exact HO199.out) hb); have n5_ := Aside0.mk (Kd.R_below (by (with_reducible repeat (first | apply Kd.R_alloc | apply Kd.R_drewN | apply Kd.R_drew)); exact HO204.out) hb); have n6_ := Aside0.mk (Kd.R_below (by (with_reducible repeat (first | apply Kd.R_alloc | apply Kd.R_drewN | apply Kd.R_drew)); exact HO209.out) hb); have n7_ := Aside0.mk (Kd.R_below (by (with_reducible repeat (first | apply Kd.R_alloc | apply Kd.R_drewN | apply Kd.R_drew)); exact HO212.out) hb); have n8_ := Aside0.mk (Kd.R_lower ho0 (below_size (hq_ HB))); have n9_ := bb_ BK175 hb; have n10_ := bb_ BK176 hb; have n11_ := bb_ BK186 hb; have n12_ := bb_ BK196 hb; have n13_ := bb_ BK206 hb; have n14_ := hb_ HB hb; clear HO179; clear HO184; clear HO189; clear HO194; clear HO199; clear HO204; clear HO209; clear HO212; clear BK175; clear BK176; clear BK186; clear BK196; clear BK206; clear HB; have HO179 := n0_; have HO184 := n1_; have HO189 := n2_; have HO194 := n3_; have HO199 := n4_; have HO204 := n5_; have HO209 := n6_; have HO212 := n7_; have HO215 := n8_; have BK175 := n9_; have BK176 := n10_; have BK186 := n11_; have BK196 := n12_; have BK206 := n13_; have HB := n14_; clear n0_ n1_ n2_ n3_ n4_ n5_ n6_ n7_ n8_ n9_ n10_ n11_ n12_ n13_ n14_; (try clear hb); (try clear hb2); (try clear hk); (try clear hi); (try clear ho0); have hcz61_0 : w60.cell? ⟨gb175, 0, none⟩ = some (.int .u8 255) := (blk_cell BK175.out 0).trans rfl; have hcz61_1 : w60.cell? ⟨gb175, 1, none⟩ = some (.int .u8 255) := (blk_cell BK175.out 1).trans rfl; have hcz61_2 : w60.cell? ⟨gb175, 2, none⟩ = some (.int .u8 255) := (blk_cell BK175.out 2).trans rfl; have hcz61_3 : w60.cell? ⟨gb175, 3, none⟩ = some (.int .u8 255) := (blk_cell BK175.out 3).trans rfl; have hfz61_0 := blk_frozen BK175.out 0; have hfz61_1 := blk_frozen BK175.out 1; have hfz61_2 := blk_frozen BK175.out 2; have hfz61_3 := blk_frozen BK175.out 3) | ((with_reducible refine gate_dst (N := 49) rfl ?_); (try (refine gate_guard (by rfl) ?_; dsimp only)); refine Kd.R_lit k43 _ 43 ?hg (N := 49) ?hd (xs := ([(⟨255, 255, 255, 255⟩ : S43), (⟨255, 255, 255, 255⟩ : S43), (⟨255, 255, 255, 255⟩ : S43), (⟨255, 255, 255, 255⟩ : S43)] : List (S43))) (inner := [.int .u8 255, .int .u8 255, .int .u8 255, .int .u8 255, .int .u8 255, .int .u8 255, .int .u8 255, .int .u8 255, .int .u8 255, .int .u8 255, .int .u8 255, .int .u8 255, .int .u8 255, .int .u8 255, .int .u8 255, .int .u8 255]) (ok := fun _ => True) (okp := fun _ => True) ?hr ?hp (fun _ hk => hk) trivial (Below.refl _ _) (Nat.le_refl _) (by simp) ?_; (case hd => rfl); (case hg => rfl); (case hr => first | (go_simp; done) | (go_simp; rfl)); (case hp => exact (Reps.c4 (show Kd.M k43 _ _ _ (⟨255, 255, 255, 255⟩ : S43) [.int .u8 255, .int .u8 255, .int .u8 255, .int .u8 255] from (k43_mkM _ _ _ (⟨255, 255, 255, 255⟩ : S43) )) (Reps.c4 (show Kd.M k43 _ _ _ (⟨255, 255, 255, 255⟩ : S43) [.int .u8 255, .int .u8 255, .int .u8 255, .int .u8 255] from (k43_mkM _ _ _ (⟨255, 255, 255, 255⟩ : S43) )) (Reps.c4 (show Kd.M k43 _ _ _ (⟨255, 255, 255, 255⟩ : S43) [.int .u8 255, .int .u8 255, .int .u8 255, .int .u8 255] from (k43_mkM _ _ _ (⟨255, 255, 255, 255⟩ : S43) )) (Reps.c4 (show Kd.M k43 _ _ _ (⟨255, 255, 255, 255⟩ : S43) [.int .u8 255, .int .u8 255, .int .u8 255, .int .u8 255] from (k43_mkM _ _ _ (⟨255, 255, 255, 255⟩ : S43) )) (Reps.none _ _)))))); intro v218 w62 ho63 hb hg_ hnew_; clear hg_ hnew_; (first | rw [← Ny217.out] at ho63 | (simp only [Int.reduceToNat] at ho63; rw [← Ny217.out] at ho63)); have n0_ := Aside0.mk (Kd.R_below (by (with_reducible repeat (first | apply Kd.R_alloc | apply Kd.R_drewN | apply Kd.R_drew)); exact HO179.out) hb); have n1_ := Aside0.mk (Kd.R_elder' (by (with_reducible repeat (first | apply Kd.R_alloc | apply Kd.R_drewN | apply Kd.R_drew)); exact HO184.out) (Kd.R_base ho63) hb); have n2_ := Aside0.mk (Kd.R_below (by (with_reducible repeat (first | apply Kd.R_alloc | apply Kd.R_drewN | apply Kd.R_drew)); exact HO189.out) hb); have n3_ := Aside0.mk (Kd.R_elder' (by (with_reducible repeat (first | apply Kd.R_alloc | apply Kd.R_drewN | apply Kd.R_drew)); exact HO194.out) (Kd.R_base ho63) hb); have n4_ := Aside0.mk (Kd.R_below (by (with_reducible repeat (first | apply Kd.R_alloc | apply Kd.R_drewN | apply Kd.R_drew)); exact HO199.out) hb); have n5_ := Aside0.mk (Kd.R_elder' (by (with_reducible repeat (first | apply Kd.R_alloc | apply Kd.R_drewN | apply Kd.R_drew)); exact HO204.out) (Kd.R_base ho63) hb); have n6_ := Aside0.mk (Kd.R_elder' (by (with_reducible repeat (first | apply Kd.R_alloc | apply Kd.R_drewN | apply Kd.R_drew)); exact HO209.out) (Kd.R_base ho63) hb); have n7_ := Aside0.mk (Kd.R_elder' (by (with_reducible repeat (first | apply Kd.R_alloc | apply Kd.R_drewN | apply Kd.R_drew)); exact HO212.out) (Kd.R_base ho63) hb); have n8_ := Aside0.mk (Kd.R_below (by (with_reducible repeat (first | apply Kd.R_alloc | apply Kd.R_drewN | apply Kd.R_drew)); exact HO215.out) hb); have n9_ := Aside0.mk (Kd.R_lower (Kd.R_newB (Kd.R_newB (Kd.R_new' (Kd.R_new' (Kd.R_new' (Kd.R_new' (Kd.R_new' ho63 (Kd.R_lt (by (with_reducible repeat (first | apply Kd.R_alloc | apply Kd.R_drewN | apply Kd.R_drew)); exact HO184.out))) (Kd.R_lt (by (with_reducible repeat (first | apply Kd.R_alloc | apply Kd.R_drewN | apply Kd.R_drew)); exact HO194.out))) (Kd.R_lt (by (with_reducible repeat (first | apply Kd.R_alloc | apply Kd.R_drewN | apply Kd.R_drew)); exact HO204.out))) (Kd.R_lt (by (with_reducible repeat (first | apply Kd.R_alloc | apply Kd.R_drewN | apply Kd.R_drew)); exact HO209.out))) (Kd.R_lt (by (with_reducible repeat (first | apply Kd.R_alloc | apply Kd.R_drewN | apply Kd.R_drew)); exact HO212.out))) (g := gb175) (o := .cells #[.int .u8 255, .int .u8 255, .int .u8 255, .int .u8 255] 43 (0, 0)) (bq_ BK175)) (g := gb176) (o := .cells #[.int .u8 0, .int .u8 0, .int .u8 0, .int .u8 255] 43 (0, 0)) (bq_ BK176)) (below_size (hq_ HB))); have n10_ := bb_ BK175 hb; have n11_ := bb_ BK176 hb; have n12_ := bb_ BK186 hb; have n13_ := bb_ BK196 hb; have n14_ := bb_ BK206 hb; have n15_ := hb_ HB hb; clear HO179; clear HO184; clear HO189; clear HO194; clear HO199; clear HO204; clear HO209; clear HO212; clear HO215; clear BK175; clear BK176; clear BK186; clear BK196; clear BK206; clear HB; have HO179 := n0_; have HO184 := n1_; have HO189 := n2_; have HO194 := n3_; have HO199 := n4_; have HO204 := n5_; have HO209 := n6_; have HO212 := n7_; have HO215 := n8_; have HO219 := n9_; have BK175 := n10_; have BK176 := n11_; have BK186 := n12_; have BK196 := n13_; have BK206 := n14_; have HB := n15_; clear n0_ n1_ n2_ n3_ n4_ n5_ n6_ n7_ n8_ n9_ n10_ n11_ n12_ n13_ n14_ n15_; clear hb ho63; obtain ⟨Ao64, co64, eo64⟩ := Kd.R_slice HO219.out; subst eo64) | ((with_reducible refine gate_callee (f := 30) rfl ?_); refine goesL_ (some 52) rfl rfl Try.func30 (by kernel_rfl) rfl #[.agg #[.int .i64 2, .int .i64 2, .slice Ao64 y217.length co64], .agg #[.int .i64 1, .int .i64 0, .int .i64 3, .int .i64 1]] rfl (by (try simp only [List.map_toArray, List.map_cons, List.map_nil]) <;> rfl) ?_; (with_reducible refine (buffer_Crop.calls 2 2 _ _ y217 1 0 3 1 t220 t221 t222 t225 _ ?side1 ?side2 A5.out).mono ?_); (case side1 => repeat (first | exact (Kd.R_reads' HO219.out).2.2 | (with_reducible refine Kd.C_alloc ?_ _) | (with_reducible refine Kd.C_drewN ?_ _) | (with_reducible refine Kd.C_drew ?_))); (case side2 => exact (Kd.R_reads' HO219.out).2.1); rintro e w65 ⟨v223, rfl, ho0, hb⟩; refine ⟨_, rfl, ?_⟩; have n0_ := Aside0.mk (Kd.R_below (by (with_reducible repeat (first | apply Kd.R_alloc | apply Kd.R_drewN | apply Kd.R_drew)); exact HO179.out) hb); have n1_ := Aside0.mk (Kd.R_elder' (by (with_reducible repeat (first | apply Kd.R_alloc | apply Kd.R_drewN | apply Kd.R_drew)); exact HO184.out) (Kd.R_base ho0) hb); have n2_ := Aside0.mk (Kd.R_below (by (with_reducible repeat (first | apply Kd.R_alloc | apply Kd.R_drewN | apply Kd.R_drew)); exact HO189.out) hb); have n3_ := Aside0.mk (Kd.R_elder' (by (with_reducible repeat (first | apply Kd.R_alloc | apply Kd.R_drewN | apply Kd.R_drew)); exact HO194.out) (Kd.R_base ho0) hb); have n4_ := Aside0.mk (Kd.R_below (by (with_reducible repeat (first | apply Kd.R_alloc | apply Kd.R_drewN | apply Kd.R_drew)); exact HO199.out) hb); have n5_ := Aside0.mk (Kd.R_elder' (by (with_reducible repeat (first | apply Kd.R_alloc | apply Kd.R_drewN | apply Kd.R_drew)); exact HO204.out) (Kd.R_base ho0) hb); have n6_ := Aside0.mk (Kd.R_elder' (by (with_reducible repeat (first | apply Kd.R_alloc | apply Kd.R_drewN | apply Kd.R_drew)); exact HO209.out) (Kd.R_base ho0) hb); have n7_ := Aside0.mk (Kd.R_elder' (by (with_reducible repeat (first | apply Kd.R_alloc | apply Kd.R_drewN | apply Kd.R_drew)); exact HO212.out) (Kd.R_base ho0) hb); have n8_ := Aside0.mk (Kd.R_below (by (with_reducible repeat (first | apply Kd.R_alloc | apply Kd.R_drewN | apply Kd.R_drew)); exact HO215.out) hb); have n9_ := Aside0.mk (Kd.R_elder' (by (with_reducible repeat (first | apply Kd.R_alloc | apply Kd.R_drewN | apply Kd.R_drew)); exact HO219.out) (Kd.R_base ho0) hb); have n10_ := Aside0.mk (Kd.R_lower (Kd.R_newB (Kd.R_newB (Kd.R_new' (Kd.R_new' (Kd.R_new' (Kd.R_new' (Kd.R_new' (Kd.R_new' ho0 (Kd.R_lt (by (with_reducible repeat (first | apply Kd.R_alloc | apply Kd.R_drewN | apply Kd.R_drew)); exact HO184.out))) (Kd.R_lt (by (with_reducible repeat (first | apply Kd.R_alloc | apply Kd.R_drewN | apply Kd.R_drew)); exact HO194.out))) (Kd.R_lt (by (with_reducible repeat (first | apply Kd.R_alloc | apply Kd.R_drewN | apply Kd.R_drew)); exact HO204.out))) (Kd.R_lt (by (with_reducible repeat (first | apply Kd.R_alloc | apply Kd.R_drewN | apply Kd.R_drew)); exact HO209.out))) (Kd.R_lt (by (with_reducible repeat (first | apply Kd.R_alloc | apply Kd.R_drewN | apply Kd.R_drew)); exact HO212.out))) (Kd.R_lt (by (with_reducible repeat (first | apply Kd.R_alloc | apply Kd.R_drewN | apply Kd.R_drew)); exact HO219.out))) (g := gb175) (o := .cells #[.int .u8 255, .int .u8 255, .int .u8 255, .int .u8 255] 43 (0, 0)) (bq_ BK175)) (g := gb176) (o := .cells #[.int .u8 0, .int .u8 0, .int .u8 0, .int .u8 255] 43 (0, 0)) (bq_ BK176)) (below_size (hq_ HB))); have n11_ := bb_ BK175 hb; have n12_ := bb_ BK176 hb; have n13_ := bb_ BK186 hb; have n14_ := bb_ BK196 hb; have n15_ := bb_ BK206 hb; have n16_ := hb_ HB hb; clear HO179; clear HO184; clear HO189; clear HO194; clear HO199; clear HO204; clear HO209; clear HO212; clear HO215; clear HO219; clear BK175; clear BK176; clear BK186; clear BK196; clear BK206; clear HB; have HO179 := n0_; have HO184 := n1_; have HO189 := n2_; have HO194 := n3_; have HO199 := n4_; have HO204 := n5_; have HO209 := n6_; have HO212 := n7_; have HO215 := n8_; have HO219 := n9_; have HO224 := n10_; have BK175 := n11_; have BK176 := n12_; have BK186 := n13_; have BK196 := n14_; have BK206 := n15_; have HB := n16_; clear n0_ n1_ n2_ n3_ n4_ n5_ n6_ n7_ n8_ n9_ n10_ n11_ n12_ n13_ n14_ n15_ n16_; (try clear hb); (try clear hb2); (try clear hk); (try clear hi); (try clear ho0)) | ((with_reducible refine gate_dst (N := 11) rfl ?_); (try (refine gate_guard (by rfl) ?_; dsimp only)); refine box_event ?hg (N := 11) ?hd (cs := #[.int .i64 0, .int .i64 0, .slice none 0 0]) (t := 27) ?hr ?_; (case hd => rfl); (case hg => rfl); (case hr => first | (go_simp; done) | (go_simp; rfl)); intro gb226 hg w66 hbox hb; have n0_ := Aside0.mk (Kd.R_below (by (with_reducible repeat (first | apply Kd.R_alloc | apply Kd.R_drewN | apply Kd.R_drew)); exact HO179.out) hb); have n1_ := Aside0.mk (Kd.R_below (by (with_reducible repeat (first | apply Kd.R_alloc | apply Kd.R_drewN | apply Kd.R_drew)); exact HO184.out) hb); have n2_ := Aside0.mk (Kd.R_below (by (with_reducible repeat (first | apply Kd.R_alloc | apply Kd.R_drewN | apply Kd.R_drew)); exact HO189.out) hb); have n3_ := Aside0.mk (Kd.R_below (by (with_reducible repeat (first | apply Kd.R_alloc | apply Kd.R_drewN | apply Kd.R_drew)); exact HO194.out) hb); have n4_ := Aside0.mk (Kd.R_below (by (with_reducible repeat (first | apply Kd.R_alloc | apply Kd.R_drewN | apply Kd.R_drew)); exact HO199.out) hb); have n5_ := Aside0.mk (Kd.R_below (by (with_reducible repeat (first | apply Kd.R_alloc | apply Kd.R_drewN | apply Kd.R_drew)); exact HO204.out) hb); have n6_ := Aside0.mk (Kd.R_below (by (with_reducible repeat (first | apply Kd.R_alloc | apply Kd.R_drewN | apply Kd.R_drew)); exact HO209.out) hb); have n7_ := Aside0.mk (Kd.R_below (by (with_reducible repeat (first | apply Kd.R_alloc | apply Kd.R_drewN | apply Kd.R_drew)); exact HO212.out) hb); have n8_ := Aside0.mk (Kd.R_below (by (with_reducible repeat (first | apply Kd.R_alloc | apply Kd.R_drewN | apply Kd.R_drew)); exact HO215.out) hb); have n9_ := Aside0.mk (Kd.R_below (by (with_reducible repeat (first | apply Kd.R_alloc | apply Kd.R_drewN | apply Kd.R_drew)); exact HO219.out) hb); have n10_ := Aside0.mk (Kd.R_below (by (with_reducible repeat (first | apply Kd.R_alloc | apply Kd.R_drewN | apply Kd.R_drew)); exact HO224.out) hb); have n11_ := bb_ BK175 hb; have n12_ := bb_ BK176 hb; have n13_ := bb_ BK186 hb; have n14_ := bb_ BK196 hb; have n15_ := bb_ BK206 hb; have n16_ := hb_ HB hb; have n17_ := Aside0.mk (hbox); have n18_ := Aside0.mk ((by rw [hg]; exact (below_size (hq_ HB)) : w.heap.size ≤ gb226)); have n19_ := Aside0.mk ((by rw [hg]; exact (below_size (hq_ HB)) : w.heap.size ≤ gb226)); have n20_ := Aside0.mk ((by rw [hg]; exact Nat.ne_of_lt (blk_lt (g := gb175) (o := .cells #[.int .u8 255, .int .u8 255, .int .u8 255, .int .u8 255] 43 (0, 0)) (bq_ BK175)) : gb175 ≠ gb226)); have n21_ := Aside0.mk ((by rw [hg]; exact Nat.ne_of_gt (blk_lt (g := gb175) (o := .cells #[.int .u8 255, .int .u8 255, .int .u8 255, .int .u8 255] 43 (0, 0)) (bq_ BK175)) : gb226 ≠ gb175)); have n22_ := Aside0.mk ((by rw [hg]; exact Nat.ne_of_lt (blk_lt (g := gb176) (o := .cells #[.int .u8 0, .int .u8 0, .int .u8 0, .int .u8 255] 43 (0, 0)) (bq_ BK176)) : gb176 ≠ gb226)); have n23_ := Aside0.mk ((by rw [hg]; exact Nat.ne_of_gt (blk_lt (g := gb176) (o := .cells #[.int .u8 0, .int .u8 0, .int .u8 0, .int .u8 255] 43 (0, 0)) (bq_ BK176)) : gb226 ≠ gb176)); have n24_ := Aside0.mk ((by rw [hg]; exact Nat.ne_of_lt (blk_lt (g := gb186) (o := .cells #[.int .i64 t180, .int .i64 t181, .slice Ao29 t182.length co29] 27 (0, 0)) (bq_ BK186)) : gb186 ≠ gb226)); have n25_ := Aside0.mk ((by rw [hg]; exact Nat.ne_of_gt (blk_lt (g := gb186) (o := .cells #[.int .i64 t180, .int .i64 t181, .slice Ao29 t182.length co29] 27 (0, 0)) (bq_ BK186)) : gb226 ≠ gb186)); have n26_ := Aside0.mk ((by rw [hg]; exact Nat.ne_of_lt (blk_lt (g := gb196) (o := .cells #[.int .i64 t190, .int .i64 t191, .slice Ao39 t192.length co39] 27 (0, 0)) (bq_ BK196)) : gb196 ≠ gb226)); have n27_ := Aside0.mk ((by rw [hg]; exact Nat.ne_of_gt (blk_lt (g := gb196) (o := .cells #[.int .i64 t190, .int .i64 t191, .slice Ao39 t192.length co39] 27 (0, 0)) (bq_ BK196)) : gb226 ≠ gb196)); have n28_ := Aside0.mk ((by rw [hg]; exact Nat.ne_of_lt (blk_lt (g := gb206) (o := .cells #[.int .i64 t200, .int .i64 t201, .slice Ao50 t202.length co50] 27 (0, 0)) (bq_ BK206)) : gb206 ≠ gb226)); have n29_ := Aside0.mk ((by rw [hg]; exact Nat.ne_of_gt (blk_lt (g := gb206) (o := .cells #[.int .i64 t200, .int .i64 t201, .slice Ao50 t202.length co50] 27 (0, 0)) (bq_ BK206)) : gb226 ≠ gb206)); clear HO179; clear HO184; clear HO189; clear HO194; clear HO199; clear HO204; clear HO209; clear HO212; clear HO215; clear HO219; clear HO224; clear BK175; clear BK176; clear BK186; clear BK196; clear BK206; clear HB; have HO179 := n0_; have HO184 := n1_; have HO189 := n2_; have HO194 := n3_; have HO199 := n4_; have HO204 := n5_; have HO209 := n6_; have HO212 := n7_; have HO215 := n8_; have HO219 := n9_; have HO224 := n10_; have BK175 := n11_; have BK176 := n12_; have BK186 := n13_; have BK196 := n14_; have BK206 := n15_; have HB := n16_; have BK226 := n17_; have GW226 := n18_; have GE226 := n19_; have NB175_226 := n20_; have NB226_175 := n21_; have NB176_226 := n22_; have NB226_176 := n23_; have NB186_226 := n24_; have NB226_186 := n25_; have NB196_226 := n26_; have NB226_196 := n27_; have NB206_226 := n28_; have NB226_206 := n29_; clear n0_ n1_ n2_ n3_ n4_ n5_ n6_ n7_ n8_ n9_ n10_ n11_ n12_ n13_ n14_ n15_ n16_ n17_ n18_ n19_ n20_ n21_ n22_ n23_ n24_ n25_ n26_ n27_ n28_ n29_; clear hb hbox hg; have hnb67 := NB226_175.out; have hnc67 := NB175_226.out; have hnb68 := NB226_176.out; have hnc68 := NB176_226.out; have hnb69 := NB226_186.out; have hnc69 := NB186_226.out; have hnb70 := NB226_196.out; have hnc70 := NB196_226.out; have hnb71 := NB226_206.out; have hnc71 := NB206_226.out; have hcz72_0 : w66.cell? ⟨gb226, 0, none⟩ = some (.int .i64 0) := (blk_cell BK226.out 0).trans rfl; have hcz72_1 : w66.cell? ⟨gb226, 1, none⟩ = some (.int .i64 0) := (blk_cell BK226.out 1).trans rfl; have hcz72_2 : w66.cell? ⟨gb226, 2, none⟩ = some (.slice none 0 0) := (blk_cell BK226.out 2).trans rfl; have hfz72_0 := blk_frozen BK226.out 0; have hfz72_1 := blk_frozen BK226.out 1; have hfz72_2 := blk_frozen BK226.out 2; obtain ⟨Ao73, co73, eo73⟩ := Kd.R_slice HO224.out; subst eo73; have hcz74_0 : w66.cell? ⟨gb186, 0, none⟩ = some (.int .i64 t180) := (blk_cell BK186.out 0).trans rfl; have hcz74_1 : w66.cell? ⟨gb186, 1, none⟩ = some (.int .i64 t181) := (blk_cell BK186.out 1).trans rfl; have hcz74_2 : w66.cell? ⟨gb186, 2, none⟩ = some (.slice Ao29 t182.length co29) := (blk_cell BK186.out 2).trans rfl; have hfz74_0 := blk_frozen BK186.out 0; have hfz74_1 := blk_frozen BK186.out 1; have hfz74_2 := blk_frozen BK186.out 2; have p227 : 0 ≤ (0 : Int) := (by omega); have q227 : 0 < (t182.length : Int) := of_decide_eq_true (by first | (with_reducible assumption) | assumption); obtain ⟨ad227, e227, hx227_0, hx227_1, hx227_2, hx227_3⟩ := at_T43 (Kd.R_reads' HO184.out).2.2 0 p227 q227; cases e227; have qi227 : (0 < t182.length) = True := eq_true (by omega); (try rw [show ((0 : Int)).toNat = 0 from rfl] at hx227_0); (try rw [show 0 * 4 = 0 from rfl] at hx227_0); (try rw [Addr.add_zero'] at hx227_0); (try rw [show ((0 : Int)).toNat = 0 from rfl] at hx227_1); (try rw [show 0 * 4 = 0 from rfl] at hx227_1); (try rw [Addr.add_zero'] at hx227_1); (try rw [show ((0 : Int)).toNat = 0 from rfl] at hx227_2); (try rw [show 0 * 4 = 0 from rfl] at hx227_2); (try rw [Addr.add_zero'] at hx227_2); (try rw [show ((0 : Int)).toNat = 0 from rfl] at hx227_3); (try rw [show 0 * 4 = 0 from rfl] at hx227_3); (try rw [Addr.add_zero'] at hx227_3); have hn227_0 : ad227.block ≠ gb226 := Kd.own_blk (Kd.R_ne HO184.out BK226.out (by decide)); have hn227_1 : ad227.block ≠ gb226 := Kd.own_blk (Kd.R_ne HO184.out BK226.out (by decide)); have hn227_2 : ad227.block ≠ gb226 := Kd.own_blk (Kd.R_ne HO184.out BK226.out (by decide)); replace hx227_0 := (cell_far (p := ⟨gb226, 0, none⟩) (by first | (rw [add_block]; exact hn227_0) | (show (Addr.add _ _).block ≠ _; rw [add_block]; exact hn227_0) | exact hn227_0) (.int .i64 t220)).trans hx227_0; replace hx227_1 := (cell_far (p := ⟨gb226, 0, none⟩) (by first | (rw [add_block]; exact hn227_0) | (show (Addr.add _ _).block ≠ _; rw [add_block]; exact hn227_0) | exact hn227_0) (.int .i64 t220)).trans hx227_1; replace hx227_2 := (cell_far (p := ⟨gb226, 0, none⟩) (by first | (rw [add_block]; exact hn227_0) | (show (Addr.add _ _).block ≠ _; rw [add_block]; exact hn227_0) | exact hn227_0) (.int .i64 t220)).trans hx227_2; replace hx227_3 := (cell_far (p := ⟨gb226, 0, none⟩) (by first | (rw [add_block]; exact hn227_0) | (show (Addr.add _ _).block ≠ _; rw [add_block]; exact hn227_0) | exact hn227_0) (.int .i64 t220)).trans hx227_3; replace hx227_0 := (cell_far (p := ⟨gb226, 1, none⟩) (by first | (rw [add_block]; exact hn227_1) | (show (Addr.add _ _).block ≠ _; rw [add_block]; exact hn227_1) | exact hn227_1) (.int .i64 t221)).trans hx227_0; replace hx227_1 := (cell_far (p := ⟨gb226, 1, none⟩) (by first | (rw [add_block]; exact hn227_1) | (show (Addr.add _ _).block ≠ _; rw [add_block]; exact hn227_1) | exact hn227_1) (.int .i64 t221)).trans hx227_1; replace hx227_2 := (cell_far (p := ⟨gb226, 1, none⟩) (by first | (rw [add_block]; exact hn227_1) | (show (Addr.add _ _).block ≠ _; rw [add_block]; exact hn227_1) | exact hn227_1) (.int .i64 t221)).trans hx227_2; replace hx227_3 := (cell_far (p := ⟨gb226, 1, none⟩) (by first | (rw [add_block]; exact hn227_1) | (show (Addr.add _ _).block ≠ _; rw [add_block]; exact hn227_1) | exact hn227_1) (.int .i64 t221)).trans hx227_3; replace hx227_0 := (cell_far (p := ⟨gb226, 2, none⟩) (by first | (rw [add_block]; exact hn227_2) | (show (Addr.add _ _).block ≠ _; rw [add_block]; exact hn227_2) | exact hn227_2) (.slice Ao73 t222.length co73)).trans hx227_0; replace hx227_1 := (cell_far (p := ⟨gb226, 2, none⟩) (by first | (rw [add_block]; exact hn227_2) | (show (Addr.add _ _).block ≠ _; rw [add_block]; exact hn227_2) | exact hn227_2) (.slice Ao73 t222.length co73)).trans hx227_1; replace hx227_2 := (cell_far (p := ⟨gb226, 2, none⟩) (by first | (rw [add_block]; exact hn227_2) | (show (Addr.add _ _).block ≠ _; rw [add_block]; exact hn227_2) | exact hn227_2) (.slice Ao73 t222.length co73)).trans hx227_2; replace hx227_3 := (cell_far (p := ⟨gb226, 2, none⟩) (by first | (rw [add_block]; exact hn227_2) | (show (Addr.add _ _).block ≠ _; rw [add_block]; exact hn227_2) | exact hn227_2) (.slice Ao73 t222.length co73)).trans hx227_3; clear hn227_0; clear hn227_1; clear hn227_2; replace p227 := eq_true p227; replace q227 := eq_true q227; obtain ⟨Ao75, co75, eo75⟩ := Kd.R_slice HO215.out; subst eo75; have p228 : 0 ≤ (0 : Int) := (by omega); have q228 : 0 < (t213.length : Int) := of_decide_eq_true (by first | (with_reducible assumption) | assumption); obtain ⟨ad228, e228, hx228_0, hx228_1, hx228_2, hx228_3⟩ := at_T47 (Kd.R_reads' HO215.out).2.2 0 p228 q228; cases e228; have qi228 : (0 < t213.length) = True := eq_true (by omega); (try rw [show ((0 : Int)).toNat = 0 from rfl] at hx228_0); (try rw [show 0 * 4 = 0 from rfl] at hx228_0); (try rw [Addr.add_zero'] at hx228_0); (try rw [show ((0 : Int)).toNat = 0 from rfl] at hx228_1); (try rw [show 0 * 4 = 0 from rfl] at hx228_1); (try rw [Addr.add_zero'] at hx228_1); (try rw [show ((0 : Int)).toNat = 0 from rfl] at hx228_2); (try rw [show 0 * 4 = 0 from rfl] at hx228_2); (try rw [Addr.add_zero'] at hx228_2); (try rw [show ((0 : Int)).toNat = 0 from rfl] at hx228_3); (try rw [show 0 * 4 = 0 from rfl] at hx228_3); (try rw [Addr.add_zero'] at hx228_3); have hn228_0 : ad228.block ≠ gb226 := Kd.own_blk (Kd.R_ne HO215.out BK226.out (by decide)); have hn228_1 : ad228.block ≠ gb226 := Kd.own_blk (Kd.R_ne HO215.out BK226.out (by decide)); have hn228_2 : ad228.block ≠ gb226 := Kd.own_blk (Kd.R_ne HO215.out BK226.out (by decide)); replace hx228_0 := (cell_far (p := ⟨gb226, 0, none⟩) (by first | (rw [add_block]; exact hn228_0) | (show (Addr.add _ _).block ≠ _; rw [add_block]; exact hn228_0) | exact hn228_0) (.int .i64 t220)).trans hx228_0; replace hx228_1 := (cell_far (p := ⟨gb226, 0, none⟩) (by first | (rw [add_block]; exact hn228_0) | (show (Addr.add _ _).block ≠ _; rw [add_block]; exact hn228_0) | exact hn228_0) (.int .i64 t220)).trans hx228_1; replace hx228_2 := (cell_far (p := ⟨gb226, 0, none⟩) (by first | (rw [add_block]; exact hn228_0) | (show (Addr.add _ _).block ≠ _; rw [add_block]; exact hn228_0) | exact hn228_0) (.int .i64 t220)).trans hx228_2; replace hx228_3 := (cell_far (p := ⟨gb226, 0, none⟩) (by first | (rw [add_block]; exact hn228_0) | (show (Addr.add _ _).block ≠ _; rw [add_block]; exact hn228_0) | exact hn228_0) (.int .i64 t220)).trans hx228_3; replace hx228_0 := (cell_far (p := ⟨gb226, 1, none⟩) (by first | (rw [add_block]; exact hn228_1) | (show (Addr.add _ _).block ≠ _; rw [add_block]; exact hn228_1) | exact hn228_1) (.int .i64 t221)).trans hx228_0; replace hx228_1 := (cell_far (p := ⟨gb226, 1, none⟩) (by first | (rw [add_block]; exact hn228_1) | (show (Addr.add _ _).block ≠ _; rw [add_block]; exact hn228_1) | exact hn228_1) (.int .i64 t221)).trans hx228_1; replace hx228_2 := (cell_far (p := ⟨gb226, 1, none⟩) (by first | (rw [add_block]; exact hn228_1) | (show (Addr.add _ _).block ≠ _; rw [add_block]; exact hn228_1) | exact hn228_1) (.int .i64 t221)).trans hx228_2; replace hx228_3 := (cell_far (p := ⟨gb226, 1, none⟩) (by first | (rw [add_block]; exact hn228_1) | (show (Addr.add _ _).block ≠ _; rw [add_block]; exact hn228_1) | exact hn228_1) (.int .i64 t221)).trans hx228_3; replace hx228_0 := (cell_far (p := ⟨gb226, 2, none⟩) (by first | (rw [add_block]; exact hn228_2) | (show (Addr.add _ _).block ≠ _; rw [add_block]; exact hn228_2) | exact hn228_2) (.slice Ao73 t222.length co73)).trans hx228_0; replace hx228_1 := (cell_far (p := ⟨gb226, 2, none⟩) (by first | (rw [add_block]; exact hn228_2) | (show (Addr.add _ _).block ≠ _; rw [add_block]; exact hn228_2) | exact hn228_2) (.slice Ao73 t222.length co73)).trans hx228_1; replace hx228_2 := (cell_far (p := ⟨gb226, 2, none⟩) (by first | (rw [add_block]; exact hn228_2) | (show (Addr.add _ _).block ≠ _; rw [add_block]; exact hn228_2) | exact hn228_2) (.slice Ao73 t222.length co73)).trans hx228_2; replace hx228_3 := (cell_far (p := ⟨gb226, 2, none⟩) (by first | (rw [add_block]; exact hn228_2) | (show (Addr.add _ _).block ≠ _; rw [add_block]; exact hn228_2) | exact hn228_2) (.slice Ao73 t222.length co73)).trans hx228_3; clear hn228_0; clear hn228_1; clear hn228_2; replace p228 := eq_true p228; replace q228 := eq_true q228))
           go_ret
           exact ⟨by first | rfl | (simp [errW_none, errW_some] <;> rfl) | (simp [*, errW_none, errW_some] <;> rfl), by repeat (first | (with_reducible first | exact HB.out | apply below_alloc | apply pw_below_drewN | apply below_drew1 | refine below_set ?_ GE175.out | refine below_set ?_ GE176.out | refine below_set ?_ GE186.out | refine below_set ?_ GE196.out | refine below_set ?_ GE206.out | refine below_set ?_ GE226.out) | exact HB.out)⟩
          ·
           rw [if_neg c15] at H
           have c15b0 : (((rd_T47 t213 0).f0) == 1 && (((rd_T47 t213 0).f1) == 0 && (((rd_T47 t213 0).f2) == 2 && (((rd_T47 t213 0).f3) == 1)))) = false := by simpa using c15
           (try (have c15b1 : decide (((rd_T47 t213 0).f0) = 1 && (((rd_T47 t213 0).f1) == 0 && (((rd_T47 t213 0).f2) == 2 && (((rd_T47 t213 0).f3) == 1)))) = false := by simpa using c15))
           (try (have c15b2 : (((rd_T47 t213 0).f0) == 1 && (((rd_T47 t213 0).f1) == 0 && (((rd_T47 t213 0).f2) == 2 && (((rd_T47 t213 0).f3) == 1)))) = false := by simpa using c15))
           (try (have c15b3 : ¬ (((rd_T47 t213 0).f0) = 1 && (((rd_T47 t213 0).f1) == 0 && (((rd_T47 t213 0).f2) == 2 && (((rd_T47 t213 0).f3) == 1)))) := by simpa using c15))
           clear c15
           exact absurd H (by simp)
         ·
          rw [if_neg c14] at H
          exact absurd H (by simp)
        ·
         rw [if_neg c13] at H
         have c13b0 : ((t213.length : Int) == 1) = false := beq_eq_false_iff_ne.mpr c13
         have c13b1 : ((t213.length : Int) != 1) = true := bne_iff_ne.mpr c13
         exact absurd H (by simp)
       ·
        rw [if_neg c12] at H
        have c12b0 : (t216 == 0) = false := beq_eq_false_iff_ne.mpr c12
        have c12b1 : (t216 != 0) = true := bne_iff_ne.mpr c12
        exact absurd H (by simp)
      ·
       rw [if_neg c11] at H
       have c11b0 : (t205 == 4) = false := beq_eq_false_iff_ne.mpr c11
       have c11b1 : (t205 != 4) = true := bne_iff_ne.mpr c11
       exact absurd H (by simp)
     ·
      rw [if_neg c10] at H
      have c10b0 : (t195 == 15) = false := beq_eq_false_iff_ne.mpr c10
      have c10b1 : (t195 != 15) = true := bne_iff_ne.mpr c10
      exact absurd H (by simp)
    ·
     rw [if_neg c9] at H
     have c9b0 : (((rd_T43 t182 0).f0) == 3 && (((rd_T43 t182 0).f1) == 2 && (((rd_T43 t182 0).f2) == 1 && (((rd_T43 t182 0).f3) == 255)))) = false := by simpa using c9
     (try (have c9b1 : decide (((rd_T43 t182 0).f0) = 3 && (((rd_T43 t182 0).f1) == 2 && (((rd_T43 t182 0).f2) == 1 && (((rd_T43 t182 0).f3) == 255)))) = false := by simpa using c9))
     (try (have c9b2 : (((rd_T43 t182 0).f0) == 3 && (((rd_T43 t182 0).f1) == 2 && (((rd_T43 t182 0).f2) == 1 && (((rd_T43 t182 0).f3) == 255)))) = false := by simpa using c9))
     (try (have c9b3 : ¬ (((rd_T43 t182 0).f0) = 3 && (((rd_T43 t182 0).f1) == 2 && (((rd_T43 t182 0).f2) == 1 && (((rd_T43 t182 0).f3) == 255)))) := by simpa using c9))
     clear c9
     exact absurd H (by simp)
   ·
    rw [if_neg c8] at H
    exact absurd H (by simp)
  ·
   rw [if_neg c7] at H
   have c7b0 : ((t182.length : Int) == 1) = false := beq_eq_false_iff_ne.mpr c7
   have c7b1 : ((t182.length : Int) != 1) = true := bne_iff_ne.mpr c7
   exact absurd H (by simp)
 ·
  rw [if_neg c6] at H
  have c6b0 : (t185 == 0) = false := beq_eq_false_iff_ne.mpr c6
  have c6b1 : (t185 != 0) = true := bne_iff_ne.mpr c6
  exact absurd H (by simp)
theorem compositorlaw09_exampleHolds.always {k : Nat} {r : Bool} (h : compositorlaw09_exampleHolds.f k = some r) : r = true := by
 have up : ∀ j, compositorlaw09_exampleHolds.f (k + j) = some r := by
  intro j
  induction j with
  | zero => exact h
  | succ j ih => exact compositorlaw09_exampleHolds.mono _ _ ih
 have e : compositorlaw09_exampleHolds.f 200 = some true := by decide +kernel
 have up2 : ∀ j, compositorlaw09_exampleHolds.f (200 + j) = some true := by
  intro j
  induction j with
  | zero => exact e
  | succ j ih => exact compositorlaw09_exampleHolds.mono _ _ ih
 have h1 := up 200
 rw [Nat.add_comm, up2] at h1
 exact (Option.some.inj h1).symm
theorem compositorlaw09_exampleHolds.calls (k : Nat) (r : Bool) (w : World) (h : compositorlaw09_exampleHolds.f k = some r) :
  Calls Try.prog 13 #[] w fun e w' => e = .returned (.bool r) ∧ Below w.heap.size w w' := by
 obtain rfl := compositorlaw09_exampleHolds.always h
 exact compositorlaw09_exampleHolds.callsT (k := k) (w := w) (h := h)
end Go.Proofs.Ytmockeaiccpogaa.All
end
section
namespace Go.Proofs.Ytmockeaiccpogaa.All
open Go.RowKit Go.Proofs.YtmockeaiccpogaaW.PrintWords Go.Proofs.YtmockeaiccpogaaW.PrintLast Go.Proofs.YtmockeaiccpogaaW.PrintMore
attribute [local go_sem] max2_int min2_int max_two min_two max_three min_three max_four min_four
set_option linter.unusedVariables false
set_option linter.unusedSimpArgs false
attribute [local go_sem high] eqA43
mutual
def compositorref09_Equal.j0 : Nat → Bool → Int → Int → List (S43) → Int → Int → List (S43) → Option (Bool)
  | 0, _, _, _, _, _, _, _ => none
  | k + 1, x26, x254000, x254001, x254002, x255000, x255001, x255002 => if x26 = true then (some false) else (compositorref09_Equal.l0 k 0 x254000 x254001 x254002 x255000 x255001 x255002)
def compositorref09_Equal.l0 : Nat → Int → Int → Int → List (S43) → Int → Int → List (S43) → Option (Bool)
  | 0, _, _, _, _, _, _, _ => none
  | k + 1, x5, x254000, x254001, x254002, x255000, x255001, x255002 => if x5 < (x254002.length : Int) then (if 0 ≤ x5 then (if x5 < (x255002.length : Int) then (if (!(((rd_T43 x254002 x5).f0) == ((rd_T43 x255002 x5).f0)) || (!(((rd_T43 x254002 x5).f1) == ((rd_T43 x255002 x5).f1)) || (!(((rd_T43 x254002 x5).f2) == ((rd_T43 x255002 x5).f2)) || (!(((rd_T43 x254002 x5).f3) == ((rd_T43 x255002 x5).f3)))))) = true then (some false) else (compositorref09_Equal.l0 k (wrap64 (x5 + 1)) x254000 x254001 x254002 x255000 x255001 x255002)) else (none)) else (none)) else (some true)
end
def compositorref09_Equal.f (k : Nat) (a0_0 : Int) (a0_1 : Int) (l0_2 : List (S43)) (a1_0 : Int) (a1_1 : Int) (l1_2 : List (S43)) : Option (Bool) := if a0_0 = a1_0 then (if a0_1 = a1_1 then (compositorref09_Equal.j0 k ((l0_2.length : Int) != (l1_2.length : Int)) a0_0 a0_1 l0_2 a1_0 a1_1 l1_2) else (compositorref09_Equal.j0 k true a0_0 a0_1 l0_2 a1_0 a1_1 l1_2)) else (compositorref09_Equal.j0 k true a0_0 a0_1 l0_2 a1_0 a1_1 l1_2)
set_option maxHeartbeats 8000000 in
set_option maxRecDepth 100000 in
theorem compositorref09_Equal.calls (k : Nat) (a0_0 : Int) (a0_1 : Int) (A0_2 : Option Addr) (c0_2 : Nat) (l0_2 : List (S43)) (a1_0 : Int) (a1_1 : Int) (A1_2 : Option Addr) (c1_2 : Nat) (l1_2 : List (S43)) (r : Bool) (w : World) (hr0_2 : Kd.C k43 w A0_2 l0_2.length l0_2) (hc0_2 : l0_2.length ≤ c0_2) (hr1_2 : Kd.C k43 w A1_2 l1_2.length l1_2) (hc1_2 : l1_2.length ≤ c1_2) (h : compositorref09_Equal.f k a0_0 a0_1 l0_2 a1_0 a1_1 l1_2 = some r) :
    Calls Try.prog 16 #[.agg #[.int .i64 a0_0, .int .i64 a0_1, .slice A0_2 l0_2.length c0_2], .agg #[.int .i64 a1_0, .int .i64 a1_1, .slice A1_2 l1_2.length c1_2]] w fun e w' => e = .returned (.bool r) ∧ Below w.heap.size w w' := by
  have hu27 := Try.underlying27
  have hu43 := Try.underlying43
  have HR0_2 := Aside0.mk hr0_2
  have HC0_2 := Aside0.mk hc0_2
  clear hr0_2 hc0_2
  have HR1_2 := Aside0.mk hr1_2
  have HC1_2 := Aside0.mk hc1_2
  clear hr1_2 hc1_2
  have HB := Aside0.mk (Below.refl w.heap.size w)
  have H : (if a0_0 = a1_0 then (if a0_1 = a1_1 then (compositorref09_Equal.j0 k ((l0_2.length : Int) != (l1_2.length : Int)) a0_0 a0_1 l0_2 a1_0 a1_1 l1_2) else (compositorref09_Equal.j0 k true a0_0 a0_1 l0_2 a1_0 a1_1 l1_2)) else (compositorref09_Equal.j0 k true a0_0 a0_1 l0_2 a1_0 a1_1 l1_2)) = some r := h
  clear h
  have HC3 := Aside0.mk H
  clear H
  go_enter Try.func16, Try.ntmps16
  go_upto_region 1 with (first | ((with_reducible refine gate_dst (N := 2) rfl ?_); (try (refine gate_guard (by rfl) ?_; dsimp only)); refine box_event ?hg (N := 2) ?hd (cs := #[.int .i64 a0_0, .int .i64 a0_1, .slice A0_2 l0_2.length c0_2]) (t := 27) ?hr ?_; (case hd => rfl); (case hg => rfl); (case hr => first | (go_simp; done) | (go_simp; rfl)); intro gb253 hg w4 hbox hb; have n0_ := Aside0.mk (below_step (by repeat (first | (with_reducible first | exact HB.out | apply below_alloc | apply pw_below_drewN | apply below_drew1) | exact HB.out)) hb); have n1_ := Aside0.mk (hbox); have n2_ := Aside0.mk ((by rw [hg]; exact (below_size (by repeat (first | (with_reducible first | exact HB.out | apply below_alloc | apply pw_below_drewN | apply below_drew1) | exact HB.out))) : w.heap.size ≤ gb253)); have n3_ := Aside0.mk ((by rw [hg]; exact (below_size (by repeat (first | (with_reducible first | exact HB.out | apply below_alloc | apply pw_below_drewN | apply below_drew1) | exact HB.out))) : w.heap.size ≤ gb253)); clear HB; have HB := n0_; have BK253 := n1_; have GW253 := n2_; have GE253 := n3_; clear n0_ n1_ n2_ n3_; clear hb hbox hg) | ((with_reducible refine gate_dst (N := 3) rfl ?_); (try (refine gate_guard (by rfl) ?_; dsimp only)); refine box_event ?hg (N := 3) ?hd (cs := #[.int .i64 a1_0, .int .i64 a1_1, .slice A1_2 l1_2.length c1_2]) (t := 27) ?hr ?_; (case hd => rfl); (case hg => rfl); (case hr => first | (go_simp; done) | (go_simp; rfl)); intro gb254 hg w5 hbox hb; have n0_ := Aside0.mk (blk_below (g := gb253) (o := .cells #[.int .i64 a0_0, .int .i64 a0_1, .slice A0_2 l0_2.length c0_2] 27 (0, 0)) (by (with_reducible repeat (first | refine blk_drewN ?_ _ | refine blk_drew ?_ | refine blk_alloc ?_ _)); exact BK253.out) hb); have n1_ := Aside0.mk (below_step (by repeat (first | (with_reducible first | exact HB.out | apply below_alloc | apply pw_below_drewN | apply below_drew1 | refine below_set ?_ GE253.out) | exact HB.out)) hb); have n2_ := Aside0.mk (hbox); have n3_ := Aside0.mk ((by rw [hg]; exact (below_size (by repeat (first | (with_reducible first | exact HB.out | apply below_alloc | apply pw_below_drewN | apply below_drew1 | refine below_set ?_ GE253.out) | exact HB.out))) : w.heap.size ≤ gb254)); have n4_ := Aside0.mk ((by rw [hg]; exact (below_size (by repeat (first | (with_reducible first | exact HB.out | apply below_alloc | apply pw_below_drewN | apply below_drew1 | refine below_set ?_ GE253.out) | exact HB.out))) : w.heap.size ≤ gb254)); have n5_ := Aside0.mk ((by rw [hg]; exact Nat.ne_of_lt (blk_lt (g := gb253) (o := .cells #[.int .i64 a0_0, .int .i64 a0_1, .slice A0_2 l0_2.length c0_2] 27 (0, 0)) (by (with_reducible repeat (first | refine blk_drewN ?_ _ | refine blk_drew ?_ | refine blk_alloc ?_ _)); exact BK253.out)) : gb253 ≠ gb254)); have n6_ := Aside0.mk ((by rw [hg]; exact Nat.ne_of_gt (blk_lt (g := gb253) (o := .cells #[.int .i64 a0_0, .int .i64 a0_1, .slice A0_2 l0_2.length c0_2] 27 (0, 0)) (by (with_reducible repeat (first | refine blk_drewN ?_ _ | refine blk_drew ?_ | refine blk_alloc ?_ _)); exact BK253.out)) : gb254 ≠ gb253)); clear BK253; clear HB; have BK253 := n0_; have HB := n1_; have BK254 := n2_; have GW254 := n3_; have GE254 := n4_; have NB253_254 := n5_; have NB254_253 := n6_; clear n0_ n1_ n2_ n3_ n4_ n5_ n6_; clear hb hbox hg))
  repeat (go_quiet (first | ((with_reducible refine gate_dst (N := 2) rfl ?_); (try (refine gate_guard (by rfl) ?_; dsimp only)); refine box_event ?hg (N := 2) ?hd (cs := #[.int .i64 a0_0, .int .i64 a0_1, .slice A0_2 l0_2.length c0_2]) (t := 27) ?hr ?_; (case hd => rfl); (case hg => rfl); (case hr => first | (go_simp; done) | (go_simp; rfl)); intro gb253 hg w4 hbox hb; have n0_ := Aside0.mk (below_step (by repeat (first | (with_reducible first | exact HB.out | apply below_alloc | apply pw_below_drewN | apply below_drew1) | exact HB.out)) hb); have n1_ := Aside0.mk (hbox); have n2_ := Aside0.mk ((by rw [hg]; exact (below_size (by repeat (first | (with_reducible first | exact HB.out | apply below_alloc | apply pw_below_drewN | apply below_drew1) | exact HB.out))) : w.heap.size ≤ gb253)); have n3_ := Aside0.mk ((by rw [hg]; exact (below_size (by repeat (first | (with_reducible first | exact HB.out | apply below_alloc | apply pw_below_drewN | apply below_drew1) | exact HB.out))) : w.heap.size ≤ gb253)); clear HB; have HB := n0_; have BK253 := n1_; have GW253 := n2_; have GE253 := n3_; clear n0_ n1_ n2_ n3_; clear hb hbox hg) | ((with_reducible refine gate_dst (N := 3) rfl ?_); (try (refine gate_guard (by rfl) ?_; dsimp only)); refine box_event ?hg (N := 3) ?hd (cs := #[.int .i64 a1_0, .int .i64 a1_1, .slice A1_2 l1_2.length c1_2]) (t := 27) ?hr ?_; (case hd => rfl); (case hg => rfl); (case hr => first | (go_simp; done) | (go_simp; rfl)); intro gb254 hg w5 hbox hb; have n0_ := Aside0.mk (blk_below (g := gb253) (o := .cells #[.int .i64 a0_0, .int .i64 a0_1, .slice A0_2 l0_2.length c0_2] 27 (0, 0)) (by (with_reducible repeat (first | refine blk_drewN ?_ _ | refine blk_drew ?_ | refine blk_alloc ?_ _)); exact BK253.out) hb); have n1_ := Aside0.mk (below_step (by repeat (first | (with_reducible first | exact HB.out | apply below_alloc | apply pw_below_drewN | apply below_drew1 | refine below_set ?_ GE253.out) | exact HB.out)) hb); have n2_ := Aside0.mk (hbox); have n3_ := Aside0.mk ((by rw [hg]; exact (below_size (by repeat (first | (with_reducible first | exact HB.out | apply below_alloc | apply pw_below_drewN | apply below_drew1 | refine below_set ?_ GE253.out) | exact HB.out))) : w.heap.size ≤ gb254)); have n4_ := Aside0.mk ((by rw [hg]; exact (below_size (by repeat (first | (with_reducible first | exact HB.out | apply below_alloc | apply pw_below_drewN | apply below_drew1 | refine below_set ?_ GE253.out) | exact HB.out))) : w.heap.size ≤ gb254)); have n5_ := Aside0.mk ((by rw [hg]; exact Nat.ne_of_lt (blk_lt (g := gb253) (o := .cells #[.int .i64 a0_0, .int .i64 a0_1, .slice A0_2 l0_2.length c0_2] 27 (0, 0)) (by (with_reducible repeat (first | refine blk_drewN ?_ _ | refine blk_drew ?_ | refine blk_alloc ?_ _)); exact BK253.out)) : gb253 ≠ gb254)); have n6_ := Aside0.mk ((by rw [hg]; exact Nat.ne_of_gt (blk_lt (g := gb253) (o := .cells #[.int .i64 a0_0, .int .i64 a0_1, .slice A0_2 l0_2.length c0_2] 27 (0, 0)) (by (with_reducible repeat (first | refine blk_drewN ?_ _ | refine blk_drew ?_ | refine blk_alloc ?_ _)); exact BK253.out)) : gb254 ≠ gb253)); clear BK253; clear HB; have BK253 := n0_; have HB := n1_; have BK254 := n2_; have GW254 := n3_; have GE254 := n4_; have NB253_254 := n5_; have NB254_253 := n6_; clear n0_ n1_ n2_ n3_ n4_ n5_ n6_; clear hb hbox hg)); go_upto_region 1 with (first | ((with_reducible refine gate_dst (N := 2) rfl ?_); (try (refine gate_guard (by rfl) ?_; dsimp only)); refine box_event ?hg (N := 2) ?hd (cs := #[.int .i64 a0_0, .int .i64 a0_1, .slice A0_2 l0_2.length c0_2]) (t := 27) ?hr ?_; (case hd => rfl); (case hg => rfl); (case hr => first | (go_simp; done) | (go_simp; rfl)); intro gb253 hg w4 hbox hb; have n0_ := Aside0.mk (below_step (by repeat (first | (with_reducible first | exact HB.out | apply below_alloc | apply pw_below_drewN | apply below_drew1) | exact HB.out)) hb); have n1_ := Aside0.mk (hbox); have n2_ := Aside0.mk ((by rw [hg]; exact (below_size (by repeat (first | (with_reducible first | exact HB.out | apply below_alloc | apply pw_below_drewN | apply below_drew1) | exact HB.out))) : w.heap.size ≤ gb253)); have n3_ := Aside0.mk ((by rw [hg]; exact (below_size (by repeat (first | (with_reducible first | exact HB.out | apply below_alloc | apply pw_below_drewN | apply below_drew1) | exact HB.out))) : w.heap.size ≤ gb253)); clear HB; have HB := n0_; have BK253 := n1_; have GW253 := n2_; have GE253 := n3_; clear n0_ n1_ n2_ n3_; clear hb hbox hg) | ((with_reducible refine gate_dst (N := 3) rfl ?_); (try (refine gate_guard (by rfl) ?_; dsimp only)); refine box_event ?hg (N := 3) ?hd (cs := #[.int .i64 a1_0, .int .i64 a1_1, .slice A1_2 l1_2.length c1_2]) (t := 27) ?hr ?_; (case hd => rfl); (case hg => rfl); (case hr => first | (go_simp; done) | (go_simp; rfl)); intro gb254 hg w5 hbox hb; have n0_ := Aside0.mk (blk_below (g := gb253) (o := .cells #[.int .i64 a0_0, .int .i64 a0_1, .slice A0_2 l0_2.length c0_2] 27 (0, 0)) (by (with_reducible repeat (first | refine blk_drewN ?_ _ | refine blk_drew ?_ | refine blk_alloc ?_ _)); exact BK253.out) hb); have n1_ := Aside0.mk (below_step (by repeat (first | (with_reducible first | exact HB.out | apply below_alloc | apply pw_below_drewN | apply below_drew1 | refine below_set ?_ GE253.out) | exact HB.out)) hb); have n2_ := Aside0.mk (hbox); have n3_ := Aside0.mk ((by rw [hg]; exact (below_size (by repeat (first | (with_reducible first | exact HB.out | apply below_alloc | apply pw_below_drewN | apply below_drew1 | refine below_set ?_ GE253.out) | exact HB.out))) : w.heap.size ≤ gb254)); have n4_ := Aside0.mk ((by rw [hg]; exact (below_size (by repeat (first | (with_reducible first | exact HB.out | apply below_alloc | apply pw_below_drewN | apply below_drew1 | refine below_set ?_ GE253.out) | exact HB.out))) : w.heap.size ≤ gb254)); have n5_ := Aside0.mk ((by rw [hg]; exact Nat.ne_of_lt (blk_lt (g := gb253) (o := .cells #[.int .i64 a0_0, .int .i64 a0_1, .slice A0_2 l0_2.length c0_2] 27 (0, 0)) (by (with_reducible repeat (first | refine blk_drewN ?_ _ | refine blk_drew ?_ | refine blk_alloc ?_ _)); exact BK253.out)) : gb253 ≠ gb254)); have n6_ := Aside0.mk ((by rw [hg]; exact Nat.ne_of_gt (blk_lt (g := gb253) (o := .cells #[.int .i64 a0_0, .int .i64 a0_1, .slice A0_2 l0_2.length c0_2] 27 (0, 0)) (by (with_reducible repeat (first | refine blk_drewN ?_ _ | refine blk_drew ?_ | refine blk_alloc ?_ _)); exact BK253.out)) : gb254 ≠ gb253)); clear BK253; clear HB; have BK253 := n0_; have HB := n1_; have BK254 := n2_; have GW254 := n3_; have GE254 := n4_; have NB253_254 := n5_; have NB254_253 := n6_; clear n0_ n1_ n2_ n3_ n4_ n5_ n6_; clear hb hbox hg)))
  (try simp only [Act.put, List.setIfInBounds_toArray, List.set_cons_zero, List.set_cons_succ])
  go_cut [26] (fun v26 wc => ∃ (kq : Nat) (x26_2 : Bool), v26 = .bool x26_2 ∧ Aside0 (compositorref09_Equal.j0 kq x26_2 a0_0 a0_1 l0_2 a1_0 a1_1 l1_2 = some r) ∧ Aside0 (kq ≤ k) ∧ Aside0 (wc.heap[gb253]? = some (.cells #[.int .i64 a0_0, .int .i64 a0_1, (.slice A0_2 l0_2.length c0_2)] 27 (0, 0))) ∧ Aside0 (wc.heap[gb254]? = some (.cells #[.int .i64 a1_0, .int .i64 a1_1, (.slice A1_2 l1_2.length c1_2)] 27 (0, 0))) ∧ Aside0 (Below w.heap.size w wc))
  case first =>
    have H := HC3.out
    clear HC3
    by_cases c6 : a0_0 = a1_0
    · rw [if_pos c6] at H
      have c6b0 : (a0_0 == a1_0) = true := beq_iff_eq.mpr c6
      have c6b1 : (a0_0 != a1_0) = false := bne_eq_false_iff_eq.mpr c6
      clear c6
      (first | rw [c6b0] | (simp only [i64_w, i32_w]; rw [c6b0]) | skip)
      by_cases c7 : a0_1 = a1_1
      · rw [if_pos c7] at H
        have c7b0 : (a0_1 == a1_1) = true := beq_iff_eq.mpr c7
        have c7b1 : (a0_1 != a1_1) = false := bne_eq_false_iff_eq.mpr c7
        clear c7
        have H' := Aside0.mk H
        clear H
        have hnb8 := NB253_254.out
        have hnc8 := NB254_253.out
        have hcz9_0 : w5.cell? ⟨gb253, 0, none⟩ = some (.int .i64 a0_0) := (blk_cell BK253.out 0).trans rfl
        have hcz9_1 : w5.cell? ⟨gb253, 1, none⟩ = some (.int .i64 a0_1) := (blk_cell BK253.out 1).trans rfl
        have hcz9_2 : w5.cell? ⟨gb253, 2, none⟩ = some (.slice A0_2 l0_2.length c0_2) := (blk_cell BK253.out 2).trans rfl
        have hfz9_0 := blk_frozen BK253.out 0
        have hfz9_1 := blk_frozen BK253.out 1
        have hfz9_2 := blk_frozen BK253.out 2
        have hcz10_0 : w5.cell? ⟨gb254, 0, none⟩ = some (.int .i64 a1_0) := (blk_cell BK254.out 0).trans rfl
        have hcz10_1 : w5.cell? ⟨gb254, 1, none⟩ = some (.int .i64 a1_1) := (blk_cell BK254.out 1).trans rfl
        have hcz10_2 : w5.cell? ⟨gb254, 2, none⟩ = some (.slice A1_2 l1_2.length c1_2) := (blk_cell BK254.out 2).trans rfl
        have hfz10_0 := blk_frozen BK254.out 0
        have hfz10_1 := blk_frozen BK254.out 1
        have hfz10_2 := blk_frozen BK254.out 2
        go_wp2
        repeat (go_quiet (fail); try go_wp2)
        go_meet
        case rel => exact ⟨_, (((l0_2.length : Int) != (l1_2.length : Int))), (by first | rfl | (simp; done) | (simp [*]; done)), H', ⟨by first | omega | exact Nat.le_refl _⟩, ⟨by (with_reducible repeat (first | refine blk_drewN ?_ _ | refine blk_drew ?_ | refine blk_alloc ?_ _)); exact BK253.out⟩, ⟨by (with_reducible repeat (first | refine blk_drewN ?_ _ | refine blk_drew ?_ | refine blk_alloc ?_ _)); exact BK254.out⟩, ⟨by repeat (first | (with_reducible first | exact HB.out | apply below_alloc | apply pw_below_drewN | apply below_drew1 | refine below_set ?_ GE253.out | refine below_set ?_ GE254.out) | exact HB.out)⟩⟩
      · rw [if_neg c7] at H
        have c7b0 : (a0_1 == a1_1) = false := beq_eq_false_iff_ne.mpr c7
        have c7b1 : (a0_1 != a1_1) = true := bne_iff_ne.mpr c7
        have H' := Aside0.mk H
        clear H
        have hnb11 := NB253_254.out
        have hnc11 := NB254_253.out
        have hcz12_0 : w5.cell? ⟨gb253, 0, none⟩ = some (.int .i64 a0_0) := (blk_cell BK253.out 0).trans rfl
        have hcz12_1 : w5.cell? ⟨gb253, 1, none⟩ = some (.int .i64 a0_1) := (blk_cell BK253.out 1).trans rfl
        have hcz12_2 : w5.cell? ⟨gb253, 2, none⟩ = some (.slice A0_2 l0_2.length c0_2) := (blk_cell BK253.out 2).trans rfl
        have hfz12_0 := blk_frozen BK253.out 0
        have hfz12_1 := blk_frozen BK253.out 1
        have hfz12_2 := blk_frozen BK253.out 2
        have hcz13_0 : w5.cell? ⟨gb254, 0, none⟩ = some (.int .i64 a1_0) := (blk_cell BK254.out 0).trans rfl
        have hcz13_1 : w5.cell? ⟨gb254, 1, none⟩ = some (.int .i64 a1_1) := (blk_cell BK254.out 1).trans rfl
        have hcz13_2 : w5.cell? ⟨gb254, 2, none⟩ = some (.slice A1_2 l1_2.length c1_2) := (blk_cell BK254.out 2).trans rfl
        have hfz13_0 := blk_frozen BK254.out 0
        have hfz13_1 := blk_frozen BK254.out 1
        have hfz13_2 := blk_frozen BK254.out 2
        go_wp2
        repeat (go_quiet (fail); try go_wp2)
        go_meet
        case rel => exact ⟨_, (true), (by first | rfl | (simp; done) | (simp [*]; done)), H', ⟨by first | omega | exact Nat.le_refl _⟩, ⟨by (with_reducible repeat (first | refine blk_drewN ?_ _ | refine blk_drew ?_ | refine blk_alloc ?_ _)); exact BK253.out⟩, ⟨by (with_reducible repeat (first | refine blk_drewN ?_ _ | refine blk_drew ?_ | refine blk_alloc ?_ _)); exact BK254.out⟩, ⟨by repeat (first | (with_reducible first | exact HB.out | apply below_alloc | apply pw_below_drewN | apply below_drew1 | refine below_set ?_ GE253.out | refine below_set ?_ GE254.out) | exact HB.out)⟩⟩
    · rw [if_neg c6] at H
      have c6b0 : (a0_0 == a1_0) = false := beq_eq_false_iff_ne.mpr c6
      have c6b1 : (a0_0 != a1_0) = true := bne_iff_ne.mpr c6
      (first | rw [c6b0] | (simp only [i64_w, i32_w]; rw [c6b0]) | skip)
      have H' := Aside0.mk H
      clear H
      have hnb14 := NB253_254.out
      have hnc14 := NB254_253.out
      have hcz15_0 : w5.cell? ⟨gb253, 0, none⟩ = some (.int .i64 a0_0) := (blk_cell BK253.out 0).trans rfl
      have hcz15_1 : w5.cell? ⟨gb253, 1, none⟩ = some (.int .i64 a0_1) := (blk_cell BK253.out 1).trans rfl
      have hcz15_2 : w5.cell? ⟨gb253, 2, none⟩ = some (.slice A0_2 l0_2.length c0_2) := (blk_cell BK253.out 2).trans rfl
      have hfz15_0 := blk_frozen BK253.out 0
      have hfz15_1 := blk_frozen BK253.out 1
      have hfz15_2 := blk_frozen BK253.out 2
      have hcz16_0 : w5.cell? ⟨gb254, 0, none⟩ = some (.int .i64 a1_0) := (blk_cell BK254.out 0).trans rfl
      have hcz16_1 : w5.cell? ⟨gb254, 1, none⟩ = some (.int .i64 a1_1) := (blk_cell BK254.out 1).trans rfl
      have hcz16_2 : w5.cell? ⟨gb254, 2, none⟩ = some (.slice A1_2 l1_2.length c1_2) := (blk_cell BK254.out 2).trans rfl
      have hfz16_0 := blk_frozen BK254.out 0
      have hfz16_1 := blk_frozen BK254.out 1
      have hfz16_2 := blk_frozen BK254.out 2
      go_wp2
      repeat (go_quiet (fail); try go_wp2)
      go_meet
      case rel => exact ⟨_, (true), (by first | rfl | (simp; done) | (simp [*]; done)), H', ⟨by first | omega | exact Nat.le_refl _⟩, ⟨by (with_reducible repeat (first | refine blk_drewN ?_ _ | refine blk_drew ?_ | refine blk_alloc ?_ _)); exact BK253.out⟩, ⟨by (with_reducible repeat (first | refine blk_drewN ?_ _ | refine blk_drew ?_ | refine blk_alloc ?_ _)); exact BK254.out⟩, ⟨by repeat (first | (with_reducible first | exact HB.out | apply below_alloc | apply pw_below_drewN | apply below_drew1 | refine below_set ?_ GE253.out | refine below_set ?_ GE254.out) | exact HB.out)⟩⟩
  case rest =>
    clear HC3
    try clear c1
    try clear p2
    try clear c6
    try clear c6b0
    try clear c6b1
    try clear c7
    try clear c7b0
    try clear c7b1
    try clear c8
    try clear c11
    try clear c14
    try clear c16
    try clear hcz10_0
    try clear hcz10_1
    try clear hcz10_2
    try clear hcz12_0
    try clear hcz12_1
    try clear hcz12_2
    try clear hcz13_0
    try clear hcz13_1
    try clear hcz13_2
    try clear hcz15_0
    try clear hcz15_1
    try clear hcz15_2
    try clear hcz16_0
    try clear hcz16_1
    try clear hcz16_2
    try clear hcz9_0
    try clear hcz9_1
    try clear hcz9_2
    try clear hfz10_0
    try clear hfz10_1
    try clear hfz10_2
    try clear hfz12_0
    try clear hfz12_1
    try clear hfz12_2
    try clear hfz13_0
    try clear hfz13_1
    try clear hfz13_2
    try clear hfz15_0
    try clear hfz15_1
    try clear hfz15_2
    try clear hfz16_0
    try clear hfz16_1
    try clear hfz16_2
    try clear hfz9_0
    try clear hfz9_1
    try clear hfz9_2
    obtain ⟨kq, x26_2, rfl, HA, HJ2, BK253, BK254, HB⟩ := hcut
    cases kq with
    | zero => exact absurd HA.out (by simp [compositorref09_Equal.j0])
    | succ kj2 =>
      have H := HA.out
      clear HA
      simp only [compositorref09_Equal.j0] at H
      by_cases c17 : x26_2 = true
      · subst c17
        have H1 : (some false) = some r := by rw [if_pos rfl] at H; exact H
        clear H
        have H := H1
        clear H1
        obtain rfl := Option.some.inj H
        go_wp2
        repeat (go_quiet (fail); try go_wp2)
        go_ret
        exact ⟨by first | rfl | (simp [errW_none, errW_some] <;> rfl) | (simp [*, errW_none, errW_some] <;> rfl), by repeat (first | (with_reducible first | exact HB.out | apply below_alloc | apply pw_below_drewN | apply below_drew1 | refine below_set ?_ GE253.out | refine below_set ?_ GE254.out) | exact HB.out)⟩
      · replace c17 := Bool.eq_false_iff.mpr c17
        subst c17
        have H1 : (compositorref09_Equal.l0 kj2 0 a0_0 a0_1 l0_2 a1_0 a1_1 l1_2) = some r := by rw [if_neg (show ¬ (false = true) by decide)] at H; exact H
        clear H
        have H := H1
        clear H1
        have H' := Aside0.mk H
        clear H
        go_wp2
        repeat (go_quiet (fail); try go_wp2)
        go_loopg [5] kj2 (fun kq v5 w' => ∃ (x5_2 : Int), v5 = .int .i64 x5_2 ∧ Aside0 (compositorref09_Equal.l0 kq x5_2 a0_0 a0_1 l0_2 a1_0 a1_1 l1_2 = some r) ∧ Aside0 (kq ≤ kj2) ∧ Aside0 (w'.heap[gb253]? = some (.cells #[.int .i64 a0_0, .int .i64 a0_1, (.slice A0_2 l0_2.length c0_2)] 27 (0, 0))) ∧ Aside0 (w'.heap[gb254]? = some (.cells #[.int .i64 a1_0, .int .i64 a1_1, (.slice A1_2 l1_2.length c1_2)] 27 (0, 0))) ∧ Aside0 (Below w.heap.size w w'))
        case atStart => exact ⟨(0), (by first | rfl | (simp; done) | (simp [*]; done)), H', ⟨Nat.le_refl _⟩, ⟨by (with_reducible repeat (first | refine blk_drewN ?_ _ | refine blk_drew ?_ | refine blk_alloc ?_ _)); exact BK253.out⟩, ⟨by (with_reducible repeat (first | refine blk_drewN ?_ _ | refine blk_drew ?_ | refine blk_alloc ?_ _)); exact BK254.out⟩, ⟨by repeat (first | (with_reducible first | exact HB.out | apply below_alloc | apply pw_below_drewN | apply below_drew1 | refine below_set ?_ GE253.out | refine below_set ?_ GE254.out) | exact HB.out)⟩⟩
        case round =>
          clear H'
          try clear c1
          try clear p2
          try clear c6
          try clear c6b0
          try clear c6b1
          try clear c7
          try clear c7b0
          try clear c7b1
          try clear c8
          try clear c11
          try clear c14
          try clear c16
          try clear c17
          try clear hcz10_0
          try clear hcz10_1
          try clear hcz10_2
          try clear hcz12_0
          try clear hcz12_1
          try clear hcz12_2
          try clear hcz13_0
          try clear hcz13_1
          try clear hcz13_2
          try clear hcz15_0
          try clear hcz15_1
          try clear hcz15_2
          try clear hcz16_0
          try clear hcz16_1
          try clear hcz16_2
          try clear hcz9_0
          try clear hcz9_1
          try clear hcz9_2
          try clear hfz10_0
          try clear hfz10_1
          try clear hfz10_2
          try clear hfz12_0
          try clear hfz12_1
          try clear hfz12_2
          try clear hfz13_0
          try clear hfz13_1
          try clear hfz13_2
          try clear hfz15_0
          try clear hfz15_1
          try clear hfz15_2
          try clear hfz16_0
          try clear hfz16_1
          try clear hfz16_2
          try clear hfz9_0
          try clear hfz9_1
          try clear hfz9_2
          try clear p2
          obtain ⟨x5_2, rfl, HA, HK2, BK253, BK254, HB⟩ := hrel
          cases gk with
          | zero => exact absurd HA.out (by simp [compositorref09_Equal.l0])
          | succ k2 =>
            have H := HA.out
            clear HA
            simp only [compositorref09_Equal.l0] at H
            by_cases c18 : x5_2 < (l0_2.length : Int)
            · rw [if_pos c18] at H
              have c18b0 : decide (x5_2 < (l0_2.length : Int)) = true := decide_eq_true c18
              clear c18
              by_cases c19 : 0 ≤ x5_2
              · rw [if_pos c19] at H
                have c19b0 : decide (0 ≤ x5_2) = true := decide_eq_true c19
                clear c19
                by_cases c20 : x5_2 < (l1_2.length : Int)
                · rw [if_pos c20] at H
                  have c20b0 : decide (x5_2 < (l1_2.length : Int)) = true := decide_eq_true c20
                  clear c20
                  by_cases c21 : (!(((rd_T43 l0_2 x5_2).f0) == ((rd_T43 l1_2 x5_2).f0)) || (!(((rd_T43 l0_2 x5_2).f1) == ((rd_T43 l1_2 x5_2).f1)) || (!(((rd_T43 l0_2 x5_2).f2) == ((rd_T43 l1_2 x5_2).f2)) || (!(((rd_T43 l0_2 x5_2).f3) == ((rd_T43 l1_2 x5_2).f3)))))) = true
                  · rw [if_pos c21] at H
                    have c21b0 : (!(((rd_T43 l0_2 x5_2).f0) == ((rd_T43 l1_2 x5_2).f0)) || (!(((rd_T43 l0_2 x5_2).f1) == ((rd_T43 l1_2 x5_2).f1)) || (!(((rd_T43 l0_2 x5_2).f2) == ((rd_T43 l1_2 x5_2).f2)) || (!(((rd_T43 l0_2 x5_2).f3) == ((rd_T43 l1_2 x5_2).f3)))))) = true := c21
                    clear c21
                    obtain rfl := Option.some.inj H
                    have hnb22 := NB253_254.out
                    have hnc22 := NB254_253.out
                    have hcz23_0 : wr.cell? ⟨gb253, 0, none⟩ = some (.int .i64 a0_0) := (blk_cell BK253.out 0).trans rfl
                    have hcz23_1 : wr.cell? ⟨gb253, 1, none⟩ = some (.int .i64 a0_1) := (blk_cell BK253.out 1).trans rfl
                    have hcz23_2 : wr.cell? ⟨gb253, 2, none⟩ = some (.slice A0_2 l0_2.length c0_2) := (blk_cell BK253.out 2).trans rfl
                    have hfz23_0 := blk_frozen BK253.out 0
                    have hfz23_1 := blk_frozen BK253.out 1
                    have hfz23_2 := blk_frozen BK253.out 2
                    have p255 : 0 ≤ (x5_2 : Int) := of_decide_eq_true (by first | (with_reducible assumption) | assumption)
                    have q255 : x5_2 < (l0_2.length : Int) := of_decide_eq_true (by first | (with_reducible assumption) | assumption)
                    obtain ⟨ad255, e255, hx255_0, hx255_1, hx255_2, hx255_3⟩ := at_T43 HR0_2.out x5_2 p255 q255
                    cases e255
                    replace hx255_0 := (HB.out.cell (World.block_lt_of_cell? w _ hx255_0)).trans hx255_0
                    replace hx255_1 := (HB.out.cell (World.block_lt_of_cell? w _ hx255_1)).trans hx255_1
                    replace hx255_2 := (HB.out.cell (World.block_lt_of_cell? w _ hx255_2)).trans hx255_2
                    replace hx255_3 := (HB.out.cell (World.block_lt_of_cell? w _ hx255_3)).trans hx255_3
                    replace p255 := eq_true p255
                    replace q255 := eq_true q255
                    have hcz24_0 : wr.cell? ⟨gb254, 0, none⟩ = some (.int .i64 a1_0) := (blk_cell BK254.out 0).trans rfl
                    have hcz24_1 : wr.cell? ⟨gb254, 1, none⟩ = some (.int .i64 a1_1) := (blk_cell BK254.out 1).trans rfl
                    have hcz24_2 : wr.cell? ⟨gb254, 2, none⟩ = some (.slice A1_2 l1_2.length c1_2) := (blk_cell BK254.out 2).trans rfl
                    have hfz24_0 := blk_frozen BK254.out 0
                    have hfz24_1 := blk_frozen BK254.out 1
                    have hfz24_2 := blk_frozen BK254.out 2
                    have p256 : 0 ≤ (x5_2 : Int) := of_decide_eq_true (by first | (with_reducible assumption) | assumption)
                    have q256 : x5_2 < (l1_2.length : Int) := of_decide_eq_true (by first | (with_reducible assumption) | assumption)
                    obtain ⟨ad256, e256, hx256_0, hx256_1, hx256_2, hx256_3⟩ := at_T43 HR1_2.out x5_2 p256 q256
                    cases e256
                    replace hx256_0 := (HB.out.cell (World.block_lt_of_cell? w _ hx256_0)).trans hx256_0
                    replace hx256_1 := (HB.out.cell (World.block_lt_of_cell? w _ hx256_1)).trans hx256_1
                    replace hx256_2 := (HB.out.cell (World.block_lt_of_cell? w _ hx256_2)).trans hx256_2
                    replace hx256_3 := (HB.out.cell (World.block_lt_of_cell? w _ hx256_3)).trans hx256_3
                    replace p256 := eq_true p256
                    replace q256 := eq_true q256
                    go_wp2
                    repeat (go_quiet (fail); try go_wp2)
                    go_ret
                    exact ⟨by first | rfl | (simp [errW_none, errW_some] <;> rfl) | (simp [*, errW_none, errW_some] <;> rfl), by repeat (first | (with_reducible first | exact HB.out | apply below_alloc | apply pw_below_drewN | apply below_drew1 | refine below_set ?_ GE253.out | refine below_set ?_ GE254.out) | exact HB.out)⟩
                  · rw [if_neg c21] at H
                    have c21b0 : (!(((rd_T43 l0_2 x5_2).f0) == ((rd_T43 l1_2 x5_2).f0)) || (!(((rd_T43 l0_2 x5_2).f1) == ((rd_T43 l1_2 x5_2).f1)) || (!(((rd_T43 l0_2 x5_2).f2) == ((rd_T43 l1_2 x5_2).f2)) || (!(((rd_T43 l0_2 x5_2).f3) == ((rd_T43 l1_2 x5_2).f3)))))) = false := by simpa using c21
                    clear c21
                    have H' := Aside0.mk H
                    clear H
                    have hnb25 := NB253_254.out
                    have hnc25 := NB254_253.out
                    have hcz26_0 : wr.cell? ⟨gb253, 0, none⟩ = some (.int .i64 a0_0) := (blk_cell BK253.out 0).trans rfl
                    have hcz26_1 : wr.cell? ⟨gb253, 1, none⟩ = some (.int .i64 a0_1) := (blk_cell BK253.out 1).trans rfl
                    have hcz26_2 : wr.cell? ⟨gb253, 2, none⟩ = some (.slice A0_2 l0_2.length c0_2) := (blk_cell BK253.out 2).trans rfl
                    have hfz26_0 := blk_frozen BK253.out 0
                    have hfz26_1 := blk_frozen BK253.out 1
                    have hfz26_2 := blk_frozen BK253.out 2
                    have p255 : 0 ≤ (x5_2 : Int) := of_decide_eq_true (by first | (with_reducible assumption) | assumption)
                    have q255 : x5_2 < (l0_2.length : Int) := of_decide_eq_true (by first | (with_reducible assumption) | assumption)
                    obtain ⟨ad255, e255, hx255_0, hx255_1, hx255_2, hx255_3⟩ := at_T43 HR0_2.out x5_2 p255 q255
                    cases e255
                    replace hx255_0 := (HB.out.cell (World.block_lt_of_cell? w _ hx255_0)).trans hx255_0
                    replace hx255_1 := (HB.out.cell (World.block_lt_of_cell? w _ hx255_1)).trans hx255_1
                    replace hx255_2 := (HB.out.cell (World.block_lt_of_cell? w _ hx255_2)).trans hx255_2
                    replace hx255_3 := (HB.out.cell (World.block_lt_of_cell? w _ hx255_3)).trans hx255_3
                    replace p255 := eq_true p255
                    replace q255 := eq_true q255
                    have hcz27_0 : wr.cell? ⟨gb254, 0, none⟩ = some (.int .i64 a1_0) := (blk_cell BK254.out 0).trans rfl
                    have hcz27_1 : wr.cell? ⟨gb254, 1, none⟩ = some (.int .i64 a1_1) := (blk_cell BK254.out 1).trans rfl
                    have hcz27_2 : wr.cell? ⟨gb254, 2, none⟩ = some (.slice A1_2 l1_2.length c1_2) := (blk_cell BK254.out 2).trans rfl
                    have hfz27_0 := blk_frozen BK254.out 0
                    have hfz27_1 := blk_frozen BK254.out 1
                    have hfz27_2 := blk_frozen BK254.out 2
                    have p256 : 0 ≤ (x5_2 : Int) := of_decide_eq_true (by first | (with_reducible assumption) | assumption)
                    have q256 : x5_2 < (l1_2.length : Int) := of_decide_eq_true (by first | (with_reducible assumption) | assumption)
                    obtain ⟨ad256, e256, hx256_0, hx256_1, hx256_2, hx256_3⟩ := at_T43 HR1_2.out x5_2 p256 q256
                    cases e256
                    replace hx256_0 := (HB.out.cell (World.block_lt_of_cell? w _ hx256_0)).trans hx256_0
                    replace hx256_1 := (HB.out.cell (World.block_lt_of_cell? w _ hx256_1)).trans hx256_1
                    replace hx256_2 := (HB.out.cell (World.block_lt_of_cell? w _ hx256_2)).trans hx256_2
                    replace hx256_3 := (HB.out.cell (World.block_lt_of_cell? w _ hx256_3)).trans hx256_3
                    replace p256 := eq_true p256
                    replace q256 := eq_true q256
                    go_wp2
                    repeat (go_quiet (fail); try go_wp2)
                    go_roundg k2
                    case measure => have := HJ2.out; have := HK2.out; omega
                    case rel => exact ⟨(wrap64 (x5_2 + 1)), (by first | rfl | (simp; done) | (simp [*]; done)), H', ⟨by have := HJ2.out; have := HK2.out; omega⟩, ⟨by (with_reducible repeat (first | refine blk_drewN ?_ _ | refine blk_drew ?_ | refine blk_alloc ?_ _)); exact BK253.out⟩, ⟨by (with_reducible repeat (first | refine blk_drewN ?_ _ | refine blk_drew ?_ | refine blk_alloc ?_ _)); exact BK254.out⟩, ⟨by repeat (first | (with_reducible first | exact HB.out | apply below_alloc | apply pw_below_drewN | apply below_drew1 | refine below_set ?_ GE253.out | refine below_set ?_ GE254.out) | exact HB.out)⟩⟩
                · rw [if_neg c20] at H
                  exact absurd H (by simp)
              · rw [if_neg c19] at H
                exact absurd H (by simp)
            · rw [if_neg c18] at H
              have c18b0 : decide (x5_2 < (l0_2.length : Int)) = false := decide_eq_false c18
              clear c18
              obtain rfl := Option.some.inj H
              have hnb28 := NB253_254.out
              have hnc28 := NB254_253.out
              have hcz29_0 : wr.cell? ⟨gb253, 0, none⟩ = some (.int .i64 a0_0) := (blk_cell BK253.out 0).trans rfl
              have hcz29_1 : wr.cell? ⟨gb253, 1, none⟩ = some (.int .i64 a0_1) := (blk_cell BK253.out 1).trans rfl
              have hcz29_2 : wr.cell? ⟨gb253, 2, none⟩ = some (.slice A0_2 l0_2.length c0_2) := (blk_cell BK253.out 2).trans rfl
              have hfz29_0 := blk_frozen BK253.out 0
              have hfz29_1 := blk_frozen BK253.out 1
              have hfz29_2 := blk_frozen BK253.out 2
              go_wp2
              repeat (go_quiet (fail); try go_wp2)
              go_ret
              exact ⟨by first | rfl | (simp [errW_none, errW_some] <;> rfl) | (simp [*, errW_none, errW_some] <;> rfl), by repeat (first | (with_reducible first | exact HB.out | apply below_alloc | apply pw_below_drewN | apply below_drew1 | refine below_set ?_ GE253.out | refine below_set ?_ GE254.out) | exact HB.out)⟩
end Go.Proofs.Ytmockeaiccpogaa.All
end
