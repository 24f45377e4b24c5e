-- The texts behind this claim's law, put together by a program of this session (shake.py): what no text uses is left out. Its words are print.sh's.
import Derived.SizedLaws
import Derived.ChangeSlices
import Derived.OpenShut
import Derived.Test.YtmockeaiccpogaaSBufferDiff16
section
namespace Go.Proofs.Ytmockeaiccpogaa.All
open Go.Proofs.YtmockeaiccpogaaSq
open Go.RowKit Go.Proofs.YtmockeaiccpogaaW.PrintWords Go.Proofs.YtmockeaiccpogaaW.PrintLast Go.Proofs.YtmockeaiccpogaaW.PrintMore
attribute [local go_sem] max2_int min2_int max_two min_two max_three min_three max_four min_four
set_option linter.unusedVariables false
set_option linter.unusedSimpArgs false
attribute [local go_sem high] eqA43
abbrev zq9.q0 := Go.Proofs.YtmockeaiccpogaaHand.bz 11 0
abbrev zq9.q1 := Go.Proofs.YtmockeaiccpogaaHand.bz 11 2
abbrev zq9.q2 := Go.Proofs.YtmockeaiccpogaaHand.bz 11 6
abbrev zq9.q3 := Go.Proofs.YtmockeaiccpogaaHand.bz 11 70
abbrev zq9.q4 := Go.Proofs.YtmockeaiccpogaaHand.bz 11 198
abbrev zq9.q5 := Go.Proofs.YtmockeaiccpogaaHand.bz 11 199
abbrev zq9.q6 := Go.Proofs.YtmockeaiccpogaaHand.bz 11 207
abbrev zq9.q7 := Go.Proofs.YtmockeaiccpogaaHand.bz 11 239
abbrev zq9.q8 := Go.Proofs.YtmockeaiccpogaaHand.bz 11 495
abbrev zq9.q9 := Go.Proofs.YtmockeaiccpogaaHand.bz 11 511
abbrev zq9.q10 := Go.Proofs.YtmockeaiccpogaaHand.bz 11 1023
abbrev zq9.q11 := Go.Proofs.YtmockeaiccpogaaHand.bz 11 2047
mutual
def compositorlaw09_BufferDiff.j0 : Nat → Bool → Int → Int → List (S43) → Int → Int → List (S43) → Option (Bool)
 | 0, _, _, _, _, _, _, _ => none
 | k + 1, x24, x474000, x474001, x474002, x475000, x475001, x475002 => if x24 = true then ((compositorlaw09_exampleHolds.f k).bind fun t477 => (some t477)) else ((buffer_Diff.f x474000 x474001 x474002 x475000 x475001 x475002).bind fun bt478 => (if bt478.2 = 0 then ((compositorlaw09_clone.f x474000 x474001 x474002).bind fun bt487 => (compositorlaw09_BufferDiff.l0 k bt478.1 0 x474000 x474001 x474002 x475000 x475001 x475002 bt487.1 bt487.2.1 bt487.2.2)) else ((compositorref09_Diff.f k x474000 x474001 x474002 x475000 x475001 x475002).bind fun bt482 => (if bt478.2 = bt482.2 then (if (bt482.1.length : Int) = 0 then (if (bt478.1.length : Int) = 0 then ((compositorlaw09_exampleHolds.f k).bind fun t486 => (some t486)) else (some false)) else (some false)) else (some false)))))
def compositorlaw09_BufferDiff.l0 : Nat → List (S47) → Int → Int → Int → List (S43) → Int → Int → List (S43) → Int → Int → List (S43) → Option (Bool)
 | 0, _, _, _, _, _, _, _, _, _, _, _ => none
 | k + 1, x5, x10, x474000, x474001, x474002, x475000, x475001, x475002, x493000, x493001, x493002 => if x10 < (x5.length : Int) then (if 0 ≤ x10 then (if ((rd_T47 x5 x10).f3) = (wrap64 (((rd_T47 x5 x10).f1) + 1)) then (if ((rd_T47 x5 x10).f0) < 0 then (compositorlaw09_BufferDiff.j2 k x5 x10 true x474000 x474001 x474002 x475000 x475001 x475002 x493000 x493001 x493002 ((rd_T47 x5 x10).f0) ((rd_T47 x5 x10).f1) ((rd_T47 x5 x10).f2) ((rd_T47 x5 x10).f3)) else (if ((rd_T47 x5 x10).f2) > x475000 then (compositorlaw09_BufferDiff.j2 k x5 x10 true x474000 x474001 x474002 x475000 x475001 x475002 x493000 x493001 x493002 ((rd_T47 x5 x10).f0) ((rd_T47 x5 x10).f1) ((rd_T47 x5 x10).f2) ((rd_T47 x5 x10).f3)) else (if ((rd_T47 x5 x10).f1) < 0 then (compositorlaw09_BufferDiff.j2 k x5 x10 true x474000 x474001 x474002 x475000 x475001 x475002 x493000 x493001 x493002 ((rd_T47 x5 x10).f0) ((rd_T47 x5 x10).f1) ((rd_T47 x5 x10).f2) ((rd_T47 x5 x10).f3)) else (compositorlaw09_BufferDiff.j2 k x5 x10 (decide (((rd_T47 x5 x10).f3) > x475001)) x474000 x474001 x474002 x475000 x475001 x475002 x493000 x493001 x493002 ((rd_T47 x5 x10).f0) ((rd_T47 x5 x10).f1) ((rd_T47 x5 x10).f2) ((rd_T47 x5 x10).f3))))) else (compositorlaw09_BufferDiff.j2 k x5 x10 true x474000 x474001 x474002 x475000 x475001 x475002 x493000 x493001 x493002 ((rd_T47 x5 x10).f0) ((rd_T47 x5 x10).f1) ((rd_T47 x5 x10).f2) ((rd_T47 x5 x10).f3))) else (none)) else ((compositorref09_Equal.f k x493000 x493001 x493002 x475000 x475001 x475002).bind fun t493 => (if t493 = true then ((compositorlaw09_exampleHolds.f k).bind fun t494 => (some t494)) else (some false)))
def compositorlaw09_BufferDiff.j2 : Nat → List (S47) → Int → Bool → Int → Int → List (S43) → Int → Int → List (S43) → Int → Int → List (S43) → Int → Int → Int → Int → Option (Bool)
 | 0, _, _, _, _, _, _, _, _, _, _, _, _, _, _, _, _ => none
 | k + 1, x5, x10, x97, x474000, x474001, x474002, x475000, x475001, x475002, x493000, x493001, x493002, x497000, x497001, x497002, x497003 => if x97 = true then (some false) else (compositorlaw09_BufferDiff.l1 k x5 x10 x497000 x474000 x474001 x474002 x475000 x475001 x475002 x493000 x493001 x493002 x497000 x497001 x497002 x497003)
def compositorlaw09_BufferDiff.l1 : Nat → List (S47) → Int → Int → Int → Int → List (S43) → Int → Int → List (S43) → Int → Int → List (S43) → Int → Int → Int → Int → Option (Bool)
 | 0, _, _, _, _, _, _, _, _, _, _, _, _, _, _, _, _ => none
 | k + 1, x5, x10, x12, x474000, x474001, x474002, x475000, x475001, x475002, x493000, x493001, x493002, x497000, x497001, x497002, x497003 => if x12 < x497002 then ((compositorref09_At.f x474000 x474001 x474002 x12 x497001).bind fun bt497 => ((compositorref09_At.f x475000 x475001 x475002 x12 x497001).bind fun bt501 => (if (bt497.1 == bt501.1 && (bt497.2.1 == bt501.2.1 && (bt497.2.2.1 == bt501.2.2.1 && (bt497.2.2.2 == bt501.2.2.2)))) = true then (some false) else (compositorlaw09_BufferDiff.l1 k x5 x10 (wrap64 (x12 + 1)) x474000 x474001 x474002 x475000 x475001 x475002 x493000 x493001 x493002 x497000 x497001 x497002 x497003)))) else ((buffer_Crop.f x475000 x475001 x475002 x497000 x497001 x497002 x497003).bind fun bt505 => ((buffer_Paste.f x493000 x493001 x493002 bt505.1 bt505.2.1 bt505.2.2.1 x497000 x497001).bind fun bt512 => (if bt505.2.2.2 = 0 then (if bt512.2.2.2 = 0 then (compositorlaw09_BufferDiff.l0 k x5 (wrap64 (x10 + 1)) x474000 x474001 x474002 x475000 x475001 x475002 bt512.1 bt512.2.1 bt512.2.2.1) else (some false)) else (some false))))
end
def compositorlaw09_BufferDiff.f (k : Nat) (a0_0 : Int) (a0_1 : Int) (l0_2 : List (S43)) (a1_0 : Int) (a1_1 : Int) (l1_2 : List (S43)) : Option (Bool) := (compositorlaw09_small.f a0_0 a0_1 l0_2).bind fun t475 => (if t475 = true then ((compositorlaw09_small.f a1_0 a1_1 l1_2).bind fun t476 => (compositorlaw09_BufferDiff.j0 k (!t476) a0_0 a0_1 l0_2 a1_0 a1_1 l1_2)) else (compositorlaw09_BufferDiff.j0 k true a0_0 a0_1 l0_2 a1_0 a1_1 l1_2))
def compositorlaw09_BufferDiff.T17 : Bool × List (List Nat × List Nat) := (true, [([], []), ([], []), ([], []), ([2], [2]), ([0, 1, 3], [0, 1, 3]), ([], []), ([], []), ([], []), ([7], [7]), ([5, 6, 8, 4], [5, 6, 8]), ([4, 9], [4, 9])])
def compositorlaw09_BufferDiff.B17 : List Nat := [0, 0, 0, 4, 15, 0, 0, 0, 128, 511, 1023]
theorem compositorlaw09_BufferDiff.tab17 : rtab .any (opsOf Try.f9 17) = compositorlaw09_BufferDiff.T17 := by kernel_rfl
theorem compositorlaw09_BufferDiff.bits17 : waitsOk compositorlaw09_BufferDiff.T17.2 compositorlaw09_BufferDiff.B17 = true := by kernel_rfl
set_option maxHeartbeats 8000000 in
set_option maxRecDepth 100000 in
theorem compositorlaw09_BufferDiff.calls (k : Nat) (a0_0 : Int) (a0_1 : Int) (A0_2 : Option Addr) (c0_2 : Nat) (l0_2 : List (S43)) (a1_0 : Int) (a1_1 : Int) (A1_2 : Option Addr) (c1_2 : Nat) (l1_2 : List (S43)) (w : World) (hr0_2 : Kd.C k43 w A0_2 l0_2.length l0_2) (hc0_2 : l0_2.length ≤ c0_2) (hr1_2 : Kd.C k43 w A1_2 l1_2.length l1_2) (hc1_2 : l1_2.length ≤ c1_2) (h : compositorlaw09_BufferDiff.f k a0_0 a0_1 l0_2 a1_0 a1_1 l1_2 = some true) :
  Calls Try.prog 9 #[.agg #[.int .i64 a0_0, .int .i64 a0_1, .slice A0_2 l0_2.length c0_2], .agg #[.int .i64 a1_0, .int .i64 a1_1, .slice A1_2 l1_2.length c1_2]] w fun e w' => e = .returned (.bool true) ∧ Below w.heap.size w w' := by
 have hu27 := Try.underlying27
 have hu47 := Try.underlying47
 have HR0_2 := Aside0.mk hr0_2
 have HC0_2 := Aside0.mk hc0_2
 clear hr0_2 hc0_2
 have HR1_2 := Aside0.mk hr1_2
 have HC1_2 := Aside0.mk hc1_2
 clear hr1_2 hc1_2
 have HB := Aside0.mk (Below.refl w.heap.size w)
 have H : ((compositorlaw09_small.f a0_0 a0_1 l0_2).bind fun t475 => (if t475 = true then ((compositorlaw09_small.f a1_0 a1_1 l1_2).bind fun t476 => (compositorlaw09_BufferDiff.j0 k (!t476) a0_0 a0_1 l0_2 a1_0 a1_1 l1_2)) else (compositorlaw09_BufferDiff.j0 k true a0_0 a0_1 l0_2 a1_0 a1_1 l1_2))) = some true := h
 clear h
 have HC3 := Aside0.mk H
 clear H
 go_enter Try.func9, Try.ntmps9
 go_upto_region 1 with (first | ((with_reducible refine gate_dst (N := 2) rfl ?_); (try (refine gate_guard (by rfl) ?_; dsimp only)); refine box_event ?hg (N := 2) ?hd (cs := #[.int .i64 a0_0, .int .i64 a0_1, .slice A0_2 l0_2.length c0_2]) (t := 27) ?hr ?_; (case hd => rfl); (case hg => rfl); (case hr => first | (go_simp; done) | (go_simp; rfl)); intro gb473 hg w4 hbox hb; have n0_ := hb_ HB hb; have n1_ := Aside0.mk (hbox); have n2_ := Aside0.mk ((by rw [hg]; exact (below_size (hq_ HB)) : w.heap.size ≤ gb473)); have n3_ := Aside0.mk ((by rw [hg]; exact (below_size (hq_ HB)) : w.heap.size ≤ gb473)); clear HB; have HB := n0_; have BK473 := n1_; have GW473 := n2_; have GE473 := n3_; clear n0_ n1_ n2_ n3_; clear hb hbox hg) | ((with_reducible refine gate_dst (N := 3) rfl ?_); (try (refine gate_guard (by rfl) ?_; dsimp only)); refine box_event ?hg (N := 3) ?hd (cs := #[.int .i64 a1_0, .int .i64 a1_1, .slice A1_2 l1_2.length c1_2]) (t := 27) ?hr ?_; (case hd => rfl); (case hg => rfl); (case hr => first | (go_simp; done) | (go_simp; rfl)); intro gb474 hg w5 hbox hb; have n0_ := bb_ BK473 hb; have n1_ := hb_ HB hb; have n2_ := Aside0.mk (hbox); have n3_ := Aside0.mk ((by rw [hg]; exact (below_size (hq_ HB)) : w.heap.size ≤ gb474)); have n4_ := Aside0.mk ((by rw [hg]; exact (below_size (hq_ HB)) : w.heap.size ≤ gb474)); have n5_ := Aside0.mk ((by rw [hg]; exact Nat.ne_of_lt (blk_lt (g := gb473) (o := .cells #[.int .i64 a0_0, .int .i64 a0_1, .slice A0_2 l0_2.length c0_2] 27 (0, 0)) (bq_ BK473)) : gb473 ≠ gb474)); have n6_ := Aside0.mk ((by rw [hg]; exact Nat.ne_of_gt (blk_lt (g := gb473) (o := .cells #[.int .i64 a0_0, .int .i64 a0_1, .slice A0_2 l0_2.length c0_2] 27 (0, 0)) (bq_ BK473)) : gb474 ≠ gb473)); clear BK473; clear HB; have BK473 := n0_; have HB := n1_; have BK474 := n2_; have GW474 := n3_; have GE474 := n4_; have NB473_474 := n5_; have NB474_473 := n6_; clear n0_ n1_ n2_ n3_ n4_ n5_ n6_; clear hb hbox hg))
 (try simp only [Act.put, List.setIfInBounds_toArray, List.set_cons_zero, List.set_cons_succ])
 go_cut [24] (fun v24 wc => ∃ (kq : Nat) (x24_2 : Bool), v24 = .bool x24_2 ∧ Aside0 (compositorlaw09_BufferDiff.j0 kq x24_2 a0_0 a0_1 l0_2 a1_0 a1_1 l1_2 = some true) ∧ Aside0 (kq ≤ k) ∧ Aside0 (wc.heap[gb473]? = some (.cells #[.int .i64 a0_0, .int .i64 a0_1, (.slice A0_2 l0_2.length c0_2)] 27 (0, 0))) ∧ Aside0 (wc.heap[gb474]? = some (.cells #[.int .i64 a1_0, .int .i64 a1_1, (.slice A1_2 l1_2.length c1_2)] 27 (0, 0))) ∧ Aside0 (Below w.heap.size w wc))
 case first =>
  have H := HC3.out
  clear HC3
  replace H := Option.bind_eq_some_iff.mp H
  obtain ⟨t475, A60, H⟩ := H
  try dsimp only at H
  have A6 := Aside0.mk A60
  clear A60
  by_cases c7 : t475 = true
  ·
   subst c7
   have H1 : ((compositorlaw09_small.f a1_0 a1_1 l1_2).bind fun t476 => (compositorlaw09_BufferDiff.j0 k (!t476) a0_0 a0_1 l0_2 a1_0 a1_1 l1_2)) = some true := by rw [if_pos rfl] at H; exact H
   clear H
   have H := H1
   clear H1
   replace H := Option.bind_eq_some_iff.mp H
   obtain ⟨t476, A80, H⟩ := H
   try dsimp only at H
   have A8 := Aside0.mk A80
   clear A80
   have H' := Aside0.mk H
   clear H
   have hnb9 := NB473_474.out
   have hnc9 := NB474_473.out
   have hcz10_0 : w5.cell? ⟨gb473, 0, none⟩ = some (.int .i64 a0_0) := (blk_cell BK473.out 0).trans rfl
   have hcz10_1 : w5.cell? ⟨gb473, 1, none⟩ = some (.int .i64 a0_1) := (blk_cell BK473.out 1).trans rfl
   have hcz10_2 : w5.cell? ⟨gb473, 2, none⟩ = some (.slice A0_2 l0_2.length c0_2) := (blk_cell BK473.out 2).trans rfl
   have hfz10_0 := blk_frozen BK473.out 0
   have hfz10_1 := blk_frozen BK473.out 1
   have hfz10_2 := blk_frozen BK473.out 2
   go_wp2_with (first | ((with_reducible refine gate_callee (f := 22) rfl ?_); refine goesL_ (some 18) rfl rfl Try.func22 (by kernel_rfl) rfl #[.agg #[.int .i64 a0_0, .int .i64 a0_1, .slice A0_2 l0_2.length c0_2]] rfl (by (try simp only [List.map_toArray, List.map_cons, List.map_nil]) <;> rfl) ?_; (with_reducible refine (compositorlaw09_small.calls a0_0 a0_1 _ _ l0_2 true _ ?side1 ?side2 A6.out).mono ?_); (case side1 => repeat (first | exact (Kd.C_below HR0_2.out HB.out) | (with_reducible refine Kd.C_alloc ?_ _) | (with_reducible refine Kd.C_drewN ?_ _) | (with_reducible refine Kd.C_drew ?_))); (case side2 => exact HC0_2.out); rintro e w11 ⟨rfl, hb⟩; refine ⟨_, rfl, ?_⟩; have n0_ := bb_ BK473 hb; have n1_ := bb_ BK474 hb; have n2_ := hb_ HB hb; clear BK473; clear BK474; clear HB; have BK473 := n0_; have BK474 := n1_; have HB := n2_; clear n0_ n1_ n2_; (try clear hb); (try clear hb2); (try clear hk); (try clear hi); have hcz12_0 : w11.cell? ⟨gb474, 0, none⟩ = some (.int .i64 a1_0) := (blk_cell BK474.out 0).trans rfl; have hcz12_1 : w11.cell? ⟨gb474, 1, none⟩ = some (.int .i64 a1_1) := (blk_cell BK474.out 1).trans rfl; have hcz12_2 : w11.cell? ⟨gb474, 2, none⟩ = some (.slice A1_2 l1_2.length c1_2) := (blk_cell BK474.out 2).trans rfl; have hfz12_0 := blk_frozen BK474.out 0; have hfz12_1 := blk_frozen BK474.out 1; have hfz12_2 := blk_frozen BK474.out 2) | (go_at_call 22; (with_reducible refine (compositorlaw09_small.calls a1_0 a1_1 _ _ l1_2 t476 _ ?side1 ?side2 A8.out).mono ?_); (case side1 => repeat (first | exact (Kd.C_below HR1_2.out HB.out) | (with_reducible refine Kd.C_alloc ?_ _) | (with_reducible refine Kd.C_drewN ?_ _) | (with_reducible refine Kd.C_drew ?_))); (case side2 => exact HC1_2.out); rintro e w13 ⟨rfl, hb⟩; have n0_ := bb_ BK473 hb; have n1_ := bb_ BK474 hb; have n2_ := hb_ HB hb; clear BK473; clear BK474; clear HB; have BK473 := n0_; have BK474 := n1_; have HB := n2_; clear n0_ n1_ n2_; (try clear hb); (try clear hb2); (try clear hk); (try clear hi)))
   go_meet
   case rel => exact ⟨_, (!t476), (by first | rfl | (simp; done) | (simp [*]; done)), H', ⟨by first | omega | exact Nat.le_refl _⟩, bf_ BK473, bf_ BK474, ⟨by repeat (first | (with_reducible first | exact HB.out | apply below_alloc | apply pw_below_drewN | apply below_drew1 | refine below_set ?_ GE473.out | refine below_set ?_ GE474.out) | exact HB.out)⟩⟩
  ·
   replace c7 := Bool.eq_false_iff.mpr c7
   subst c7
   have H1 : (compositorlaw09_BufferDiff.j0 k true a0_0 a0_1 l0_2 a1_0 a1_1 l1_2) = some true := by rw [if_neg (show ¬ (false = true) by decide)] at H; exact H
   clear H
   have H := H1
   clear H1
   have H' := Aside0.mk H
   clear H
   have hnb14 := NB473_474.out
   have hnc14 := NB474_473.out
   have hcz15_0 : w5.cell? ⟨gb473, 0, none⟩ = some (.int .i64 a0_0) := (blk_cell BK473.out 0).trans rfl
   have hcz15_1 : w5.cell? ⟨gb473, 1, none⟩ = some (.int .i64 a0_1) := (blk_cell BK473.out 1).trans rfl
   have hcz15_2 : w5.cell? ⟨gb473, 2, none⟩ = some (.slice A0_2 l0_2.length c0_2) := (blk_cell BK473.out 2).trans rfl
   have hfz15_0 := blk_frozen BK473.out 0
   have hfz15_1 := blk_frozen BK473.out 1
   have hfz15_2 := blk_frozen BK473.out 2
   go_wp2_with (first | ((with_reducible refine gate_callee (f := 22) rfl ?_); refine goesL_ (some 18) rfl rfl Try.func22 (by kernel_rfl) rfl #[.agg #[.int .i64 a0_0, .int .i64 a0_1, .slice A0_2 l0_2.length c0_2]] rfl (by (try simp only [List.map_toArray, List.map_cons, List.map_nil]) <;> rfl) ?_; (with_reducible refine (compositorlaw09_small.calls a0_0 a0_1 _ _ l0_2 false _ ?side1 ?side2 A6.out).mono ?_); (case side1 => repeat (first | exact (Kd.C_below HR0_2.out HB.out) | (with_reducible refine Kd.C_alloc ?_ _) | (with_reducible refine Kd.C_drewN ?_ _) | (with_reducible refine Kd.C_drew ?_))); (case side2 => exact HC0_2.out); rintro e w16 ⟨rfl, hb⟩; refine ⟨_, rfl, ?_⟩; have n0_ := bb_ BK473 hb; have n1_ := bb_ BK474 hb; have n2_ := hb_ HB hb; clear BK473; clear BK474; clear HB; have BK473 := n0_; have BK474 := n1_; have HB := n2_; clear n0_ n1_ n2_; (try clear hb); (try clear hb2); (try clear hk); (try clear hi)))
   go_meet
   case rel => exact ⟨_, (true), (by first | rfl | (simp; done) | (simp [*]; done)), H', ⟨by first | omega | exact Nat.le_refl _⟩, bf_ BK473, bf_ BK474, ⟨by repeat (first | (with_reducible first | exact HB.out | apply below_alloc | apply pw_below_drewN | apply below_drew1 | refine below_set ?_ GE473.out | refine below_set ?_ GE474.out) | exact HB.out)⟩⟩
 case rest =>
  clear HC3
  try clear c1
  try clear c2
  try clear p2
  try clear c7
  try clear c9
  try clear c14
  try clear hcz10_0
  try clear hcz10_1
  try clear hcz10_2
  try clear hcz12_0
  try clear hcz12_1
  try clear hcz12_2
  try clear hcz15_0
  try clear hcz15_1
  try clear hcz15_2
  try clear hfz10_0
  try clear hfz10_1
  try clear hfz10_2
  try clear hfz12_0
  try clear hfz12_1
  try clear hfz12_2
  try clear hfz15_0
  try clear hfz15_1
  try clear hfz15_2
  obtain ⟨kq, x24_2, rfl, HA, HJ2, BK473, BK474, HB⟩ := hcut
  cases kq with
  | zero => exact absurd HA.out (by simp [compositorlaw09_BufferDiff.j0])
  | succ kj2 =>
   have H := HA.out
   clear HA
   simp only [compositorlaw09_BufferDiff.j0] at H
   by_cases c17 : x24_2 = true
   ·
    subst c17
    have H1 : ((compositorlaw09_exampleHolds.f kj2).bind fun t477 => (some t477)) = some true := by rw [if_pos rfl] at H; exact H
    clear H
    have H := H1
    clear H1
    replace H := Option.bind_eq_some_iff.mp H
    obtain ⟨t477, A180, H⟩ := H
    try dsimp only at H
    have A18 := Aside0.mk A180
    clear A180
    have Hq_ := Option.some.inj H
    go_wp2_with (first | ((with_reducible refine gate_callee (f := 13) rfl ?_); refine goesL_ (some 25) rfl rfl Try.func13 (by kernel_rfl) rfl #[] rfl (by (try simp only [List.map_toArray, List.map_cons, List.map_nil]) <;> rfl) ?_; (with_reducible refine (compositorlaw09_exampleHolds.calls kj2  t477 _ A18.out).mono ?_); rintro e w19 ⟨rfl, hb⟩; refine ⟨_, rfl, ?_⟩; have n0_ := bb_ BK473 hb; have n1_ := bb_ BK474 hb; have n2_ := hb_ HB hb; clear BK473; clear BK474; clear HB; have BK473 := n0_; have BK474 := n1_; have HB := n2_; clear n0_ n1_ n2_; (try clear hb); (try clear hb2); (try clear hk); (try clear hi)))
    go_ret
    exact ⟨by first | rfl | (simp [errW_none, errW_some] <;> rfl) | (simp [*, errW_none, errW_some] <;> rfl), by repeat (first | (with_reducible first | exact HB.out | apply below_alloc | apply pw_below_drewN | apply below_drew1 | refine below_set ?_ GE473.out | refine below_set ?_ GE474.out) | exact HB.out)⟩
   ·
    replace c17 := Bool.eq_false_iff.mpr c17
    subst c17
    have H1 : ((buffer_Diff.f a0_0 a0_1 l0_2 a1_0 a1_1 l1_2).bind fun bt478 => (if bt478.2 = 0 then ((compositorlaw09_clone.f a0_0 a0_1 l0_2).bind fun bt487 => (compositorlaw09_BufferDiff.l0 kj2 bt478.1 0 a0_0 a0_1 l0_2 a1_0 a1_1 l1_2 bt487.1 bt487.2.1 bt487.2.2)) else ((compositorref09_Diff.f kj2 a0_0 a0_1 l0_2 a1_0 a1_1 l1_2).bind fun bt482 => (if bt478.2 = bt482.2 then (if (bt482.1.length : Int) = 0 then (if (bt478.1.length : Int) = 0 then ((compositorlaw09_exampleHolds.f kj2).bind fun t486 => (some t486)) else (some false)) else (some false)) else (some false))))) = some true := by rw [if_neg (show ¬ (false = true) by decide)] at H; exact H
    clear H
    have H := H1
    clear H1
    replace H := Option.bind_eq_some_iff.mp H
    obtain ⟨⟨t478, t481⟩, A200, H⟩ := H
    try dsimp only at H
    have A20 := Aside0.mk A200
    clear A200
    by_cases c21 : t481 = 0
    ·
     rw [if_pos c21] at H
     have c21b0 : (t481 == 0) = true := beq_iff_eq.mpr c21
     have c21b1 : (t481 != 0) = false := bne_eq_false_iff_eq.mpr c21
     clear c21
     replace H := Option.bind_eq_some_iff.mp H
     obtain ⟨⟨t487, t488, t489⟩, A220, H⟩ := H
     try dsimp only at H
     have A22 := Aside0.mk A220
     clear A220
     have H' := Aside0.mk H
     clear H
     have hnb23 := NB473_474.out
     have hnc23 := NB474_473.out
     have hcz24_0 : wc.cell? ⟨gb473, 0, none⟩ = some (.int .i64 a0_0) := (blk_cell BK473.out 0).trans rfl
     have hcz24_1 : wc.cell? ⟨gb473, 1, none⟩ = some (.int .i64 a0_1) := (blk_cell BK473.out 1).trans rfl
     have hcz24_2 : wc.cell? ⟨gb473, 2, none⟩ = some (.slice A0_2 l0_2.length c0_2) := (blk_cell BK473.out 2).trans rfl
     have hfz24_0 := blk_frozen BK473.out 0
     have hfz24_1 := blk_frozen BK473.out 1
     have hfz24_2 := blk_frozen BK473.out 2
     have hcz25_0 : wc.cell? ⟨gb474, 0, none⟩ = some (.int .i64 a1_0) := (blk_cell BK474.out 0).trans rfl
     have hcz25_1 : wc.cell? ⟨gb474, 1, none⟩ = some (.int .i64 a1_1) := (blk_cell BK474.out 1).trans rfl
     have hcz25_2 : wc.cell? ⟨gb474, 2, none⟩ = some (.slice A1_2 l1_2.length c1_2) := (blk_cell BK474.out 2).trans rfl
     have hfz25_0 := blk_frozen BK474.out 0
     have hfz25_1 := blk_frozen BK474.out 1
     have hfz25_2 := blk_frozen BK474.out 2
     go_wp2_with (first | ((with_reducible refine gate_callee (f := 17) rfl ?_); refine goesL_ (some 29) rfl rfl Try.func17 (by kernel_rfl) rfl #[.agg #[.int .i64 a0_0, .int .i64 a0_1, .slice A0_2 l0_2.length c0_2], .agg #[.int .i64 a1_0, .int .i64 a1_1, .slice A1_2 l1_2.length c1_2]] rfl (by (try simp only [List.map_toArray, List.map_cons, List.map_nil]) <;> rfl) ?_; (with_reducible refine (buffer_Diff.calls a0_0 a0_1 _ _ l0_2 a1_0 a1_1 _ _ l1_2 t478 t481 _ ?side1 ?side2 ?side3 ?side4 A20.out).mono ?_); (case side1 => repeat (first | exact (Kd.C_below HR0_2.out HB.out) | (with_reducible refine Kd.C_alloc ?_ _) | (with_reducible refine Kd.C_drewN ?_ _) | (with_reducible refine Kd.C_drew ?_))); (case side2 => exact HC0_2.out); (case side3 => repeat (first | exact (Kd.C_below HR1_2.out HB.out) | (with_reducible refine Kd.C_alloc ?_ _) | (with_reducible refine Kd.C_drewN ?_ _) | (with_reducible refine Kd.C_drew ?_))); (case side4 => exact HC1_2.out); rintro e w26 ⟨v479, rfl, ho0, hb⟩; refine ⟨_, rfl, ?_⟩; have n0_ := Aside0.mk (Kd.R_lower ho0 (below_size (hq_ HB))); have n1_ := bb_ BK473 hb; have n2_ := bb_ BK474 hb; have n3_ := hb_ HB hb; clear BK473; clear BK474; clear HB; have HO480 := n0_; have BK473 := n1_; have BK474 := n2_; have HB := n3_; clear n0_ n1_ n2_ n3_; (try clear hb); (try clear hb2); (try clear hk); (try clear hi); (try clear ho0); have hcz27_0 : w26.cell? ⟨gb473, 0, none⟩ = some (.int .i64 a0_0) := (blk_cell BK473.out 0).trans rfl; have hcz27_1 : w26.cell? ⟨gb473, 1, none⟩ = some (.int .i64 a0_1) := (blk_cell BK473.out 1).trans rfl; have hcz27_2 : w26.cell? ⟨gb473, 2, none⟩ = some (.slice A0_2 l0_2.length c0_2) := (blk_cell BK473.out 2).trans rfl; have hfz27_0 := blk_frozen BK473.out 0; have hfz27_1 := blk_frozen BK473.out 1; have hfz27_2 := blk_frozen BK473.out 2) | ((with_reducible refine gate_callee (f := 33) rfl ?_); refine goesL_ (some 57) rfl rfl Try.func33 (by kernel_rfl) rfl #[.agg #[.int .i64 a0_0, .int .i64 a0_1, .slice A0_2 l0_2.length c0_2]] rfl (by (try simp only [List.map_toArray, List.map_cons, List.map_nil]) <;> rfl) ?_; (with_reducible refine (compositorlaw09_clone.calls a0_0 a0_1 _ _ l0_2 t487 t488 t489 _ ?side1 ?side2 A22.out).mono ?_); (case side1 => repeat (first | exact (Kd.C_below HR0_2.out HB.out) | (with_reducible refine Kd.C_alloc ?_ _) | (with_reducible refine Kd.C_drewN ?_ _) | (with_reducible refine Kd.C_drew ?_))); (case side2 => exact HC0_2.out); rintro e w28 ⟨v490, rfl, ho0, hb⟩; refine ⟨_, rfl, ?_⟩; have n0_ := Aside0.mk (Kd.R_below (by (with_reducible repeat (first | apply Kd.R_alloc | apply Kd.R_drewN | apply Kd.R_drew)); exact HO480.out) hb); have n1_ := Aside0.mk (Kd.R_lower ho0 (below_size (hq_ HB))); have n2_ := bb_ BK473 hb; have n3_ := bb_ BK474 hb; have n4_ := hb_ HB hb; clear HO480; clear BK473; clear BK474; clear HB; have HO480 := n0_; have HO491 := n1_; have BK473 := n2_; have BK474 := n3_; have HB := n4_; clear n0_ n1_ n2_ n3_ n4_; (try clear hb); (try clear hb2); (try clear hk); (try clear hi); (try clear ho0)) | ((with_reducible refine gate_dst (N := 9) rfl ?_); (try (refine gate_guard (by rfl) ?_; dsimp only)); refine box_event ?hg (N := 9) ?hd (cs := #[.int .i64 0, .int .i64 0, .slice none 0 0]) (t := 27) ?hr ?_; (case hd => rfl); (case hg => rfl); (case hr => first | (go_simp; done) | (go_simp; rfl)); intro gb492 hg w29 hbox hb; have n0_ := Aside0.mk (Kd.R_below (by (with_reducible repeat (first | apply Kd.R_alloc | apply Kd.R_drewN | apply Kd.R_drew)); exact HO480.out) hb); have n1_ := Aside0.mk (Kd.R_below (by (with_reducible repeat (first | apply Kd.R_alloc | apply Kd.R_drewN | apply Kd.R_drew)); exact HO491.out) hb); have n2_ := bb_ BK473 hb; have n3_ := bb_ BK474 hb; have n4_ := hb_ HB hb; have n5_ := Aside0.mk (hbox); have n6_ := Aside0.mk ((by rw [hg]; exact (below_size (hq_ HB)) : w.heap.size ≤ gb492)); have n7_ := Aside0.mk ((by rw [hg]; exact (below_size (hq_ HB)) : w.heap.size ≤ gb492)); have n8_ := Aside0.mk ((by rw [hg]; exact Nat.ne_of_lt (blk_lt (g := gb473) (o := .cells #[.int .i64 a0_0, .int .i64 a0_1, .slice A0_2 l0_2.length c0_2] 27 (0, 0)) (bq_ BK473)) : gb473 ≠ gb492)); have n9_ := Aside0.mk ((by rw [hg]; exact Nat.ne_of_gt (blk_lt (g := gb473) (o := .cells #[.int .i64 a0_0, .int .i64 a0_1, .slice A0_2 l0_2.length c0_2] 27 (0, 0)) (bq_ BK473)) : gb492 ≠ gb473)); have n10_ := Aside0.mk ((by rw [hg]; exact Nat.ne_of_lt (blk_lt (g := gb474) (o := .cells #[.int .i64 a1_0, .int .i64 a1_1, .slice A1_2 l1_2.length c1_2] 27 (0, 0)) (bq_ BK474)) : gb474 ≠ gb492)); have n11_ := Aside0.mk ((by rw [hg]; exact Nat.ne_of_gt (blk_lt (g := gb474) (o := .cells #[.int .i64 a1_0, .int .i64 a1_1, .slice A1_2 l1_2.length c1_2] 27 (0, 0)) (bq_ BK474)) : gb492 ≠ gb474)); clear HO480; clear HO491; clear BK473; clear BK474; clear HB; have HO480 := n0_; have HO491 := n1_; have BK473 := n2_; have BK474 := n3_; have HB := n4_; have BK492 := n5_; have GW492 := n6_; have GE492 := n7_; have NB473_492 := n8_; have NB492_473 := n9_; have NB474_492 := n10_; have NB492_474 := n11_; clear n0_ n1_ n2_ n3_ n4_ n5_ n6_ n7_ n8_ n9_ n10_ n11_; clear hb hbox hg; have hnb30 := NB492_473.out; have hnc30 := NB473_492.out; have hnb31 := NB492_474.out; have hnc31 := NB474_492.out; have hcz32_0 : w29.cell? ⟨gb492, 0, none⟩ = some (.int .i64 0) := (blk_cell BK492.out 0).trans rfl; have hcz32_1 : w29.cell? ⟨gb492, 1, none⟩ = some (.int .i64 0) := (blk_cell BK492.out 1).trans rfl; have hcz32_2 : w29.cell? ⟨gb492, 2, none⟩ = some (.slice none 0 0) := (blk_cell BK492.out 2).trans rfl; have hfz32_0 := blk_frozen BK492.out 0; have hfz32_1 := blk_frozen BK492.out 1; have hfz32_2 := blk_frozen BK492.out 2; obtain ⟨Ao33, co33, eo33⟩ := Kd.R_slice HO491.out; subst eo33))
     go_loopg [10] kj2 (fun kq v10 w' => ∃ (x10_2 : Int) (x493000_2 : Int) (x493001_2 : Int) (x493002_2 : List (S43)) (u493002 : Value), v10 = .int .i64 x10_2 ∧ Aside0 (compositorlaw09_BufferDiff.l0 kq t478 x10_2 a0_0 a0_1 l0_2 a1_0 a1_1 l1_2 x493000_2 x493001_2 x493002_2 = some true) ∧ Aside0 (kq ≤ kj2) ∧ Aside0 (Kd.R k47 47 w' w.heap.size (fun _ => True) v479 t478) ∧ Aside0 (Kd.R k43 43 w' w.heap.size (fun _ => True) u493002 x493002_2) ∧ Aside0 (w'.heap[gb473]? = some (.cells #[.int .i64 a0_0, .int .i64 a0_1, (.slice A0_2 l0_2.length c0_2)] 27 (0, 0))) ∧ Aside0 (w'.heap[gb474]? = some (.cells #[.int .i64 a1_0, .int .i64 a1_1, (.slice A1_2 l1_2.length c1_2)] 27 (0, 0))) ∧ Aside0 (w'.heap[gb492]? = some (.cells #[.int .i64 x493000_2, .int .i64 x493001_2, u493002] 27 (0, 0))) ∧ Aside0 (Below w.heap.size w w'))
     case atStart => exact ⟨(0), (t487), (t488), (t489), (.slice Ao33 t489.length co33), (by first | rfl | (simp; done) | (simp [*]; done)), H', ⟨Nat.le_refl _⟩, ⟨by (with_reducible repeat (first | apply Kd.R_alloc | apply Kd.R_drewN | apply Kd.R_drew)); exact Kd.R_mono (Kd.R_far (p := ⟨gb492, 2, none⟩) (Kd.R_far (p := ⟨gb492, 1, none⟩) (Kd.R_far (p := ⟨gb492, 0, none⟩) (Kd.R_types HO480.out BK492.out (by decide)) (fun _ hk => hk.2) (.int .i64 t487)) (fun _ hk => hk.2) (.int .i64 t488)) (fun _ hk => hk.2) (.slice Ao33 t489.length co33)) (fun _ hk => trivial)⟩, ⟨by (with_reducible repeat (first | apply Kd.R_alloc | apply Kd.R_drewN | apply Kd.R_drew)); exact Kd.R_mono (Kd.R_far (p := ⟨gb492, 2, none⟩) (Kd.R_far (p := ⟨gb492, 1, none⟩) (Kd.R_far (p := ⟨gb492, 0, none⟩) (Kd.R_types HO491.out BK492.out (by decide)) (fun _ hk => hk.2) (.int .i64 t487)) (fun _ hk => hk.2) (.int .i64 t488)) (fun _ hk => hk.2) (.slice Ao33 t489.length co33)) (fun _ hk => trivial)⟩, bf_ BK473, bf_ BK474, ⟨by (with_reducible repeat (first | refine blk_drewN ?_ _ | refine blk_drew ?_ | refine blk_alloc ?_ _)); refine blk_put (cs := #[.int .i64 t487, .int .i64 t488, .slice none 0 0]) ?_ 2 _ rfl; (with_reducible repeat (first | refine blk_drewN ?_ _ | refine blk_drew ?_ | refine blk_alloc ?_ _)); refine blk_put (cs := #[.int .i64 t487, .int .i64 0, .slice none 0 0]) ?_ 1 _ rfl; (with_reducible repeat (first | refine blk_drewN ?_ _ | refine blk_drew ?_ | refine blk_alloc ?_ _)); refine blk_put (cs := #[.int .i64 0, .int .i64 0, .slice none 0 0]) ?_ 0 _ rfl; (with_reducible repeat (first | refine blk_drewN ?_ _ | refine blk_drew ?_ | refine blk_alloc ?_ _)); exact BK492.out⟩, ⟨by repeat (first | (with_reducible first | exact HB.out | apply below_alloc | apply pw_below_drewN | apply below_drew1 | refine below_set ?_ GE473.out | refine below_set ?_ GE474.out | refine below_set ?_ GE492.out) | exact HB.out)⟩⟩
     case round =>
      clear H'
      try clear c1
      try clear c2
      try clear p2
      try clear c3
      try clear c7
      try clear c9
      try clear c13
      try clear c14
      try clear c17
      try clear c21
      try clear c21b0
      try clear c21b1
      try clear c22
      try clear c23
      try clear c30
      try clear c31
      try clear c33
      try clear hcz10_0
      try clear hcz10_1
      try clear hcz10_2
      try clear hcz12_0
      try clear hcz12_1
      try clear hcz12_2
      try clear hcz15_0
      try clear hcz15_1
      try clear hcz15_2
      try clear hcz24_0
      try clear hcz24_1
      try clear hcz24_2
      try clear hcz25_0
      try clear hcz25_1
      try clear hcz25_2
      try clear hcz27_0
      try clear hcz27_1
      try clear hcz27_2
      try clear hcz32_0
      try clear hcz32_1
      try clear hcz32_2
      try clear hfz10_0
      try clear hfz10_1
      try clear hfz10_2
      try clear hfz12_0
      try clear hfz12_1
      try clear hfz12_2
      try clear hfz15_0
      try clear hfz15_1
      try clear hfz15_2
      try clear hfz24_0
      try clear hfz24_1
      try clear hfz24_2
      try clear hfz25_0
      try clear hfz25_1
      try clear hfz25_2
      try clear hfz27_0
      try clear hfz27_1
      try clear hfz27_2
      try clear hfz32_0
      try clear hfz32_1
      try clear hfz32_2
      try clear p2
      obtain ⟨x10_2, x493000_2, x493001_2, x493002_2, u493002, rfl, HA, HK2, HO_5, HO_493002, BK473, BK474, BK492, HB⟩ := hrel
      cases gk with
      | zero => exact absurd HA.out (by simp [compositorlaw09_BufferDiff.l0])
      | succ k2 =>
       have H := HA.out
       clear HA
       simp only [compositorlaw09_BufferDiff.l0] at H
       by_cases c34 : x10_2 < (t478.length : Int)
       ·
        rw [if_pos c34] at H
        have c34b0 : decide (x10_2 < (t478.length : Int)) = true := decide_eq_true c34
        clear c34
        by_cases c35 : 0 ≤ x10_2
        ·
         rw [if_pos c35] at H
         have c35b0 : decide (0 ≤ x10_2) = true := decide_eq_true c35
         clear c35
         have HC36 := Aside0.mk H
         clear H
         obtain ⟨Ao37, co37, eo37⟩ := Kd.R_slice HO_5.out
         subst eo37
         have p495 : 0 ≤ (x10_2 : Int) := of_decide_eq_true (by first | (with_reducible assumption) | assumption)
         have q495 : x10_2 < (t478.length : Int) := of_decide_eq_true (by first | (with_reducible assumption) | assumption)
         obtain ⟨ad495, e495, hx495_0, hx495_1, hx495_2, hx495_3⟩ := at_T47 (Kd.R_reads' HO_5.out).2.2 x10_2 p495 q495
         cases e495
         replace p495 := eq_true p495
         replace q495 := eq_true q495
         go_upto_region 12 with (first | ((with_reducible refine gate_dst (N := 11) rfl ?_); (try (refine gate_guard (by rfl) ?_; dsimp only)); refine box_event ?hg (N := 11) ?hd (cs := #[.int .i64 0, .int .i64 0, .int .i64 0, .int .i64 0]) (t := 47) ?hr ?_; (case hd => rfl); (case hg => rfl); (case hr => first | (go_simp; done) | (go_simp; rfl)); intro gb496 hg w38 hbox hb; have n0_ := Aside0.mk (Kd.R_below (Kd.R_elderB (by (with_reducible repeat (first | apply Kd.R_alloc | apply Kd.R_drewN | apply Kd.R_drew)); exact HO_5.out) gb496 (Nat.le_of_eq hg.symm)) hb); have n1_ := Aside0.mk (Kd.R_below (by (with_reducible repeat (first | apply Kd.R_alloc | apply Kd.R_drewN | apply Kd.R_drew)); exact HO_493002.out) hb); have n2_ := bb_ BK473 hb; have n3_ := bb_ BK474 hb; have n4_ := bb_ BK492 hb; have n5_ := hb_ HB hb; have n6_ := Aside0.mk (hbox); have n7_ := Aside0.mk ((by rw [hg]; exact (below_size (hq_ HB)) : w.heap.size ≤ gb496)); have n8_ := Aside0.mk ((by rw [hg]; exact (below_size (hq_ HB)) : w.heap.size ≤ gb496)); have n9_ := Aside0.mk ((by rw [hg]; exact Nat.ne_of_lt (blk_lt (g := gb473) (o := .cells #[.int .i64 a0_0, .int .i64 a0_1, .slice A0_2 l0_2.length c0_2] 27 (0, 0)) (bq_ BK473)) : gb473 ≠ gb496)); have n10_ := Aside0.mk ((by rw [hg]; exact Nat.ne_of_gt (blk_lt (g := gb473) (o := .cells #[.int .i64 a0_0, .int .i64 a0_1, .slice A0_2 l0_2.length c0_2] 27 (0, 0)) (bq_ BK473)) : gb496 ≠ gb473)); have n11_ := Aside0.mk ((by rw [hg]; exact Nat.ne_of_lt (blk_lt (g := gb474) (o := .cells #[.int .i64 a1_0, .int .i64 a1_1, .slice A1_2 l1_2.length c1_2] 27 (0, 0)) (bq_ BK474)) : gb474 ≠ gb496)); have n12_ := Aside0.mk ((by rw [hg]; exact Nat.ne_of_gt (blk_lt (g := gb474) (o := .cells #[.int .i64 a1_0, .int .i64 a1_1, .slice A1_2 l1_2.length c1_2] 27 (0, 0)) (bq_ BK474)) : gb496 ≠ gb474)); have n13_ := Aside0.mk ((by rw [hg]; exact Nat.ne_of_lt (blk_lt (g := gb492) (o := .cells #[.int .i64 x493000_2, .int .i64 x493001_2, u493002] 27 (0, 0)) (bq_ BK492)) : gb492 ≠ gb496)); have n14_ := Aside0.mk ((by rw [hg]; exact Nat.ne_of_gt (blk_lt (g := gb492) (o := .cells #[.int .i64 x493000_2, .int .i64 x493001_2, u493002] 27 (0, 0)) (bq_ BK492)) : gb496 ≠ gb492)); clear HO_5; clear HO_493002; clear BK473; clear BK474; clear BK492; clear HB; have HO_5 := n0_; have HO_493002 := n1_; have BK473 := n2_; have BK474 := n3_; have BK492 := n4_; have HB := n5_; have BK496 := n6_; have GW496 := n7_; have GE496 := n8_; have NB473_496 := n9_; have NB496_473 := n10_; have NB474_496 := n11_; have NB496_474 := n12_; have NB492_496 := n13_; have NB496_492 := n14_; clear n0_ n1_ n2_ n3_ n4_ n5_ n6_ n7_ n8_ n9_ n10_ n11_ n12_ n13_ n14_; clear hb hbox hg; have hnb39 := NB496_473.out; have hnc39 := NB473_496.out; have hnb40 := NB496_474.out; have hnc40 := NB474_496.out; have hnb41 := NB496_492.out; have hnc41 := NB492_496.out; have hcz42_0 : w38.cell? ⟨gb496, 0, none⟩ = some (.int .i64 0) := (blk_cell BK496.out 0).trans rfl; have hcz42_1 : w38.cell? ⟨gb496, 1, none⟩ = some (.int .i64 0) := (blk_cell BK496.out 1).trans rfl; have hcz42_2 : w38.cell? ⟨gb496, 2, none⟩ = some (.int .i64 0) := (blk_cell BK496.out 2).trans rfl; have hcz42_3 : w38.cell? ⟨gb496, 3, none⟩ = some (.int .i64 0) := (blk_cell BK496.out 3).trans rfl; have hfz42_0 := blk_frozen BK496.out 0; have hfz42_1 := blk_frozen BK496.out 1; have hfz42_2 := blk_frozen BK496.out 2; have hfz42_3 := blk_frozen BK496.out 3))
         (try simp only [Act.put, List.setIfInBounds_toArray, List.set_cons_zero, List.set_cons_succ])
         go_cut [97] (fun v97 wc => ∃ (kq : Nat) (x97_35 : Bool), v97 = .bool x97_35 ∧ Aside0 (compositorlaw09_BufferDiff.j2 kq t478 x10_2 x97_35 a0_0 a0_1 l0_2 a1_0 a1_1 l1_2 x493000_2 x493001_2 x493002_2 ((rd_T47 t478 x10_2).f0) ((rd_T47 t478 x10_2).f1) ((rd_T47 t478 x10_2).f2) ((rd_T47 t478 x10_2).f3) = some true) ∧ Aside0 (kq ≤ k2) ∧ Aside0 (Kd.R k47 47 wc w.heap.size (fun k_ => k_ ≠ gb496) (.slice (some ad495) t478.length co37) t478) ∧ Aside0 (Kd.R k43 43 wc w.heap.size (fun _ => True) u493002 x493002_2) ∧ Aside0 (wc.heap[gb473]? = some (.cells #[.int .i64 a0_0, .int .i64 a0_1, (.slice A0_2 l0_2.length c0_2)] 27 (0, 0))) ∧ Aside0 (wc.heap[gb474]? = some (.cells #[.int .i64 a1_0, .int .i64 a1_1, (.slice A1_2 l1_2.length c1_2)] 27 (0, 0))) ∧ Aside0 (wc.heap[gb492]? = some (.cells #[.int .i64 x493000_2, .int .i64 x493001_2, u493002] 27 (0, 0))) ∧ Aside0 (wc.heap[gb496]? = some (.cells #[.int .i64 ((rd_T47 t478 x10_2).f0), .int .i64 ((rd_T47 t478 x10_2).f1), .int .i64 ((rd_T47 t478 x10_2).f2), .int .i64 ((rd_T47 t478 x10_2).f3)] 47 (0, 0))) ∧ Aside0 (Below w.heap.size w wc))
         case first =>
          have H := HC36.out
          clear HC36
          by_cases c43 : ((rd_T47 t478 x10_2).f3) = (wrap64 (((rd_T47 t478 x10_2).f1) + 1))
          ·
           rw [if_pos c43] at H
           have c43b0 : (((rd_T47 t478 x10_2).f3) == (wrap64 (((rd_T47 t478 x10_2).f1) + 1))) = true := beq_iff_eq.mpr c43
           have c43b1 : (((rd_T47 t478 x10_2).f3) != (wrap64 (((rd_T47 t478 x10_2).f1) + 1))) = false := bne_eq_false_iff_eq.mpr c43
           clear c43
           (first | rw [c43b0] | (simp only [i64_w, i32_w]; rw [c43b0]) | skip)
           by_cases c44 : ((rd_T47 t478 x10_2).f0) < 0
           ·
            rw [if_pos c44] at H
            have c44b0 : decide (((rd_T47 t478 x10_2).f0) < 0) = true := decide_eq_true c44
            clear c44
            have H' := Aside0.mk H
            clear H
            have hnb45 := NB496_473.out
            have hnc45 := NB473_496.out
            have hnb46 := NB496_474.out
            have hnc46 := NB474_496.out
            have hnb47 := NB496_492.out
            have hnc47 := NB492_496.out
            have hcz48_0 : w38.cell? ⟨gb496, 0, none⟩ = some (.int .i64 0) := (blk_cell BK496.out 0).trans rfl
            have hcz48_1 : w38.cell? ⟨gb496, 1, none⟩ = some (.int .i64 0) := (blk_cell BK496.out 1).trans rfl
            have hcz48_2 : w38.cell? ⟨gb496, 2, none⟩ = some (.int .i64 0) := (blk_cell BK496.out 2).trans rfl
            have hcz48_3 : w38.cell? ⟨gb496, 3, none⟩ = some (.int .i64 0) := (blk_cell BK496.out 3).trans rfl
            have hfz48_0 := blk_frozen BK496.out 0
            have hfz48_1 := blk_frozen BK496.out 1
            have hfz48_2 := blk_frozen BK496.out 2
            have hfz48_3 := blk_frozen BK496.out 3
            go_wp2
            go_meet
            case rel => exact ⟨_, (true), (by first | rfl | (simp; done) | (simp [*]; done)), H', ⟨by have := HJ2.out; have := HK2.out; first | omega | exact Nat.le_refl _⟩, ⟨by (with_reducible repeat (first | apply Kd.R_alloc | apply Kd.R_drewN | apply Kd.R_drew)); exact Kd.R_mono (Kd.R_far (p := ⟨gb496, 3, none⟩) (Kd.R_far (p := ⟨gb496, 2, none⟩) (Kd.R_far (p := ⟨gb496, 1, none⟩) (Kd.R_far (p := ⟨gb496, 0, none⟩) (Kd.R_mono HO_5.out (fun k_ hk => (⟨hk, hk.2⟩ : _ ∧ k_ ≠ gb496))) (fun _ hk => hk.2) (.int .i64 ((rd_T47 t478 x10_2).f0))) (fun _ hk => hk.2) (.int .i64 ((rd_T47 t478 x10_2).f1))) (fun _ hk => hk.2) (.int .i64 ((rd_T47 t478 x10_2).f2))) (fun _ hk => hk.2) (.int .i64 ((rd_T47 t478 x10_2).f3))) (fun _ hk => hk.1.2)⟩, ⟨by (with_reducible repeat (first | apply Kd.R_alloc | apply Kd.R_drewN | apply Kd.R_drew)); exact Kd.R_mono (Kd.R_far (p := ⟨gb496, 3, none⟩) (Kd.R_far (p := ⟨gb496, 2, none⟩) (Kd.R_far (p := ⟨gb496, 1, none⟩) (Kd.R_far (p := ⟨gb496, 0, none⟩) (Kd.R_types HO_493002.out BK496.out (by decide)) (fun _ hk => hk.2) (.int .i64 ((rd_T47 t478 x10_2).f0))) (fun _ hk => hk.2) (.int .i64 ((rd_T47 t478 x10_2).f1))) (fun _ hk => hk.2) (.int .i64 ((rd_T47 t478 x10_2).f2))) (fun _ hk => hk.2) (.int .i64 ((rd_T47 t478 x10_2).f3))) (fun _ hk => trivial)⟩, bf_ BK473, bf_ BK474, bf_ BK492, ⟨by (with_reducible repeat (first | refine blk_drewN ?_ _ | refine blk_drew ?_ | refine blk_alloc ?_ _)); refine blk_put (cs := #[.int .i64 ((rd_T47 t478 x10_2).f0), .int .i64 ((rd_T47 t478 x10_2).f1), .int .i64 ((rd_T47 t478 x10_2).f2), .int .i64 0]) ?_ 3 _ rfl; (with_reducible repeat (first | refine blk_drewN ?_ _ | refine blk_drew ?_ | refine blk_alloc ?_ _)); refine blk_put (cs := #[.int .i64 ((rd_T47 t478 x10_2).f0), .int .i64 ((rd_T47 t478 x10_2).f1), .int .i64 0, .int .i64 0]) ?_ 2 _ rfl; (with_reducible repeat (first | refine blk_drewN ?_ _ | refine blk_drew ?_ | refine blk_alloc ?_ _)); refine blk_put (cs := #[.int .i64 ((rd_T47 t478 x10_2).f0), .int .i64 0, .int .i64 0, .int .i64 0]) ?_ 1 _ rfl; (with_reducible repeat (first | refine blk_drewN ?_ _ | refine blk_drew ?_ | refine blk_alloc ?_ _)); refine blk_put (cs := #[.int .i64 0, .int .i64 0, .int .i64 0, .int .i64 0]) ?_ 0 _ rfl; (with_reducible repeat (first | refine blk_drewN ?_ _ | refine blk_drew ?_ | refine blk_alloc ?_ _)); exact BK496.out⟩, ⟨by repeat (first | (with_reducible first | exact HB.out | apply below_alloc | apply pw_below_drewN | apply below_drew1 | refine below_set ?_ GE473.out | refine below_set ?_ GE474.out | refine below_set ?_ GE492.out | refine below_set ?_ GE496.out) | exact HB.out)⟩⟩
           ·
            rw [if_neg c44] at H
            have c44b0 : decide (((rd_T47 t478 x10_2).f0) < 0) = false := decide_eq_false c44
            clear c44
            by_cases c49 : ((rd_T47 t478 x10_2).f2) > a1_0
            ·
             rw [if_pos c49] at H
             have c49b0 : decide (a1_0 < ((rd_T47 t478 x10_2).f2)) = true := decide_eq_true c49
             clear c49
             have H' := Aside0.mk H
             clear H
             have hnb50 := NB496_473.out
             have hnc50 := NB473_496.out
             have hnb51 := NB496_474.out
             have hnc51 := NB474_496.out
             have hnb52 := NB496_492.out
             have hnc52 := NB492_496.out
             have hcz53_0 : w38.cell? ⟨gb496, 0, none⟩ = some (.int .i64 0) := (blk_cell BK496.out 0).trans rfl
             have hcz53_1 : w38.cell? ⟨gb496, 1, none⟩ = some (.int .i64 0) := (blk_cell BK496.out 1).trans rfl
             have hcz53_2 : w38.cell? ⟨gb496, 2, none⟩ = some (.int .i64 0) := (blk_cell BK496.out 2).trans rfl
             have hcz53_3 : w38.cell? ⟨gb496, 3, none⟩ = some (.int .i64 0) := (blk_cell BK496.out 3).trans rfl
             have hfz53_0 := blk_frozen BK496.out 0
             have hfz53_1 := blk_frozen BK496.out 1
             have hfz53_2 := blk_frozen BK496.out 2
             have hfz53_3 := blk_frozen BK496.out 3
             have hnb54 := NB474_473.out
             have hnc54 := NB473_474.out
             have hnb55 := NB474_492.out
             have hnc55 := NB492_474.out
             have hcz56_0 : w38.cell? ⟨gb474, 0, none⟩ = some (.int .i64 a1_0) := (blk_cell BK474.out 0).trans rfl
             have hcz56_1 : w38.cell? ⟨gb474, 1, none⟩ = some (.int .i64 a1_1) := (blk_cell BK474.out 1).trans rfl
             have hcz56_2 : w38.cell? ⟨gb474, 2, none⟩ = some (.slice A1_2 l1_2.length c1_2) := (blk_cell BK474.out 2).trans rfl
             have hfz56_0 := blk_frozen BK474.out 0
             have hfz56_1 := blk_frozen BK474.out 1
             have hfz56_2 := blk_frozen BK474.out 2
             go_wp2
             go_meet
             case rel => exact ⟨_, (true), (by first | rfl | (simp; done) | (simp [*]; done)), H', ⟨by have := HJ2.out; have := HK2.out; first | omega | exact Nat.le_refl _⟩, ⟨by (with_reducible repeat (first | apply Kd.R_alloc | apply Kd.R_drewN | apply Kd.R_drew)); exact Kd.R_mono (Kd.R_far (p := ⟨gb496, 3, none⟩) (Kd.R_far (p := ⟨gb496, 2, none⟩) (Kd.R_far (p := ⟨gb496, 1, none⟩) (Kd.R_far (p := ⟨gb496, 0, none⟩) (Kd.R_mono HO_5.out (fun k_ hk => (⟨hk, hk.2⟩ : _ ∧ k_ ≠ gb496))) (fun _ hk => hk.2) (.int .i64 ((rd_T47 t478 x10_2).f0))) (fun _ hk => hk.2) (.int .i64 ((rd_T47 t478 x10_2).f1))) (fun _ hk => hk.2) (.int .i64 ((rd_T47 t478 x10_2).f2))) (fun _ hk => hk.2) (.int .i64 ((rd_T47 t478 x10_2).f3))) (fun _ hk => hk.1.2)⟩, ⟨by (with_reducible repeat (first | apply Kd.R_alloc | apply Kd.R_drewN | apply Kd.R_drew)); exact Kd.R_mono (Kd.R_far (p := ⟨gb496, 3, none⟩) (Kd.R_far (p := ⟨gb496, 2, none⟩) (Kd.R_far (p := ⟨gb496, 1, none⟩) (Kd.R_far (p := ⟨gb496, 0, none⟩) (Kd.R_types HO_493002.out BK496.out (by decide)) (fun _ hk => hk.2) (.int .i64 ((rd_T47 t478 x10_2).f0))) (fun _ hk => hk.2) (.int .i64 ((rd_T47 t478 x10_2).f1))) (fun _ hk => hk.2) (.int .i64 ((rd_T47 t478 x10_2).f2))) (fun _ hk => hk.2) (.int .i64 ((rd_T47 t478 x10_2).f3))) (fun _ hk => trivial)⟩, bf_ BK473, bf_ BK474, bf_ BK492, ⟨by (with_reducible repeat (first | refine blk_drewN ?_ _ | refine blk_drew ?_ | refine blk_alloc ?_ _)); refine blk_put (cs := #[.int .i64 ((rd_T47 t478 x10_2).f0), .int .i64 ((rd_T47 t478 x10_2).f1), .int .i64 ((rd_T47 t478 x10_2).f2), .int .i64 0]) ?_ 3 _ rfl; (with_reducible repeat (first | refine blk_drewN ?_ _ | refine blk_drew ?_ | refine blk_alloc ?_ _)); refine blk_put (cs := #[.int .i64 ((rd_T47 t478 x10_2).f0), .int .i64 ((rd_T47 t478 x10_2).f1), .int .i64 0, .int .i64 0]) ?_ 2 _ rfl; (with_reducible repeat (first | refine blk_drewN ?_ _ | refine blk_drew ?_ | refine blk_alloc ?_ _)); refine blk_put (cs := #[.int .i64 ((rd_T47 t478 x10_2).f0), .int .i64 0, .int .i64 0, .int .i64 0]) ?_ 1 _ rfl; (with_reducible repeat (first | refine blk_drewN ?_ _ | refine blk_drew ?_ | refine blk_alloc ?_ _)); refine blk_put (cs := #[.int .i64 0, .int .i64 0, .int .i64 0, .int .i64 0]) ?_ 0 _ rfl; (with_reducible repeat (first | refine blk_drewN ?_ _ | refine blk_drew ?_ | refine blk_alloc ?_ _)); exact BK496.out⟩, ⟨by repeat (first | (with_reducible first | exact HB.out | apply below_alloc | apply pw_below_drewN | apply below_drew1 | refine below_set ?_ GE473.out | refine below_set ?_ GE474.out | refine below_set ?_ GE492.out | refine below_set ?_ GE496.out) | exact HB.out)⟩⟩
            ·
             rw [if_neg c49] at H
             have c49b0 : decide (a1_0 < ((rd_T47 t478 x10_2).f2)) = false := decide_eq_false c49
             clear c49
             by_cases c57 : ((rd_T47 t478 x10_2).f1) < 0
             ·
              rw [if_pos c57] at H
              have c57b0 : decide (((rd_T47 t478 x10_2).f1) < 0) = true := decide_eq_true c57
              clear c57
              have H' := Aside0.mk H
              clear H
              have hnb58 := NB496_473.out
              have hnc58 := NB473_496.out
              have hnb59 := NB496_474.out
              have hnc59 := NB474_496.out
              have hnb60 := NB496_492.out
              have hnc60 := NB492_496.out
              have hcz61_0 : w38.cell? ⟨gb496, 0, none⟩ = some (.int .i64 0) := (blk_cell BK496.out 0).trans rfl
              have hcz61_1 : w38.cell? ⟨gb496, 1, none⟩ = some (.int .i64 0) := (blk_cell BK496.out 1).trans rfl
              have hcz61_2 : w38.cell? ⟨gb496, 2, none⟩ = some (.int .i64 0) := (blk_cell BK496.out 2).trans rfl
              have hcz61_3 : w38.cell? ⟨gb496, 3, none⟩ = some (.int .i64 0) := (blk_cell BK496.out 3).trans rfl
              have hfz61_0 := blk_frozen BK496.out 0
              have hfz61_1 := blk_frozen BK496.out 1
              have hfz61_2 := blk_frozen BK496.out 2
              have hfz61_3 := blk_frozen BK496.out 3
              have hnb62 := NB474_473.out
              have hnc62 := NB473_474.out
              have hnb63 := NB474_492.out
              have hnc63 := NB492_474.out
              have hcz64_0 : w38.cell? ⟨gb474, 0, none⟩ = some (.int .i64 a1_0) := (blk_cell BK474.out 0).trans rfl
              have hcz64_1 : w38.cell? ⟨gb474, 1, none⟩ = some (.int .i64 a1_1) := (blk_cell BK474.out 1).trans rfl
              have hcz64_2 : w38.cell? ⟨gb474, 2, none⟩ = some (.slice A1_2 l1_2.length c1_2) := (blk_cell BK474.out 2).trans rfl
              have hfz64_0 := blk_frozen BK474.out 0
              have hfz64_1 := blk_frozen BK474.out 1
              have hfz64_2 := blk_frozen BK474.out 2
              go_wp2
              go_meet
              case rel => exact ⟨_, (true), (by first | rfl | (simp; done) | (simp [*]; done)), H', ⟨by have := HJ2.out; have := HK2.out; first | omega | exact Nat.le_refl _⟩, ⟨by (with_reducible repeat (first | apply Kd.R_alloc | apply Kd.R_drewN | apply Kd.R_drew)); exact Kd.R_mono (Kd.R_far (p := ⟨gb496, 3, none⟩) (Kd.R_far (p := ⟨gb496, 2, none⟩) (Kd.R_far (p := ⟨gb496, 1, none⟩) (Kd.R_far (p := ⟨gb496, 0, none⟩) (Kd.R_mono HO_5.out (fun k_ hk => (⟨hk, hk.2⟩ : _ ∧ k_ ≠ gb496))) (fun _ hk => hk.2) (.int .i64 ((rd_T47 t478 x10_2).f0))) (fun _ hk => hk.2) (.int .i64 ((rd_T47 t478 x10_2).f1))) (fun _ hk => hk.2) (.int .i64 ((rd_T47 t478 x10_2).f2))) (fun _ hk => hk.2) (.int .i64 ((rd_T47 t478 x10_2).f3))) (fun _ hk => hk.1.2)⟩, ⟨by (with_reducible repeat (first | apply Kd.R_alloc | apply Kd.R_drewN | apply Kd.R_drew)); exact Kd.R_mono (Kd.R_far (p := ⟨gb496, 3, none⟩) (Kd.R_far (p := ⟨gb496, 2, none⟩) (Kd.R_far (p := ⟨gb496, 1, none⟩) (Kd.R_far (p := ⟨gb496, 0, none⟩) (Kd.R_types HO_493002.out BK496.out (by decide)) (fun _ hk => hk.2) (.int .i64 ((rd_T47 t478 x10_2).f0))) (fun _ hk => hk.2) (.int .i64 ((rd_T47 t478 x10_2).f1))) (fun _ hk => hk.2) (.int .i64 ((rd_T47 t478 x10_2).f2))) (fun _ hk => hk.2) (.int .i64 ((rd_T47 t478 x10_2).f3))) (fun _ hk => trivial)⟩, bf_ BK473, bf_ BK474, bf_ BK492, ⟨by (with_reducible repeat (first | refine blk_drewN ?_ _ | refine blk_drew ?_ | refine blk_alloc ?_ _)); refine blk_put (cs := #[.int .i64 ((rd_T47 t478 x10_2).f0), .int .i64 ((rd_T47 t478 x10_2).f1), .int .i64 ((rd_T47 t478 x10_2).f2), .int .i64 0]) ?_ 3 _ rfl; (with_reducible repeat (first | refine blk_drewN ?_ _ | refine blk_drew ?_ | refine blk_alloc ?_ _)); refine blk_put (cs := #[.int .i64 ((rd_T47 t478 x10_2).f0), .int .i64 ((rd_T47 t478 x10_2).f1), .int .i64 0, .int .i64 0]) ?_ 2 _ rfl; (with_reducible repeat (first | refine blk_drewN ?_ _ | refine blk_drew ?_ | refine blk_alloc ?_ _)); refine blk_put (cs := #[.int .i64 ((rd_T47 t478 x10_2).f0), .int .i64 0, .int .i64 0, .int .i64 0]) ?_ 1 _ rfl; (with_reducible repeat (first | refine blk_drewN ?_ _ | refine blk_drew ?_ | refine blk_alloc ?_ _)); refine blk_put (cs := #[.int .i64 0, .int .i64 0, .int .i64 0, .int .i64 0]) ?_ 0 _ rfl; (with_reducible repeat (first | refine blk_drewN ?_ _ | refine blk_drew ?_ | refine blk_alloc ?_ _)); exact BK496.out⟩, ⟨by repeat (first | (with_reducible first | exact HB.out | apply below_alloc | apply pw_below_drewN | apply below_drew1 | refine below_set ?_ GE473.out | refine below_set ?_ GE474.out | refine below_set ?_ GE492.out | refine below_set ?_ GE496.out) | exact HB.out)⟩⟩
             ·
              rw [if_neg c57] at H
              have c57b0 : decide (((rd_T47 t478 x10_2).f1) < 0) = false := decide_eq_false c57
              clear c57
              have H' := Aside0.mk H
              clear H
              have hnb65 := NB496_473.out
              have hnc65 := NB473_496.out
              have hnb66 := NB496_474.out
              have hnc66 := NB474_496.out
              have hnb67 := NB496_492.out
              have hnc67 := NB492_496.out
              have hcz68_0 : w38.cell? ⟨gb496, 0, none⟩ = some (.int .i64 0) := (blk_cell BK496.out 0).trans rfl
              have hcz68_1 : w38.cell? ⟨gb496, 1, none⟩ = some (.int .i64 0) := (blk_cell BK496.out 1).trans rfl
              have hcz68_2 : w38.cell? ⟨gb496, 2, none⟩ = some (.int .i64 0) := (blk_cell BK496.out 2).trans rfl
              have hcz68_3 : w38.cell? ⟨gb496, 3, none⟩ = some (.int .i64 0) := (blk_cell BK496.out 3).trans rfl
              have hfz68_0 := blk_frozen BK496.out 0
              have hfz68_1 := blk_frozen BK496.out 1
              have hfz68_2 := blk_frozen BK496.out 2
              have hfz68_3 := blk_frozen BK496.out 3
              have hnb69 := NB474_473.out
              have hnc69 := NB473_474.out
              have hnb70 := NB474_492.out
              have hnc70 := NB492_474.out
              have hcz71_0 : w38.cell? ⟨gb474, 0, none⟩ = some (.int .i64 a1_0) := (blk_cell BK474.out 0).trans rfl
              have hcz71_1 : w38.cell? ⟨gb474, 1, none⟩ = some (.int .i64 a1_1) := (blk_cell BK474.out 1).trans rfl
              have hcz71_2 : w38.cell? ⟨gb474, 2, none⟩ = some (.slice A1_2 l1_2.length c1_2) := (blk_cell BK474.out 2).trans rfl
              have hfz71_0 := blk_frozen BK474.out 0
              have hfz71_1 := blk_frozen BK474.out 1
              have hfz71_2 := blk_frozen BK474.out 2
              go_wp2
              go_meet
              case rel => exact ⟨_, (decide (((rd_T47 t478 x10_2).f3) > a1_1)), (by first | rfl | (simp; done) | (simp [*]; done)), H', ⟨by have := HJ2.out; have := HK2.out; first | omega | exact Nat.le_refl _⟩, ⟨by (with_reducible repeat (first | apply Kd.R_alloc | apply Kd.R_drewN | apply Kd.R_drew)); exact Kd.R_mono (Kd.R_far (p := ⟨gb496, 3, none⟩) (Kd.R_far (p := ⟨gb496, 2, none⟩) (Kd.R_far (p := ⟨gb496, 1, none⟩) (Kd.R_far (p := ⟨gb496, 0, none⟩) (Kd.R_mono HO_5.out (fun k_ hk => (⟨hk, hk.2⟩ : _ ∧ k_ ≠ gb496))) (fun _ hk => hk.2) (.int .i64 ((rd_T47 t478 x10_2).f0))) (fun _ hk => hk.2) (.int .i64 ((rd_T47 t478 x10_2).f1))) (fun _ hk => hk.2) (.int .i64 ((rd_T47 t478 x10_2).f2))) (fun _ hk => hk.2) (.int .i64 ((rd_T47 t478 x10_2).f3))) (fun _ hk => hk.1.2)⟩, ⟨by (with_reducible repeat (first | apply Kd.R_alloc | apply Kd.R_drewN | apply Kd.R_drew)); exact Kd.R_mono (Kd.R_far (p := ⟨gb496, 3, none⟩) (Kd.R_far (p := ⟨gb496, 2, none⟩) (Kd.R_far (p := ⟨gb496, 1, none⟩) (Kd.R_far (p := ⟨gb496, 0, none⟩) (Kd.R_types HO_493002.out BK496.out (by decide)) (fun _ hk => hk.2) (.int .i64 ((rd_T47 t478 x10_2).f0))) (fun _ hk => hk.2) (.int .i64 ((rd_T47 t478 x10_2).f1))) (fun _ hk => hk.2) (.int .i64 ((rd_T47 t478 x10_2).f2))) (fun _ hk => hk.2) (.int .i64 ((rd_T47 t478 x10_2).f3))) (fun _ hk => trivial)⟩, bf_ BK473, bf_ BK474, bf_ BK492, ⟨by (with_reducible repeat (first | refine blk_drewN ?_ _ | refine blk_drew ?_ | refine blk_alloc ?_ _)); refine blk_put (cs := #[.int .i64 ((rd_T47 t478 x10_2).f0), .int .i64 ((rd_T47 t478 x10_2).f1), .int .i64 ((rd_T47 t478 x10_2).f2), .int .i64 0]) ?_ 3 _ rfl; (with_reducible repeat (first | refine blk_drewN ?_ _ | refine blk_drew ?_ | refine blk_alloc ?_ _)); refine blk_put (cs := #[.int .i64 ((rd_T47 t478 x10_2).f0), .int .i64 ((rd_T47 t478 x10_2).f1), .int .i64 0, .int .i64 0]) ?_ 2 _ rfl; (with_reducible repeat (first | refine blk_drewN ?_ _ | refine blk_drew ?_ | refine blk_alloc ?_ _)); refine blk_put (cs := #[.int .i64 ((rd_T47 t478 x10_2).f0), .int .i64 0, .int .i64 0, .int .i64 0]) ?_ 1 _ rfl; (with_reducible repeat (first | refine blk_drewN ?_ _ | refine blk_drew ?_ | refine blk_alloc ?_ _)); refine blk_put (cs := #[.int .i64 0, .int .i64 0, .int .i64 0, .int .i64 0]) ?_ 0 _ rfl; (with_reducible repeat (first | refine blk_drewN ?_ _ | refine blk_drew ?_ | refine blk_alloc ?_ _)); exact BK496.out⟩, ⟨by repeat (first | (with_reducible first | exact HB.out | apply below_alloc | apply pw_below_drewN | apply below_drew1 | refine below_set ?_ GE473.out | refine below_set ?_ GE474.out | refine below_set ?_ GE492.out | refine below_set ?_ GE496.out) | exact HB.out)⟩⟩
          ·
           rw [if_neg c43] at H
           have c43b0 : (((rd_T47 t478 x10_2).f3) == (wrap64 (((rd_T47 t478 x10_2).f1) + 1))) = false := beq_eq_false_iff_ne.mpr c43
           have c43b1 : (((rd_T47 t478 x10_2).f3) != (wrap64 (((rd_T47 t478 x10_2).f1) + 1))) = true := bne_iff_ne.mpr c43
           (first | rw [c43b0] | (simp only [i64_w, i32_w]; rw [c43b0]) | skip)
           have H' := Aside0.mk H
           clear H
           have hnb72 := NB496_473.out
           have hnc72 := NB473_496.out
           have hnb73 := NB496_474.out
           have hnc73 := NB474_496.out
           have hnb74 := NB496_492.out
           have hnc74 := NB492_496.out
           have hcz75_0 : w38.cell? ⟨gb496, 0, none⟩ = some (.int .i64 0) := (blk_cell BK496.out 0).trans rfl
           have hcz75_1 : w38.cell? ⟨gb496, 1, none⟩ = some (.int .i64 0) := (blk_cell BK496.out 1).trans rfl
           have hcz75_2 : w38.cell? ⟨gb496, 2, none⟩ = some (.int .i64 0) := (blk_cell BK496.out 2).trans rfl
           have hcz75_3 : w38.cell? ⟨gb496, 3, none⟩ = some (.int .i64 0) := (blk_cell BK496.out 3).trans rfl
           have hfz75_0 := blk_frozen BK496.out 0
           have hfz75_1 := blk_frozen BK496.out 1
           have hfz75_2 := blk_frozen BK496.out 2
           have hfz75_3 := blk_frozen BK496.out 3
           go_wp2
           go_meet
           case rel => exact ⟨_, (true), (by first | rfl | (simp; done) | (simp [*]; done)), H', ⟨by have := HJ2.out; have := HK2.out; first | omega | exact Nat.le_refl _⟩, ⟨by (with_reducible repeat (first | apply Kd.R_alloc | apply Kd.R_drewN | apply Kd.R_drew)); exact Kd.R_mono (Kd.R_far (p := ⟨gb496, 3, none⟩) (Kd.R_far (p := ⟨gb496, 2, none⟩) (Kd.R_far (p := ⟨gb496, 1, none⟩) (Kd.R_far (p := ⟨gb496, 0, none⟩) (Kd.R_mono HO_5.out (fun k_ hk => (⟨hk, hk.2⟩ : _ ∧ k_ ≠ gb496))) (fun _ hk => hk.2) (.int .i64 ((rd_T47 t478 x10_2).f0))) (fun _ hk => hk.2) (.int .i64 ((rd_T47 t478 x10_2).f1))) (fun _ hk => hk.2) (.int .i64 ((rd_T47 t478 x10_2).f2))) (fun _ hk => hk.2) (.int .i64 ((rd_T47 t478 x10_2).f3))) (fun _ hk => hk.1.2)⟩, ⟨by (with_reducible repeat (first | apply Kd.R_alloc | apply Kd.R_drewN | apply Kd.R_drew)); exact Kd.R_mono (Kd.R_far (p := ⟨gb496, 3, none⟩) (Kd.R_far (p := ⟨gb496, 2, none⟩) (Kd.R_far (p := ⟨gb496, 1, none⟩) (Kd.R_far (p := ⟨gb496, 0, none⟩) (Kd.R_types HO_493002.out BK496.out (by decide)) (fun _ hk => hk.2) (.int .i64 ((rd_T47 t478 x10_2).f0))) (fun _ hk => hk.2) (.int .i64 ((rd_T47 t478 x10_2).f1))) (fun _ hk => hk.2) (.int .i64 ((rd_T47 t478 x10_2).f2))) (fun _ hk => hk.2) (.int .i64 ((rd_T47 t478 x10_2).f3))) (fun _ hk => trivial)⟩, bf_ BK473, bf_ BK474, bf_ BK492, ⟨by (with_reducible repeat (first | refine blk_drewN ?_ _ | refine blk_drew ?_ | refine blk_alloc ?_ _)); refine blk_put (cs := #[.int .i64 ((rd_T47 t478 x10_2).f0), .int .i64 ((rd_T47 t478 x10_2).f1), .int .i64 ((rd_T47 t478 x10_2).f2), .int .i64 0]) ?_ 3 _ rfl; (with_reducible repeat (first | refine blk_drewN ?_ _ | refine blk_drew ?_ | refine blk_alloc ?_ _)); refine blk_put (cs := #[.int .i64 ((rd_T47 t478 x10_2).f0), .int .i64 ((rd_T47 t478 x10_2).f1), .int .i64 0, .int .i64 0]) ?_ 2 _ rfl; (with_reducible repeat (first | refine blk_drewN ?_ _ | refine blk_drew ?_ | refine blk_alloc ?_ _)); refine blk_put (cs := #[.int .i64 ((rd_T47 t478 x10_2).f0), .int .i64 0, .int .i64 0, .int .i64 0]) ?_ 1 _ rfl; (with_reducible repeat (first | refine blk_drewN ?_ _ | refine blk_drew ?_ | refine blk_alloc ?_ _)); refine blk_put (cs := #[.int .i64 0, .int .i64 0, .int .i64 0, .int .i64 0]) ?_ 0 _ rfl; (with_reducible repeat (first | refine blk_drewN ?_ _ | refine blk_drew ?_ | refine blk_alloc ?_ _)); exact BK496.out⟩, ⟨by repeat (first | (with_reducible first | exact HB.out | apply below_alloc | apply pw_below_drewN | apply below_drew1 | refine below_set ?_ GE473.out | refine below_set ?_ GE474.out | refine below_set ?_ GE492.out | refine below_set ?_ GE496.out) | exact HB.out)⟩⟩
         case rest =>
          clear HC36
          try clear c1
          try clear c2
          try clear p2
          try clear c3
          try clear c4
          try clear p4
          try clear q4
          try clear hx4
          try clear c5
          try clear c6
          try clear p6
          try clear c7
          try clear c9
          try clear c13
          try clear c14
          try clear c17
          try clear c21
          try clear c21b0
          try clear c21b1
          try clear c22
          try clear c23
          try clear c30
          try clear c31
          try clear c33
          try clear c34
          try clear c34b0
          try clear c35
          try clear c35b0
          try clear c39
          try clear c40
          try clear c41
          try clear c43
          try clear c43b0
          try clear c43b1
          try clear c44
          try clear c44b0
          try clear c45
          try clear c46
          try clear c47
          try clear c49
          try clear c49b0
          try clear p49
          try clear q49
          try clear hx49
          try clear c50
          try clear c51
          try clear c52
          try clear c54
          try clear c55
          try clear c57
          try clear c57b0
          try clear c58
          try clear c59
          try clear c60
          try clear c62
          try clear c63
          try clear p64
          try clear c65
          try clear c66
          try clear c67
          try clear c69
          try clear c70
          try clear c72
          try clear c73
          try clear c74
          try clear hcz10_0
          try clear hcz10_1
          try clear hcz10_2
          try clear hcz12_0
          try clear hcz12_1
          try clear hcz12_2
          try clear hcz15_0
          try clear hcz15_1
          try clear hcz15_2
          try clear hcz24_0
          try clear hcz24_1
          try clear hcz24_2
          try clear hcz25_0
          try clear hcz25_1
          try clear hcz25_2
          try clear hcz27_0
          try clear hcz27_1
          try clear hcz27_2
          try clear hcz32_0
          try clear hcz32_1
          try clear hcz32_2
          try clear hcz42_0
          try clear hcz42_1
          try clear hcz42_2
          try clear hcz42_3
          try clear hcz48_0
          try clear hcz48_1
          try clear hcz48_2
          try clear hcz48_3
          try clear hcz53_0
          try clear hcz53_1
          try clear hcz53_2
          try clear hcz53_3
          try clear hcz56_0
          try clear hcz56_1
          try clear hcz56_2
          try clear hcz61_0
          try clear hcz61_1
          try clear hcz61_2
          try clear hcz61_3
          try clear hcz64_0
          try clear hcz64_1
          try clear hcz64_2
          try clear hcz68_0
          try clear hcz68_1
          try clear hcz68_2
          try clear hcz68_3
          try clear hcz71_0
          try clear hcz71_1
          try clear hcz71_2
          try clear hcz75_0
          try clear hcz75_1
          try clear hcz75_2
          try clear hcz75_3
          try clear hfz10_0
          try clear hfz10_1
          try clear hfz10_2
          try clear hfz12_0
          try clear hfz12_1
          try clear hfz12_2
          try clear hfz15_0
          try clear hfz15_1
          try clear hfz15_2
          try clear hfz24_0
          try clear hfz24_1
          try clear hfz24_2
          try clear hfz25_0
          try clear hfz25_1
          try clear hfz25_2
          try clear hfz27_0
          try clear hfz27_1
          try clear hfz27_2
          try clear hfz32_0
          try clear hfz32_1
          try clear hfz32_2
          try clear hfz42_0
          try clear hfz42_1
          try clear hfz42_2
          try clear hfz42_3
          try clear hfz48_0
          try clear hfz48_1
          try clear hfz48_2
          try clear hfz48_3
          try clear hfz53_0
          try clear hfz53_1
          try clear hfz53_2
          try clear hfz53_3
          try clear hfz56_0
          try clear hfz56_1
          try clear hfz56_2
          try clear hfz61_0
          try clear hfz61_1
          try clear hfz61_2
          try clear hfz61_3
          try clear hfz64_0
          try clear hfz64_1
          try clear hfz64_2
          try clear hfz68_0
          try clear hfz68_1
          try clear hfz68_2
          try clear hfz68_3
          try clear hfz71_0
          try clear hfz71_1
          try clear hfz71_2
          try clear hfz75_0
          try clear hfz75_1
          try clear hfz75_2
          try clear hfz75_3
          try clear hx495_0
          try clear hx495_1
          try clear hx495_2
          try clear hx495_3
          try clear p2
          try clear p495
          try clear q495
          obtain ⟨kq, x97_35, rfl, HA, HJ35, HO_5, HO_493002, BK473, BK474, BK492, BK496, HB⟩ := hcut
          cases kq with
          | zero => exact absurd HA.out (by simp [compositorlaw09_BufferDiff.j2])
          | succ kj35 =>
           have H := HA.out
           clear HA
           simp only [compositorlaw09_BufferDiff.j2] at H
           by_cases c76 : x97_35 = true
           ·
            subst c76
            have H1 : (some false) = some true := by rw [if_pos rfl] at H; exact H
            clear H
            have H := H1
            clear H1
            exact absurd H (by simp)
           ·
            replace c76 := Bool.eq_false_iff.mpr c76
            subst c76
            have H1 : (compositorlaw09_BufferDiff.l1 kj35 t478 x10_2 ((rd_T47 t478 x10_2).f0) a0_0 a0_1 l0_2 a1_0 a1_1 l1_2 x493000_2 x493001_2 x493002_2 ((rd_T47 t478 x10_2).f0) ((rd_T47 t478 x10_2).f1) ((rd_T47 t478 x10_2).f2) ((rd_T47 t478 x10_2).f3)) = some true := by rw [if_neg (show ¬ (false = true) by decide)] at H; exact H
            clear H
            have H := H1
            clear H1
            have H' := Aside0.mk H
            clear H
            have hnb77 := NB496_473.out
            have hnc77 := NB473_496.out
            have hnb78 := NB496_474.out
            have hnc78 := NB474_496.out
            have hnb79 := NB496_492.out
            have hnc79 := NB492_496.out
            have hcz80_0 : wc.cell? ⟨gb496, 0, none⟩ = some (.int .i64 ((rd_T47 t478 x10_2).f0)) := (blk_cell BK496.out 0).trans rfl
            have hcz80_1 : wc.cell? ⟨gb496, 1, none⟩ = some (.int .i64 ((rd_T47 t478 x10_2).f1)) := (blk_cell BK496.out 1).trans rfl
            have hcz80_2 : wc.cell? ⟨gb496, 2, none⟩ = some (.int .i64 ((rd_T47 t478 x10_2).f2)) := (blk_cell BK496.out 2).trans rfl
            have hcz80_3 : wc.cell? ⟨gb496, 3, none⟩ = some (.int .i64 ((rd_T47 t478 x10_2).f3)) := (blk_cell BK496.out 3).trans rfl
            have hfz80_0 := blk_frozen BK496.out 0
            have hfz80_1 := blk_frozen BK496.out 1
            have hfz80_2 := blk_frozen BK496.out 2
            have hfz80_3 := blk_frozen BK496.out 3
            go_wp2
            go_loopg [12] kj35 (fun kq v12 w' => ∃ (x12_4 : Int), v12 = .int .i64 x12_4 ∧ Aside0 (compositorlaw09_BufferDiff.l1 kq t478 x10_2 x12_4 a0_0 a0_1 l0_2 a1_0 a1_1 l1_2 x493000_2 x493001_2 x493002_2 ((rd_T47 t478 x10_2).f0) ((rd_T47 t478 x10_2).f1) ((rd_T47 t478 x10_2).f2) ((rd_T47 t478 x10_2).f3) = some true) ∧ Aside0 (kq ≤ kj35) ∧ Aside0 (Kd.R k47 47 w' w.heap.size (fun k_ => k_ ≠ gb496) (.slice (some ad495) t478.length co37) t478) ∧ Aside0 (Kd.R k43 43 w' w.heap.size (fun _ => True) u493002 x493002_2) ∧ Aside0 (w'.heap[gb473]? = some (.cells #[.int .i64 a0_0, .int .i64 a0_1, (.slice A0_2 l0_2.length c0_2)] 27 (0, 0))) ∧ Aside0 (w'.heap[gb474]? = some (.cells #[.int .i64 a1_0, .int .i64 a1_1, (.slice A1_2 l1_2.length c1_2)] 27 (0, 0))) ∧ Aside0 (w'.heap[gb492]? = some (.cells #[.int .i64 x493000_2, .int .i64 x493001_2, u493002] 27 (0, 0))) ∧ Aside0 (w'.heap[gb496]? = some (.cells #[.int .i64 ((rd_T47 t478 x10_2).f0), .int .i64 ((rd_T47 t478 x10_2).f1), .int .i64 ((rd_T47 t478 x10_2).f2), .int .i64 ((rd_T47 t478 x10_2).f3)] 47 (0, 0))) ∧ Aside0 (Below w.heap.size w w'))
            case atStart => exact ⟨(((rd_T47 t478 x10_2).f0)), (by first | rfl | (simp; done) | (simp [*]; done)), H', ⟨Nat.le_refl _⟩, ⟨by (with_reducible repeat (first | apply Kd.R_alloc | apply Kd.R_drewN | apply Kd.R_drew)); exact HO_5.out⟩, ⟨by (with_reducible repeat (first | apply Kd.R_alloc | apply Kd.R_drewN | apply Kd.R_drew)); exact HO_493002.out⟩, bf_ BK473, bf_ BK474, bf_ BK492, bf_ BK496, ⟨by repeat (first | (with_reducible first | exact HB.out | apply below_alloc | apply pw_below_drewN | apply below_drew1 | refine below_set ?_ GE473.out | refine below_set ?_ GE474.out | refine below_set ?_ GE492.out | refine below_set ?_ GE496.out) | exact HB.out)⟩⟩
            case round =>
             clear H'
             try clear c1
             try clear c2
             try clear p2
             try clear c3
             try clear c4
             try clear p4
             try clear q4
             try clear hx4
             try clear c5
             try clear c6
             try clear p6
             try clear c7
             try clear c9
             try clear c13
             try clear c14
             try clear c17
             try clear c21
             try clear c21b0
             try clear c21b1
             try clear c22
             try clear c23
             try clear c30
             try clear c31
             try clear c33
             try clear c34
             try clear c34b0
             try clear c35
             try clear c35b0
             try clear c39
             try clear c40
             try clear c41
             try clear c43
             try clear c43b0
             try clear c43b1
             try clear c44
             try clear c44b0
             try clear c45
             try clear c46
             try clear c47
             try clear c49
             try clear c49b0
             try clear p49
             try clear q49
             try clear hx49
             try clear c50
             try clear c51
             try clear c52
             try clear c54
             try clear c55
             try clear c57
             try clear c57b0
             try clear c58
             try clear c59
             try clear c60
             try clear c62
             try clear c63
             try clear p64
             try clear c65
             try clear c66
             try clear c67
             try clear c69
             try clear c70
             try clear c72
             try clear c73
             try clear c74
             try clear c76
             try clear c77
             try clear c78
             try clear c79
             try clear hcz10_0
             try clear hcz10_1
             try clear hcz10_2
             try clear hcz12_0
             try clear hcz12_1
             try clear hcz12_2
             try clear hcz15_0
             try clear hcz15_1
             try clear hcz15_2
             try clear hcz24_0
             try clear hcz24_1
             try clear hcz24_2
             try clear hcz25_0
             try clear hcz25_1
             try clear hcz25_2
             try clear hcz27_0
             try clear hcz27_1
             try clear hcz27_2
             try clear hcz32_0
             try clear hcz32_1
             try clear hcz32_2
             try clear hcz42_0
             try clear hcz42_1
             try clear hcz42_2
             try clear hcz42_3
             try clear hcz48_0
             try clear hcz48_1
             try clear hcz48_2
             try clear hcz48_3
             try clear hcz53_0
             try clear hcz53_1
             try clear hcz53_2
             try clear hcz53_3
             try clear hcz56_0
             try clear hcz56_1
             try clear hcz56_2
             try clear hcz61_0
             try clear hcz61_1
             try clear hcz61_2
             try clear hcz61_3
             try clear hcz64_0
             try clear hcz64_1
             try clear hcz64_2
             try clear hcz68_0
             try clear hcz68_1
             try clear hcz68_2
             try clear hcz68_3
             try clear hcz71_0
             try clear hcz71_1
             try clear hcz71_2
             try clear hcz75_0
             try clear hcz75_1
             try clear hcz75_2
             try clear hcz75_3
             try clear hcz80_0
             try clear hcz80_1
             try clear hcz80_2
             try clear hcz80_3
             try clear hfz10_0
             try clear hfz10_1
             try clear hfz10_2
             try clear hfz12_0
             try clear hfz12_1
             try clear hfz12_2
             try clear hfz15_0
             try clear hfz15_1
             try clear hfz15_2
             try clear hfz24_0
             try clear hfz24_1
             try clear hfz24_2
             try clear hfz25_0
             try clear hfz25_1
             try clear hfz25_2
             try clear hfz27_0
             try clear hfz27_1
             try clear hfz27_2
             try clear hfz32_0
             try clear hfz32_1
             try clear hfz32_2
             try clear hfz42_0
             try clear hfz42_1
             try clear hfz42_2
             try clear hfz42_3
             try clear hfz48_0
             try clear hfz48_1
             try clear hfz48_2
             try clear hfz48_3
             try clear hfz53_0
             try clear hfz53_1
             try clear hfz53_2
             try clear hfz53_3
             try clear hfz56_0
             try clear hfz56_1
             try clear hfz56_2
             try clear hfz61_0
             try clear hfz61_1
             try clear hfz61_2
             try clear hfz61_3
             try clear hfz64_0
             try clear hfz64_1
             try clear hfz64_2
             try clear hfz68_0
             try clear hfz68_1
             try clear hfz68_2
             try clear hfz68_3
             try clear hfz71_0
             try clear hfz71_1
             try clear hfz71_2
             try clear hfz75_0
             try clear hfz75_1
             try clear hfz75_2
             try clear hfz75_3
             try clear hfz80_0
             try clear hfz80_1
             try clear hfz80_2
             try clear hfz80_3
             try clear hx495_0
             try clear hx495_1
             try clear hx495_2
             try clear hx495_3
             try clear p2
             try clear p4
             try clear p49
             try clear p495
             try clear p6
             try clear p64
             try clear q4
             try clear q49
             try clear q495
             obtain ⟨x12_4, rfl, HA, HK4, HO_5, HO_493002, BK473, BK474, BK492, BK496, HB⟩ := hrel
             cases gk with
             | zero => exact absurd HA.out (by simp [compositorlaw09_BufferDiff.l1])
             | succ k4 =>
              have H := HA.out
              clear HA
              simp only [compositorlaw09_BufferDiff.l1] at H
              by_cases c81 : x12_4 < ((rd_T47 t478 x10_2).f2)
              ·
               rw [if_pos c81] at H
               have c81b0 : decide (x12_4 < ((rd_T47 t478 x10_2).f2)) = true := decide_eq_true c81
               clear c81
               replace H := Option.bind_eq_some_iff.mp H
               obtain ⟨⟨t497, t498, t499, t500⟩, A820, H⟩ := H
               try dsimp only at H
               have A82 := Aside0.mk A820
               clear A820
               replace H := Option.bind_eq_some_iff.mp H
               obtain ⟨⟨t501, t502, t503, t504⟩, A830, H⟩ := H
               try dsimp only at H
               have A83 := Aside0.mk A830
               clear A830
               by_cases c84 : (t497 == t501 && (t498 == t502 && (t499 == t503 && (t500 == t504)))) = true
               ·
                rw [if_pos c84] at H
                have c84b0 : (t497 == t501 && (t498 == t502 && (t499 == t503 && (t500 == t504)))) = true := c84
                (try (have c84b1 : decide (t497 = t501 && (t498 == t502 && (t499 == t503 && (t500 == t504)))) = true := by simpa using c84))
                (try (have c84b2 : (t497 == t501 && (t498 == t502 && (t499 == t503 && (t500 == t504)))) = true := by simpa using c84))
                clear c84
                exact absurd H (by simp)
               ·
                rw [if_neg c84] at H
                have c84b0 : (t497 == t501 && (t498 == t502 && (t499 == t503 && (t500 == t504)))) = false := by simpa using c84
                (try (have c84b1 : decide (t497 = t501 && (t498 == t502 && (t499 == t503 && (t500 == t504)))) = false := by simpa using c84))
                (try (have c84b2 : (t497 == t501 && (t498 == t502 && (t499 == t503 && (t500 == t504)))) = false := by simpa using c84))
                (try (have c84b3 : ¬ (t497 = t501 && (t498 == t502 && (t499 == t503 && (t500 == t504)))) := by simpa using c84))
                clear c84
                have H' := Aside0.mk H
                clear H
                have hnb85 := NB496_473.out
                have hnc85 := NB473_496.out
                have hnb86 := NB496_474.out
                have hnc86 := NB474_496.out
                have hnb87 := NB496_492.out
                have hnc87 := NB492_496.out
                have hcz88_0 : wr.cell? ⟨gb496, 0, none⟩ = some (.int .i64 ((rd_T47 t478 x10_2).f0)) := (blk_cell BK496.out 0).trans rfl
                have hcz88_1 : wr.cell? ⟨gb496, 1, none⟩ = some (.int .i64 ((rd_T47 t478 x10_2).f1)) := (blk_cell BK496.out 1).trans rfl
                have hcz88_2 : wr.cell? ⟨gb496, 2, none⟩ = some (.int .i64 ((rd_T47 t478 x10_2).f2)) := (blk_cell BK496.out 2).trans rfl
                have hcz88_3 : wr.cell? ⟨gb496, 3, none⟩ = some (.int .i64 ((rd_T47 t478 x10_2).f3)) := (blk_cell BK496.out 3).trans rfl
                have hfz88_0 := blk_frozen BK496.out 0
                have hfz88_1 := blk_frozen BK496.out 1
                have hfz88_2 := blk_frozen BK496.out 2
                have hfz88_3 := blk_frozen BK496.out 3
                try go_wp2
                replace HO_5 := Aside0.mk (Kd.R_drew HO_5.out)
                replace HO_493002 := Aside0.mk (Kd.R_drew HO_493002.out)
                replace BK473 := Aside0.mk (blk_drew BK473.out)
                replace BK474 := Aside0.mk (blk_drew BK474.out)
                replace BK492 := Aside0.mk (blk_drew BK492.out)
                replace BK496 := Aside0.mk (blk_drew BK496.out)
                replace HB := Aside0.mk (below_drew1 HB.out)
                refine start_ (n := 11) (S := fun w' => w'.cell? ⟨gb473, 0, none⟩ = some (.int .i64 a0_0) ∧ w'.cell? ⟨gb473, 1, none⟩ = some (.int .i64 a0_1) ∧ w'.cell? ⟨gb473, 2, none⟩ = some (.slice A0_2 l0_2.length c0_2) ∧ w'.cell? ⟨gb496, 0, none⟩ = some (.int .i64 ((rd_T47 t478 x10_2).f0)) ∧ w'.cell? ⟨gb496, 1, none⟩ = some (.int .i64 ((rd_T47 t478 x10_2).f1)) ∧ w'.cell? ⟨gb496, 2, none⟩ = some (.int .i64 ((rd_T47 t478 x10_2).f2)) ∧ w'.cell? ⟨gb496, 3, none⟩ = some (.int .i64 ((rd_T47 t478 x10_2).f3)) ∧ w'.cell? ⟨gb474, 0, none⟩ = some (.int .i64 a1_0) ∧ w'.cell? ⟨gb474, 1, none⟩ = some (.int .i64 a1_1) ∧ w'.cell? ⟨gb474, 2, none⟩ = some (.slice A1_2 l1_2.length c1_2)) (ds := []) zq9.q0 (by kernel_rfl) rfl rfl ⟨c_ BK473 0, ⟨c_ BK473 1, ⟨c_ BK473 2, (a4_ BK496 ⟨c_ BK474 0, ⟨c_ BK474 1, (c_ BK474 2)⟩⟩)⟩⟩⟩ (fun hHeld => ?_); refine with_tabW compositorlaw09_BufferDiff.tab17 compositorlaw09_BufferDiff.bits17 (fun HT_ HW_ => ?_)
                generalize wr.drew = w89 at HO_5 HO_493002 BK473 BK474 BK492 BK496 HB hHeld ⊢
                refine pv_ 1 107 zq9.q1 HT_ ?_
                refine pv_ 2 108 zq9.q2 HT_ ?_
                refine pv_ 6 112 zq9.q3 HT_ ?_
                refine pv_ 7 113 zq9.q4 HT_ ?_
                refine take_ (i := 0) (N := some 106) (v := ?_) (a' := ?_) zq9.q5 rfl rfl (take_ofW HT_.out HW_.out (by kernel_rfl)) (fun _ _ _ h => h) (Or.inl ⟨by rfl, ?_⟩) hHeld ?_ ?_
                rotate_left
                ·
                 rintro w' ⟨s0, s1, s2, s3, s4, s5, s6, s7, s8, s9⟩
                 go_simp
                 with_reducible rfl
                rotate_left
                ·
                 simp only [Act.put, List.setIfInBounds_toArray, List.set_cons_zero, List.set_cons_succ, i64_w, i32_w]
                 rfl
                refine take_ (i := 3) (N := some 109) (v := ?_) (a' := ?_) zq9.q6 rfl rfl (take_ofW HT_.out HW_.out (by kernel_rfl)) (fun _ _ _ h => h) (Or.inl ⟨by rfl, ?_⟩) hHeld ?_ ?_
                rotate_left
                ·
                 rintro w' ⟨s0, s1, s2, s3, s4, s5, s6, s7, s8, s9⟩
                 go_simp
                 with_reducible rfl
                rotate_left
                ·
                 simp only [Act.put, List.setIfInBounds_toArray, List.set_cons_zero, List.set_cons_succ, i64_w, i32_w]
                 rfl
                refine take_ (i := 5) (N := some 111) (v := ?_) (a' := ?_) zq9.q7 rfl rfl (take_ofW HT_.out HW_.out (by kernel_rfl)) (fun _ _ _ h => h) (Or.inl ⟨by rfl, ?_⟩) hHeld ?_ ?_
                rotate_left
                ·
                 rintro w' ⟨s0, s1, s2, s3, s4, s5, s6, s7, s8, s9⟩
                 go_simp
                 with_reducible rfl
                rotate_left
                ·
                 simp only [Act.put, List.setIfInBounds_toArray, List.set_cons_zero, List.set_cons_succ, i64_w, i32_w]
                 rfl
                refine take_ (i := 8) (N := some 114) (v := ?_) (a' := ?_) zq9.q8 rfl rfl (take_ofW HT_.out HW_.out (by kernel_rfl)) (fun _ _ _ h => h) (Or.inl ⟨by rfl, ?_⟩) hHeld ?_ ?_
                rotate_left
                ·
                 rintro w' ⟨s0, s1, s2, s3, s4, s5, s6, s7, s8, s9⟩
                 go_simp
                 with_reducible rfl
                rotate_left
                ·
                 simp only [Act.put, List.setIfInBounds_toArray, List.set_cons_zero, List.set_cons_succ, i64_w, i32_w]
                 rfl
                refine one_ (i := 4) (N := some 110) zq9.q9 rfl rfl (one_of HT_.out (by kernel_rfl)) (by decide) (fun K hK => ?_)
                refine gs_ Try.func28 #[.agg #[.int .i64 a0_0, .int .i64 a0_1, .slice A0_2 l0_2.length c0_2], .int .i64 x12_4, .int .i64 ((rd_T47 t478 x10_2).f1)] ?_
                with_reducible refine (compositorref09_At.calls a0_0 a0_1 _ _ l0_2 x12_4 ((rd_T47 t478 x10_2).f1) t497 t498 t499 t500 _ ?side1 ?side2 A82.out).mono ?_
                (case side1 => repeat (first | exact (Kd.C_below HR0_2.out HB.out) | (with_reducible refine Kd.C_alloc ?_ _) | (with_reducible refine Kd.C_drewN ?_ _) | (with_reducible refine Kd.C_drew ?_)))
                (case side2 => exact HC0_2.out)
                rintro e w90 ⟨rfl, hb⟩
                refine ⟨_, rfl, ?_⟩
                replace HO_5 := Aside0.mk (Kd.R_below (by (with_reducible repeat (first | apply Kd.R_alloc | apply Kd.R_drewN | apply Kd.R_drew)); exact HO_5.out) hb)
                replace HO_493002 := Aside0.mk (Kd.R_below (by (with_reducible repeat (first | apply Kd.R_alloc | apply Kd.R_drewN | apply Kd.R_drew)); exact HO_493002.out) hb)
                replace BK473 := bb_ BK473 hb
                replace BK474 := bb_ BK474 hb
                replace BK492 := bb_ BK492 hb
                replace BK496 := bb_ BK496 hb
                replace HB := hb_ HB hb
                (try clear hb); (try clear hb2); (try clear hk); (try clear hi)
                refine hK.out _ _ ⟨c_ BK473 0, ⟨c_ BK473 1, ⟨c_ BK473 2, (a4_ BK496 ⟨c_ BK474 0, ⟨c_ BK474 1, (c_ BK474 2)⟩⟩)⟩⟩⟩ (fun hHeld => ?_)
                clear hK K
                refine norm_ (a' := ?_) ?_ ?_
                rotate_left
                ·
                 show Act.put _ (some 110) _ = _
                 simp only [Act.put, List.setIfInBounds_toArray, List.set_cons_zero, List.set_cons_succ, i64_w, i32_w]
                 rfl
                refine one_ (i := 9) (N := some 115) zq9.q10 rfl rfl (one_of HT_.out (by kernel_rfl)) (by decide) (fun K hK => ?_)
                refine gs_ Try.func28 #[.agg #[.int .i64 a1_0, .int .i64 a1_1, .slice A1_2 l1_2.length c1_2], .int .i64 x12_4, .int .i64 ((rd_T47 t478 x10_2).f1)] ?_
                with_reducible refine (compositorref09_At.calls a1_0 a1_1 _ _ l1_2 x12_4 ((rd_T47 t478 x10_2).f1) t501 t502 t503 t504 _ ?side1 ?side2 A83.out).mono ?_
                (case side1 => repeat (first | exact (Kd.C_below HR1_2.out HB.out) | (with_reducible refine Kd.C_alloc ?_ _) | (with_reducible refine Kd.C_drewN ?_ _) | (with_reducible refine Kd.C_drew ?_)))
                (case side2 => exact HC1_2.out)
                rintro e w91 ⟨rfl, hb⟩
                refine ⟨_, rfl, ?_⟩
                replace HO_5 := Aside0.mk (Kd.R_below (by (with_reducible repeat (first | apply Kd.R_alloc | apply Kd.R_drewN | apply Kd.R_drew)); exact HO_5.out) hb)
                replace HO_493002 := Aside0.mk (Kd.R_below (by (with_reducible repeat (first | apply Kd.R_alloc | apply Kd.R_drewN | apply Kd.R_drew)); exact HO_493002.out) hb)
                replace BK473 := bb_ BK473 hb
                replace BK474 := bb_ BK474 hb
                replace BK492 := bb_ BK492 hb
                replace BK496 := bb_ BK496 hb
                replace HB := hb_ HB hb
                (try clear hb); (try clear hb2); (try clear hk); (try clear hi)
                refine hK.out _ _ ⟨c_ BK473 0, ⟨c_ BK473 1, ⟨c_ BK473 2, (a4_ BK496 ⟨c_ BK474 0, ⟨c_ BK474 1, (c_ BK474 2)⟩⟩)⟩⟩⟩ (fun hHeld => ?_)
                clear hK K
                refine norm_ (a' := ?_) ?_ ?_
                rotate_left
                ·
                 show Act.put _ (some 115) _ = _
                 simp only [Act.put, List.setIfInBounds_toArray, List.set_cons_zero, List.set_cons_succ, i64_w, i32_w]
                 rfl
                refine pv_ 10 116 zq9.q11 HT_ ?_
                refine done_ (done_of HT_.out (by kernel_rfl)) ?_
                try go_wp2
                go_roundg k4
                case measure => have := HJ2.out; have := HK2.out; have := HJ35.out; have := HK4.out; omega
                case rel => exact ⟨(wrap64 (x12_4 + 1)), (by first | rfl | (simp; done) | (simp [*]; done)), H', ⟨by have := HJ2.out; have := HK2.out; have := HJ35.out; have := HK4.out; omega⟩, ⟨by (with_reducible repeat (first | apply Kd.R_alloc | apply Kd.R_drewN | apply Kd.R_drew)); exact HO_5.out⟩, ⟨by (with_reducible repeat (first | apply Kd.R_alloc | apply Kd.R_drewN | apply Kd.R_drew)); exact HO_493002.out⟩, bf_ BK473, bf_ BK474, bf_ BK492, bf_ BK496, ⟨by repeat (first | (with_reducible first | exact HB.out | apply below_alloc | apply pw_below_drewN | apply below_drew1 | refine below_set ?_ GE473.out | refine below_set ?_ GE474.out | refine below_set ?_ GE492.out | refine below_set ?_ GE496.out) | exact HB.out)⟩⟩
              ·
               rw [if_neg c81] at H
               have c81b0 : decide (x12_4 < ((rd_T47 t478 x10_2).f2)) = false := decide_eq_false c81
               clear c81
               replace H := Option.bind_eq_some_iff.mp H
               obtain ⟨⟨t505, t506, t507, t510⟩, A920, H⟩ := H
               try dsimp only at H
               have A92 := Aside0.mk A920
               clear A920
               replace H := Option.bind_eq_some_iff.mp H
               obtain ⟨⟨t512, t513, t514, t517⟩, A930, H⟩ := H
               try dsimp only at H
               have A93 := Aside0.mk A930
               clear A930
               by_cases c94 : t510 = 0
               ·
                rw [if_pos c94] at H
                have c94b0 : (t510 == 0) = true := beq_iff_eq.mpr c94
                have c94b1 : (t510 != 0) = false := bne_eq_false_iff_eq.mpr c94
                clear c94
                by_cases c95 : t517 = 0
                ·
                 rw [if_pos c95] at H
                 have c95b0 : (t517 == 0) = true := beq_iff_eq.mpr c95
                 have c95b1 : (t517 != 0) = false := bne_eq_false_iff_eq.mpr c95
                 clear c95
                 have H' := Aside0.mk H
                 clear H
                 have hnb96 := NB496_473.out
                 have hnc96 := NB473_496.out
                 have hnb97 := NB496_474.out
                 have hnc97 := NB474_496.out
                 have hnb98 := NB496_492.out
                 have hnc98 := NB492_496.out
                 have hcz99_0 : wr.cell? ⟨gb496, 0, none⟩ = some (.int .i64 ((rd_T47 t478 x10_2).f0)) := (blk_cell BK496.out 0).trans rfl
                 have hcz99_1 : wr.cell? ⟨gb496, 1, none⟩ = some (.int .i64 ((rd_T47 t478 x10_2).f1)) := (blk_cell BK496.out 1).trans rfl
                 have hcz99_2 : wr.cell? ⟨gb496, 2, none⟩ = some (.int .i64 ((rd_T47 t478 x10_2).f2)) := (blk_cell BK496.out 2).trans rfl
                 have hcz99_3 : wr.cell? ⟨gb496, 3, none⟩ = some (.int .i64 ((rd_T47 t478 x10_2).f3)) := (blk_cell BK496.out 3).trans rfl
                 have hfz99_0 := blk_frozen BK496.out 0
                 have hfz99_1 := blk_frozen BK496.out 1
                 have hfz99_2 := blk_frozen BK496.out 2
                 have hfz99_3 := blk_frozen BK496.out 3
                 have hnb100 := NB474_473.out
                 have hnc100 := NB473_474.out
                 have hnb101 := NB474_492.out
                 have hnc101 := NB492_474.out
                 have hcz102_0 : wr.cell? ⟨gb474, 0, none⟩ = some (.int .i64 a1_0) := (blk_cell BK474.out 0).trans rfl
                 have hcz102_1 : wr.cell? ⟨gb474, 1, none⟩ = some (.int .i64 a1_1) := (blk_cell BK474.out 1).trans rfl
                 have hcz102_2 : wr.cell? ⟨gb474, 2, none⟩ = some (.slice A1_2 l1_2.length c1_2) := (blk_cell BK474.out 2).trans rfl
                 have hfz102_0 := blk_frozen BK474.out 0
                 have hfz102_1 := blk_frozen BK474.out 1
                 have hfz102_2 := blk_frozen BK474.out 2
                 go_wp2_with (first | ((with_reducible refine gate_callee (f := 30) rfl ?_); refine goesL_ (some 120) rfl rfl Try.func30 (by kernel_rfl) rfl #[.agg #[.int .i64 a1_0, .int .i64 a1_1, .slice A1_2 l1_2.length c1_2], .agg #[.int .i64 ((rd_T47 t478 x10_2).f0), .int .i64 ((rd_T47 t478 x10_2).f1), .int .i64 ((rd_T47 t478 x10_2).f2), .int .i64 ((rd_T47 t478 x10_2).f3)]] rfl (by (try simp only [List.map_toArray, List.map_cons, List.map_nil]) <;> rfl) ?_; (with_reducible refine (buffer_Crop.calls a1_0 a1_1 _ _ l1_2 ((rd_T47 t478 x10_2).f0) ((rd_T47 t478 x10_2).f1) ((rd_T47 t478 x10_2).f2) ((rd_T47 t478 x10_2).f3) t505 t506 t507 t510 _ ?side1 ?side2 A92.out).mono ?_); (case side1 => repeat (first | exact (Kd.C_below HR1_2.out HB.out) | (with_reducible refine Kd.C_alloc ?_ _) | (with_reducible refine Kd.C_drewN ?_ _) | (with_reducible refine Kd.C_drew ?_))); (case side2 => exact HC1_2.out); rintro e w103 ⟨v508, rfl, ho0, hb⟩; refine ⟨_, rfl, ?_⟩; have n0_ := Aside0.mk (Kd.R_below (by (with_reducible repeat (first | apply Kd.R_alloc | apply Kd.R_drewN | apply Kd.R_drew)); exact HO_5.out) hb); have n1_ := Aside0.mk (Kd.R_elder' (by (with_reducible repeat (first | apply Kd.R_alloc | apply Kd.R_drewN | apply Kd.R_drew)); exact HO_493002.out) (Kd.R_base ho0) hb); have n2_ := Aside0.mk (Kd.R_lower (Kd.R_new' ho0 (Kd.R_lt (by (with_reducible repeat (first | apply Kd.R_alloc | apply Kd.R_drewN | apply Kd.R_drew)); exact HO_493002.out))) (below_size (hq_ HB))); have n3_ := bb_ BK473 hb; have n4_ := bb_ BK474 hb; have n5_ := bb_ BK492 hb; have n6_ := bb_ BK496 hb; have n7_ := hb_ HB hb; clear HO_5; clear HO_493002; clear BK473; clear BK474; clear BK492; clear BK496; clear HB; have HO_5 := n0_; have HO_493002 := n1_; have HO509 := n2_; have BK473 := n3_; have BK474 := n4_; have BK492 := n5_; have BK496 := n6_; have HB := n7_; clear n0_ n1_ n2_ n3_ n4_ n5_ n6_ n7_; (try clear hb); (try clear hb2); (try clear hk); (try clear hi); (try clear ho0)) | ((with_reducible refine gate_dst (N := 13) rfl ?_); (try (refine gate_guard (by rfl) ?_; dsimp only)); refine box_event ?hg (N := 13) ?hd (cs := #[.int .i64 0, .int .i64 0, .slice none 0 0]) (t := 27) ?hr ?_; (case hd => rfl); (case hg => rfl); (case hr => first | (go_simp; done) | (go_simp; rfl)); intro gb511 hg w104 hbox hb; have n0_ := Aside0.mk (Kd.R_below (by (with_reducible repeat (first | apply Kd.R_alloc | apply Kd.R_drewN | apply Kd.R_drew)); exact HO_5.out) hb); have n1_ := Aside0.mk (Kd.R_below (by (with_reducible repeat (first | apply Kd.R_alloc | apply Kd.R_drewN | apply Kd.R_drew)); exact HO_493002.out) hb); have n2_ := Aside0.mk (Kd.R_below (by (with_reducible repeat (first | apply Kd.R_alloc | apply Kd.R_drewN | apply Kd.R_drew)); exact HO509.out) hb); have n3_ := bb_ BK473 hb; have n4_ := bb_ BK474 hb; have n5_ := bb_ BK492 hb; have n6_ := bb_ BK496 hb; have n7_ := hb_ HB hb; have n8_ := Aside0.mk (hbox); have n9_ := Aside0.mk ((by rw [hg]; exact (below_size (hq_ HB)) : w.heap.size ≤ gb511)); have n10_ := Aside0.mk ((by rw [hg]; exact (below_size (hq_ HB)) : w.heap.size ≤ gb511)); have n11_ := Aside0.mk ((by rw [hg]; exact Nat.ne_of_lt (blk_lt (g := gb473) (o := .cells #[.int .i64 a0_0, .int .i64 a0_1, .slice A0_2 l0_2.length c0_2] 27 (0, 0)) (bq_ BK473)) : gb473 ≠ gb511)); have n12_ := Aside0.mk ((by rw [hg]; exact Nat.ne_of_gt (blk_lt (g := gb473) (o := .cells #[.int .i64 a0_0, .int .i64 a0_1, .slice A0_2 l0_2.length c0_2] 27 (0, 0)) (bq_ BK473)) : gb511 ≠ gb473)); have n13_ := Aside0.mk ((by rw [hg]; exact Nat.ne_of_lt (blk_lt (g := gb474) (o := .cells #[.int .i64 a1_0, .int .i64 a1_1, .slice A1_2 l1_2.length c1_2] 27 (0, 0)) (bq_ BK474)) : gb474 ≠ gb511)); have n14_ := Aside0.mk ((by rw [hg]; exact Nat.ne_of_gt (blk_lt (g := gb474) (o := .cells #[.int .i64 a1_0, .int .i64 a1_1, .slice A1_2 l1_2.length c1_2] 27 (0, 0)) (bq_ BK474)) : gb511 ≠ gb474)); have n15_ := Aside0.mk ((by rw [hg]; exact Nat.ne_of_lt (blk_lt (g := gb492) (o := .cells #[.int .i64 x493000_2, .int .i64 x493001_2, u493002] 27 (0, 0)) (bq_ BK492)) : gb492 ≠ gb511)); have n16_ := Aside0.mk ((by rw [hg]; exact Nat.ne_of_gt (blk_lt (g := gb492) (o := .cells #[.int .i64 x493000_2, .int .i64 x493001_2, u493002] 27 (0, 0)) (bq_ BK492)) : gb511 ≠ gb492)); have n17_ := Aside0.mk ((by rw [hg]; exact Nat.ne_of_lt (blk_lt (g := gb496) (o := .cells #[.int .i64 ((rd_T47 t478 x10_2).f0), .int .i64 ((rd_T47 t478 x10_2).f1), .int .i64 ((rd_T47 t478 x10_2).f2), .int .i64 ((rd_T47 t478 x10_2).f3)] 47 (0, 0)) (bq_ BK496)) : gb496 ≠ gb511)); have n18_ := Aside0.mk ((by rw [hg]; exact Nat.ne_of_gt (blk_lt (g := gb496) (o := .cells #[.int .i64 ((rd_T47 t478 x10_2).f0), .int .i64 ((rd_T47 t478 x10_2).f1), .int .i64 ((rd_T47 t478 x10_2).f2), .int .i64 ((rd_T47 t478 x10_2).f3)] 47 (0, 0)) (bq_ BK496)) : gb511 ≠ gb496)); clear HO_5; clear HO_493002; clear HO509; clear BK473; clear BK474; clear BK492; clear BK496; clear HB; have HO_5 := n0_; have HO_493002 := n1_; have HO509 := n2_; have BK473 := n3_; have BK474 := n4_; have BK492 := n5_; have BK496 := n6_; have HB := n7_; have BK511 := n8_; have GW511 := n9_; have GE511 := n10_; have NB473_511 := n11_; have NB511_473 := n12_; have NB474_511 := n13_; have NB511_474 := n14_; have NB492_511 := n15_; have NB511_492 := n16_; have NB496_511 := n17_; have NB511_496 := n18_; clear n0_ n1_ n2_ n3_ n4_ n5_ n6_ n7_ n8_ n9_ n10_ n11_ n12_ n13_ n14_ n15_ n16_ n17_ n18_; clear hb hbox hg; have hnb105 := NB511_473.out; have hnc105 := NB473_511.out; have hnb106 := NB511_474.out; have hnc106 := NB474_511.out; have hnb107 := NB511_492.out; have hnc107 := NB492_511.out; have hnb108 := NB511_496.out; have hnc108 := NB496_511.out; have hcz109_0 : w104.cell? ⟨gb511, 0, none⟩ = some (.int .i64 0) := (blk_cell BK511.out 0).trans rfl; have hcz109_1 : w104.cell? ⟨gb511, 1, none⟩ = some (.int .i64 0) := (blk_cell BK511.out 1).trans rfl; have hcz109_2 : w104.cell? ⟨gb511, 2, none⟩ = some (.slice none 0 0) := (blk_cell BK511.out 2).trans rfl; have hfz109_0 := blk_frozen BK511.out 0; have hfz109_1 := blk_frozen BK511.out 1; have hfz109_2 := blk_frozen BK511.out 2; obtain ⟨Ao110, co110, eo110⟩ := Kd.R_slice HO509.out; subst eo110; have hnb111 := NB492_473.out; have hnc111 := NB473_492.out; have hcz112_0 : w104.cell? ⟨gb492, 0, none⟩ = some (.int .i64 x493000_2) := (blk_cell BK492.out 0).trans rfl; have hcz112_1 : w104.cell? ⟨gb492, 1, none⟩ = some (.int .i64 x493001_2) := (blk_cell BK492.out 1).trans rfl; have hcz112_2 : w104.cell? ⟨gb492, 2, none⟩ = some (u493002) := (blk_cell BK492.out 2).trans rfl; have hfz112_0 := blk_frozen BK492.out 0; have hfz112_1 := blk_frozen BK492.out 1; have hfz112_2 := blk_frozen BK492.out 2; have hcz113_0 : w104.cell? ⟨gb496, 0, none⟩ = some (.int .i64 ((rd_T47 t478 x10_2).f0)) := (blk_cell BK496.out 0).trans rfl; have hcz113_1 : w104.cell? ⟨gb496, 1, none⟩ = some (.int .i64 ((rd_T47 t478 x10_2).f1)) := (blk_cell BK496.out 1).trans rfl; have hcz113_2 : w104.cell? ⟨gb496, 2, none⟩ = some (.int .i64 ((rd_T47 t478 x10_2).f2)) := (blk_cell BK496.out 2).trans rfl; have hcz113_3 : w104.cell? ⟨gb496, 3, none⟩ = some (.int .i64 ((rd_T47 t478 x10_2).f3)) := (blk_cell BK496.out 3).trans rfl; have hfz113_0 := blk_frozen BK496.out 0; have hfz113_1 := blk_frozen BK496.out 1; have hfz113_2 := blk_frozen BK496.out 2; have hfz113_3 := blk_frozen BK496.out 3; obtain ⟨Ao114, co114, eo114⟩ := Kd.R_slice HO_493002.out; subst eo114) | ((with_reducible refine gate_callee (f := 32) rfl ?_); refine goesL_ (some 130) rfl rfl Try.func32 (by kernel_rfl) rfl #[.agg #[.int .i64 x493000_2, .int .i64 x493001_2, .slice Ao114 x493002_2.length co114], .agg #[.int .i64 t505, .int .i64 t506, .slice Ao110 t507.length co110], .int .i64 ((rd_T47 t478 x10_2).f0), .int .i64 ((rd_T47 t478 x10_2).f1)] rfl (by (try simp only [List.map_toArray, List.map_cons, List.map_nil]) <;> rfl) ?_; (with_reducible refine (buffer_Paste.calls x493000_2 x493001_2 _ _ x493002_2 t505 t506 _ _ t507 ((rd_T47 t478 x10_2).f0) ((rd_T47 t478 x10_2).f1) t512 t513 t514 t517 _ ?side1 ?side2 ?side3 ?side4 A93.out).mono ?_); (case side1 => refine (Kd.R_reads' (e := 43) (base := w.heap.size) (ok := fun k_ => (True ∧ some k_ ≠ (.slice Ao110 t507.length co110 : Value).ownBlock)) (n := x493002_2.length) (c := co114) ?_).2.2; exact (by (with_reducible repeat (first | apply Kd.R_alloc | apply Kd.R_drewN | apply Kd.R_drew)); exact (Kd.R_mono (Kd.R_far (p := ⟨gb511, 2, none⟩) (Kd.R_far (p := ⟨gb511, 1, none⟩) (Kd.R_far (p := ⟨gb511, 0, none⟩) (Kd.R_types HO_493002.out BK511.out (by decide)) (fun _ hk => hk.2) (.int .i64 t505)) (fun _ hk => hk.2) (.int .i64 t506)) (fun _ hk => hk.2) (.slice Ao110 t507.length co110)) (fun _ h_ => h_.1)))); (case side2 => exact (Kd.R_reads' HO_493002.out).2.1); (case side3 => refine (Kd.R_reads' (e := 43) (base := w.heap.size) (ok := fun k_ => (True ∧ some k_ ≠ (.slice Ao114 x493002_2.length co114 : Value).ownBlock)) (n := t507.length) (c := co110) ?_).2.2; exact (by (with_reducible repeat (first | apply Kd.R_alloc | apply Kd.R_drewN | apply Kd.R_drew)); exact (Kd.R_mono (Kd.R_far (p := ⟨gb511, 2, none⟩) (Kd.R_far (p := ⟨gb511, 1, none⟩) (Kd.R_far (p := ⟨gb511, 0, none⟩) (Kd.R_types HO509.out BK511.out (by decide)) (fun _ hk => hk.2) (.int .i64 t505)) (fun _ hk => hk.2) (.int .i64 t506)) (fun _ hk => hk.2) (.slice Ao110 t507.length co110)) (fun _ h_ => h_.1)))); (case side4 => exact (Kd.R_reads' HO509.out).2.1); rintro e w115 ⟨v515, rfl, ho0, hb⟩; refine ⟨_, rfl, ?_⟩; have n0_ := Aside0.mk (Kd.R_below (by (with_reducible repeat (first | apply Kd.R_alloc | apply Kd.R_drewN | apply Kd.R_drew)); exact (Kd.R_mono (Kd.R_far (p := ⟨gb511, 2, none⟩) (Kd.R_far (p := ⟨gb511, 1, none⟩) (Kd.R_far (p := ⟨gb511, 0, none⟩) (Kd.R_types HO_5.out BK511.out (by decide)) (fun _ hk => hk.2) (.int .i64 t505)) (fun _ hk => hk.2) (.int .i64 t506)) (fun _ hk => hk.2) (.slice Ao110 t507.length co110)) (fun _ h_ => h_.1))) hb); have n1_ := Aside0.mk (Kd.R_elder' (by (with_reducible repeat (first | apply Kd.R_alloc | apply Kd.R_drewN | apply Kd.R_drew)); exact (Kd.R_mono (Kd.R_far (p := ⟨gb511, 2, none⟩) (Kd.R_far (p := ⟨gb511, 1, none⟩) (Kd.R_far (p := ⟨gb511, 0, none⟩) (Kd.R_types HO_493002.out BK511.out (by decide)) (fun _ hk => hk.2) (.int .i64 t505)) (fun _ hk => hk.2) (.int .i64 t506)) (fun _ hk => hk.2) (.slice Ao110 t507.length co110)) (fun _ h_ => h_.1))) (Kd.R_base ho0) hb); have n2_ := Aside0.mk (Kd.R_elder' (by (with_reducible repeat (first | apply Kd.R_alloc | apply Kd.R_drewN | apply Kd.R_drew)); exact (Kd.R_mono (Kd.R_far (p := ⟨gb511, 2, none⟩) (Kd.R_far (p := ⟨gb511, 1, none⟩) (Kd.R_far (p := ⟨gb511, 0, none⟩) (Kd.R_types HO509.out BK511.out (by decide)) (fun _ hk => hk.2) (.int .i64 t505)) (fun _ hk => hk.2) (.int .i64 t506)) (fun _ hk => hk.2) (.slice Ao110 t507.length co110)) (fun _ h_ => h_.1))) (Kd.R_base ho0) hb); have n3_ := Aside0.mk (Kd.R_lower (Kd.R_new' (Kd.R_new' ho0 (Kd.R_lt (by (with_reducible repeat (first | apply Kd.R_alloc | apply Kd.R_drewN | apply Kd.R_drew)); exact (Kd.R_mono (Kd.R_far (p := ⟨gb511, 2, none⟩) (Kd.R_far (p := ⟨gb511, 1, none⟩) (Kd.R_far (p := ⟨gb511, 0, none⟩) (Kd.R_types HO_493002.out BK511.out (by decide)) (fun _ hk => hk.2) (.int .i64 t505)) (fun _ hk => hk.2) (.int .i64 t506)) (fun _ hk => hk.2) (.slice Ao110 t507.length co110)) (fun _ h_ => h_.1))))) (Kd.R_lt (by (with_reducible repeat (first | apply Kd.R_alloc | apply Kd.R_drewN | apply Kd.R_drew)); exact (Kd.R_mono (Kd.R_far (p := ⟨gb511, 2, none⟩) (Kd.R_far (p := ⟨gb511, 1, none⟩) (Kd.R_far (p := ⟨gb511, 0, none⟩) (Kd.R_types HO509.out BK511.out (by decide)) (fun _ hk => hk.2) (.int .i64 t505)) (fun _ hk => hk.2) (.int .i64 t506)) (fun _ hk => hk.2) (.slice Ao110 t507.length co110)) (fun _ h_ => h_.1))))) (below_size (hq_ HB))); have n4_ := Aside0.mk (blk_below (g := gb473) (o := .cells #[.int .i64 a0_0, .int .i64 a0_1, .slice A0_2 l0_2.length c0_2] 27 (0, 0)) (by (with_reducible repeat (first | refine blk_drewN ?_ _ | refine blk_drew ?_ | refine blk_alloc ?_ _)); refine blk_far ?_ NB473_511.out _; (with_reducible repeat (first | refine blk_drewN ?_ _ | refine blk_drew ?_ | refine blk_alloc ?_ _)); refine blk_far ?_ NB473_511.out _; (with_reducible repeat (first | refine blk_drewN ?_ _ | refine blk_drew ?_ | refine blk_alloc ?_ _)); refine blk_far ?_ NB473_511.out _; (with_reducible repeat (first | refine blk_drewN ?_ _ | refine blk_drew ?_ | refine blk_alloc ?_ _)); exact BK473.out) hb); have n5_ := Aside0.mk (blk_below (g := gb474) (o := .cells #[.int .i64 a1_0, .int .i64 a1_1, .slice A1_2 l1_2.length c1_2] 27 (0, 0)) (by (with_reducible repeat (first | refine blk_drewN ?_ _ | refine blk_drew ?_ | refine blk_alloc ?_ _)); refine blk_far ?_ NB474_511.out _; (with_reducible repeat (first | refine blk_drewN ?_ _ | refine blk_drew ?_ | refine blk_alloc ?_ _)); refine blk_far ?_ NB474_511.out _; (with_reducible repeat (first | refine blk_drewN ?_ _ | refine blk_drew ?_ | refine blk_alloc ?_ _)); refine blk_far ?_ NB474_511.out _; (with_reducible repeat (first | refine blk_drewN ?_ _ | refine blk_drew ?_ | refine blk_alloc ?_ _)); exact BK474.out) hb); have n6_ := Aside0.mk (blk_below (g := gb492) (o := .cells #[.int .i64 x493000_2, .int .i64 x493001_2, .slice Ao114 x493002_2.length co114] 27 (0, 0)) (by (with_reducible repeat (first | refine blk_drewN ?_ _ | refine blk_drew ?_ | refine blk_alloc ?_ _)); refine blk_far ?_ NB492_511.out _; (with_reducible repeat (first | refine blk_drewN ?_ _ | refine blk_drew ?_ | refine blk_alloc ?_ _)); refine blk_far ?_ NB492_511.out _; (with_reducible repeat (first | refine blk_drewN ?_ _ | refine blk_drew ?_ | refine blk_alloc ?_ _)); refine blk_far ?_ NB492_511.out _; (with_reducible repeat (first | refine blk_drewN ?_ _ | refine blk_drew ?_ | refine blk_alloc ?_ _)); exact BK492.out) hb); have n7_ := Aside0.mk (blk_below (g := gb496) (o := .cells #[.int .i64 ((rd_T47 t478 x10_2).f0), .int .i64 ((rd_T47 t478 x10_2).f1), .int .i64 ((rd_T47 t478 x10_2).f2), .int .i64 ((rd_T47 t478 x10_2).f3)] 47 (0, 0)) (by (with_reducible repeat (first | refine blk_drewN ?_ _ | refine blk_drew ?_ | refine blk_alloc ?_ _)); refine blk_far ?_ NB496_511.out _; (with_reducible repeat (first | refine blk_drewN ?_ _ | refine blk_drew ?_ | refine blk_alloc ?_ _)); refine blk_far ?_ NB496_511.out _; (with_reducible repeat (first | refine blk_drewN ?_ _ | refine blk_drew ?_ | refine blk_alloc ?_ _)); refine blk_far ?_ NB496_511.out _; (with_reducible repeat (first | refine blk_drewN ?_ _ | refine blk_drew ?_ | refine blk_alloc ?_ _)); exact BK496.out) hb); have n8_ := Aside0.mk (blk_below (g := gb511) (o := .cells #[.int .i64 t505, .int .i64 t506, .slice Ao110 t507.length co110] 27 (0, 0)) (by (with_reducible repeat (first | refine blk_drewN ?_ _ | refine blk_drew ?_ | refine blk_alloc ?_ _)); refine blk_put (cs := #[.int .i64 t505, .int .i64 t506, .slice none 0 0]) ?_ 2 _ rfl; (with_reducible repeat (first | refine blk_drewN ?_ _ | refine blk_drew ?_ | refine blk_alloc ?_ _)); refine blk_put (cs := #[.int .i64 t505, .int .i64 0, .slice none 0 0]) ?_ 1 _ rfl; (with_reducible repeat (first | refine blk_drewN ?_ _ | refine blk_drew ?_ | refine blk_alloc ?_ _)); refine blk_put (cs := #[.int .i64 0, .int .i64 0, .slice none 0 0]) ?_ 0 _ rfl; (with_reducible repeat (first | refine blk_drewN ?_ _ | refine blk_drew ?_ | refine blk_alloc ?_ _)); exact BK511.out) hb); have n9_ := hb_ HB hb; clear HO_5; clear HO_493002; clear HO509; clear BK473; clear BK474; clear BK492; clear BK496; clear BK511; clear HB; have HO_5 := n0_; have HO_493002 := n1_; have HO509 := n2_; have HO516 := n3_; have BK473 := n4_; have BK474 := n5_; have BK492 := n6_; have BK496 := n7_; have BK511 := n8_; have HB := n9_; clear n0_ n1_ n2_ n3_ n4_ n5_ n6_ n7_ n8_ n9_; (try clear hb); (try clear hb2); (try clear hk); (try clear hi); (try clear ho0)) | ((with_reducible refine gate_dst (N := 15) rfl ?_); (try (refine gate_guard (by rfl) ?_; dsimp only)); refine box_event ?hg (N := 15) ?hd (cs := #[.int .i64 0, .int .i64 0, .slice none 0 0]) (t := 27) ?hr ?_; (case hd => rfl); (case hg => rfl); (case hr => first | (go_simp; done) | (go_simp; rfl)); intro gb518 hg w116 hbox hb; have n0_ := Aside0.mk (Kd.R_below (by (with_reducible repeat (first | apply Kd.R_alloc | apply Kd.R_drewN | apply Kd.R_drew)); exact HO_5.out) hb); have n1_ := Aside0.mk (Kd.R_below (by (with_reducible repeat (first | apply Kd.R_alloc | apply Kd.R_drewN | apply Kd.R_drew)); exact HO_493002.out) hb); have n2_ := Aside0.mk (Kd.R_below (by (with_reducible repeat (first | apply Kd.R_alloc | apply Kd.R_drewN | apply Kd.R_drew)); exact HO509.out) hb); have n3_ := Aside0.mk (Kd.R_below (by (with_reducible repeat (first | apply Kd.R_alloc | apply Kd.R_drewN | apply Kd.R_drew)); exact HO516.out) hb); have n4_ := bb_ BK473 hb; have n5_ := bb_ BK474 hb; have n6_ := bb_ BK492 hb; have n7_ := bb_ BK496 hb; have n8_ := bb_ BK511 hb; have n9_ := hb_ HB hb; have n10_ := Aside0.mk (hbox); have n11_ := Aside0.mk ((by rw [hg]; exact (below_size (hq_ HB)) : w.heap.size ≤ gb518)); have n12_ := Aside0.mk ((by rw [hg]; exact (below_size (hq_ HB)) : w.heap.size ≤ gb518)); have n13_ := Aside0.mk ((by rw [hg]; exact Nat.ne_of_lt (blk_lt (g := gb473) (o := .cells #[.int .i64 a0_0, .int .i64 a0_1, .slice A0_2 l0_2.length c0_2] 27 (0, 0)) (bq_ BK473)) : gb473 ≠ gb518)); have n14_ := Aside0.mk ((by rw [hg]; exact Nat.ne_of_gt (blk_lt (g := gb473) (o := .cells #[.int .i64 a0_0, .int .i64 a0_1, .slice A0_2 l0_2.length c0_2] 27 (0, 0)) (bq_ BK473)) : gb518 ≠ gb473)); have n15_ := Aside0.mk ((by rw [hg]; exact Nat.ne_of_lt (blk_lt (g := gb474) (o := .cells #[.int .i64 a1_0, .int .i64 a1_1, .slice A1_2 l1_2.length c1_2] 27 (0, 0)) (bq_ BK474)) : gb474 ≠ gb518)); have n16_ := Aside0.mk ((by rw [hg]; exact Nat.ne_of_gt (blk_lt (g := gb474) (o := .cells #[.int .i64 a1_0, .int .i64 a1_1, .slice A1_2 l1_2.length c1_2] 27 (0, 0)) (bq_ BK474)) : gb518 ≠ gb474)); have n17_ := Aside0.mk ((by rw [hg]; exact Nat.ne_of_lt (blk_lt (g := gb492) (o := .cells #[.int .i64 x493000_2, .int .i64 x493001_2, .slice Ao114 x493002_2.length co114] 27 (0, 0)) (bq_ BK492)) : gb492 ≠ gb518)); have n18_ := Aside0.mk ((by rw [hg]; exact Nat.ne_of_gt (blk_lt (g := gb492) (o := .cells #[.int .i64 x493000_2, .int .i64 x493001_2, .slice Ao114 x493002_2.length co114] 27 (0, 0)) (bq_ BK492)) : gb518 ≠ gb492)); have n19_ := Aside0.mk ((by rw [hg]; exact Nat.ne_of_lt (blk_lt (g := gb496) (o := .cells #[.int .i64 ((rd_T47 t478 x10_2).f0), .int .i64 ((rd_T47 t478 x10_2).f1), .int .i64 ((rd_T47 t478 x10_2).f2), .int .i64 ((rd_T47 t478 x10_2).f3)] 47 (0, 0)) (bq_ BK496)) : gb496 ≠ gb518)); have n20_ := Aside0.mk ((by rw [hg]; exact Nat.ne_of_gt (blk_lt (g := gb496) (o := .cells #[.int .i64 ((rd_T47 t478 x10_2).f0), .int .i64 ((rd_T47 t478 x10_2).f1), .int .i64 ((rd_T47 t478 x10_2).f2), .int .i64 ((rd_T47 t478 x10_2).f3)] 47 (0, 0)) (bq_ BK496)) : gb518 ≠ gb496)); have n21_ := Aside0.mk ((by rw [hg]; exact Nat.ne_of_lt (blk_lt (g := gb511) (o := .cells #[.int .i64 t505, .int .i64 t506, .slice Ao110 t507.length co110] 27 (0, 0)) (bq_ BK511)) : gb511 ≠ gb518)); have n22_ := Aside0.mk ((by rw [hg]; exact Nat.ne_of_gt (blk_lt (g := gb511) (o := .cells #[.int .i64 t505, .int .i64 t506, .slice Ao110 t507.length co110] 27 (0, 0)) (bq_ BK511)) : gb518 ≠ gb511)); clear HO_5; clear HO_493002; clear HO509; clear HO516; clear BK473; clear BK474; clear BK492; clear BK496; clear BK511; clear HB; have HO_5 := n0_; have HO_493002 := n1_; have HO509 := n2_; have HO516 := n3_; have BK473 := n4_; have BK474 := n5_; have BK492 := n6_; have BK496 := n7_; have BK511 := n8_; have HB := n9_; have BK518 := n10_; have GW518 := n11_; have GE518 := n12_; have NB473_518 := n13_; have NB518_473 := n14_; have NB474_518 := n15_; have NB518_474 := n16_; have NB492_518 := n17_; have NB518_492 := n18_; have NB496_518 := n19_; have NB518_496 := n20_; have NB511_518 := n21_; have NB518_511 := n22_; clear n0_ n1_ n2_ n3_ n4_ n5_ n6_ n7_ n8_ n9_ n10_ n11_ n12_ n13_ n14_ n15_ n16_ n17_ n18_ n19_ n20_ n21_ n22_; clear hb hbox hg; have hnb117 := NB518_473.out; have hnc117 := NB473_518.out; have hnb118 := NB518_474.out; have hnc118 := NB474_518.out; have hnb119 := NB518_492.out; have hnc119 := NB492_518.out; have hnb120 := NB518_496.out; have hnc120 := NB496_518.out; have hnb121 := NB518_511.out; have hnc121 := NB511_518.out; have hcz122_0 : w116.cell? ⟨gb518, 0, none⟩ = some (.int .i64 0) := (blk_cell BK518.out 0).trans rfl; have hcz122_1 : w116.cell? ⟨gb518, 1, none⟩ = some (.int .i64 0) := (blk_cell BK518.out 1).trans rfl; have hcz122_2 : w116.cell? ⟨gb518, 2, none⟩ = some (.slice none 0 0) := (blk_cell BK518.out 2).trans rfl; have hfz122_0 := blk_frozen BK518.out 0; have hfz122_1 := blk_frozen BK518.out 1; have hfz122_2 := blk_frozen BK518.out 2; obtain ⟨Ao123, co123, eo123⟩ := Kd.R_slice HO516.out; subst eo123; have hcz124_0 : w116.cell? ⟨gb492, 0, none⟩ = some (.int .i64 x493000_2) := (blk_cell BK492.out 0).trans rfl; have hcz124_1 : w116.cell? ⟨gb492, 1, none⟩ = some (.int .i64 x493001_2) := (blk_cell BK492.out 1).trans rfl; have hcz124_2 : w116.cell? ⟨gb492, 2, none⟩ = some (.slice Ao114 x493002_2.length co114) := (blk_cell BK492.out 2).trans rfl; have hfz124_0 := blk_frozen BK492.out 0; have hfz124_1 := blk_frozen BK492.out 1; have hfz124_2 := blk_frozen BK492.out 2))
                 go_roundg k4
                 case measure => have := HJ2.out; have := HK2.out; have := HJ35.out; have := HK4.out; omega
                 case rel => exact ⟨(wrap64 (x10_2 + 1)), (t512), (t513), (t514), (.slice Ao123 t514.length co123), (by first | rfl | (simp; done) | (simp [*]; done)), H', ⟨by have := HJ2.out; have := HK2.out; have := HJ35.out; have := HK4.out; omega⟩, ⟨by (with_reducible repeat (first | apply Kd.R_alloc | apply Kd.R_drewN | apply Kd.R_drew)); exact Kd.R_mono (Kd.R_far (p := ⟨gb492, 2, none⟩) (Kd.R_far (p := ⟨gb492, 1, none⟩) (Kd.R_far (p := ⟨gb492, 0, none⟩) (Kd.R_far (p := ⟨gb518, 2, none⟩) (Kd.R_far (p := ⟨gb518, 1, none⟩) (Kd.R_far (p := ⟨gb518, 0, none⟩) (Kd.R_types (Kd.R_types HO_5.out BK518.out (by decide)) BK492.out (by decide)) (fun _ hk => hk.1.2) (.int .i64 t512)) (fun _ hk => hk.1.2) (.int .i64 t513)) (fun _ hk => hk.1.2) (.slice Ao123 t514.length co123)) (fun _ hk => hk.2) (.int .i64 t512)) (fun _ hk => hk.2) (.int .i64 t513)) (fun _ hk => hk.2) (.slice Ao123 t514.length co123)) (fun _ hk => trivial)⟩, ⟨by (with_reducible repeat (first | apply Kd.R_alloc | apply Kd.R_drewN | apply Kd.R_drew)); exact Kd.R_mono (Kd.R_far (p := ⟨gb492, 2, none⟩) (Kd.R_far (p := ⟨gb492, 1, none⟩) (Kd.R_far (p := ⟨gb492, 0, none⟩) (Kd.R_far (p := ⟨gb518, 2, none⟩) (Kd.R_far (p := ⟨gb518, 1, none⟩) (Kd.R_far (p := ⟨gb518, 0, none⟩) (Kd.R_types (Kd.R_types HO516.out BK518.out (by decide)) BK492.out (by decide)) (fun _ hk => hk.1.2) (.int .i64 t512)) (fun _ hk => hk.1.2) (.int .i64 t513)) (fun _ hk => hk.1.2) (.slice Ao123 t514.length co123)) (fun _ hk => hk.2) (.int .i64 t512)) (fun _ hk => hk.2) (.int .i64 t513)) (fun _ hk => hk.2) (.slice Ao123 t514.length co123)) (fun _ hk => trivial)⟩, bf_ BK473, bf_ BK474, ⟨by (with_reducible repeat (first | refine blk_drewN ?_ _ | refine blk_drew ?_ | refine blk_alloc ?_ _)); refine blk_put (cs := #[.int .i64 t512, .int .i64 t513, .slice Ao114 x493002_2.length co114]) ?_ 2 _ rfl; (with_reducible repeat (first | refine blk_drewN ?_ _ | refine blk_drew ?_ | refine blk_alloc ?_ _)); refine blk_put (cs := #[.int .i64 t512, .int .i64 x493001_2, .slice Ao114 x493002_2.length co114]) ?_ 1 _ rfl; (with_reducible repeat (first | refine blk_drewN ?_ _ | refine blk_drew ?_ | refine blk_alloc ?_ _)); refine blk_put (cs := #[.int .i64 x493000_2, .int .i64 x493001_2, .slice Ao114 x493002_2.length co114]) ?_ 0 _ rfl; (with_reducible repeat (first | refine blk_drewN ?_ _ | refine blk_drew ?_ | refine blk_alloc ?_ _)); refine blk_far ?_ NB492_518.out _; (with_reducible repeat (first | refine blk_drewN ?_ _ | refine blk_drew ?_ | refine blk_alloc ?_ _)); refine blk_far ?_ NB492_518.out _; (with_reducible repeat (first | refine blk_drewN ?_ _ | refine blk_drew ?_ | refine blk_alloc ?_ _)); refine blk_far ?_ NB492_518.out _; (with_reducible repeat (first | refine blk_drewN ?_ _ | refine blk_drew ?_ | refine blk_alloc ?_ _)); exact BK492.out⟩, ⟨by repeat (first | (with_reducible first | exact HB.out | apply below_alloc | apply pw_below_drewN | apply below_drew1 | refine below_set ?_ GE473.out | refine below_set ?_ GE474.out | refine below_set ?_ GE492.out | refine below_set ?_ GE496.out | refine below_set ?_ GE511.out | refine below_set ?_ GE518.out) | exact HB.out)⟩⟩
                ·
                 rw [if_neg c95] at H
                 have c95b0 : (t517 == 0) = false := beq_eq_false_iff_ne.mpr c95
                 have c95b1 : (t517 != 0) = true := bne_iff_ne.mpr c95
                 exact absurd H (by simp)
               ·
                rw [if_neg c94] at H
                have c94b0 : (t510 == 0) = false := beq_eq_false_iff_ne.mpr c94
                have c94b1 : (t510 != 0) = true := bne_iff_ne.mpr c94
                exact absurd H (by simp)
        ·
         rw [if_neg c35] at H
         exact absurd H (by simp)
       ·
        rw [if_neg c34] at H
        have c34b0 : decide (x10_2 < (t478.length : Int)) = false := decide_eq_false c34
        clear c34
        replace H := Option.bind_eq_some_iff.mp H
        obtain ⟨t493, A1250, H⟩ := H
        try dsimp only at H
        have A125 := Aside0.mk A1250
        clear A1250
        by_cases c126 : t493 = true
        ·
         subst c126
         have H1 : ((compositorlaw09_exampleHolds.f k2).bind fun t494 => (some t494)) = some true := by rw [if_pos rfl] at H; exact H
         clear H
         have H := H1
         clear H1
         replace H := Option.bind_eq_some_iff.mp H
         obtain ⟨t494, A1270, H⟩ := H
         try dsimp only at H
         have A127 := Aside0.mk A1270
         clear A1270
         have Hq_ := Option.some.inj H
         obtain ⟨Ao128, co128, eo128⟩ := Kd.R_slice HO_5.out
         subst eo128
         have hnb129 := NB492_473.out
         have hnc129 := NB473_492.out
         have hnb130 := NB492_474.out
         have hnc130 := NB474_492.out
         have hcz131_0 : wr.cell? ⟨gb492, 0, none⟩ = some (.int .i64 x493000_2) := (blk_cell BK492.out 0).trans rfl
         have hcz131_1 : wr.cell? ⟨gb492, 1, none⟩ = some (.int .i64 x493001_2) := (blk_cell BK492.out 1).trans rfl
         have hcz131_2 : wr.cell? ⟨gb492, 2, none⟩ = some (u493002) := (blk_cell BK492.out 2).trans rfl
         have hfz131_0 := blk_frozen BK492.out 0
         have hfz131_1 := blk_frozen BK492.out 1
         have hfz131_2 := blk_frozen BK492.out 2
         have hnb132 := NB474_473.out
         have hnc132 := NB473_474.out
         have hcz133_0 : wr.cell? ⟨gb474, 0, none⟩ = some (.int .i64 a1_0) := (blk_cell BK474.out 0).trans rfl
         have hcz133_1 : wr.cell? ⟨gb474, 1, none⟩ = some (.int .i64 a1_1) := (blk_cell BK474.out 1).trans rfl
         have hcz133_2 : wr.cell? ⟨gb474, 2, none⟩ = some (.slice A1_2 l1_2.length c1_2) := (blk_cell BK474.out 2).trans rfl
         have hfz133_0 := blk_frozen BK474.out 0
         have hfz133_1 := blk_frozen BK474.out 1
         have hfz133_2 := blk_frozen BK474.out 2
         obtain ⟨Ao134, co134, eo134⟩ := Kd.R_slice HO_493002.out
         subst eo134
         go_wp2_with (first | ((with_reducible refine gate_callee (f := 16) rfl ?_); refine goesL_ (some 142) rfl rfl Try.func16 (by kernel_rfl) rfl #[.agg #[.int .i64 x493000_2, .int .i64 x493001_2, .slice Ao134 x493002_2.length co134], .agg #[.int .i64 a1_0, .int .i64 a1_1, .slice A1_2 l1_2.length c1_2]] rfl (by (try simp only [List.map_toArray, List.map_cons, List.map_nil]) <;> rfl) ?_; (with_reducible refine (compositorref09_Equal.calls k2 x493000_2 x493001_2 _ _ x493002_2 a1_0 a1_1 _ _ l1_2 true _ ?side1 ?side2 ?side3 ?side4 A125.out).mono ?_); (case side1 => repeat (first | exact (Kd.R_reads' HO_493002.out).2.2 | (with_reducible refine Kd.C_alloc ?_ _) | (with_reducible refine Kd.C_drewN ?_ _) | (with_reducible refine Kd.C_drew ?_))); (case side2 => exact (Kd.R_reads' HO_493002.out).2.1); (case side3 => repeat (first | exact (Kd.C_below HR1_2.out HB.out) | (with_reducible refine Kd.C_alloc ?_ _) | (with_reducible refine Kd.C_drewN ?_ _) | (with_reducible refine Kd.C_drew ?_))); (case side4 => exact HC1_2.out); rintro e w135 ⟨rfl, hb⟩; refine ⟨_, rfl, ?_⟩; have n0_ := Aside0.mk (Kd.R_below (by (with_reducible repeat (first | apply Kd.R_alloc | apply Kd.R_drewN | apply Kd.R_drew)); exact HO_5.out) hb); have n1_ := Aside0.mk (Kd.R_below (by (with_reducible repeat (first | apply Kd.R_alloc | apply Kd.R_drewN | apply Kd.R_drew)); exact HO_493002.out) hb); have n2_ := bb_ BK473 hb; have n3_ := bb_ BK474 hb; have n4_ := bb_ BK492 hb; have n5_ := hb_ HB hb; clear HO_5; clear HO_493002; clear BK473; clear BK474; clear BK492; clear HB; have HO_5 := n0_; have HO_493002 := n1_; have BK473 := n2_; have BK474 := n3_; have BK492 := n4_; have HB := n5_; clear n0_ n1_ n2_ n3_ n4_ n5_; (try clear hb); (try clear hb2); (try clear hk); (try clear hi)) | (go_at_call 13; (with_reducible refine (compositorlaw09_exampleHolds.calls k2  t494 _ A127.out).mono ?_); rintro e w136 ⟨rfl, hb⟩; have n0_ := Aside0.mk (Kd.R_below (by (with_reducible repeat (first | apply Kd.R_alloc | apply Kd.R_drewN | apply Kd.R_drew)); exact HO_5.out) hb); have n1_ := Aside0.mk (Kd.R_below (by (with_reducible repeat (first | apply Kd.R_alloc | apply Kd.R_drewN | apply Kd.R_drew)); exact HO_493002.out) hb); have n2_ := bb_ BK473 hb; have n3_ := bb_ BK474 hb; have n4_ := bb_ BK492 hb; have n5_ := hb_ HB hb; clear HO_5; clear HO_493002; clear BK473; clear BK474; clear BK492; clear HB; have HO_5 := n0_; have HO_493002 := n1_; have BK473 := n2_; have BK474 := n3_; have BK492 := n4_; have HB := n5_; clear n0_ n1_ n2_ n3_ n4_ n5_; (try clear hb); (try clear hb2); (try clear hk); (try clear hi)))
         go_ret
         exact ⟨by first | rfl | (simp [errW_none, errW_some] <;> rfl) | (simp [*, errW_none, errW_some] <;> rfl), by repeat (first | (with_reducible first | exact HB.out | apply below_alloc | apply pw_below_drewN | apply below_drew1 | refine below_set ?_ GE473.out | refine below_set ?_ GE474.out | refine below_set ?_ GE492.out) | exact HB.out)⟩
        ·
         replace c126 := Bool.eq_false_iff.mpr c126
         subst c126
         have H1 : (some false) = some true := by rw [if_neg (show ¬ (false = true) by decide)] at H; exact H
         clear H
         have H := H1
         clear H1
         exact absurd H (by simp)
    ·
     rw [if_neg c21] at H
     have c21b0 : (t481 == 0) = false := beq_eq_false_iff_ne.mpr c21
     have c21b1 : (t481 != 0) = true := bne_iff_ne.mpr c21
     replace H := Option.bind_eq_some_iff.mp H
     obtain ⟨⟨t482, t485⟩, A1370, H⟩ := H
     try dsimp only at H
     have A137 := Aside0.mk A1370
     clear A1370
     by_cases c138 : t481 = t485
     ·
      rw [if_pos c138] at H
      have c138b0 : (t481 == t485) = true := beq_iff_eq.mpr c138
      have c138b1 : (t481 != t485) = false := bne_eq_false_iff_eq.mpr c138
      clear c138
      by_cases c139 : (t482.length : Int) = 0
      ·
       rw [if_pos c139] at H
       have c139b0 : ((t482.length : Int) == 0) = true := beq_iff_eq.mpr c139
       have c139b1 : ((t482.length : Int) != 0) = false := bne_eq_false_iff_eq.mpr c139
       clear c139
       by_cases c140 : (t478.length : Int) = 0
       ·
        rw [if_pos c140] at H
        have c140b0 : ((t478.length : Int) == 0) = true := beq_iff_eq.mpr c140
        have c140b1 : ((t478.length : Int) != 0) = false := bne_eq_false_iff_eq.mpr c140
        clear c140
        replace H := Option.bind_eq_some_iff.mp H
        obtain ⟨t486, A1410, H⟩ := H
        try dsimp only at H
        have A141 := Aside0.mk A1410
        clear A1410
        have Hq_ := Option.some.inj H
        have hnb142 := NB473_474.out
        have hnc142 := NB474_473.out
        have hcz143_0 : wc.cell? ⟨gb473, 0, none⟩ = some (.int .i64 a0_0) := (blk_cell BK473.out 0).trans rfl
        have hcz143_1 : wc.cell? ⟨gb473, 1, none⟩ = some (.int .i64 a0_1) := (blk_cell BK473.out 1).trans rfl
        have hcz143_2 : wc.cell? ⟨gb473, 2, none⟩ = some (.slice A0_2 l0_2.length c0_2) := (blk_cell BK473.out 2).trans rfl
        have hfz143_0 := blk_frozen BK473.out 0
        have hfz143_1 := blk_frozen BK473.out 1
        have hfz143_2 := blk_frozen BK473.out 2
        have hcz144_0 : wc.cell? ⟨gb474, 0, none⟩ = some (.int .i64 a1_0) := (blk_cell BK474.out 0).trans rfl
        have hcz144_1 : wc.cell? ⟨gb474, 1, none⟩ = some (.int .i64 a1_1) := (blk_cell BK474.out 1).trans rfl
        have hcz144_2 : wc.cell? ⟨gb474, 2, none⟩ = some (.slice A1_2 l1_2.length c1_2) := (blk_cell BK474.out 2).trans rfl
        have hfz144_0 := blk_frozen BK474.out 0
        have hfz144_1 := blk_frozen BK474.out 1
        have hfz144_2 := blk_frozen BK474.out 2
        go_wp2_with (first | ((with_reducible refine gate_callee (f := 17) rfl ?_); refine goesL_ (some 29) rfl rfl Try.func17 (by kernel_rfl) rfl #[.agg #[.int .i64 a0_0, .int .i64 a0_1, .slice A0_2 l0_2.length c0_2], .agg #[.int .i64 a1_0, .int .i64 a1_1, .slice A1_2 l1_2.length c1_2]] rfl (by (try simp only [List.map_toArray, List.map_cons, List.map_nil]) <;> rfl) ?_; (with_reducible refine (buffer_Diff.calls a0_0 a0_1 _ _ l0_2 a1_0 a1_1 _ _ l1_2 t478 t481 _ ?side1 ?side2 ?side3 ?side4 A20.out).mono ?_); (case side1 => repeat (first | exact (Kd.C_below HR0_2.out HB.out) | (with_reducible refine Kd.C_alloc ?_ _) | (with_reducible refine Kd.C_drewN ?_ _) | (with_reducible refine Kd.C_drew ?_))); (case side2 => exact HC0_2.out); (case side3 => repeat (first | exact (Kd.C_below HR1_2.out HB.out) | (with_reducible refine Kd.C_alloc ?_ _) | (with_reducible refine Kd.C_drewN ?_ _) | (with_reducible refine Kd.C_drew ?_))); (case side4 => exact HC1_2.out); rintro e w145 ⟨v479, rfl, ho0, hb⟩; refine ⟨_, rfl, ?_⟩; have n0_ := Aside0.mk (Kd.R_lower ho0 (below_size (hq_ HB))); have n1_ := bb_ BK473 hb; have n2_ := bb_ BK474 hb; have n3_ := hb_ HB hb; clear BK473; clear BK474; clear HB; have HO480 := n0_; have BK473 := n1_; have BK474 := n2_; have HB := n3_; clear n0_ n1_ n2_ n3_; (try clear hb); (try clear hb2); (try clear hk); (try clear hi); (try clear ho0); have hcz146_0 : w145.cell? ⟨gb473, 0, none⟩ = some (.int .i64 a0_0) := (blk_cell BK473.out 0).trans rfl; have hcz146_1 : w145.cell? ⟨gb473, 1, none⟩ = some (.int .i64 a0_1) := (blk_cell BK473.out 1).trans rfl; have hcz146_2 : w145.cell? ⟨gb473, 2, none⟩ = some (.slice A0_2 l0_2.length c0_2) := (blk_cell BK473.out 2).trans rfl; have hfz146_0 := blk_frozen BK473.out 0; have hfz146_1 := blk_frozen BK473.out 1; have hfz146_2 := blk_frozen BK473.out 2; have hcz147_0 : w145.cell? ⟨gb474, 0, none⟩ = some (.int .i64 a1_0) := (blk_cell BK474.out 0).trans rfl; have hcz147_1 : w145.cell? ⟨gb474, 1, none⟩ = some (.int .i64 a1_1) := (blk_cell BK474.out 1).trans rfl; have hcz147_2 : w145.cell? ⟨gb474, 2, none⟩ = some (.slice A1_2 l1_2.length c1_2) := (blk_cell BK474.out 2).trans rfl; have hfz147_0 := blk_frozen BK474.out 0; have hfz147_1 := blk_frozen BK474.out 1; have hfz147_2 := blk_frozen BK474.out 2) | ((with_reducible refine gate_callee (f := 18) rfl ?_); refine goesL_ (some 37) rfl rfl Try.func18 (by kernel_rfl) rfl #[.agg #[.int .i64 a0_0, .int .i64 a0_1, .slice A0_2 l0_2.length c0_2], .agg #[.int .i64 a1_0, .int .i64 a1_1, .slice A1_2 l1_2.length c1_2]] rfl (by (try simp only [List.map_toArray, List.map_cons, List.map_nil]) <;> rfl) ?_; (with_reducible refine (compositorref09_Diff.calls kj2 a0_0 a0_1 _ _ l0_2 a1_0 a1_1 _ _ l1_2 t482 t485 _ ?side1 ?side2 ?side3 ?side4 A137.out).mono ?_); (case side1 => repeat (first | exact (Kd.C_below HR0_2.out HB.out) | (with_reducible refine Kd.C_alloc ?_ _) | (with_reducible refine Kd.C_drewN ?_ _) | (with_reducible refine Kd.C_drew ?_))); (case side2 => exact HC0_2.out); (case side3 => repeat (first | exact (Kd.C_below HR1_2.out HB.out) | (with_reducible refine Kd.C_alloc ?_ _) | (with_reducible refine Kd.C_drewN ?_ _) | (with_reducible refine Kd.C_drew ?_))); (case side4 => exact HC1_2.out); rintro e w148 ⟨v483, rfl, ho0, hb⟩; refine ⟨_, rfl, ?_⟩; have n0_ := Aside0.mk (Kd.R_elder' (by (with_reducible repeat (first | apply Kd.R_alloc | apply Kd.R_drewN | apply Kd.R_drew)); exact HO480.out) (Kd.R_base ho0) hb); have n1_ := Aside0.mk (Kd.R_lower (Kd.R_new' ho0 (Kd.R_lt (by (with_reducible repeat (first | apply Kd.R_alloc | apply Kd.R_drewN | apply Kd.R_drew)); exact HO480.out))) (below_size (hq_ HB))); have n2_ := bb_ BK473 hb; have n3_ := bb_ BK474 hb; have n4_ := hb_ HB hb; clear HO480; clear BK473; clear BK474; clear HB; have HO480 := n0_; have HO484 := n1_; have BK473 := n2_; have BK474 := n3_; have HB := n4_; clear n0_ n1_ n2_ n3_ n4_; (try clear hb); (try clear hb2); (try clear hk); (try clear hi); (try clear ho0); obtain ⟨Ao149, co149, eo149⟩ := Kd.R_slice HO484.out; subst eo149; obtain ⟨Ao150, co150, eo150⟩ := Kd.R_slice HO480.out; subst eo150) | (go_at_call 13; (with_reducible refine (compositorlaw09_exampleHolds.calls kj2  t486 _ A141.out).mono ?_); rintro e w151 ⟨rfl, hb⟩; have n0_ := Aside0.mk (Kd.R_below (by (with_reducible repeat (first | apply Kd.R_alloc | apply Kd.R_drewN | apply Kd.R_drew)); exact HO480.out) hb); have n1_ := Aside0.mk (Kd.R_below (by (with_reducible repeat (first | apply Kd.R_alloc | apply Kd.R_drewN | apply Kd.R_drew)); exact HO484.out) hb); have n2_ := bb_ BK473 hb; have n3_ := bb_ BK474 hb; have n4_ := hb_ HB hb; clear HO480; clear HO484; clear BK473; clear BK474; clear HB; have HO480 := n0_; have HO484 := n1_; have BK473 := n2_; have BK474 := n3_; have HB := n4_; clear n0_ n1_ n2_ n3_ n4_; (try clear hb); (try clear hb2); (try clear hk); (try clear hi)))
        go_ret
        exact ⟨by first | rfl | (simp [errW_none, errW_some] <;> rfl) | (simp [*, errW_none, errW_some] <;> rfl), by repeat (first | (with_reducible first | exact HB.out | apply below_alloc | apply pw_below_drewN | apply below_drew1 | refine below_set ?_ GE473.out | refine below_set ?_ GE474.out) | exact HB.out)⟩
       ·
        rw [if_neg c140] at H
        have c140b0 : ((t478.length : Int) == 0) = false := beq_eq_false_iff_ne.mpr c140
        have c140b1 : ((t478.length : Int) != 0) = true := bne_iff_ne.mpr c140
        have c140b2 : ¬ (t478 = []) := fun h_ => c140 (by rw [h_]; rfl)
        exact absurd H (by simp)
      ·
       rw [if_neg c139] at H
       have c139b0 : ((t482.length : Int) == 0) = false := beq_eq_false_iff_ne.mpr c139
       have c139b1 : ((t482.length : Int) != 0) = true := bne_iff_ne.mpr c139
       have c139b2 : ¬ (t482 = []) := fun h_ => c139 (by rw [h_]; rfl)
       exact absurd H (by simp)
     ·
      rw [if_neg c138] at H
      have c138b0 : (t481 == t485) = false := beq_eq_false_iff_ne.mpr c138
      have c138b1 : (t481 != t485) = true := bne_iff_ne.mpr c138
      exact absurd H (by simp)
end Go.Proofs.Ytmockeaiccpogaa.All
end
section
namespace Go.Proofs.Ytmockeaiccpogaa.All
open Go.RowKit Go.Proofs.YtmockeaiccpogaaW.PrintWords Go.Proofs.YtmockeaiccpogaaW.PrintLast Go.Proofs.YtmockeaiccpogaaW.PrintMore
attribute [local go_sem] max2_int min2_int max_two min_two max_three min_three max_four min_four
set_option linter.unusedVariables false
set_option linter.unusedSimpArgs false
section
open Go.Proofs.YtmockeaiccpogaaHand Go.Proofs.YtmockeaiccpogaaSq
end
end Go.Proofs.Ytmockeaiccpogaa.All
end
section
namespace Go.Proofs.Ytmockeaiccpogaa.All
open Go.RowKit Go.Proofs.YtmockeaiccpogaaW.PrintWords Go.Proofs.YtmockeaiccpogaaW.PrintLast Go.Proofs.YtmockeaiccpogaaW.PrintMore
attribute [local go_sem] max2_int min2_int max_two min_two max_three min_three max_four min_four
set_option linter.unusedVariables false
set_option linter.unusedSimpArgs false
end Go.Proofs.Ytmockeaiccpogaa.All
end
section
namespace Go.Proofs.Ytmockeaiccpogaa.All
open Go.RowKit Go.Proofs.YtmockeaiccpogaaW.PrintWords Go.Proofs.YtmockeaiccpogaaW.PrintLast Go.Proofs.YtmockeaiccpogaaW.PrintMore
attribute [local go_sem] max2_int min2_int max_two min_two max_three min_three max_four min_four
set_option linter.unusedVariables false
set_option linter.unusedSimpArgs false
end Go.Proofs.Ytmockeaiccpogaa.All
end
section
namespace Go.Proofs.Ytmockeaiccpogaa.All
open Go.Proofs.YtmockeaiccpogaaSq
open Go.RowKit Go.Proofs.YtmockeaiccpogaaW.PrintWords Go.Proofs.YtmockeaiccpogaaW.PrintLast Go.Proofs.YtmockeaiccpogaaW.PrintMore
attribute [local go_sem] max2_int min2_int max_two min_two max_three min_three max_four min_four
set_option linter.unusedVariables false
set_option linter.unusedSimpArgs false
end Go.Proofs.Ytmockeaiccpogaa.All
end
section
namespace Go.Proofs.Ytmockeaiccpogaa.All
open Go.Proofs.YtmockeaiccpogaaSq
open Go.RowKit Go.Proofs.YtmockeaiccpogaaW.PrintWords Go.Proofs.YtmockeaiccpogaaW.PrintLast Go.Proofs.YtmockeaiccpogaaW.PrintMore
attribute [local go_sem] max2_int min2_int max_two min_two max_three min_three max_four min_four
set_option linter.unusedVariables false
set_option linter.unusedSimpArgs false
end Go.Proofs.Ytmockeaiccpogaa.All
end
section
namespace Go.Proofs.Ytmockeaiccpogaa.All
open Go.RowKit Go.Proofs.YtmockeaiccpogaaW.PrintWords Go.Proofs.YtmockeaiccpogaaW.PrintLast Go.Proofs.YtmockeaiccpogaaW.PrintMore
attribute [local go_sem] max2_int min2_int max_two min_two max_three min_three max_four min_four
set_option linter.unusedVariables false
set_option linter.unusedSimpArgs false
end Go.Proofs.Ytmockeaiccpogaa.All
end
section
namespace Go.Proofs.Ytmockeaiccpogaa.All
open Go.RowKit Go.Proofs.YtmockeaiccpogaaW.PrintWords Go.Proofs.YtmockeaiccpogaaW.PrintLast Go.Proofs.YtmockeaiccpogaaW.PrintMore
attribute [local go_sem] max2_int min2_int max_two min_two max_three min_three max_four min_four
set_option linter.unusedVariables false
set_option linter.unusedSimpArgs false
end Go.Proofs.Ytmockeaiccpogaa.All
end
section
namespace Go.Proofs.Ytmockeaiccpogaa.All
open Go.RowKit Go.Proofs.YtmockeaiccpogaaW.PrintWords Go.Proofs.YtmockeaiccpogaaW.PrintLast Go.Proofs.YtmockeaiccpogaaW.PrintMore
attribute [local go_sem] max2_int min2_int max_two min_two max_three min_three max_four min_four
set_option linter.unusedVariables false
set_option linter.unusedSimpArgs false
end Go.Proofs.Ytmockeaiccpogaa.All
end
section
namespace Go.Proofs.Ytmockeaiccpogaa.All
open Go.Proofs.YtmockeaiccpogaaSq
open Go.RowKit Go.Proofs.YtmockeaiccpogaaW.PrintWords Go.Proofs.YtmockeaiccpogaaW.PrintLast Go.Proofs.YtmockeaiccpogaaW.PrintMore
attribute [local go_sem] max2_int min2_int max_two min_two max_three min_three max_four min_four
set_option linter.unusedVariables false
set_option linter.unusedSimpArgs false
end Go.Proofs.Ytmockeaiccpogaa.All
end
section
namespace Go.Proofs.Ytmockeaiccpogaa.All
open Go.RowKit Go.Proofs.YtmockeaiccpogaaW.PrintWords Go.Proofs.YtmockeaiccpogaaW.PrintLast Go.Proofs.YtmockeaiccpogaaW.PrintMore
attribute [local go_sem] max2_int min2_int max_two min_two max_three min_three max_four min_four
set_option linter.unusedVariables false
set_option linter.unusedSimpArgs false
end Go.Proofs.Ytmockeaiccpogaa.All
end
section
namespace Go.Proofs.Ytmockeaiccpogaa.All
open Go.RowKit Go.Proofs.YtmockeaiccpogaaW.PrintWords Go.Proofs.YtmockeaiccpogaaW.PrintLast Go.Proofs.YtmockeaiccpogaaW.PrintMore
attribute [local go_sem] max2_int min2_int max_two min_two max_three min_three max_four min_four
set_option linter.unusedVariables false
set_option linter.unusedSimpArgs false
section
open Go.Proofs.YtmockeaiccpogaaHand
end
end Go.Proofs.Ytmockeaiccpogaa.All
end
section
namespace Go.Proofs.Ytmockeaiccpogaa.All
open Go.Proofs.YtmockeaiccpogaaSq
open Go.RowKit Go.Proofs.YtmockeaiccpogaaW.PrintWords Go.Proofs.YtmockeaiccpogaaW.PrintLast Go.Proofs.YtmockeaiccpogaaW.PrintMore
attribute [local go_sem] max2_int min2_int max_two min_two max_three min_three max_four min_four
set_option linter.unusedVariables false
set_option linter.unusedSimpArgs false
section
open Go.Proofs.YtmockeaiccpogaaHand Go.Proofs.YtmockeaiccpogaaSq
end
end Go.Proofs.Ytmockeaiccpogaa.All
end
section
namespace Go.Proofs.Ytmockeaiccpogaa.All
open Go.RowKit Go.Proofs.YtmockeaiccpogaaW.PrintWords Go.Proofs.YtmockeaiccpogaaW.PrintLast Go.Proofs.YtmockeaiccpogaaW.PrintMore
attribute [local go_sem] max2_int min2_int max_two min_two max_three min_three max_four min_four
set_option linter.unusedVariables false
set_option linter.unusedSimpArgs false
end Go.Proofs.Ytmockeaiccpogaa.All
end
section
namespace Go.Proofs.Ytmockeaiccpogaa.All
open Go.RowKit Go.Proofs.YtmockeaiccpogaaW.PrintWords Go.Proofs.YtmockeaiccpogaaW.PrintLast Go.Proofs.YtmockeaiccpogaaW.PrintMore
set_option linter.unusedVariables false
structure S22 where
  f0 : Int
  f1 : Int
  f2 : Int
  f3 : Int
structure S27 where
  f0 : Int
  f1 : Int
  f2 : List S43
def k27 : Kd S27 := Kd.iso (Kd.pair (Kd.int .i64) (Kd.pair (Kd.int .i64) (Kd.slice 43 k43))) (fun x : S27 => (x.f0, x.f1, x.f2))
theorem k27_open {w : World} {x : S27} {cs : List Value} (h : k27.K w x cs) : ∃ A2 c2, cs = [.int .i64 x.f0, .int .i64 x.f1, .slice A2 x.f2.length c2] ∧ x.f2.length ≤ c2 ∧ Kd.C k43 w A2 x.f2.length x.f2 := by
  obtain ⟨_, _, rfl, rfl, ⟨_, _, rfl, rfl, g2⟩⟩ := h
  obtain ⟨A2, c2, rfl, l2, h2⟩ := g2
  exact ⟨A2, c2, rfl, l2, h2⟩
structure S41 where
  f0 : Int
  f1 : Int
end Go.Proofs.Ytmockeaiccpogaa.All
end
section
namespace Go.Proofs.Ytmockeaiccpogaa.Pure
open Go.RowKit Go.Proofs.YtmockeaiccpogaaW.PrintWords Go.Proofs.YtmockeaiccpogaaW.PrintMore Go.Proofs.Ytmockeaiccpogaa.All
set_option linter.unusedVariables false
set_option linter.unusedSimpArgs false
theorem i64 {x : Int} (h : (Lit.int .i64 x).wf = true) : -9223372036854775808 ≤ x ∧ x ≤ 9223372036854775807 := by
  simpa [Lit.wf, IntKind.min, IntKind.max, IntKind.signed, IntKind.bits] using h
theorem w64 {x : Int} (h : -9223372036854775808 ≤ x) (h' : x ≤ 9223372036854775807) : wrap64 x = x := by unfold wrap64; omega
theorem wnat {n : Nat} (h : n ≤ 1000000) : wrap64 ((n : Int) + 1) = ((n + 1 : Nat) : Int) := by unfold wrap64; omega
theorem fuel {α : Type} {f : Nat → Option α} (hm : ∀ k r, f k = some r → f (k + 1) = some r) {K : Nat} {r : α} (h : f K = some r) : ∀ k, K ≤ k → f k = some r := by
  intro k hk
  obtain ⟨j, rfl⟩ : ∃ j, k = K + j := ⟨k - K, by omega⟩
  clear hk
  induction j with
  | zero => exact h
  | succ j ih => exact hm _ _ ih
theorem example_holds : ∀ k, 200 ≤ k → compositorlaw09_exampleHolds.f k = some true :=
  fuel (f := fun k => compositorlaw09_exampleHolds.f k) (fun k r h => compositorlaw09_exampleHolds.mono k r h) (by decide +kernel)
theorem mx_spec (a b : Int) : a ≤ mx a b ∧ b ≤ mx a b ∧ (mx a b = a ∨ mx a b = b) := by unfold mx; split <;> omega
theorem mn_spec (a b : Int) : mn a b ≤ a ∧ mn a b ≤ b ∧ (mn a b = a ∨ mn a b = b) := by unfold mn; split <;> omega
def PV (p : S43) : Prop := p.f0 ≤ p.f3 ∧ p.f1 ≤ p.f3 ∧ p.f2 ≤ p.f3
def VB (W H : Int) (l : List S43) : Prop := (1 ≤ W ∧ W ≤ 256) ∧ (1 ≤ H ∧ H ≤ 256) ∧ (l.length : Int) = W * H ∧ ∀ p ∈ l, PV p
noncomputable instance (W H : Int) (l : List S43) : Decidable (VB W H l) := Classical.propDecidable _
def SZ (n : Int) : Prop := 1 ≤ n ∧ n ≤ 256
noncomputable instance (n : Int) : Decidable (SZ n) := Classical.propDecidable _
theorem ok_iff (p : S43) : buffer_Valid.ok p = true ↔ PV p := by
  have m0 := mn_spec p.f0 p.f3
  have m1 := mn_spec p.f1 p.f3
  have m2 := mn_spec p.f2 p.f3
  unfold buffer_Valid.ok PV
  simp only [Bool.and_eq_true, beq_iff_eq, and_true]
  omega
theorem bsize_eq (a : Int) : buffer_size.f a = some (decide (SZ a)) := by
  unfold buffer_size.f
  split <;> (refine congrArg some (Bool.eq_iff_iff.mpr ?_); simp only [decide_eq_true_eq, Bool.false_eq_true, false_iff]; unfold SZ; omega)
theorem rsize_eq (a b : Int) : compositorref09_size.f a b = some (decide (SZ a ∧ SZ b)) := by
  unfold compositorref09_size.f
  repeat' split
  all_goals (refine congrArg some (Bool.eq_iff_iff.mpr ?_); simp only [decide_eq_true_eq, Bool.false_eq_true, false_iff]; unfold SZ; omega)
theorem prod_small {W H : Int} (hW : SZ W) (hH : SZ H) : wrap64 (W * H) = W * H ∧ 1 ≤ W * H ∧ W * H ≤ 65536 := by
  unfold SZ at hW hH
  have p1 := Int.mul_le_mul hW.2 hH.2 (by omega) (by omega : (0 : Int) ≤ 256)
  have p2 : 0 < W * H := Int.mul_pos (by omega) (by omega)
  refine ⟨?_, by omega, by omega⟩
  unfold wrap64; omega
theorem bvalid_eq (W H : Int) (l : List S43) : buffer_Valid.f W H l = some (decide (VB W H l)) := by
  simp only [buffer_Valid.f, bsize_eq, Option.bind_some, decide_eq_true_eq]
  by_cases hW : SZ W
  · by_cases hH : SZ H
    · have hp := prod_small hW hH
      rw [if_pos hW, if_pos hH, hp.1]
      by_cases hl : (l.length : Int) = W * H
      · rw [if_pos hl]
        refine congrArg some (Bool.eq_iff_iff.mpr ?_)
        rw [List.all_eq_true, decide_eq_true_eq]
        exact ⟨fun h => ⟨hW, hH, hl, fun p hp => (ok_iff p).mp (h p hp)⟩, fun h p hp => (ok_iff p).mpr (h.2.2.2 p hp)⟩
      · rw [if_neg hl, decide_eq_false (fun h => hl h.2.2.1)]
    · rw [if_pos hW, if_neg hH, decide_eq_false (fun h => hH h.2.1)]
  · rw [if_neg hW, decide_eq_false (fun h => hW h.1)]
theorem rd_at {l : List S43} {i : Nat} (h : i < l.length) : rd_T43 l (i : Int) = l[i] := by
  simp [rd_T43, List.getD_eq_getElem?_getD, List.getElem?_eq_getElem h]
theorem rpv (p : S43) : compositorref08_Valid.f p.f0 p.f1 p.f2 p.f3 = some (decide (p.f0 ≤ p.f3 ∧ p.f1 ≤ p.f3 ∧ p.f2 ≤ p.f3)) := by
  unfold compositorref08_Valid.f
  repeat' split
  all_goals (refine congrArg some (Bool.eq_iff_iff.mpr ?_); simp only [decide_eq_true_eq, Bool.false_eq_true, false_iff]; omega)
theorem rvl (W H : Int) (l : List S43) (hl : l.length ≤ 100000) : ∀ d i, i + d = l.length → ∀ k, d + 1 ≤ k → ∀ b, (b = true ↔ ∀ p ∈ l.drop i, PV p) → compositorref09_Valid.l0 k i W H l = some b := by
  intro d
  induction d with
  | zero =>
    intro i hi k hk b hb
    obtain ⟨k, rfl⟩ : ∃ j, k = j + 1 := ⟨k - 1, by omega⟩
    rw [compositorref09_Valid.l0, if_neg (by omega)]
    have e : l.drop i = [] := List.drop_eq_nil_of_le (by omega)
    rw [e] at hb
    have : b = true := hb.mpr (fun p hp => by cases hp)
    rw [this]
  | succ d ih =>
    intro i hi k hk b hb
    obtain ⟨k, rfl⟩ : ∃ j, k = j + 1 := ⟨k - 1, by omega⟩
    have hlt : i < l.length := by omega
    rw [compositorref09_Valid.l0, if_pos (by omega), if_pos (by omega), rd_at hlt, rpv, Option.bind_some]
    have e : l.drop i = l[i] :: l.drop (i + 1) := List.drop_eq_getElem_cons hlt
    rw [e] at hb
    have ew : wrap64 ((i : Int) + 1) = ((i + 1 : Nat) : Int) := wnat (by omega)
    rw [ew]
    simp only [decide_eq_true_eq]
    by_cases h0 : PV l[i]
    · rw [if_pos (show l[i].f0 ≤ l[i].f3 ∧ l[i].f1 ≤ l[i].f3 ∧ l[i].f2 ≤ l[i].f3 from h0)]
      refine ih (i + 1) (by omega) k (by omega) b (hb.trans ?_)
      constructor
      · intro h p hm; exact h p (List.mem_cons_of_mem _ hm)
      · intro h p hm
        rcases List.mem_cons.mp hm with rfl | hm
        · exact h0
        · exact h p hm
    · rw [if_neg (show ¬ (l[i].f0 ≤ l[i].f3 ∧ l[i].f1 ≤ l[i].f3 ∧ l[i].f2 ≤ l[i].f3) from h0)]
      cases b with
      | false => rfl
      | true => exact absurd (hb.mp rfl l[i] (List.mem_cons_self ..)) h0
theorem rvalid_eq (W H : Int) (l : List S43) (hl : l.length ≤ 100000) : ∀ k, l.length + 2 ≤ k → compositorref09_Valid.f k W H l = some (decide (VB W H l)) := by
  intro k hk
  obtain ⟨k, rfl⟩ : ∃ j, k = j + 1 := ⟨k - 1, by omega⟩
  simp only [compositorref09_Valid.f, rsize_eq, Option.bind_some, decide_eq_true_eq, compositorref09_Valid.j0, if_true]
  by_cases hs : SZ W ∧ SZ H
  · have hp := prod_small hs.1 hs.2
    rw [if_pos hs, hp.1]
    by_cases he : (l.length : Int) = W * H
    · have e : ((l.length : Int) != W * H) = false := by simpa using he
      rw [e, if_neg (by simp)]
      refine rvl W H l hl l.length 0 (by omega) k (by omega) _ ?_
      rw [decide_eq_true_eq, List.drop_zero]
      exact ⟨fun h => h.2.2.2, fun h => ⟨hs.1, hs.2, he, h⟩⟩
    · have e : ((l.length : Int) != W * H) = true := by simpa using he
      rw [e, if_pos rfl, decide_eq_false (fun h => he h.2.2.1)]
  · rw [if_neg hs, decide_eq_false (fun h => hs ⟨h.1, h.2.1⟩)]
theorem pne (a b : S43) : (!(a.f0 == b.f0) || (!(a.f1 == b.f1) || (!(a.f2 == b.f2) || (!(a.f3 == b.f3))))) = true ↔ a ≠ b := by
  obtain ⟨a0, a1, a2, a3⟩ := a
  obtain ⟨b0, b1, b2, b3⟩ := b
  simp only [Bool.or_eq_true, Bool.not_eq_true', beq_eq_false_iff_ne, ne_eq, S43.mk.injEq]
  omega
def EB (W H : Int) (l : List S43) (W' H' : Int) (l' : List S43) : Prop := W = W' ∧ H = H' ∧ l = l'
noncomputable instance (W H : Int) (l : List S43) (W' H' : Int) (l' : List S43) : Decidable (EB W H l W' H' l') := Classical.propDecidable _
theorem rel (W H : Int) (l : List S43) (W' H' : Int) (l' : List S43) (hl : l.length ≤ 100000) (he : l.length = l'.length) : ∀ d i, i + d = l.length → ∀ k, d + 1 ≤ k → ∀ b, (b = true ↔ l.drop i = l'.drop i) → compositorref09_Equal.l0 k i W H l W' H' l' = some b := by
  intro d
  induction d with
  | zero =>
    intro i hi k hk b hb
    obtain ⟨k, rfl⟩ : ∃ j, k = j + 1 := ⟨k - 1, by omega⟩
    rw [compositorref09_Equal.l0, if_neg (by omega)]
    have : b = true := hb.mpr (by rw [List.drop_eq_nil_of_le (by omega), List.drop_eq_nil_of_le (by omega)])
    rw [this]
  | succ d ih =>
    intro i hi k hk b hb
    obtain ⟨k, rfl⟩ : ∃ j, k = j + 1 := ⟨k - 1, by omega⟩
    have hlt : i < l.length := by omega
    have hlt' : i < l'.length := by omega
    rw [compositorref09_Equal.l0, if_pos (by omega), if_pos (by omega), if_pos (by omega), rd_at hlt, rd_at hlt', wnat (by omega)]
    rw [List.drop_eq_getElem_cons hlt, List.drop_eq_getElem_cons hlt'] at hb
    by_cases hp : l[i] = l'[i]
    · rw [if_neg (fun h => (pne _ _).mp h hp)]
      exact ih (i + 1) (by omega) k (by omega) b (hb.trans (by rw [List.cons.injEq]; exact ⟨fun h => h.2, fun h => ⟨hp, h⟩⟩))
    · rw [if_pos ((pne _ _).mpr hp)]
      cases b with
      | false => rfl
      | true => exact absurd (List.cons.inj (hb.mp rfl)).1 hp
theorem requal_eq (W H : Int) (l : List S43) (W' H' : Int) (l' : List S43) (hl : l.length ≤ 100000) : ∀ k, l.length + 2 ≤ k → compositorref09_Equal.f k W H l W' H' l' = some (decide (EB W H l W' H' l')) := by
  intro k hk
  obtain ⟨k, rfl⟩ : ∃ j, k = j + 1 := ⟨k - 1, by omega⟩
  simp only [compositorref09_Equal.f, compositorref09_Equal.j0, if_true]
  by_cases h1 : W = W'
  · by_cases h2 : H = H'
    · rw [if_pos h1, if_pos h2]
      by_cases h3 : (l.length : Int) = (l'.length : Int)
      · have e : ((l.length : Int) != (l'.length : Int)) = false := by simpa using h3
        rw [e, if_neg (by simp)]
        refine rel W H l W' H' l' hl (by omega) l.length 0 (by omega) k (by omega) _ ?_
        rw [decide_eq_true_eq, List.drop_zero, List.drop_zero]
        exact ⟨fun h => h.2.2, fun h => ⟨h1, h2, h⟩⟩
      · have e : ((l.length : Int) != (l'.length : Int)) = true := by simpa using h3
        rw [e, if_pos rfl, decide_eq_false (fun h => h3 (by rw [h.2.2]))]
    · rw [if_pos h1, if_neg h2, decide_eq_false (fun h => h2 h.2.1)]
  · rw [if_neg h1, decide_eq_false (fun h => h1 h.1)]
theorem requal_refl (W H : Int) (l : List S43) (hl : l.length ≤ 100000) (k : Nat) (hk : l.length + 2 ≤ k) : compositorref09_Equal.f k W H l W H l = some true := by
  rw [requal_eq W H l W H l hl k hk, decide_eq_true (show EB W H l W H l from ⟨rfl, rfl, rfl⟩)]
theorem small_eq (W H : Int) (l : List S43) : compositorlaw09_small.f W H l = some (decide ((l.length : Int) ≤ 400)) := rfl
theorem ext_getD {l m : List S43} (h : l.length = m.length) (he : ∀ i, i < l.length → l.getD i z43 = m.getD i z43) : l = m := by
  apply List.ext_getElem h
  intro i h1 h2
  have := he i h1
  rw [List.getD_eq_getElem?_getD, List.getD_eq_getElem?_getD, List.getElem?_eq_getElem h1, List.getElem?_eq_getElem h2] at this
  exact this
theorem over_getD {l s : List S43} {lo : Nat} (h : lo + s.length ≤ l.length) (i : Nat) : (over l lo s).getD i z43 = if lo ≤ i ∧ i < lo + s.length then s.getD (i - lo) z43 else l.getD i z43 := by
  unfold over
  simp only [List.getD_eq_getElem?_getD]
  by_cases h1 : i < lo
  · rw [if_neg (by omega), List.append_assoc, List.getElem?_append_left (by rw [List.length_take]; omega), List.getElem?_take, if_pos h1]
  · rw [List.append_assoc, List.getElem?_append_right (by rw [List.length_take]; omega)]
    have e : (List.take lo l).length = lo := by rw [List.length_take]; omega
    rw [e]
    by_cases h2 : i < lo + s.length
    · rw [if_pos ⟨by omega, h2⟩, List.getElem?_append_left (by omega)]
    · rw [if_neg (by omega), List.getElem?_append_right (by omega), List.getElem?_drop]
      congr 2
      omega
theorem zipWith_getD (g : S43 → S43 → S43) (a b : List S43) {j : Nat} (ha : j < a.length) (hb : j < b.length) : (List.zipWith g a b).getD j z43 = g (a.getD j z43) (b.getD j z43) := by
  simp [List.getD_eq_getElem?_getD, List.getElem?_zipWith, List.getElem?_eq_getElem ha, List.getElem?_eq_getElem hb]
theorem mid_getD (l : List S43) (lo n j : Nat) (h : j < n) : ((l.drop lo).take n).getD j z43 = l.getD (lo + j) z43 := by
  simp only [List.getD_eq_getElem?_getD, List.getElem?_take, if_pos h, List.getElem?_drop]
theorem in_row {W r c t fr n : Nat} (hc : c < W) (hfr : fr + n ≤ W) : (t * W + fr ≤ r * W + c ∧ r * W + c < t * W + fr + n) ↔ (r = t ∧ fr ≤ c ∧ c < fr + n) := by
  rcases Nat.lt_trichotomy r t with h | h | h
  · have m : (r + 1) * W ≤ t * W := Nat.mul_le_mul_right W h
    rw [Nat.succ_mul] at m
    generalize r * W = p at *
    generalize t * W = q at *
    omega
  · subst h
    generalize r * W = p at *
    omega
  · have m : (t + 1) * W ≤ r * W := Nat.mul_le_mul_right W h
    rw [Nat.succ_mul] at m
    generalize r * W = p at *
    generalize t * W = q at *
    omega
theorem rows_getD (g : S43 → S43 → S43) (q : List S43 → List S43 → List S43) (hq : ∀ d s, s.length = d.length → q d s = List.zipWith g d s) (s : List S43) (W SW t0 fr v0 u0 n H : Nat) (l : List S43) (hl : l.length = H * W) (hfr : fr + n ≤ W) :
    ∀ k, t0 + k ≤ H → (∀ j, j < k → (v0 + j) * SW + u0 + n ≤ s.length) → (buffer_combine.rows q s W SW t0 fr v0 u0 n k l).length = l.length ∧
      ∀ r c, r < H → c < W → (buffer_combine.rows q s W SW t0 fr v0 u0 n k l).getD (r * W + c) z43 = if (t0 ≤ r ∧ r < t0 + k) ∧ (fr ≤ c ∧ c < fr + n) then g (l.getD (r * W + c) z43) (s.getD ((v0 + (r - t0)) * SW + u0 + (c - fr)) z43) else l.getD (r * W + c) z43 := by
  intro k
  induction k with
  | zero =>
    intro _ _
    refine ⟨rfl, fun r c hr hc => ?_⟩
    rw [if_neg (by omega)]
    rfl
  | succ k ih =>
    intro hk hs
    obtain ⟨ih1, ih2⟩ := ih (by omega) (fun j hj => hs j (by omega))
    have hsk := hs k (by omega)
    have hlo : (t0 + k) * W + fr + n ≤ l.length := by
      have m : (t0 + k + 1) * W ≤ H * W := Nat.mul_le_mul_right W (by omega)
      rw [Nat.succ_mul] at m
      rw [hl]
      generalize (t0 + k) * W = p at *
      generalize H * W = z at *
      omega
    rw [buffer_combine.rows]
    generalize hL : buffer_combine.rows q s W SW t0 fr v0 u0 n k l = L at *
    have ha : ((L.drop ((t0 + k) * W + fr)).take n).length = n := by rw [List.length_take, List.length_drop]; omega
    have hb : ((s.drop ((v0 + k) * SW + u0)).take n).length = n := by rw [List.length_take, List.length_drop]; omega
    rw [hq _ _ (by rw [ha, hb])]
    have hz : (List.zipWith g ((L.drop ((t0 + k) * W + fr)).take n) ((s.drop ((v0 + k) * SW + u0)).take n)).length = n := by rw [List.length_zipWith, ha, hb, Nat.min_self]
    refine ⟨by rw [over_length _ _ _ (by rw [hz]; omega)]; exact ih1, fun r c hr hc => ?_⟩
    rw [over_getD (by rw [hz]; omega), hz]
    by_cases h1 : r = t0 + k ∧ fr ≤ c ∧ c < fr + n
    · obtain ⟨rfl, h2, h3⟩ := h1
      rw [if_pos ((in_row hc hfr).mpr ⟨rfl, h2, h3⟩), if_pos (by omega)]
      have e : (t0 + k) * W + c - ((t0 + k) * W + fr) = c - fr := by omega
      rw [e, zipWith_getD g _ _ (by rw [ha]; omega) (by rw [hb]; omega), mid_getD _ _ _ _ (by omega), mid_getD _ _ _ _ (by omega)]
      have e2 : (t0 + k) * W + fr + (c - fr) = (t0 + k) * W + c := by omega
      rw [e2, ih2 (t0 + k) c hr hc, if_neg (by omega), show t0 + k - t0 = k by omega]
    · rw [if_neg (fun h => h1 ((in_row hc hfr).mp h)), ih2 r c hr hc]
      by_cases h2 : (t0 ≤ r ∧ r < t0 + k) ∧ (fr ≤ c ∧ c < fr + n)
      · rw [if_pos h2, if_pos (by omega)]
      · rw [if_neg h2, if_neg (by omega)]
noncomputable def PX (g : S43 → S43 → S43) (W : Nat) (l : List S43) (SW SH : Nat) (s : List S43) (x y : Int) (r c : Nat) : S43 :=
  if (x ≤ c ∧ (c : Int) < x + SW) ∧ (y ≤ r ∧ (r : Int) < y + SH) then g (l.getD (r * W + c) z43) (s.getD (((r : Int) - y).toNat * SW + ((c : Int) - x).toNat) z43) else l.getD (r * W + c) z43
noncomputable def PUT (g : S43 → S43 → S43) (W H : Nat) (l : List S43) (SW SH : Nat) (s : List S43) (x y : Int) : List S43 := (List.range (H * W)).map fun i => PX g W l SW SH s x y (i / W) (i % W)
theorem PUT_len (g : S43 → S43 → S43) (W H : Nat) (l : List S43) (SW SH : Nat) (s : List S43) (x y : Int) : (PUT g W H l SW SH s x y).length = H * W := by simp [PUT]
theorem divmod {W r c : Nat} (hc : c < W) : (r * W + c) / W = r ∧ (r * W + c) % W = c := by
  refine ⟨?_, ?_⟩
  · rw [Nat.add_comm, Nat.add_mul_div_right _ _ (by omega), Nat.div_eq_of_lt hc]; omega
  · rw [Nat.add_comm, Nat.add_mul_mod_self_right, Nat.mod_eq_of_lt hc]
theorem lt_rows {W H r c : Nat} (hr : r < H) (hc : c < W) : r * W + c < H * W := by
  have m : (r + 1) * W ≤ H * W := Nat.mul_le_mul_right W hr
  rw [Nat.succ_mul] at m
  omega
theorem PUT_getD (g : S43 → S43 → S43) (W H : Nat) (l : List S43) (SW SH : Nat) (s : List S43) (x y : Int) {r c : Nat} (hr : r < H) (hc : c < W) : (PUT g W H l SW SH s x y).getD (r * W + c) z43 = PX g W l SW SH s x y r c := by
  have h := lt_rows hr hc
  obtain ⟨e1, e2⟩ := divmod (r := r) hc
  simp [PUT, List.getD_eq_getElem?_getD, h, e1, e2]
theorem ext_rows {l m : List S43} {W H : Nat} (hW : 0 < W) (hl : l.length = H * W) (hm : m.length = H * W) (he : ∀ r c, r < H → c < W → l.getD (r * W + c) z43 = m.getD (r * W + c) z43) : l = m := by
  refine ext_getD (by omega) (fun i hi => ?_)
  have h1 : i / W < H := by rw [Nat.div_lt_iff_lt_mul hW]; omega
  have h2 : i % W < W := Nat.mod_lt _ hW
  have h3 : i / W * W + i % W = i := by rw [Nat.mul_comm]; exact Nat.div_add_mod i W
  have := he (i / W) (i % W) h1 h2
  rwa [h3] at this
theorem PUT_out (g : S43 → S43 → S43) (W H : Nat) (l : List S43) (SW SH : Nat) (s : List S43) (x y : Int) (hW : 0 < W) (hl : l.length = H * W) (h : buffer_combine.out W H SW SH x y) : PUT g W H l SW SH s x y = l := by
  refine ext_rows hW (PUT_len _ _ _ _ _ _ _ _ _) hl (fun r c hr hc => ?_)
  rw [PUT_getD _ _ _ _ _ _ _ _ _ hr hc, PX, if_neg]
  unfold buffer_combine.out at h
  omega
theorem all_eq (g : S43 → S43 → S43) (q : List S43 → List S43 → List S43) (hq : ∀ d s, s.length = d.length → q d s = List.zipWith g d s) (W H SW SH : Nat) (l s : List S43) (x y : Int) (hW : 0 < W) (hSW : 0 < SW) (hl : l.length = H * W) (hs : s.length = SH * SW) (h : ¬ buffer_combine.out W H SW SH x y) :
    buffer_combine.all q W H l SW SH s x y = PUT g W H l SW SH s x y := by
  unfold buffer_combine.out at h
  have X1 := mx_spec x 0
  have T1 := mx_spec y 0
  have M1 := mn_spec (x + (SW : Int)) W
  have B1 := mn_spec (y + (SH : Int)) H
  unfold buffer_combine.all
  generalize mx x 0 = X at *
  generalize mx y 0 = T at *
  generalize mn (x + (SW : Int)) W = M at *
  generalize mn (y + (SH : Int)) H = B at *
  simp only [Int.toNat_natCast]
  obtain ⟨t0, ht0⟩ : ∃ t0 : Nat, T.toNat = t0 := ⟨_, rfl⟩
  obtain ⟨fr, hfr⟩ : ∃ t0 : Nat, X.toNat = t0 := ⟨_, rfl⟩
  obtain ⟨v0, hv0⟩ : ∃ t0 : Nat, (T - y).toNat = t0 := ⟨_, rfl⟩
  obtain ⟨u0, hu0⟩ : ∃ t0 : Nat, (X - x).toNat = t0 := ⟨_, rfl⟩
  obtain ⟨n, hn⟩ : ∃ t0 : Nat, (M - X).toNat = t0 := ⟨_, rfl⟩
  obtain ⟨m, hm⟩ : ∃ t0 : Nat, (B - T).toNat = t0 := ⟨_, rfl⟩
  rw [ht0, hfr, hv0, hu0, hn, hm]
  have hbound : ∀ j, j < m → (v0 + j) * SW + u0 + n ≤ s.length := by
    intro j hj
    have h1 : v0 + j + 1 ≤ SH := by omega
    have m1 : (v0 + j + 1) * SW ≤ SH * SW := Nat.mul_le_mul_right SW h1
    rw [Nat.succ_mul] at m1
    have h2 : u0 + n ≤ SW := by omega
    rw [hs]
    generalize (v0 + j) * SW = p at *
    generalize SH * SW = z at *
    omega
  obtain ⟨L1, L2⟩ := rows_getD g q hq s W SW t0 fr v0 u0 n H l hl (by omega) m (by omega) hbound
  refine ext_rows hW (by rw [L1, hl]) (PUT_len _ _ _ _ _ _ _ _ _) (fun r c hr hc => ?_)
  rw [L2 r c hr hc, PUT_getD _ _ _ _ _ _ _ _ _ hr hc, PX]
  by_cases h1 : (t0 ≤ r ∧ r < t0 + m) ∧ (fr ≤ c ∧ c < fr + n)
  · rw [if_pos h1, if_pos (by omega)]
    have e1 : v0 + (r - t0) = ((r : Int) - y).toNat := by omega
    have e2 : u0 + (c - fr) = ((c : Int) - x).toNat := by omega
    rw [e1, Nat.add_assoc, e2]
  · rw [if_neg h1, if_neg (by omega)]
theorem VBn {W H : Int} {a : List S43} (h : VB W H a) : ∃ w n : Nat, W = w ∧ H = n ∧ w ≤ 256 ∧ n ≤ 256 ∧ 0 < w ∧ 0 < n ∧ a.length = n * w := by
  obtain ⟨h1, h2, h3, _⟩ := h
  obtain ⟨w, rfl⟩ : ∃ w : Nat, W = w := ⟨W.toNat, by omega⟩
  obtain ⟨n, rfl⟩ : ∃ n : Nat, H = n := ⟨H.toNat, by omega⟩
  refine ⟨w, n, rfl, rfl, by omega, by omega, by omega, by omega, ?_⟩
  rw [← Int.natCast_mul] at h3
  rw [Nat.mul_comm]
  exact Int.ofNat.inj h3
noncomputable def CM (g : S43 → S43 → S43) (W H : Int) (l : List S43) (SW SH : Int) (s : List S43) (x y : Int) : Int × Int × List S43 × Int := if VB W H l ∧ VB SW SH s then (W, H, PUT g W.toNat H.toNat l SW.toNat SH.toNat s x y, 0) else (0, 0, [], 15)
theorem combine_eq (g : S43 → S43 → S43) (q : List S43 → List S43 → List S43) (hq : ∀ d s, s.length = d.length → q d s = List.zipWith g d s) (W H : Int) (l : List S43) (SW SH : Int) (s : List S43) (x y : Int) : buffer_combine.g q W H l SW SH s x y = some (CM g W H l SW SH s x y) := by
  unfold buffer_combine.g
  rw [bvalid_eq, bvalid_eq, Option.bind_some, Option.bind_some]
  simp only [decide_eq_true_eq, CM]
  by_cases h1 : VB W H l
  · rw [if_pos h1]
    by_cases h2 : VB SW SH s
    · rw [if_pos h2, if_pos (show VB W H l ∧ VB SW SH s from ⟨h1, h2⟩)]
      obtain ⟨w, n, rfl, rfl, _, _, a1, a2, a3⟩ := VBn h1
      obtain ⟨w', n', rfl, rfl, _, _, b1, b2, b3⟩ := VBn h2
      simp only [Int.toNat_natCast]
      by_cases h3 : buffer_combine.out w n w' n' x y
      · rw [if_pos h3, PUT_out g w n l w' n' s x y a1 a3 h3]
      · rw [if_neg h3, all_eq g q hq w n w' n' l s x y a1 b1 a3 b3 h3]
    · rw [if_neg h2, if_neg (show ¬ (VB W H l ∧ VB SW SH s) from fun h => h2 h.2)]
  · rw [if_neg h1, if_neg (show ¬ (VB W H l ∧ VB SW SH s) from fun h => h1 h.1)]
theorem zipWith_snd (d s : List S43) (h : s.length = d.length) : s = List.zipWith (fun _ s => s) d s := by
  apply List.ext_getElem
  · rw [List.length_zipWith, h, Nat.min_self]
  · intro i h1 h2
    simp
theorem paste_eq (W H : Int) (l : List S43) (SW SH : Int) (s : List S43) (x y : Int) : buffer_Paste.f W H l SW SH s x y = some (CM (fun _ s => s) W H l SW SH s x y) :=
  combine_eq (fun _ s => s) (fun _ s => s) (fun d s h => zipWith_snd d s h) W H l SW SH s x y
noncomputable def AT (W H : Int) (l : List S43) (x y : Int) : S43 := if (SZ W ∧ SZ H) ∧ (0 ≤ x ∧ x < W) ∧ (0 ≤ y ∧ y < H) ∧ y * W + x < (l.length : Int) then rd_T43 l (y * W + x) else z43
theorem at_small {W H x y : Int} (hW : SZ W) (hH : SZ H) (hx : 0 ≤ x ∧ x < W) (hy : 0 ≤ y ∧ y < H) : wrap64 (wrap64 (y * W) + x) = y * W + x ∧ 0 ≤ y * W + x ∧ y * W + x < W * H := by
  unfold SZ at hW hH
  have p1 : y * W ≤ (H - 1) * W := Int.mul_le_mul_of_nonneg_right (by omega) (by omega)
  have p2 : 0 ≤ y * W := Int.mul_nonneg hy.1 (by omega)
  have p3 : W * H ≤ 256 * 256 := Int.mul_le_mul hW.2 hH.2 (by omega) (by omega)
  rw [Int.sub_mul, Int.one_mul, Int.mul_comm H W] at p1
  generalize y * W = p at *
  generalize W * H = q at *
  have e : wrap64 p = p := w64 (by omega) (by omega)
  rw [e]
  exact ⟨w64 (by omega) (by omega), by omega, by omega⟩
theorem rat_eq (W H : Int) (l : List S43) (x y : Int) : compositorref09_At.f W H l x y = some ((AT W H l x y).f0, (AT W H l x y).f1, (AT W H l x y).f2, (AT W H l x y).f3) := by
  simp only [compositorref09_At.f, rsize_eq, Option.bind_some, decide_eq_true_eq]
  by_cases hs : SZ W ∧ SZ H
  · rw [if_pos hs]
    by_cases h1 : x < 0
    · rw [if_pos h1, AT, if_neg (by omega)]; rfl
    rw [if_neg h1]
    by_cases h2 : x ≥ W
    · rw [if_pos h2, AT, if_neg (by omega)]; rfl
    rw [if_neg h2]
    by_cases h3 : y < 0
    · rw [if_pos h3, AT, if_neg (by omega)]; rfl
    rw [if_neg h3]
    by_cases h4 : y ≥ H
    · rw [if_pos h4, AT, if_neg (by omega)]; rfl
    rw [if_neg h4]
    obtain ⟨e, h0, _⟩ := at_small hs.1 hs.2 (x := x) (y := y) (by omega) (by omega)
    rw [e]
    by_cases h5 : y * W + x ≥ (l.length : Int)
    · rw [if_pos h5, AT, if_neg (by omega)]; rfl
    · rw [if_neg h5, if_pos h0, if_pos (by omega), AT, if_pos ⟨hs, by omega, by omega, by omega⟩]
  · rw [if_neg hs, AT, if_neg (fun h => hs h.1)]; rfl
theorem AT_in {W H : Nat} (hW : 0 < W ∧ W ≤ 256) (hH : 0 < H ∧ H ≤ 256) {l : List S43} (hl : l.length = H * W) {r c : Nat} (hr : r < H) (hc : c < W) : AT W H l c r = l.getD (r * W + c) z43 := by
  have h := lt_rows hr hc
  have e : (r : Int) * (W : Int) + (c : Int) = ((r * W + c : Nat) : Int) := by rw [Int.natCast_add, Int.natCast_mul]
  rw [AT, e, if_pos]
  · rw [rd_T43, Int.toNat_natCast]
  · refine ⟨⟨by unfold SZ; omega, by unfold SZ; omega⟩, by omega, by omega, by omega⟩
def CO (a : Int) : Prop := -16384 ≤ a ∧ a ≤ 16384
def EM (a b c d : Int) : Prop := ¬ (CO a ∧ CO b ∧ CO c ∧ CO d) ∨ c ≤ a ∨ d ≤ b
noncomputable instance (a : Int) : Decidable (CO a) := Classical.propDecidable _
noncomputable instance (a b c d : Int) : Decidable (EM a b c d) := Classical.propDecidable _
theorem rv1 (a : Int) : rect_valid.f a = some (decide (CO a)) := by
  unfold rect_valid.f
  by_cases h1 : a ≥ -16384
  · rw [if_pos h1]
    refine congrArg some (Bool.eq_iff_iff.mpr ?_)
    rw [decide_eq_true_eq, decide_eq_true_eq, CO]
    omega
  · rw [if_neg h1, decide_eq_false (fun h : CO a => h1 h.1)]
theorem rv4 (a b c d : Int) : rect_Valid.f a b c d = some (decide (CO a ∧ CO b ∧ CO c ∧ CO d)) := by
  unfold rect_Valid.f
  rw [rv1, rv1, rv1, rv1]
  by_cases h1 : CO a <;> by_cases h2 : CO b <;> by_cases h3 : CO c <;> by_cases h4 : CO d <;> simp [h1, h2, h3, h4]
theorem re4 (a b c d : Int) : rect_Empty.f a b c d = some (decide (EM a b c d)) := by
  unfold rect_Empty.f
  rw [rv4]
  by_cases h1 : CO a ∧ CO b ∧ CO c ∧ CO d
  · rw [Option.bind_some, if_pos (decide_eq_true h1)]
    by_cases h2 : a ≥ c
    · rw [if_pos h2, decide_eq_true (show EM a b c d from Or.inr (Or.inl h2))]
    · rw [if_neg h2]
      refine congrArg some (Bool.eq_iff_iff.mpr ?_)
      rw [decide_eq_true_eq, decide_eq_true_eq, EM]
      exact ⟨fun h => Or.inr (Or.inr h), fun h => by rcases h with h | h | h; · exact absurd h1 h
                                                     · exact absurd h h2
                                                     · exact h⟩
  · rw [Option.bind_some, if_neg (by rw [decide_eq_false h1]; decide), decide_eq_true (show EM a b c d from Or.inl h1)]
def IN (W H a b c d : Int) : Prop := (0 ≤ a ∧ a < c ∧ c ≤ W) ∧ (0 ≤ b ∧ b < d ∧ d ≤ H)
noncomputable instance (W H a b c d : Int) : Decidable (IN W H a b c d) := Classical.propDecidable _
theorem EM_in {W H a b c d : Int} (hW : SZ W) (hH : SZ H) (h : IN W H a b c d) : ¬ EM a b c d := by
  unfold SZ at hW hH
  obtain ⟨h1, h2⟩ := h
  unfold EM CO
  omega
theorem within (W H a b c d : Int) (hW : SZ W) (hH : SZ H) (he : ¬ EM a b c d) : rect_Within.f a b c d 0 0 W H = some (decide (IN W H a b c d)) := by
  have hf : ¬ EM 0 0 W H := EM_in hW hH (W := W) (H := H) ⟨by unfold SZ at hW; omega, by unfold SZ at hH; omega⟩
  have h1 := mx_spec a 0
  have h2 := mx_spec b 0
  have h3 := mn_spec c W
  have h4 := mn_spec d H
  unfold rect_Within.f rect_Canonical.f
  rw [re4, Option.bind_some, if_neg (by rw [decide_eq_false he]; decide), Option.bind_some]
  unfold rect_Intersect.f rect_Canonical.f
  rw [re4, Option.bind_some, if_neg (by rw [decide_eq_false he]; decide), re4, Option.bind_some, if_neg (by rw [decide_eq_false hf]; decide), re4, Option.bind_some]
  generalize mx a 0 = A at *
  generalize mx b 0 = B at *
  generalize mn c W = C at *
  generalize mn d H = D at *
  have he' : a < c ∧ b < d := by
    have h : ¬ (c ≤ a ∨ d ≤ b) := fun h => he (Or.inr h)
    omega
  by_cases hi : EM A B C D
  · rw [if_pos (decide_eq_true hi), Option.bind_some, Option.bind_some]
    have hn : ¬ IN W H a b c d := by
      intro h
      have e1 : A = a := by have := h.1; omega
      have e2 : B = b := by have := h.2; omega
      have e3 : C = c := by have := h.1; omega
      have e4 : D = d := by have := h.2; omega
      rw [e1, e2, e3, e4] at hi
      exact he hi
    rw [decide_eq_false hn]
    refine congrArg some (Bool.eq_false_iff.mpr (fun h => ?_))
    simp only [Bool.and_eq_true, beq_iff_eq] at h
    omega
  · rw [if_neg (by rw [decide_eq_false hi]; decide), Option.bind_some, Option.bind_some]
    refine congrArg some (Bool.eq_iff_iff.mpr ?_)
    simp only [Bool.and_eq_true, beq_iff_eq]
    rw [decide_eq_true_eq, IN]
    constructor <;> intro h <;> omega
noncomputable def CR (W H : Int) (l : List S43) (a b c d : Int) : Int × Int × List S43 × Int := if VB W H l then (if IN W H a b c d then (c - a, d - b, buffer_Crop.rows l W.toNat a.toNat b.toNat (c - a).toNat (d - b).toNat, 0) else (0, 0, [], 6)) else (0, 0, [], 15)
theorem crop_eq (W H : Int) (l : List S43) (a b c d : Int) : buffer_Crop.f W H l a b c d = some (CR W H l a b c d) := by
  unfold buffer_Crop.f CR
  rw [bvalid_eq, Option.bind_some]
  by_cases h1 : VB W H l
  · rw [if_pos (decide_eq_true h1), if_pos h1, re4, Option.bind_some]
    by_cases h2 : EM a b c d
    · rw [if_pos (decide_eq_true h2), if_neg (fun h => EM_in h1.1 h1.2.1 h h2)]
    · rw [if_neg (by rw [decide_eq_false h2]; decide), within W H a b c d h1.1 h1.2.1 h2, Option.bind_some]
      by_cases h3 : IN W H a b c d
      · rw [if_pos (decide_eq_true h3), if_pos h3]
        exact if_pos h3
      · rw [if_neg (by rw [decide_eq_false h3]; decide), if_neg h3]
  · rw [if_neg (by rw [decide_eq_false h1]; decide), if_neg h1]
theorem crows_succ (l : List S43) (W x0 y0 n k : Nat) : buffer_Crop.rows l W x0 y0 n (k + 1) = (l.drop (y0 * W + x0)).take n ++ buffer_Crop.rows l W x0 (y0 + 1) n k := by
  unfold buffer_Crop.rows
  rw [List.range_succ_eq_map, List.flatMap_cons, List.flatMap_map]
  refine congrArg _ (congrArg (fun f => List.flatMap f (List.range k)) (funext fun j => ?_))
  rw [show y0 + Nat.succ j = y0 + 1 + j by omega]
theorem crows_len (l : List S43) (W x0 n : Nat) : ∀ k y0, (∀ j, j < k → (y0 + j) * W + x0 + n ≤ l.length) → (buffer_Crop.rows l W x0 y0 n k).length = k * n := by
  intro k
  induction k with
  | zero => intro y0 _; simp [buffer_Crop.rows]
  | succ k ih =>
    intro y0 h
    have h0 := h 0 (by omega)
    rw [crows_succ, List.length_append, ih (y0 + 1) (fun j hj => by have := h (j + 1) (by omega); rwa [show y0 + 1 + j = y0 + (j + 1) by omega]), List.length_take, List.length_drop, Nat.succ_mul, Nat.add_zero] at *
    omega
theorem getD_left (a b : List S43) {i : Nat} (h : i < a.length) : (a ++ b).getD i z43 = a.getD i z43 := by
  rw [List.getD_eq_getElem?_getD, List.getD_eq_getElem?_getD, List.getElem?_append_left h]
theorem getD_right (a b : List S43) {i : Nat} (h : a.length ≤ i) : (a ++ b).getD i z43 = b.getD (i - a.length) z43 := by
  rw [List.getD_eq_getElem?_getD, List.getD_eq_getElem?_getD, List.getElem?_append_right h]
theorem crows_getD (l : List S43) (W x0 n : Nat) : ∀ k y0, (∀ j, j < k → (y0 + j) * W + x0 + n ≤ l.length) → ∀ j i, j < k → i < n → (buffer_Crop.rows l W x0 y0 n k).getD (j * n + i) z43 = l.getD ((y0 + j) * W + x0 + i) z43 := by
  intro k
  induction k with
  | zero => intro y0 _ j i hj; omega
  | succ k ih =>
    intro y0 h j i hj hi
    have h0 := h 0 (by omega)
    rw [Nat.add_zero] at h0
    have hlen : ((l.drop (y0 * W + x0)).take n).length = n := by
      rw [List.length_take, List.length_drop]
      omega
    rw [crows_succ]
    rcases j with _ | j
    · rw [Nat.zero_mul, Nat.zero_add, Nat.add_zero, getD_left _ _ (by rw [hlen]; exact hi), mid_getD _ _ _ _ hi]
      rfl
    · rw [getD_right _ _ (by rw [hlen, Nat.succ_mul]; omega), hlen, show (j + 1) * n + i - n = j * n + i by rw [Nat.succ_mul]; omega, ih (y0 + 1) (fun j hj => by have := h (j + 1) (by omega); rwa [show y0 + 1 + j = y0 + (j + 1) by omega]) j i (by omega) hi, show y0 + 1 + j = y0 + (j + 1) by omega]
theorem crow_off {W H b y0 q j : Nat} (h : y0 + q ≤ H) (hj : j < q) {x0 n : Nat} (hx : x0 + n ≤ W) : (y0 + j) * W + x0 + n ≤ H * W := by
  have m : (y0 + j + 1) * W ≤ H * W := Nat.mul_le_mul_right W (by omega)
  rw [Nat.succ_mul] at m
  omega
theorem crows_mem (l : List S43) (W x0 y0 n k : Nat) {p : S43} (h : p ∈ buffer_Crop.rows l W x0 y0 n k) : p ∈ l := by
  unfold buffer_Crop.rows at h
  rw [List.mem_flatMap] at h
  obtain ⟨j, _, hj⟩ := h
  exact List.mem_of_mem_drop (List.mem_of_mem_take hj)
theorem crop_back (W H : Int) (l : List S43) (a b c d : Int) (h : VB W H l) (hi : IN W H a b c d) :
    VB (c - a) (d - b) (buffer_Crop.rows l W.toNat a.toNat b.toNat (c - a).toNat (d - b).toNat) ∧ (buffer_Crop.rows l W.toNat a.toNat b.toNat (c - a).toNat (d - b).toNat).length ≤ l.length ∧
      CM (fun _ s => s) W H l (c - a) (d - b) (buffer_Crop.rows l W.toNat a.toNat b.toNat (c - a).toNat (d - b).toNat) a b = (W, H, l, 0) := by
  have hpv := h.2.2.2
  have hv := h
  obtain ⟨w, n, rfl, rfl, aw, an, a1, a2, a3⟩ := VBn h
  obtain ⟨⟨i1, i2, i3⟩, i4, i5, i6⟩ := hi
  obtain ⟨a, rfl⟩ : ∃ j : Nat, a = j := ⟨a.toNat, by omega⟩
  obtain ⟨b, rfl⟩ : ∃ j : Nat, b = j := ⟨b.toNat, by omega⟩
  obtain ⟨p, rfl⟩ : ∃ j : Nat, c = ((a + j : Nat) : Int) := ⟨(c - a).toNat, by omega⟩
  obtain ⟨q, rfl⟩ : ∃ j : Nat, d = ((b + j : Nat) : Int) := ⟨(d - b).toNat, by omega⟩
  have e3 : ((a + p : Nat) : Int) - (a : Int) = (p : Int) := by omega
  have e4 : ((b + q : Nat) : Int) - (b : Int) = (q : Int) := by omega
  have hoff : ∀ j, j < q → (b + j) * w + a + p ≤ l.length := fun j hj => by rw [a3]; exact crow_off (b := 0) (by omega) hj (by omega)
  have hlen := crows_len l w a p q b hoff
  rw [e3, e4]
  simp only [Int.toNat_natCast]
  have hvb : VB (p : Int) (q : Int) (buffer_Crop.rows l w a b p q) := by
    refine ⟨by omega, by omega, ?_, fun x hx => hpv x (crows_mem _ _ _ _ _ _ hx)⟩
    rw [hlen, Nat.mul_comm, Int.natCast_mul]
  refine ⟨hvb, ?_, ?_⟩
  · rw [hlen, a3]
    exact Nat.mul_le_mul (by omega) (by omega)
  · unfold CM
    rw [if_pos ⟨hv, hvb⟩]
    simp only [Int.toNat_natCast]
    refine congrArg (fun z => ((w : Int), (n : Int), z, (0 : Int))) ?_
    refine ext_rows a1 (PUT_len _ _ _ _ _ _ _ _ _) a3 (fun r c hr hc => ?_)
    rw [PUT_getD _ _ _ _ _ _ _ _ _ hr hc, PX]
    split
    · rename_i hin
      obtain ⟨u, hu⟩ : ∃ u : Nat, (c : Int) - a = u := ⟨((c : Int) - a).toNat, by omega⟩
      obtain ⟨v, hv⟩ : ∃ u : Nat, (r : Int) - b = u := ⟨((r : Int) - b).toNat, by omega⟩
      rw [hu, hv, Int.toNat_natCast, Int.toNat_natCast, crows_getD l w a p q b hoff v u (by omega) (by omega)]
      rw [show b + v = r by omega, Nat.add_assoc, show a + u = c by omega]
    · rfl
theorem row_open (p : Nat → Bool) (w y : Nat) (l : List S47) (x : Nat) : (buffer_runs.row p w y l x).2 = (decide (0 < x) && p (y * w + x - 1)) := by
  cases x with
  | zero => rw [buffer_runs.row_zero]; rfl
  | succ x =>
    rw [buffer_runs.row_succ, buffer_runs.stp, show y * w + (x + 1) - 1 = y * w + x by omega]
    cases h : p (y * w + x) <;> simp
theorem row_len (p : Nat → Bool) (w y : Nat) (l : List S47) (x : Nat) : (buffer_runs.row p w y l x).1.length ≤ l.length + x ∧ ((buffer_runs.row p w y l x).2 = true → 0 < (buffer_runs.row p w y l x).1.length) := by
  induction x with
  | zero => rw [buffer_runs.row_zero]; exact ⟨Nat.le_refl _, fun h => by cases h⟩
  | succ x ih =>
    rw [buffer_runs.row_succ, buffer_runs.stp]
    cases h : p (y * w + x) with
    | false => simp only [Bool.false_eq_true, if_false]; exact ⟨by omega, fun h => by cases h⟩
    | true =>
      simp only [if_true, buffer_runs.upd_length]
      cases h2 : (buffer_runs.row p w y l x).2 with
      | true => simp only [if_true]; exact ⟨by omega, fun _ => ih.2 h2⟩
      | false => simp only [Bool.false_eq_true, if_false, List.length_append, List.length_cons, List.length_nil]; exact ⟨by omega, fun _ => by omega⟩
theorem all_len (p : Nat → Bool) (w : Nat) (y : Nat) : (buffer_runs.all p w y).length ≤ y * w := by
  induction y with
  | zero => simp [buffer_runs.all]
  | succ y ih =>
    rw [buffer_runs.all_succ, Nat.succ_mul]
    exact Nat.le_trans (row_len p w y _ w).1 (by omega)
theorem upd_snoc (l : List S47) (r : S47) (e : Int) : buffer_runs.upd (l ++ [r]) e = l ++ [⟨r.f0, r.f1, e, r.f3⟩] := by
  have h : (((l ++ [r]).length : Int) - 1).toNat = l.length := by simp
  have h2 : rd_T47 (l ++ [r]) (((l ++ [r]).length : Int) - 1) = r := by
    rw [rd_T47, h]
    simp
  rw [buffer_runs.upd, h2, h, List.set_append_right _ _ (Nat.le_refl _)]
  simp
theorem ridx {W H y x : Nat} (hW : W ≤ 256) (hH : H ≤ 256) (hy : y < H) (hx : x < W) : Aside0 (wrap64 (wrap64 ((y : Int) * (W : Int)) + (x : Int)) = ((y * W + x : Nat) : Int)) ∧ y * W + x < W * H ∧ W * H ≤ 65536 ∧ y * W + W ≤ W * H ∧ Aside0 (0 < x → wrap64 (((y * W + x : Nat) : Int) - 1) = ((y * W + x - 1 : Nat) : Int)) := by
  have m1 : (y + 1) * W ≤ H * W := Nat.mul_le_mul_right W hy
  have m2 : W * H ≤ 256 * 256 := Nat.mul_le_mul hW hH
  rw [Nat.mul_comm H W, Nat.succ_mul] at m1
  rw [← Int.natCast_mul]
  generalize y * W = q at *
  generalize W * H = r at *
  refine ⟨⟨?_⟩, by omega, by omega, by omega, ⟨fun h => ?_⟩⟩
  · rw [w64 (x := (q : Int)) (by omega) (by omega), w64 (by omega) (by omega)]; omega
  · rw [w64 (by omega) (by omega)]; omega
theorem rruns_l1 (p : Nat → Bool) (W H : Nat) (hW : W ≤ 256) (hH : H ≤ 256) (marked : List Bool) (hm : marked.length = W * H) (hp : ∀ i, i < W * H → rdOf false marked (i : Int) = p i) (y : Nat) (hy : y < H) (l : List S47) (hl : l.length ≤ y * W) (k : Nat) :
    ∀ d x, x + d = W → compositorref09_Runs.l1 (k + d + 1) W H marked (buffer_runs.row p W y l x).1 y x = compositorref09_Runs.l0 k W H marked (buffer_runs.row p W y l W).1 ((y + 1 : Nat) : Int) := by
  intro d
  induction d with
  | zero =>
    intro x hx
    obtain rfl : x = W := by omega
    rw [compositorref09_Runs.l1, if_neg (by omega), wnat (by omega)]
  | succ d ih =>
    intro x hx
    have ih' := Aside0.mk (ih (x + 1) (by omega))
    have hrow := buffer_runs.row_succ p W y l x
    have hopen := row_open p W y l x
    have hlen := row_len p W y l x
    have hpp := Aside0.mk hp
    clear hp ih
    obtain ⟨e1, n1, n2, n3, e3⟩ := ridx hW hH hy (show x < W by omega)
    have ex : Aside0 (wrap64 ((x : Int) + 1) = ((x + 1 : Nat) : Int)) := ⟨wnat (by omega)⟩
    have ey : Aside0 (wrap64 ((y : Int) + 1) = ((y + 1 : Nat) : Int)) := ⟨wnat (by omega)⟩
    rw [show k + (d + 1) + 1 = (k + d + 1) + 1 by omega, compositorref09_Runs.l1, e1.out, ex.out, if_pos (by omega)]
    rw [if_pos (show (0 : Int) ≤ ((y * W + x : Nat) : Int) by exact Int.natCast_nonneg _), if_pos (show ((y * W + x : Nat) : Int) < (marked.length : Int) by rw [hm]; exact Int.ofNat_lt.mpr n1), hpp.out _ n1]
    generalize hs : buffer_runs.row p W y l x = s at *
    obtain ⟨s1, s2⟩ := s
    simp only at hopen hlen hrow ⊢
    have ih2 := ih'.out
    rw [hrow, buffer_runs.stp] at ih2
    have ey2 : (y : Int) + 1 = ((y + 1 : Nat) : Int) := rfl
    have ex2 : (x : Int) + 1 = ((x + 1 : Nat) : Int) := rfl
    have hs1 : s1.length ≤ 70000 := by omega
    cases hq : p (y * W + x) with
    | false =>
      rw [hq] at ih2
      simp only [Bool.false_eq_true, if_false] at ih2 ⊢
      exact ih2
    | true =>
      rw [hq] at ih2
      simp only [if_true] at ih2 ⊢
      clear hs ih' hrow
      by_cases hx0 : 0 < x
      · rw [if_pos (show (x : Int) > 0 from Int.ofNat_lt.mpr hx0)]
        have n4 : y * W + x - 1 < W * H := Nat.lt_of_le_of_lt (Nat.sub_le _ _) n1
        rw [e3.out hx0, if_pos (show (0 : Int) ≤ ((y * W + x - 1 : Nat) : Int) from Int.natCast_nonneg _), if_pos (show ((y * W + x - 1 : Nat) : Int) < (marked.length : Int) by rw [hm]; exact Int.ofNat_lt.mpr n4), hpp.out _ n4]
        rw [decide_eq_true hx0, Bool.true_and] at hopen
        rw [← hopen]
        clear n1 n2 n3 n4 e3 e1 hpp hopen hq hm hl hy
        cases s2 with
        | true =>
          have hpos := hlen.2 rfl
          simp only [if_true] at ih2 ⊢
          have e4 : wrap64 ((s1.length : Int) - 1) = (s1.length : Int) - 1 := w64 (by omega) (by omega)
          rw [e4, if_pos (by omega), if_pos (by omega)]
          rw [ex2] at ih2
          exact ih2
        | false =>
          simp only [Bool.false_eq_true, if_false] at ih2 ⊢
          rw [upd_snoc] at ih2
          rw [if_pos (by omega), ey.out]
          rw [ey2, ex2] at ih2
          exact ih2
      · rw [if_neg (show ¬ (x : Int) > 0 by omega)]
        rw [decide_eq_false hx0, Bool.false_and] at hopen
        subst hopen
        simp only [Bool.false_eq_true, if_false] at ih2
        rw [upd_snoc] at ih2
        rw [if_pos (show s1.length < 4398046511104 by omega), ey.out]
        rw [ey2, ex2] at ih2
        exact ih2
theorem rruns_l0 (p : Nat → Bool) (W H : Nat) (hW : W ≤ 256) (hH : H ≤ 256) (marked : List Bool) (hm : marked.length = W * H) (hp : ∀ i, i < W * H → rdOf false marked (i : Int) = p i) :
    ∀ d y, y + d = H → ∀ k, d * (W + 2) + 1 ≤ k → compositorref09_Runs.l0 k W H marked (buffer_runs.all p W y) y = some (buffer_runs.all p W H) := by
  intro d
  induction d with
  | zero =>
    intro y hy k hk
    obtain ⟨k, rfl⟩ : ∃ j, k = j + 1 := ⟨k - 1, by omega⟩
    rw [compositorref09_Runs.l0, if_neg (by omega), show y = H by omega]
  | succ d ih =>
    intro y hy k hk
    rw [Nat.succ_mul] at hk
    obtain ⟨j, rfl⟩ : ∃ j, k = (j + W + 1) + 1 := ⟨k - W - 2, by omega⟩
    rw [compositorref09_Runs.l0, if_pos (by omega)]
    have q := rruns_l1 p W H hW hH marked hm hp y (by omega) (buffer_runs.all p W y) (all_len p W y) j W 0 (by omega)
    rw [buffer_runs.row_zero] at q
    rw [show ((0 : Nat) : Int) = 0 from rfl] at q
    rw [q, ← buffer_runs.all_succ]
    exact ih (y + 1) (by omega) j (by omega)
theorem rruns_eq (p : Nat → Bool) (W H : Nat) (hW : W ≤ 256) (hH : H ≤ 256) (marked : List Bool) (hm : marked.length = W * H) (hp : ∀ i, i < W * H → rdOf false marked (i : Int) = p i) (k : Nat) (hk : H * (W + 2) + 1 ≤ k) :
    compositorref09_Runs.f k W H marked = some (buffer_runs.all p W H) := by
  have q := rruns_l0 p W H hW hH marked hm hp H 0 (by omega) k hk
  exact q
def RU (p : Nat → Bool) (W H : Nat) : List S47 × Int := if (buffer_runs.all p W H).length > 256 then ([], 5) else (buffer_runs.all p W H, 0)
theorem marks_rd (p : Nat → Bool) (n i : Nat) (h : i < n) : rdOf false ((List.range n).map p) (i : Int) = p i := by
  simp [rdOf, List.getD_eq_getElem?_getD, h]
theorem rdiff_l0 (W H : Nat) (a b : List S43) (hW : W ≤ 256) (hH : H ≤ 256) (ha : a.length = W * H) (hb : b.length = W * H) :
    ∀ d i, i + d = W * H → ∀ k, d + 2 + H * (W + 2) ≤ k → compositorref09_Diff.l0 k ((List.range i).map (buffer_Diff.mk a b)) i W H a W H b = some (RU (buffer_Diff.mk a b) W H) := by
  have m2 : W * H ≤ 256 * 256 := Nat.mul_le_mul hW hH
  intro d
  induction d with
  | zero =>
    intro i hi k hk
    obtain ⟨k, rfl⟩ : ∃ j, k = j + 1 := ⟨k - 1, by omega⟩
    obtain rfl : i = W * H := by omega
    rw [compositorref09_Diff.l0, if_neg (by omega)]
    rw [rruns_eq (buffer_Diff.mk a b) W H hW hH _ (by simp) (fun i hi => marks_rd _ _ _ hi) k (by omega), Option.bind_some, RU]
    by_cases hq : (buffer_runs.all (buffer_Diff.mk a b) W H).length > 256
    · rw [if_pos hq, if_pos (by omega)]
    · rw [if_neg hq, if_neg (by omega)]
  | succ d ih =>
    intro i hi k hk
    obtain ⟨k, rfl⟩ : ∃ j, k = j + 1 := ⟨k - 1, by omega⟩
    rw [compositorref09_Diff.l0, if_pos (by omega), if_pos (by omega), if_pos (by omega), if_pos (by simp; omega), wnat (by omega)]
    have q := ih (i + 1) (by omega) k (by omega)
    rw [List.range_succ, List.map_append] at q
    exact q
noncomputable def DF (W H : Int) (a : List S43) (W' H' : Int) (b : List S43) : List S47 × Int := if VB W H a ∧ VB W' H' b then (if W = W' ∧ H = H' then RU (buffer_Diff.mk a b) W.toNat H.toNat else ([], 2)) else ([], 15)
theorem diff_eq (W H : Int) (a : List S43) (W' H' : Int) (b : List S43) : buffer_Diff.f W H a W' H' b = some (DF W H a W' H' b) := by
  simp only [buffer_Diff.f, bvalid_eq, Option.bind_some, decide_eq_true_eq, DF]
  by_cases h1 : VB W H a
  · rw [if_pos h1]
    by_cases h2 : VB W' H' b
    · rw [if_pos h2, if_pos (show VB W H a ∧ VB W' H' b from ⟨h1, h2⟩)]
      by_cases h3 : W = W' ∧ H = H'
      · rw [if_pos h3, if_pos h3, RU]
        by_cases hq : (buffer_runs.all (buffer_Diff.mk a b) W.toNat H.toNat).length > 256
        · rw [if_pos hq, if_pos hq, if_pos hq]
        · rw [if_neg hq, if_neg hq, if_neg hq]
      · rw [if_neg h3, if_neg h3]
    · rw [if_neg h2, if_neg (show ¬ (VB W H a ∧ VB W' H' b) from fun h => h2 h.2)]
  · rw [if_neg h1, if_neg (show ¬ (VB W H a ∧ VB W' H' b) from fun h => h1 h.1)]
theorem VB_nat {W H : Int} {a : List S43} (h : VB W H a) : ∃ w n : Nat, W = w ∧ H = n ∧ w ≤ 256 ∧ n ≤ 256 ∧ 1 ≤ w ∧ 1 ≤ n ∧ a.length = w * n := by
  obtain ⟨h1, h2, h3, _⟩ := h
  obtain ⟨w, rfl⟩ : ∃ w : Nat, W = w := ⟨W.toNat, by omega⟩
  obtain ⟨n, rfl⟩ : ∃ n : Nat, H = n := ⟨H.toNat, by omega⟩
  refine ⟨w, n, rfl, rfl, by omega, by omega, by omega, by omega, ?_⟩
  rw [← Int.natCast_mul] at h3
  exact Int.ofNat.inj h3
theorem rdiff_eq (W H : Int) (a : List S43) (W' H' : Int) (b : List S43) (ha : a.length ≤ 600) (hb : b.length ≤ 600) (k : Nat) (hk : 70000 ≤ k) : compositorref09_Diff.f k W H a W' H' b = some (DF W H a W' H' b) := by
  obtain ⟨k, rfl⟩ : ∃ j, k = j + 2 := ⟨k - 2, by omega⟩
  simp only [compositorref09_Diff.f, rvalid_eq W H a (by omega) (k + 2) (by omega), rvalid_eq W' H' b (by omega) (k + 2) (by omega), Option.bind_some, decide_eq_true_eq, DF, compositorref09_Diff.j0, compositorref09_Diff.j1, if_true]
  by_cases h1 : VB W H a
  · rw [if_pos h1]
    by_cases h2 : VB W' H' b
    · rw [if_neg (show ¬ (!decide (VB W' H' b)) = true by simp [h2]), if_pos (show VB W H a ∧ VB W' H' b from ⟨h1, h2⟩)]
      by_cases h3 : W = W'
      · rw [if_pos h3]
        by_cases h4 : H = H'
        · rw [if_neg (show ¬ (H != H') = true by simp [h4]), if_pos (show W = W' ∧ H = H' from ⟨h3, h4⟩)]
          subst h3 h4
          obtain ⟨w, n, rfl, rfl, hw, hn, _, _, hl⟩ := VB_nat h1
          have hl2 : b.length = w * n := by
            have := h2.2.2.1
            rw [← Int.natCast_mul] at this
            exact Int.ofNat.inj this
          have hm : n * (w + 2) ≤ 256 * 258 := Nat.mul_le_mul hn (by omega)
          exact rdiff_l0 w n a b hw hn hl hl2 (w * n) 0 (by omega) k (by omega)
        · rw [if_pos (show (H != H') = true by simp [h4]), if_neg (show ¬ (W = W' ∧ H = H') from fun h => h4 h.2)]
      · rw [if_neg h3, if_neg (show ¬ (W = W' ∧ H = H') from fun h => h3 h.1)]
    · rw [if_pos (show (!decide (VB W' H' b)) = true by simp [h2]), if_neg (show ¬ (VB W H a ∧ VB W' H' b) from fun h => h2 h.2)]
  · rw [if_neg h1, if_neg (show ¬ (VB W H a ∧ VB W' H' b) from fun h => h1 h.1)]
def Run (p : Nat → Bool) (W H : Nat) (r : S47) : Prop := ∃ y x0 x1 : Nat, y < H ∧ x0 < x1 ∧ x1 ≤ W ∧ r = ⟨x0, y, x1, (y : Int) + 1⟩ ∧ ∀ x, x0 ≤ x → x < x1 → p (y * W + x) = true
def Hit (r : S47) (y x : Nat) : Prop := r.f1 = (y : Int) ∧ r.f0 ≤ (x : Int) ∧ (x : Int) < r.f2
def RowI (p : Nat → Bool) (W H y : Nat) (l : List S47) (x : Nat) (s : List S47 × Bool) : Prop :=
  (∀ r ∈ s.1, Run p W H r) ∧ (∀ v u, (∃ r ∈ l, Hit r v u) → ∃ r ∈ s.1, Hit r v u) ∧ (∀ u, u < x → p (y * W + u) = true → ∃ r ∈ s.1, Hit r y u) ∧
    (s.2 = true → ∃ (l' : List S47) (x0 : Nat), x0 < x ∧ s.1 = l' ++ [⟨x0, y, x, (y : Int) + 1⟩] ∧ ∀ u, x0 ≤ u → u < x → p (y * W + u) = true)
theorem row_step (p : Nat → Bool) (W H y : Nat) (hy : y < H) (l : List S47) (x : Nat) (hx : x < W) (s : List S47 × Bool) (h : RowI p W H y l x s) : RowI p W H y l (x + 1) (buffer_runs.stp p W y s x) := by
  obtain ⟨h1, h2, h3, h4⟩ := h
  unfold buffer_runs.stp
  by_cases hp : p (y * W + x) = true
  · rw [if_pos hp]
    have key : ∃ (l' : List S47) (x0 : Nat), x0 ≤ x ∧ buffer_runs.upd (if s.2 = true then s.1 else s.1 ++ [⟨x, y, x, (y : Int) + 1⟩]) ((x : Int) + 1) = l' ++ [⟨x0, y, ((x + 1 : Nat) : Int), (y : Int) + 1⟩] ∧ (∀ u, x0 ≤ u → u < x + 1 → p (y * W + u) = true) ∧ (∀ r ∈ l', Run p W H r) ∧ (∀ v u, (∃ r ∈ s.1, Hit r v u) → (∃ r ∈ l', Hit r v u) ∨ (v = y ∧ x0 ≤ u ∧ u < x)) := by
      by_cases ho : s.2 = true
      · obtain ⟨l', x0, g1, g2, g3⟩ := h4 ho
        refine ⟨l', x0, by omega, ?_, ?_, ?_, ?_⟩
        · rw [if_pos ho, g2, upd_snoc]
          rfl
        · intro u hu hu2
          by_cases e : u = x
          · rw [e]; exact hp
          · exact g3 u hu (by omega)
        · intro r hr
          exact h1 r (by rw [g2]; exact List.mem_append_left _ hr)
        · rintro v u ⟨r, hr, hh⟩
          rw [g2, List.mem_append, List.mem_singleton] at hr
          rcases hr with hr | hr
          · exact Or.inl ⟨r, hr, hh⟩
          · subst hr
            obtain ⟨q1, q2, q3⟩ := hh
            dsimp only at q1 q2 q3
            exact Or.inr (by omega)
      · refine ⟨s.1, x, Nat.le_refl _, ?_, ?_, h1, fun v u h => Or.inl h⟩
        · rw [if_neg ho, upd_snoc]
          rfl
        · intro u hu hu2
          rw [show u = x by omega]
          exact hp
    obtain ⟨l', x0, k0, k1, k2, k3, k4⟩ := key
    have hnew : ∀ v u, (∃ r ∈ s.1, Hit r v u) → ∃ r ∈ l' ++ [(⟨x0, y, ((x + 1 : Nat) : Int), (y : Int) + 1⟩ : S47)], Hit r v u := by
      intro v u hh
      rcases k4 v u hh with ⟨r, hr, hh⟩ | ⟨e, e1, e2⟩
      · exact ⟨r, List.mem_append_left _ hr, hh⟩
      · refine ⟨_, List.mem_append_right _ (List.mem_singleton.mpr rfl), ?_⟩
        refine ⟨?_, ?_, ?_⟩ <;> dsimp only <;> omega
    rw [k1]
    refine ⟨?_, ?_, ?_, ?_⟩
    · intro r hr
      rw [List.mem_append, List.mem_singleton] at hr
      rcases hr with hr | hr
      · exact k3 r hr
      · exact ⟨y, x0, x + 1, hy, by omega, by omega, hr, k2⟩
    · intro v u hh
      exact hnew v u (h2 v u hh)
    · intro u hu hpu
      by_cases e : u = x
      · refine ⟨_, List.mem_append_right _ (List.mem_singleton.mpr rfl), ?_⟩
        refine ⟨?_, ?_, ?_⟩ <;> dsimp only <;> omega
      · exact hnew y u (h3 u (by omega) hpu)
    · intro _
      exact ⟨l', x0, by omega, rfl, k2⟩
  · rw [if_neg hp]
    refine ⟨h1, h2, ?_, ?_⟩
    · intro u hu hpu
      by_cases e : u = x
      · rw [e] at hpu; exact absurd hpu hp
      · exact h3 u (by omega) hpu
    · intro hf
      exact absurd hf Bool.false_ne_true
theorem row_inv (p : Nat → Bool) (W H y : Nat) (hy : y < H) (l : List S47) (hl : ∀ r ∈ l, Run p W H r) : ∀ x, x ≤ W → RowI p W H y l x (buffer_runs.row p W y l x) := by
  intro x
  induction x with
  | zero =>
    intro _
    exact ⟨hl, fun _ _ h => h, fun u hu => absurd hu (Nat.not_lt_zero _), fun h => absurd h Bool.false_ne_true⟩
  | succ x ih =>
    intro hx
    have q := row_step p W H y hy l x (by omega) _ (ih (by omega))
    unfold buffer_runs.row at q ⊢
    rw [List.range_succ, List.foldl_append]
    exact q
theorem runs_inv (p : Nat → Bool) (W H : Nat) : ∀ n, n ≤ H → (∀ r ∈ buffer_runs.all p W n, Run p W H r) ∧ ∀ v u, v < n → u < W → p (v * W + u) = true → ∃ r ∈ buffer_runs.all p W n, Hit r v u := by
  intro n
  induction n with
  | zero =>
    intro _
    exact ⟨fun r hr => absurd hr (by unfold buffer_runs.all; exact List.not_mem_nil), fun v u hv => absurd hv (Nat.not_lt_zero _)⟩
  | succ n ih =>
    intro hn
    obtain ⟨i1, i2⟩ := ih (by omega)
    obtain ⟨q1, q2, q3, _⟩ := row_inv p W H n (by omega) (buffer_runs.all p W n) i1 W (Nat.le_refl _)
    have e : buffer_runs.all p W (n + 1) = (buffer_runs.row p W n (buffer_runs.all p W n) W).1 := by
      unfold buffer_runs.all
      rw [List.range_succ, List.foldl_append]
      rfl
    rw [e]
    refine ⟨q1, fun v u hv hu hp => ?_⟩
    by_cases ev : v = n
    · rw [ev] at hp ⊢
      exact q3 u hu hp
    · exact q2 v u (i2 v u (by omega) hu hp)
theorem getD_mem2 {l : List S43} {i : Nat} (h : i < l.length) : l.getD i z43 ∈ l := by
  rw [List.getD_eq_getElem?_getD, List.getElem?_eq_getElem h]
  exact List.getElem_mem h
theorem rdT (l : List S43) (i : Nat) : rd_T43 l (i : Int) = l.getD i z43 := by
  unfold rd_T43
  rw [Int.toNat_natCast]
theorem rd7 (l : List S47) {i : Nat} (h : i < l.length) : rd_T47 l (i : Int) = l[i] := by
  unfold rd_T47
  rw [Int.toNat_natCast, List.getD_eq_getElem?_getD, List.getElem?_eq_getElem h]
  rfl
theorem mk_ne {a b : List S43} {i : Nat} (h : buffer_Diff.mk a b i = true) : a.getD i z43 ≠ b.getD i z43 := by
  have q := (pne _ _).mp h
  rwa [rdT, rdT] at q
theorem mk_eq {a b : List S43} {i : Nat} (h : ¬ buffer_Diff.mk a b i = true) : a.getD i z43 = b.getD i z43 := by
  refine Classical.byContradiction fun hn => h ?_
  refine (pne _ _).mpr ?_
  rwa [rdT, rdT]
theorem s43_ne {a b : S43} (h : a ≠ b) : ¬ (a.f0 == b.f0 && (a.f1 == b.f1 && (a.f2 == b.f2 && (a.f3 == b.f3)))) = true := by
  intro hc
  simp only [Bool.and_eq_true, beq_iff_eq] at hc
  obtain ⟨h0, h1, h2, h3⟩ := hc
  refine h ?_
  cases a
  cases b
  simp only at h0 h1 h2 h3
  rw [h0, h1, h2, h3]
def Mid (W H : Nat) (a b c : List S43) (rs : List S47) (i : Nat) : Prop :=
  c.length = H * W ∧ ∀ v u, v < H → u < W → c.getD (v * W + u) z43 = b.getD (v * W + u) z43 ∨ (c.getD (v * W + u) z43 = a.getD (v * W + u) z43 ∧ ∀ j, j < i → ∀ hj : j < rs.length, ¬ Hit rs[j] v u)
theorem mid_vb {W H : Nat} {a b c : List S43} {rs : List S47} {i : Nat} (hA : VB W H a) (hB : VB W H b) (ha : a.length = H * W) (hb : b.length = H * W) (h : Mid W H a b c rs i) (hW : 0 < W) : VB W H c := by
  obtain ⟨h1, h2⟩ := h
  refine ⟨hA.1, hA.2.1, by rw [h1, Nat.mul_comm, Int.natCast_mul], fun p hp => ?_⟩
  obtain ⟨i, hi, rfl⟩ := List.getElem_of_mem hp
  have e1 : i / W < H := by rw [Nat.div_lt_iff_lt_mul hW]; omega
  have e2 : i % W < W := Nat.mod_lt _ hW
  have e3 : i / W * W + i % W = i := by rw [Nat.mul_comm]; exact Nat.div_add_mod i W
  have q := h2 (i / W) (i % W) e1 e2
  rw [e3] at q
  have ec : c.getD i z43 = c[i] := by rw [List.getD_eq_getElem?_getD, List.getElem?_eq_getElem hi]; rfl
  rw [ec] at q
  rcases q with q | ⟨q, _⟩
  · rw [q]; exact hB.2.2.2 _ (getD_mem2 (by omega))
  · rw [q]; exact hA.2.2.2 _ (getD_mem2 (by omega))
theorem diff_l1 (W H : Nat) (a b c : List S43) (hW : 0 < W ∧ W ≤ 256) (hH : 0 < H ∧ H ≤ 256) (ha : a.length = H * W) (hb : b.length = H * W) (rs : List S47) (i : Int) (y : Nat) (hy : y < H) (x1 : Nat) (hx1 : x1 ≤ W) (C1 C2 r0 r3 : Int) :
    ∀ d x, x + d = x1 → (∀ u, x ≤ u → u < x1 → buffer_Diff.mk a b (y * W + u) = true) → ∀ k, compositorlaw09_BufferDiff.l1 (k + d) rs i (x : Int) W H a W H b C1 C2 c r0 (y : Int) (x1 : Int) r3 = compositorlaw09_BufferDiff.l1 k rs i (x1 : Int) W H a W H b C1 C2 c r0 (y : Int) (x1 : Int) r3 := by
  intro d
  induction d with
  | zero =>
    intro x hx _ k
    rw [show x = x1 by omega]
    rfl
  | succ d ih =>
    intro x hx hp k
    have hxW : x < W := by omega
    rw [show k + (d + 1) = (k + d) + 1 by omega, compositorlaw09_BufferDiff.l1, if_pos (by omega), rat_eq, Option.bind_some, rat_eq, Option.bind_some, AT_in hW hH ha hy hxW, AT_in hW hH hb hy hxW, if_neg (s43_ne (mk_ne (hp x (Nat.le_refl _) (by omega)))), wnat (by omega), ih (x + 1) (by omega) (fun u h1 h2 => hp u (by omega) h2) k]
theorem one_run (W H : Nat) (b c : List S43) (hB : VB W H b) (hC : VB W H c) (hb : b.length = H * W) (hW : 0 < W) {y x0 x1 : Nat} (hy : y < H) (hx : x0 < x1) (hx1 : x1 ≤ W) :
    ∃ c' : List S43, CM (fun _ s => s) W H c (CR W H b x0 y x1 ((y : Int) + 1)).1 (CR W H b x0 y x1 ((y : Int) + 1)).2.1 (CR W H b x0 y x1 ((y : Int) + 1)).2.2.1 x0 y = ((W : Int), (H : Int), c', (0 : Int)) ∧ (CR W H b x0 y x1 ((y : Int) + 1)).2.2.2 = 0 ∧ c'.length = H * W ∧
      ∀ v u, v < H → u < W → c'.getD (v * W + u) z43 = if v = y ∧ x0 ≤ u ∧ u < x1 then b.getD (v * W + u) z43 else c.getD (v * W + u) z43 := by
  have hin : IN W H x0 y x1 ((y : Int) + 1) := by unfold IN; omega
  have hvb := (crop_back _ _ _ _ _ _ _ hB hin).1
  have hcr : CR W H b x0 y x1 ((y : Int) + 1) = ((x1 : Int) - x0, (y : Int) + 1 - y, buffer_Crop.rows b W x0 y (x1 - x0) 1, 0) := by
    unfold CR
    rw [if_pos hB, if_pos hin]
    simp only [Int.toNat_natCast]
    rw [show ((x1 : Int) - (x0 : Int)).toNat = x1 - x0 by omega, show ((y : Int) + 1 - (y : Int)).toNat = 1 by omega]
  simp only [Int.toNat_natCast] at hvb
  rw [show ((x1 : Int) - (x0 : Int)).toNat = x1 - x0 by omega, show ((y : Int) + 1 - (y : Int)).toNat = 1 by omega] at hvb
  rw [hcr]
  refine ⟨PUT (fun _ s => s) W H c (x1 - x0) 1 (buffer_Crop.rows b W x0 y (x1 - x0) 1) x0 y, ?_, rfl, PUT_len _ _ _ _ _ _ _ _ _, fun v u hv hu => ?_⟩
  · unfold CM
    rw [if_pos ⟨hC, hvb⟩]
    simp only [Int.toNat_natCast]
    rw [show ((x1 : Int) - (x0 : Int)).toNat = x1 - x0 by omega, show ((y : Int) + 1 - (y : Int)).toNat = 1 by omega]
  · rw [PUT_getD _ _ _ _ _ _ _ _ _ hv hu, PX]
    by_cases h : v = y ∧ x0 ≤ u ∧ u < x1
    · rw [if_pos h, if_pos (by omega)]
      obtain ⟨rfl, h1, h2⟩ := h
      have hoff : ∀ j, j < 1 → (v + j) * W + x0 + (x1 - x0) ≤ b.length := fun j hj => by rw [hb]; exact crow_off (b := 0) (q := 1) (by omega) hj (by omega)
      have q := crows_getD b W x0 (x1 - x0) 1 v hoff 0 (u - x0) (by omega) (by omega)
      rw [show ((v : Int) - (v : Int)).toNat = 0 by omega, show ((u : Int) - (x0 : Int)).toNat = u - x0 by omega, q, Nat.add_zero, Nat.add_assoc, show x0 + (u - x0) = u by omega]
    · rw [if_neg h, if_neg (by omega)]
theorem diff_l0 (W H : Nat) (a b : List S43) (hW : 0 < W ∧ W ≤ 256) (hH : 0 < H ∧ H ≤ 256) (hA : VB W H a) (hB : VB W H b) (ha : a.length = H * W) (hb : b.length = H * W) (hsm : b.length ≤ 400) (rs : List S47) (hn : rs.length ≤ 256) (hr : ∀ r ∈ rs, Run (buffer_Diff.mk a b) W H r) (hc : ∀ v u, v < H → u < W → buffer_Diff.mk a b (v * W + u) = true → ∃ r ∈ rs, Hit r v u) :
    ∀ d i, i + d = rs.length → ∀ c, Mid W H a b c rs i → ∀ k, 300 * d + 1000 ≤ k → compositorlaw09_BufferDiff.l0 k rs (i : Int) W H a W H b W H c = some true := by
  intro d
  induction d with
  | zero =>
    intro i hi c hM k hk
    obtain ⟨k, rfl⟩ : ∃ j, k = j + 1 := ⟨k - 1, by omega⟩
    have hcb : c = b := by
      refine ext_rows hW.1 hM.1 hb (fun v u hv hu => ?_)
      rcases hM.2 v u hv hu with h | ⟨h, hno⟩
      · exact h
      · rw [h]
        refine mk_eq (fun hp => ?_)
        obtain ⟨r, hr, hh⟩ := hc v u hv hu hp
        obtain ⟨j, hj, rfl⟩ := List.getElem_of_mem hr
        exact hno j (by omega) hj hh
    rw [compositorlaw09_BufferDiff.l0, if_neg (by omega), hcb, requal_refl _ _ b (by omega) k (by omega), Option.bind_some, if_pos rfl, example_holds k (by omega)]
    rfl
  | succ d ih =>
    intro i hi c hM k hk
    have hil : i < rs.length := by omega
    obtain ⟨y, x0, x1, hy, hx, hx1, hrr, hpp⟩ := hr rs[i] (List.getElem_mem hil)
    obtain ⟨k, rfl⟩ : ∃ j, k = j + 1 + (x1 - x0) + 1 + 1 := ⟨k - (x1 - x0) - 3, by omega⟩
    have hk' : 300 * d + 1000 ≤ k := by omega
    have hC := mid_vb hA hB ha hb hM hW.1
    obtain ⟨c', e1, e2, e3, e4⟩ := one_run W H b c hB hC hb hW.1 hy hx hx1
    have hw1 : Aside0 (wrap64 ((y : Int) + 1) = (y : Int) + 1) := ⟨by unfold wrap64; omega⟩
    have hwi : Aside0 (wrap64 ((i : Int) + 1) = ((i + 1 : Nat) : Int)) := ⟨wnat (by omega)⟩
    have hM' : Mid W H a b c' rs (i + 1) := by
      refine ⟨e3, fun v u hv hu => ?_⟩
      rw [e4 v u hv hu]
      by_cases h : v = y ∧ x0 ≤ u ∧ u < x1
      · rw [if_pos h]; exact Or.inl rfl
      · rw [if_neg h]
        rcases hM.2 v u hv hu with q | ⟨q, hno⟩
        · exact Or.inl q
        · refine Or.inr ⟨q, fun j hj hjl hh => ?_⟩
          by_cases ej : j = i
          · subst ej
            rw [hrr] at hh
            obtain ⟨q1, q2, q3⟩ := hh
            dsimp only at q1 q2 q3
            omega
          · exact hno j (by omega) hjl hh
    rw [compositorlaw09_BufferDiff.l0, if_pos (by omega), if_pos (by omega), rd7 rs hil, hrr]
    dsimp only
    rw [hw1.out, if_pos rfl, if_neg (by omega), if_neg (by omega), if_neg (by omega), decide_eq_false (by omega), compositorlaw09_BufferDiff.j2, if_neg (by decide), diff_l1 W H a b c hW hH ha hb rs _ y hy x1 hx1 _ _ _ _ (x1 - x0) x0 (by omega) hpp, compositorlaw09_BufferDiff.l1, if_neg (by omega), crop_eq, Option.bind_some, paste_eq, Option.bind_some, e1, e2, if_pos rfl, if_pos rfl, hwi.out]
    exact ih (i + 1) (by omega) c' hM' k hk'
theorem difflaw (W H : Int) (a : List S43) (W' H' : Int) (b : List S43) : compositorlaw09_BufferDiff.f 200010 W H a W' H' b = some true := by
  have ex : ∀ z : Bool, z = true → compositorlaw09_BufferDiff.j0 200010 z W H a W' H' b = some true := by
    intro z hz
    rw [compositorlaw09_BufferDiff.j0, if_pos hz, example_holds 200009 (by omega)]
    rfl
  unfold compositorlaw09_BufferDiff.f
  rw [small_eq, small_eq, Option.bind_some, Option.bind_some]
  by_cases h1 : (a.length : Int) ≤ 400
  · rw [if_pos (decide_eq_true h1)]
    by_cases h2 : (b.length : Int) ≤ 400
    · rw [decide_eq_true h2, compositorlaw09_BufferDiff.j0, if_neg (by decide), diff_eq, Option.bind_some]
      have bad : ∀ e : Int, e ≠ 0 → DF W H a W' H' b = ([], e) → (if (DF W H a W' H' b).2 = 0 then (compositorlaw09_clone.f W H a).bind fun bt487 => (compositorlaw09_BufferDiff.l0 200009 (DF W H a W' H' b).1 0 W H a W' H' b bt487.1 bt487.2.1 bt487.2.2) else ((compositorref09_Diff.f 200009 W H a W' H' b).bind fun bt482 => (if (DF W H a W' H' b).2 = bt482.2 then (if (bt482.1.length : Int) = 0 then (if ((DF W H a W' H' b).1.length : Int) = 0 then ((compositorlaw09_exampleHolds.f 200009).bind fun t486 => (some t486)) else (some false)) else (some false)) else (some false)))) = some true := by
        intro e he hd
        rw [rdiff_eq W H a W' H' b (by omega) (by omega) 200009 (by omega), Option.bind_some, hd, if_neg he, if_pos rfl]
        simp only [List.length_nil, example_holds 200009 (by omega), Option.bind_some]
        rfl
      by_cases h3 : VB W H a ∧ VB W' H' b
      · by_cases h4 : W = W' ∧ H = H'
        · obtain ⟨rfl, rfl⟩ := h4
          obtain ⟨hA, hB⟩ := h3
          have hdf : DF W H a W H b = RU (buffer_Diff.mk a b) W.toNat H.toNat := by
            unfold DF
            rw [if_pos ⟨hA, hB⟩, if_pos ⟨rfl, rfl⟩]
          by_cases h5 : (buffer_runs.all (buffer_Diff.mk a b) W.toNat H.toNat).length > 256
          · exact bad 5 (by decide) (by rw [hdf, RU, if_pos h5])
          · have hd2 : DF W H a W H b = (buffer_runs.all (buffer_Diff.mk a b) W.toNat H.toNat, 0) := by rw [hdf, RU, if_neg h5]
            rw [hd2, if_pos rfl]
            have hc0 : compositorlaw09_clone.f W H a = some (W, H, a) := by
              simp only [compositorlaw09_clone.f, Option.bind_some, List.length_nil, Nat.zero_add, List.nil_append]
              rw [if_pos (by omega)]
            rw [hc0, Option.bind_some]
            have hB0 := VBn hB
            obtain ⟨w, n, rfl, rfl, aw, an, a1, a2, a3⟩ := VBn hA
            obtain ⟨w', n', ew, en, _, _, _, _, b3⟩ := hB0
            have ew' : w = w' := by omega
            have en' : n = n' := by omega
            subst ew' en'
            simp only [Int.toNat_natCast] at h5 ⊢
            have hinv := runs_inv (buffer_Diff.mk a b) w n n (Nat.le_refl _)
            exact diff_l0 w n a b ⟨a1, aw⟩ ⟨a2, an⟩ hA hB a3 b3 (by omega) _ (by omega) hinv.1 hinv.2 _ 0 (Nat.zero_add _) a ⟨a3, fun v u _ _ => Or.inr ⟨rfl, fun j hj => absurd hj (Nat.not_lt_zero _)⟩⟩ 200009 (by omega)
        · exact bad 2 (by decide) (by unfold DF; rw [if_pos h3, if_neg h4])
      · exact bad 15 (by decide) (by unfold DF; rw [if_neg h3])
    · rw [decide_eq_false h2]
      exact ex _ rfl
  · rw [if_neg (by rw [decide_eq_false h1]; decide)]
    exact ex _ rfl
theorem BufferDiff (x0 : S27) (x1 : S27) (ok0 : ((Lit.int .i64 x0.f0).wf = true) ∧ ((Lit.int .i64 x0.f1).wf = true) ∧ (x0.f2.length * 4 ≤ 140737488351232 ∧ x0.f2.length ≤ 9223372036854775807 ∧ ∀ y25 ∈ x0.f2, ((Lit.int .u8 y25.f0).wf = true) ∧ ((Lit.int .u8 y25.f1).wf = true) ∧ ((Lit.int .u8 y25.f2).wf = true) ∧ ((Lit.int .u8 y25.f3).wf = true))) (ok1 : ((Lit.int .i64 x1.f0).wf = true) ∧ ((Lit.int .i64 x1.f1).wf = true) ∧ (x1.f2.length * 4 ≤ 140737488351232 ∧ x1.f2.length ≤ 9223372036854775807 ∧ ∀ y25 ∈ x1.f2, ((Lit.int .u8 y25.f0).wf = true) ∧ ((Lit.int .u8 y25.f1).wf = true) ∧ ((Lit.int .u8 y25.f2).wf = true) ∧ ((Lit.int .u8 y25.f3).wf = true))) :
    ∃ k, compositorlaw09_BufferDiff.f k x0.f0 x0.f1 x0.f2 x1.f0 x1.f1 x1.f2 = some true := by
  exact ⟨200010, difflaw _ _ _ _ _ _⟩
end Go.Proofs.Ytmockeaiccpogaa.Pure
end
section
namespace Go.Proofs.YtmockeaiccpogaaOpens
open Go.ChangeShapes Go.WideShapes Go.RowKit Go.Proofs.YtmockeaiccpogaaW.PrintWords
section
variable {H : Type} {enc : TypeId × Value → H} {P : Program} {W : World}
def Opens {α : Type} (enc : TypeId × Value → H) (P : Program) (W : World) (t : TypeId) (d : Kd α) (ok : α → Prop) : Prop :=
  ∀ fuel cs y, DataW.trod enc P W 0 (fun _ => true) true fuel t cs = some y → (∀ n ∈ y.1.weights P t, n ≤ reachBytes) → ∃ x, d.K W x cs ∧ ok x
theorem opens_int {t : TypeId} {k : IntKind} (ht : P.underlying t = some (.int k)) : Opens enc P W t (Kd.int k) (fun x => (Lit.int k x).wf = true) := by
  intro fuel cs y h _
  obtain ⟨n, rfl, _, hw⟩ := DataW.trod_int ht h
  exact ⟨n, rfl, hw⟩
theorem weightsAll_mem {e : TypeId} : ∀ {l : List (DataW H)} {d : DataW H}, d ∈ l → ∀ n ∈ d.weights P e, n ∈ DataW.weightsAll P e l
  | d0 :: r, d, hd, n, hn => by
    simp only [DataW.weightsAll, List.mem_append]
    rcases List.mem_cons.1 hd with rfl | hd
    · exact .inl hn
    · exact .inr (weightsAll_mem hd n hn)
theorem choose_list {α : Type} (n : Nat) (R : Nat → α → Prop) (h : ∀ i, i < n → ∃ x, R i x) : ∃ l : List α, l.length = n ∧ ∀ i x, l[i]? = some x → R i x := by
  induction n with
  | zero => exact ⟨[], rfl, fun i x hx => by simp at hx⟩
  | succ n ih =>
    obtain ⟨l, hl, hr⟩ := ih (fun i hi => h i (by omega))
    obtain ⟨x, hx⟩ := h n (by omega)
    refine ⟨l ++ [x], by simp [hl], fun i y hy => ?_⟩
    rcases Nat.lt_or_ge i l.length with hi | hi
    · rw [List.getElem?_append_left hi] at hy
      exact hr i y hy
    · rw [List.getElem?_append_right hi] at hy
      obtain ⟨hi2, rfl⟩ : i - l.length = 0 ∧ x = y := by
        rcases Nat.eq_zero_or_pos (i - l.length) with h0 | h0
        · rw [h0] at hy; simp at hy; exact ⟨h0, hy⟩
        · rw [List.getElem?_eq_none (by simp; omega)] at hy; cases hy
      have : i = n := by omega
      subst this
      exact hx
theorem opens_slice {α : Type} {t e : TypeId} {d : Kd α} {ok : α → Prop} {B : Nat} (ht : P.underlying t = some (.slice e)) (hc : P.cellsOf e = d.sz) (hB : P.bytesOf e = B) (he : Opens enc P W e d ok) :
    Opens enc P W t (Kd.slice e d) (fun l => l.length * B ≤ 140737488351232 ∧ l.length ≤ 9223372036854775807 ∧ ∀ x ∈ l, ok x) := by
  intro fuel cs y h hz
  rcases DataW.trod_slice ht h with ⟨rfl, _⟩ | ⟨a, len, cap, elems, rest, n, _, rfl, rfl, _, hl, hm, hlen, hel, _, _⟩
  · exact ⟨[], ⟨none, 0, rfl, by simp, rfl, by simp, fun h0 => absurd h0 (by simp)⟩, by simp, by simp, by simp⟩
  · have hw : ∀ n ∈ (((elems.map (·.1)).length + (rest.map (·.1)).length) * P.bytesOf e) :: (DataW.weightsAll P e (elems.map (·.1)) ++ DataW.weightsAll P e (rest.map (·.1))), n ≤ reachBytes := by
      intro m hm'
      refine hz m ?_
      simp only [DataW.weights, ht]
      exact hm'
    obtain ⟨l, hll, hlr⟩ := choose_list (α := α) len (fun i x => ok x ∧ ∃ c, c.length = d.sz ∧ d.K W x c ∧ ∀ j u, c[j]? = some u → W.cell? (a.add (i * d.sz + j)) = some u) (by
      intro i hi
      have h1 := hel i hi
      rw [List.getElem?_eq_getElem (by omega)] at h1
      obtain ⟨c, hcs, htr⟩ := Option.bind_eq_some_iff.1 h1
      have hmem : (elems[i]'(by omega)).1 ∈ elems.map (·.1) := List.mem_map.2 ⟨_, List.getElem_mem _, rfl⟩
      obtain ⟨x, hK, hok⟩ := he n c _ htr (fun m hm' => hw m (by
        refine List.mem_cons_of_mem _ (List.mem_append_left _ ?_)
        exact weightsAll_mem hmem m hm'))
      refine ⟨x, hok, c, d.K_len hK, hK, fun j u hu => ?_⟩
      rw [hc] at hcs
      unfold World.cells? at hcs
      split at hcs
      · have hj : j < d.sz := by
          have := (List.getElem?_eq_some_iff.1 hu).1
          rw [d.K_len hK] at this
          exact this
        have h2 := mapM_some_get hcs j j (by simp [hj])
        rw [hu] at h2
        rw [← h2]
        congr 1
        have : ∀ (a : Addr) (p q : Nat), (a.add p).add q = a.add (p + q) := by
          intro a p q
          unfold Addr.add
          split
          · split <;> simp_all
          · split <;> simp_all [Nat.add_assoc]
        exact (this a _ _).symm
      · cases hcs)
    refine ⟨l, ⟨some a, cap, by rw [hll], by omega, rfl, by unfold maxLen at hm; omega, fun _ => ⟨a, rfl, fun j p hp => ?_⟩⟩, ?_, by unfold maxLen at hm; omega, fun x hx => ?_⟩
    · obtain ⟨_, c, h1, h2, h3⟩ := hlr j p hp
      exact ⟨c, h1, h2, h3⟩
    · have := hw _ List.mem_cons_self
      rw [hB] at this
      simp only [List.length_map, hlen] at this
      rw [hll]
      unfold reachBytes at this
      exact Nat.le_trans (Nat.mul_le_mul_right _ (Nat.le_add_right _ _)) this
    · obtain ⟨i, hi, rfl⟩ := List.getElem_of_mem hx
      exact (hlr i _ (List.getElem?_eq_getElem hi)).1
def OpensFs {α : Type} (enc : TypeId × Value → H) (P : Program) (W : World) (fs : List Field) (off : Nat) (d : Kd α) (ok : α → Prop) : Prop :=
  ∀ (n : Nat) (cs : List Value) (xs : List (DataW H × List MemPlace)), cs.length = off + d.sz →
    xs.length = fs.length → (∀ (i : Nat) (f : Field), fs[i]? = some f → DataW.trod enc P W 0 (fun _ => true) true n f.type ((cs.drop f.offset).take (P.cellsOf f.type)) = xs[i]?) →
    (∀ m ∈ DataW.weightsEach P (fs.map (·.type)) (xs.map (·.1)), m ≤ reachBytes) → ∃ x, d.K W x (cs.drop off) ∧ ok x
theorem opensFs_last {α : Type} {f : Field} {off : Nat} {d : Kd α} {ok : α → Prop} (ho : f.offset = off) (hc : P.cellsOf f.type = d.sz) (h : Opens enc P W f.type d ok) : OpensFs enc P W [f] off d ok := by
  intro n cs xs hcs hx ht hz
  match xs, hx with
  | [x0], _ =>
    have h0 := ht 0 f rfl
    rw [ho, hc, List.take_of_length_le (by rw [List.length_drop]; omega)] at h0
    exact h n _ x0 (by simpa using h0) (fun m hm => hz m (by simp [DataW.weightsEach, hm]))
theorem opensFs_cons {α β : Type} {f : Field} {fs : List Field} {off : Nat} {d : Kd α} {d' : Kd β} {ok : α → Prop} {ok' : β → Prop} (ho : f.offset = off) (hc : P.cellsOf f.type = d.sz) (h : Opens enc P W f.type d ok)
    (hr : OpensFs enc P W fs (off + d.sz) d' ok') : OpensFs enc P W (f :: fs) off (Kd.pair d d') (fun x => ok x.1 ∧ ok' x.2) := by
  intro n cs xs hcs hx ht hz
  have hcs' : cs.length = off + (d.sz + d'.sz) := hcs
  match xs, hx with
  | x0 :: xs, hx =>
    have h0 := ht 0 f rfl
    rw [ho, hc] at h0
    obtain ⟨x, hK, hok⟩ := h n _ x0 (by simpa using h0) (fun m hm => hz m (by simp [DataW.weightsEach, hm]))
    obtain ⟨x', hK', hok'⟩ := hr n cs xs (by omega) (by simpa using hx) (fun i g hg => by simpa using ht (i + 1) g (by simpa using hg)) (fun m hm => hz m (by simp only [List.map_cons, DataW.weightsEach, List.mem_append]; exact .inr hm))
    refine ⟨(x, x'), ⟨_, _, ?_, hK, hK'⟩, hok, hok'⟩
    rw [← List.drop_drop, List.take_append_drop]
theorem opens_struct {α : Type} {t : TypeId} {fs : Array Field} {d : Kd α} {ok : α → Prop} (ht : P.underlying t = some (.struct fs)) (hc : P.cellsOf t = d.sz) (h : OpensFs enc P W fs.toList 0 d ok) : Opens enc P W t d ok := by
  intro fuel cs y hy hz
  obtain ⟨xs, n, _, rfl, hl, hlen, hf⟩ := DataW.trod_struct ht hy
  obtain ⟨x, hK, hok⟩ := h n cs xs (by omega) (by simpa using hlen) (fun i f hi => hf i f (by simpa using hi)) (fun m hm => hz m (by simp only [DataW.weights, ht]; exact hm))
  exact ⟨x, by simpa using hK, hok⟩
theorem opens_iso {α β : Type} {t : TypeId} {d : Kd α} {ok : α → Prop} (f : β → α) (g : α → β) (hfg : ∀ x, f (g x) = x) (h : Opens enc P W t d ok) : Opens enc P W t (Kd.iso d f) (fun y => ok (f y)) := by
  intro fuel cs y hy hz
  obtain ⟨x, hK, hok⟩ := h fuel cs y hy hz
  exact ⟨g x, by show d.K W (f (g x)) cs; rw [hfg]; exact hK, by show ok (f (g x)); rw [hfg]; exact hok⟩
theorem opens_imp {α : Type} {t : TypeId} {d : Kd α} {ok ok' : α → Prop} (h : Opens enc P W t d ok) (hi : ∀ x, ok x → ok' x) : Opens enc P W t d ok' := by
  intro fuel cs y hy hz
  obtain ⟨x, hK, hok⟩ := h fuel cs y hy hz
  exact ⟨x, hK, hi x hok⟩
theorem opens_arg {α : Type} {ts : List TypeId} {ds : List (DataW H)} {j : Nat} {t : TypeId} {v : Value} {dt : DataW H} {ps : List MemPlace} {d : Kd α} {ok : α → Prop} (h : Opens enc P W t d ok)
    (hsz : (DataW.weightsEach P ts ds).all (· ≤ reachBytes) = true) (ht : ts[j]? = some t) (hd : ds[j]? = some dt) (hr : DataW.Trod enc P W 0 (fun _ => true) true t v dt ps) : ∃ x, d.K W x v.cells.toList ∧ ok x := by
  obtain ⟨fuel, hf⟩ := hr
  exact h fuel _ _ hf (fun n hn => by simpa using List.all_eq_true.1 hsz n (DataW.weights_mem_each ht hd n hn))
end
theorem arr_of {cs : Array Value} {l : List Value} (h : (Value.agg cs).cells.toList = l) : cs = l.toArray := by
  have h' : cs.toList = l := h
  rw [← h', Array.toArray_toList]
end Go.Proofs.YtmockeaiccpogaaOpens
namespace Go.Proofs.YtmockeaiccpogaaOpens
open Go.ChangeShapes Go.WideShapes Go.RowKit Go.Proofs.YtmockeaiccpogaaW.PrintWords
end Go.Proofs.YtmockeaiccpogaaOpens
end
