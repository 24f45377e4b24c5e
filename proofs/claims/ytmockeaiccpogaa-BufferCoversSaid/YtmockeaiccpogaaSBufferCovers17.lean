-- The texts behind this claim's law, put together by a program of this session (shake.py): what no text uses is left out. Its words are print.sh's.
import Derived.Test.YtmockeaiccpogaaSBufferCovers16
section
namespace Go.Proofs.Ytmockeaiccpogaa.All
open Go.Proofs.YtmockeaiccpogaaSq
open Go.RowKit Go.Proofs.YtmockeaiccpogaaW.PrintWords Go.Proofs.YtmockeaiccpogaaW.PrintLast Go.Proofs.YtmockeaiccpogaaW.PrintMore
attribute [local go_sem] max2_int min2_int max_two min_two max_three min_three max_four min_four
set_option linter.unusedVariables false
set_option linter.unusedSimpArgs false
attribute [local go_sem high] eqA43
mutual
def compositorlaw09_BufferCovers.j0 : Nat → Int → Int → Bool → Int → Int → List (S43) → Int → Int → List (S43) → Option (Bool)
 | 0, _, _, _, _, _, _, _, _, _ => none
 | k + 1, x7, x8, x52, x445000, x445001, x445002, x446000, x446001, x446002 => if x52 = true then ((compositorlaw09_exampleHolds.f k).bind fun t451 => (some t451)) else ((buffer_Paste.f x445000 x445001 x445002 x446000 x446001 x446002 x7 x8).bind fun bt452 => (if bt452.2.2.2 = 0 then (if bt452.1 = x445000 then (if bt452.2.1 = x445001 then (compositorlaw09_BufferCovers.j1 k x7 x8 ((bt452.2.2.1.length : Int) != (x445002.length : Int)) x445000 x445001 x445002 x446000 x446001 x446002 bt452.1 bt452.2.1 bt452.2.2.1) else (compositorlaw09_BufferCovers.j1 k x7 x8 true x445000 x445001 x445002 x446000 x446001 x446002 bt452.1 bt452.2.1 bt452.2.2.1)) else (compositorlaw09_BufferCovers.j1 k x7 x8 true x445000 x445001 x445002 x446000 x446001 x446002 bt452.1 bt452.2.1 bt452.2.2.1)) else (compositorlaw09_BufferCovers.j1 k x7 x8 true x445000 x445001 x445002 x446000 x446001 x446002 bt452.1 bt452.2.1 bt452.2.2.1)))
def compositorlaw09_BufferCovers.j1 : Nat → Int → Int → Bool → Int → Int → List (S43) → Int → Int → List (S43) → Int → Int → List (S43) → Option (Bool)
 | 0, _, _, _, _, _, _, _, _, _, _, _, _ => none
 | k + 1, x7, x8, x86, x445000, x445001, x445002, x446000, x446001, x446002, x459000, x459001, x459002 => if x86 = true then (some false) else (compositorlaw09_BufferCovers.l0 k x7 x8 0 x445000 x445001 x445002 x446000 x446001 x446002 x459000 x459001 x459002)
def compositorlaw09_BufferCovers.l0 : Nat → Int → Int → Int → Int → Int → List (S43) → Int → Int → List (S43) → Int → Int → List (S43) → Option (Bool)
 | 0, _, _, _, _, _, _, _, _, _, _, _, _ => none
 | k + 1, x7, x8, x11, x445000, x445001, x445002, x446000, x446001, x446002, x459000, x459001, x459002 => if x11 < (x459002.length : Int) then (if x445000 = 0 then (none) else (if 0 ≤ x11 then (if x11 < (x445002.length : Int) then (if (wrap64 ((Int.tmod x11 x445000) - x7)) ≥ 0 then (if (wrap64 ((Int.tmod x11 x445000) - x7)) < x446000 then (if (wrap64 ((wrap64 (Int.tdiv x11 x445000)) - x8)) ≥ 0 then (compositorlaw09_BufferCovers.j3 k x7 x8 x11 (wrap64 ((Int.tmod x11 x445000) - x7)) (wrap64 ((wrap64 (Int.tdiv x11 x445000)) - x8)) (decide ((wrap64 ((wrap64 (Int.tdiv x11 x445000)) - x8)) < x446001)) x445000 x445001 x445002 x446000 x446001 x446002 x459000 x459001 x459002 ((rd_T43 x445002 x11).f0) ((rd_T43 x445002 x11).f1) ((rd_T43 x445002 x11).f2) ((rd_T43 x445002 x11).f3)) else (compositorlaw09_BufferCovers.j3 k x7 x8 x11 (wrap64 ((Int.tmod x11 x445000) - x7)) (wrap64 ((wrap64 (Int.tdiv x11 x445000)) - x8)) false x445000 x445001 x445002 x446000 x446001 x446002 x459000 x459001 x459002 ((rd_T43 x445002 x11).f0) ((rd_T43 x445002 x11).f1) ((rd_T43 x445002 x11).f2) ((rd_T43 x445002 x11).f3))) else (compositorlaw09_BufferCovers.j3 k x7 x8 x11 (wrap64 ((Int.tmod x11 x445000) - x7)) (wrap64 ((wrap64 (Int.tdiv x11 x445000)) - x8)) false x445000 x445001 x445002 x446000 x446001 x446002 x459000 x459001 x459002 ((rd_T43 x445002 x11).f0) ((rd_T43 x445002 x11).f1) ((rd_T43 x445002 x11).f2) ((rd_T43 x445002 x11).f3))) else (compositorlaw09_BufferCovers.j3 k x7 x8 x11 (wrap64 ((Int.tmod x11 x445000) - x7)) (wrap64 ((wrap64 (Int.tdiv x11 x445000)) - x8)) false x445000 x445001 x445002 x446000 x446001 x446002 x459000 x459001 x459002 ((rd_T43 x445002 x11).f0) ((rd_T43 x445002 x11).f1) ((rd_T43 x445002 x11).f2) ((rd_T43 x445002 x11).f3))) else (none)) else (none))) else ((compositorlaw09_exampleHolds.f k).bind fun t459 => (some t459))
def compositorlaw09_BufferCovers.j3 : Nat → Int → Int → Int → Int → Int → Bool → Int → Int → List (S43) → Int → Int → List (S43) → Int → Int → List (S43) → Int → Int → Int → Int → Option (Bool)
 | 0, _, _, _, _, _, _, _, _, _, _, _, _, _, _, _, _, _, _, _ => none
 | k + 1, x7, x8, x11, x12, x13, x128, x445000, x445001, x445002, x446000, x446001, x446002, x459000, x459001, x459002, x462000, x462001, x462002, x462003 => if x128 = true then (if 0 ≤ (wrap64 ((wrap64 (x13 * x446000)) + x12)) then (if (wrap64 ((wrap64 (x13 * x446000)) + x12)) < (x446002.length : Int) then (if 0 ≤ x11 then (if x11 < (x459002.length : Int) then (if (!(((rd_T43 x459002 x11).f0) == ((rd_T43 x446002 (wrap64 ((wrap64 (x13 * x446000)) + x12))).f0)) || (!(((rd_T43 x459002 x11).f1) == ((rd_T43 x446002 (wrap64 ((wrap64 (x13 * x446000)) + x12))).f1)) || (!(((rd_T43 x459002 x11).f2) == ((rd_T43 x446002 (wrap64 ((wrap64 (x13 * x446000)) + x12))).f2)) || (!(((rd_T43 x459002 x11).f3) == ((rd_T43 x446002 (wrap64 ((wrap64 (x13 * x446000)) + x12))).f3)))))) = true then (some false) else (compositorlaw09_BufferCovers.l0 k x7 x8 (wrap64 (x11 + 1)) x445000 x445001 x445002 x446000 x446001 x446002 x459000 x459001 x459002)) else (none)) else (none)) else (none)) else (none)) else (if 0 ≤ x11 then (if x11 < (x459002.length : Int) then (if (!(((rd_T43 x459002 x11).f0) == x462000) || (!(((rd_T43 x459002 x11).f1) == x462001) || (!(((rd_T43 x459002 x11).f2) == x462002) || (!(((rd_T43 x459002 x11).f3) == x462003))))) = true then (some false) else (compositorlaw09_BufferCovers.l0 k x7 x8 (wrap64 (x11 + 1)) x445000 x445001 x445002 x446000 x446001 x446002 x459000 x459001 x459002)) else (none)) else (none))
end
def compositorlaw09_BufferCovers.f (k : Nat) (a0_0 : Int) (a0_1 : Int) (l0_2 : List (S43)) (a1_0 : Int) (a1_1 : Int) (l1_2 : List (S43)) (a2_0 : Int) (a2_1 : Int) : Option (Bool) := (compositorlaw09_small.f a0_0 a0_1 l0_2).bind fun t447 => (if t447 = true then ((compositorlaw09_small.f a1_0 a1_1 l1_2).bind fun t448 => (if t448 = true then ((compositorref09_Valid.f k a0_0 a0_1 l0_2).bind fun t449 => (if t449 = true then ((compositorref09_Valid.f k a1_0 a1_1 l1_2).bind fun t450 => (if t450 = true then (if a2_0 < (-30) then (compositorlaw09_BufferCovers.j0 k a2_0 a2_1 true a0_0 a0_1 l0_2 a1_0 a1_1 l1_2) else (if a2_0 > 30 then (compositorlaw09_BufferCovers.j0 k a2_0 a2_1 true a0_0 a0_1 l0_2 a1_0 a1_1 l1_2) else (if a2_1 < (-30) then (compositorlaw09_BufferCovers.j0 k a2_0 a2_1 true a0_0 a0_1 l0_2 a1_0 a1_1 l1_2) else (compositorlaw09_BufferCovers.j0 k a2_0 a2_1 (decide (a2_1 > 30)) a0_0 a0_1 l0_2 a1_0 a1_1 l1_2)))) else (compositorlaw09_BufferCovers.j0 k a2_0 a2_1 true a0_0 a0_1 l0_2 a1_0 a1_1 l1_2))) else (compositorlaw09_BufferCovers.j0 k a2_0 a2_1 true a0_0 a0_1 l0_2 a1_0 a1_1 l1_2))) else (compositorlaw09_BufferCovers.j0 k a2_0 a2_1 true a0_0 a0_1 l0_2 a1_0 a1_1 l1_2))) else (compositorlaw09_BufferCovers.j0 k a2_0 a2_1 true a0_0 a0_1 l0_2 a1_0 a1_1 l1_2))
set_option maxHeartbeats 8000000 in
set_option maxRecDepth 100000 in
theorem compositorlaw09_BufferCovers.calls (k : Nat) (a0_0 : Int) (a0_1 : Int) (A0_2 : Option Addr) (c0_2 : Nat) (l0_2 : List (S43)) (a1_0 : Int) (a1_1 : Int) (A1_2 : Option Addr) (c1_2 : Nat) (l1_2 : List (S43)) (a2_0 : Int) (a2_1 : Int) (w : World) (hr0_2 : Kd.C k43 w A0_2 l0_2.length l0_2) (hc0_2 : l0_2.length ≤ c0_2) (hr1_2 : Kd.C k43 w A1_2 l1_2.length l1_2) (hc1_2 : l1_2.length ≤ c1_2) (h : compositorlaw09_BufferCovers.f k a0_0 a0_1 l0_2 a1_0 a1_1 l1_2 a2_0 a2_1 = some true) :
  Calls Try.prog 8 #[.agg #[.int .i64 a0_0, .int .i64 a0_1, .slice A0_2 l0_2.length c0_2], .agg #[.int .i64 a1_0, .int .i64 a1_1, .slice A1_2 l1_2.length c1_2], .agg #[.int .i64 a2_0, .int .i64 a2_1]] w fun e w' => e = .returned (.bool true) ∧ Below w.heap.size w w' := by
 have hu27 := Try.underlying27
 have hu41 := Try.underlying41
 have hu43 := Try.underlying43
 have HR0_2 := Aside0.mk hr0_2
 have HC0_2 := Aside0.mk hc0_2
 clear hr0_2 hc0_2
 have HR1_2 := Aside0.mk hr1_2
 have HC1_2 := Aside0.mk hc1_2
 clear hr1_2 hc1_2
 have HB := Aside0.mk (Below.refl w.heap.size w)
 have H : ((compositorlaw09_small.f a0_0 a0_1 l0_2).bind fun t447 => (if t447 = true then ((compositorlaw09_small.f a1_0 a1_1 l1_2).bind fun t448 => (if t448 = true then ((compositorref09_Valid.f k a0_0 a0_1 l0_2).bind fun t449 => (if t449 = true then ((compositorref09_Valid.f k a1_0 a1_1 l1_2).bind fun t450 => (if t450 = true then (if a2_0 < (-30) then (compositorlaw09_BufferCovers.j0 k a2_0 a2_1 true a0_0 a0_1 l0_2 a1_0 a1_1 l1_2) else (if a2_0 > 30 then (compositorlaw09_BufferCovers.j0 k a2_0 a2_1 true a0_0 a0_1 l0_2 a1_0 a1_1 l1_2) else (if a2_1 < (-30) then (compositorlaw09_BufferCovers.j0 k a2_0 a2_1 true a0_0 a0_1 l0_2 a1_0 a1_1 l1_2) else (compositorlaw09_BufferCovers.j0 k a2_0 a2_1 (decide (a2_1 > 30)) a0_0 a0_1 l0_2 a1_0 a1_1 l1_2)))) else (compositorlaw09_BufferCovers.j0 k a2_0 a2_1 true a0_0 a0_1 l0_2 a1_0 a1_1 l1_2))) else (compositorlaw09_BufferCovers.j0 k a2_0 a2_1 true a0_0 a0_1 l0_2 a1_0 a1_1 l1_2))) else (compositorlaw09_BufferCovers.j0 k a2_0 a2_1 true a0_0 a0_1 l0_2 a1_0 a1_1 l1_2))) else (compositorlaw09_BufferCovers.j0 k a2_0 a2_1 true a0_0 a0_1 l0_2 a1_0 a1_1 l1_2))) = some true := h
 clear h
 have HC4 := Aside0.mk H
 clear H
 go_enter Try.func8, Try.ntmps8
 go_upto_region 2 with (first | ((with_reducible refine gate_dst (N := 3) rfl ?_); (try (refine gate_guard (by rfl) ?_; dsimp only)); refine box_event ?hg (N := 3) ?hd (cs := #[.int .i64 a0_0, .int .i64 a0_1, .slice A0_2 l0_2.length c0_2]) (t := 27) ?hr ?_; (case hd => rfl); (case hg => rfl); (case hr => first | (go_simp; done) | (go_simp; rfl)); intro gb444 hg w5 hbox hb; have n0_ := hb_ HB hb; have n1_ := Aside0.mk (hbox); have n2_ := Aside0.mk ((by rw [hg]; exact (below_size (hq_ HB)) : w.heap.size ≤ gb444)); have n3_ := Aside0.mk ((by rw [hg]; exact (below_size (hq_ HB)) : w.heap.size ≤ gb444)); clear HB; have HB := n0_; have BK444 := n1_; have GW444 := n2_; have GE444 := n3_; clear n0_ n1_ n2_ n3_; clear hb hbox hg) | ((with_reducible refine gate_dst (N := 4) rfl ?_); (try (refine gate_guard (by rfl) ?_; dsimp only)); refine box_event ?hg (N := 4) ?hd (cs := #[.int .i64 a1_0, .int .i64 a1_1, .slice A1_2 l1_2.length c1_2]) (t := 27) ?hr ?_; (case hd => rfl); (case hg => rfl); (case hr => first | (go_simp; done) | (go_simp; rfl)); intro gb445 hg w6 hbox hb; have n0_ := bb_ BK444 hb; have n1_ := hb_ HB hb; have n2_ := Aside0.mk (hbox); have n3_ := Aside0.mk ((by rw [hg]; exact (below_size (hq_ HB)) : w.heap.size ≤ gb445)); have n4_ := Aside0.mk ((by rw [hg]; exact (below_size (hq_ HB)) : w.heap.size ≤ gb445)); have n5_ := Aside0.mk ((by rw [hg]; exact Nat.ne_of_lt (blk_lt (g := gb444) (o := .cells #[.int .i64 a0_0, .int .i64 a0_1, .slice A0_2 l0_2.length c0_2] 27 (0, 0)) (bq_ BK444)) : gb444 ≠ gb445)); have n6_ := Aside0.mk ((by rw [hg]; exact Nat.ne_of_gt (blk_lt (g := gb444) (o := .cells #[.int .i64 a0_0, .int .i64 a0_1, .slice A0_2 l0_2.length c0_2] 27 (0, 0)) (bq_ BK444)) : gb445 ≠ gb444)); clear BK444; clear HB; have BK444 := n0_; have HB := n1_; have BK445 := n2_; have GW445 := n3_; have GE445 := n4_; have NB444_445 := n5_; have NB445_444 := n6_; clear n0_ n1_ n2_ n3_ n4_ n5_ n6_; clear hb hbox hg) | ((with_reducible refine gate_dst (N := 5) rfl ?_); (try (refine gate_guard (by rfl) ?_; dsimp only)); refine box_event ?hg (N := 5) ?hd (cs := #[.int .i64 a2_0, .int .i64 a2_1]) (t := 41) ?hr ?_; (case hd => rfl); (case hg => rfl); (case hr => first | (go_simp; done) | (go_simp; rfl)); intro gb446 hg w7 hbox hb; have n0_ := bb_ BK444 hb; have n1_ := bb_ BK445 hb; have n2_ := hb_ HB hb; have n3_ := Aside0.mk (hbox); have n4_ := Aside0.mk ((by rw [hg]; exact (below_size (hq_ HB)) : w.heap.size ≤ gb446)); have n5_ := Aside0.mk ((by rw [hg]; exact (below_size (hq_ HB)) : w.heap.size ≤ gb446)); have n6_ := Aside0.mk ((by rw [hg]; exact Nat.ne_of_lt (blk_lt (g := gb444) (o := .cells #[.int .i64 a0_0, .int .i64 a0_1, .slice A0_2 l0_2.length c0_2] 27 (0, 0)) (bq_ BK444)) : gb444 ≠ gb446)); have n7_ := Aside0.mk ((by rw [hg]; exact Nat.ne_of_gt (blk_lt (g := gb444) (o := .cells #[.int .i64 a0_0, .int .i64 a0_1, .slice A0_2 l0_2.length c0_2] 27 (0, 0)) (bq_ BK444)) : gb446 ≠ gb444)); have n8_ := Aside0.mk ((by rw [hg]; exact Nat.ne_of_lt (blk_lt (g := gb445) (o := .cells #[.int .i64 a1_0, .int .i64 a1_1, .slice A1_2 l1_2.length c1_2] 27 (0, 0)) (bq_ BK445)) : gb445 ≠ gb446)); have n9_ := Aside0.mk ((by rw [hg]; exact Nat.ne_of_gt (blk_lt (g := gb445) (o := .cells #[.int .i64 a1_0, .int .i64 a1_1, .slice A1_2 l1_2.length c1_2] 27 (0, 0)) (bq_ BK445)) : gb446 ≠ gb445)); clear BK444; clear BK445; clear HB; have BK444 := n0_; have BK445 := n1_; have HB := n2_; have BK446 := n3_; have GW446 := n4_; have GE446 := n5_; have NB444_446 := n6_; have NB446_444 := n7_; have NB445_446 := n8_; have NB446_445 := n9_; clear n0_ n1_ n2_ n3_ n4_ n5_ n6_ n7_ n8_ n9_; clear hb hbox hg; have hnb8 := NB446_444.out; have hnc8 := NB444_446.out; have hnb9 := NB446_445.out; have hnc9 := NB445_446.out; have hcz10_0 : w7.cell? ⟨gb446, 0, none⟩ = some (.int .i64 a2_0) := (blk_cell BK446.out 0).trans rfl; have hcz10_1 : w7.cell? ⟨gb446, 1, none⟩ = some (.int .i64 a2_1) := (blk_cell BK446.out 1).trans rfl; have hfz10_0 := blk_frozen BK446.out 0; have hfz10_1 := blk_frozen BK446.out 1))
 repeat (go_quiet (first | ((with_reducible refine gate_dst (N := 3) rfl ?_); (try (refine gate_guard (by rfl) ?_; dsimp only)); refine box_event ?hg (N := 3) ?hd (cs := #[.int .i64 a0_0, .int .i64 a0_1, .slice A0_2 l0_2.length c0_2]) (t := 27) ?hr ?_; (case hd => rfl); (case hg => rfl); (case hr => first | (go_simp; done) | (go_simp; rfl)); intro gb444 hg w5 hbox hb; have n0_ := hb_ HB hb; have n1_ := Aside0.mk (hbox); have n2_ := Aside0.mk ((by rw [hg]; exact (below_size (hq_ HB)) : w.heap.size ≤ gb444)); have n3_ := Aside0.mk ((by rw [hg]; exact (below_size (hq_ HB)) : w.heap.size ≤ gb444)); clear HB; have HB := n0_; have BK444 := n1_; have GW444 := n2_; have GE444 := n3_; clear n0_ n1_ n2_ n3_; clear hb hbox hg) | ((with_reducible refine gate_dst (N := 4) rfl ?_); (try (refine gate_guard (by rfl) ?_; dsimp only)); refine box_event ?hg (N := 4) ?hd (cs := #[.int .i64 a1_0, .int .i64 a1_1, .slice A1_2 l1_2.length c1_2]) (t := 27) ?hr ?_; (case hd => rfl); (case hg => rfl); (case hr => first | (go_simp; done) | (go_simp; rfl)); intro gb445 hg w6 hbox hb; have n0_ := bb_ BK444 hb; have n1_ := hb_ HB hb; have n2_ := Aside0.mk (hbox); have n3_ := Aside0.mk ((by rw [hg]; exact (below_size (hq_ HB)) : w.heap.size ≤ gb445)); have n4_ := Aside0.mk ((by rw [hg]; exact (below_size (hq_ HB)) : w.heap.size ≤ gb445)); have n5_ := Aside0.mk ((by rw [hg]; exact Nat.ne_of_lt (blk_lt (g := gb444) (o := .cells #[.int .i64 a0_0, .int .i64 a0_1, .slice A0_2 l0_2.length c0_2] 27 (0, 0)) (bq_ BK444)) : gb444 ≠ gb445)); have n6_ := Aside0.mk ((by rw [hg]; exact Nat.ne_of_gt (blk_lt (g := gb444) (o := .cells #[.int .i64 a0_0, .int .i64 a0_1, .slice A0_2 l0_2.length c0_2] 27 (0, 0)) (bq_ BK444)) : gb445 ≠ gb444)); clear BK444; clear HB; have BK444 := n0_; have HB := n1_; have BK445 := n2_; have GW445 := n3_; have GE445 := n4_; have NB444_445 := n5_; have NB445_444 := n6_; clear n0_ n1_ n2_ n3_ n4_ n5_ n6_; clear hb hbox hg) | ((with_reducible refine gate_dst (N := 5) rfl ?_); (try (refine gate_guard (by rfl) ?_; dsimp only)); refine box_event ?hg (N := 5) ?hd (cs := #[.int .i64 a2_0, .int .i64 a2_1]) (t := 41) ?hr ?_; (case hd => rfl); (case hg => rfl); (case hr => first | (go_simp; done) | (go_simp; rfl)); intro gb446 hg w7 hbox hb; have n0_ := bb_ BK444 hb; have n1_ := bb_ BK445 hb; have n2_ := hb_ HB hb; have n3_ := Aside0.mk (hbox); have n4_ := Aside0.mk ((by rw [hg]; exact (below_size (hq_ HB)) : w.heap.size ≤ gb446)); have n5_ := Aside0.mk ((by rw [hg]; exact (below_size (hq_ HB)) : w.heap.size ≤ gb446)); have n6_ := Aside0.mk ((by rw [hg]; exact Nat.ne_of_lt (blk_lt (g := gb444) (o := .cells #[.int .i64 a0_0, .int .i64 a0_1, .slice A0_2 l0_2.length c0_2] 27 (0, 0)) (bq_ BK444)) : gb444 ≠ gb446)); have n7_ := Aside0.mk ((by rw [hg]; exact Nat.ne_of_gt (blk_lt (g := gb444) (o := .cells #[.int .i64 a0_0, .int .i64 a0_1, .slice A0_2 l0_2.length c0_2] 27 (0, 0)) (bq_ BK444)) : gb446 ≠ gb444)); have n8_ := Aside0.mk ((by rw [hg]; exact Nat.ne_of_lt (blk_lt (g := gb445) (o := .cells #[.int .i64 a1_0, .int .i64 a1_1, .slice A1_2 l1_2.length c1_2] 27 (0, 0)) (bq_ BK445)) : gb445 ≠ gb446)); have n9_ := Aside0.mk ((by rw [hg]; exact Nat.ne_of_gt (blk_lt (g := gb445) (o := .cells #[.int .i64 a1_0, .int .i64 a1_1, .slice A1_2 l1_2.length c1_2] 27 (0, 0)) (bq_ BK445)) : gb446 ≠ gb445)); clear BK444; clear BK445; clear HB; have BK444 := n0_; have BK445 := n1_; have HB := n2_; have BK446 := n3_; have GW446 := n4_; have GE446 := n5_; have NB444_446 := n6_; have NB446_444 := n7_; have NB445_446 := n8_; have NB446_445 := n9_; clear n0_ n1_ n2_ n3_ n4_ n5_ n6_ n7_ n8_ n9_; clear hb hbox hg; have hnb8 := NB446_444.out; have hnc8 := NB444_446.out; have hnb9 := NB446_445.out; have hnc9 := NB445_446.out; have hcz10_0 : w7.cell? ⟨gb446, 0, none⟩ = some (.int .i64 a2_0) := (blk_cell BK446.out 0).trans rfl; have hcz10_1 : w7.cell? ⟨gb446, 1, none⟩ = some (.int .i64 a2_1) := (blk_cell BK446.out 1).trans rfl; have hfz10_0 := blk_frozen BK446.out 0; have hfz10_1 := blk_frozen BK446.out 1)); go_upto_region 2 with (first | ((with_reducible refine gate_dst (N := 3) rfl ?_); (try (refine gate_guard (by rfl) ?_; dsimp only)); refine box_event ?hg (N := 3) ?hd (cs := #[.int .i64 a0_0, .int .i64 a0_1, .slice A0_2 l0_2.length c0_2]) (t := 27) ?hr ?_; (case hd => rfl); (case hg => rfl); (case hr => first | (go_simp; done) | (go_simp; rfl)); intro gb444 hg w5 hbox hb; have n0_ := hb_ HB hb; have n1_ := Aside0.mk (hbox); have n2_ := Aside0.mk ((by rw [hg]; exact (below_size (hq_ HB)) : w.heap.size ≤ gb444)); have n3_ := Aside0.mk ((by rw [hg]; exact (below_size (hq_ HB)) : w.heap.size ≤ gb444)); clear HB; have HB := n0_; have BK444 := n1_; have GW444 := n2_; have GE444 := n3_; clear n0_ n1_ n2_ n3_; clear hb hbox hg) | ((with_reducible refine gate_dst (N := 4) rfl ?_); (try (refine gate_guard (by rfl) ?_; dsimp only)); refine box_event ?hg (N := 4) ?hd (cs := #[.int .i64 a1_0, .int .i64 a1_1, .slice A1_2 l1_2.length c1_2]) (t := 27) ?hr ?_; (case hd => rfl); (case hg => rfl); (case hr => first | (go_simp; done) | (go_simp; rfl)); intro gb445 hg w6 hbox hb; have n0_ := bb_ BK444 hb; have n1_ := hb_ HB hb; have n2_ := Aside0.mk (hbox); have n3_ := Aside0.mk ((by rw [hg]; exact (below_size (hq_ HB)) : w.heap.size ≤ gb445)); have n4_ := Aside0.mk ((by rw [hg]; exact (below_size (hq_ HB)) : w.heap.size ≤ gb445)); have n5_ := Aside0.mk ((by rw [hg]; exact Nat.ne_of_lt (blk_lt (g := gb444) (o := .cells #[.int .i64 a0_0, .int .i64 a0_1, .slice A0_2 l0_2.length c0_2] 27 (0, 0)) (bq_ BK444)) : gb444 ≠ gb445)); have n6_ := Aside0.mk ((by rw [hg]; exact Nat.ne_of_gt (blk_lt (g := gb444) (o := .cells #[.int .i64 a0_0, .int .i64 a0_1, .slice A0_2 l0_2.length c0_2] 27 (0, 0)) (bq_ BK444)) : gb445 ≠ gb444)); clear BK444; clear HB; have BK444 := n0_; have HB := n1_; have BK445 := n2_; have GW445 := n3_; have GE445 := n4_; have NB444_445 := n5_; have NB445_444 := n6_; clear n0_ n1_ n2_ n3_ n4_ n5_ n6_; clear hb hbox hg) | ((with_reducible refine gate_dst (N := 5) rfl ?_); (try (refine gate_guard (by rfl) ?_; dsimp only)); refine box_event ?hg (N := 5) ?hd (cs := #[.int .i64 a2_0, .int .i64 a2_1]) (t := 41) ?hr ?_; (case hd => rfl); (case hg => rfl); (case hr => first | (go_simp; done) | (go_simp; rfl)); intro gb446 hg w7 hbox hb; have n0_ := bb_ BK444 hb; have n1_ := bb_ BK445 hb; have n2_ := hb_ HB hb; have n3_ := Aside0.mk (hbox); have n4_ := Aside0.mk ((by rw [hg]; exact (below_size (hq_ HB)) : w.heap.size ≤ gb446)); have n5_ := Aside0.mk ((by rw [hg]; exact (below_size (hq_ HB)) : w.heap.size ≤ gb446)); have n6_ := Aside0.mk ((by rw [hg]; exact Nat.ne_of_lt (blk_lt (g := gb444) (o := .cells #[.int .i64 a0_0, .int .i64 a0_1, .slice A0_2 l0_2.length c0_2] 27 (0, 0)) (bq_ BK444)) : gb444 ≠ gb446)); have n7_ := Aside0.mk ((by rw [hg]; exact Nat.ne_of_gt (blk_lt (g := gb444) (o := .cells #[.int .i64 a0_0, .int .i64 a0_1, .slice A0_2 l0_2.length c0_2] 27 (0, 0)) (bq_ BK444)) : gb446 ≠ gb444)); have n8_ := Aside0.mk ((by rw [hg]; exact Nat.ne_of_lt (blk_lt (g := gb445) (o := .cells #[.int .i64 a1_0, .int .i64 a1_1, .slice A1_2 l1_2.length c1_2] 27 (0, 0)) (bq_ BK445)) : gb445 ≠ gb446)); have n9_ := Aside0.mk ((by rw [hg]; exact Nat.ne_of_gt (blk_lt (g := gb445) (o := .cells #[.int .i64 a1_0, .int .i64 a1_1, .slice A1_2 l1_2.length c1_2] 27 (0, 0)) (bq_ BK445)) : gb446 ≠ gb445)); clear BK444; clear BK445; clear HB; have BK444 := n0_; have BK445 := n1_; have HB := n2_; have BK446 := n3_; have GW446 := n4_; have GE446 := n5_; have NB444_446 := n6_; have NB446_444 := n7_; have NB445_446 := n8_; have NB446_445 := n9_; clear n0_ n1_ n2_ n3_ n4_ n5_ n6_ n7_ n8_ n9_; clear hb hbox hg; have hnb8 := NB446_444.out; have hnc8 := NB444_446.out; have hnb9 := NB446_445.out; have hnc9 := NB445_446.out; have hcz10_0 : w7.cell? ⟨gb446, 0, none⟩ = some (.int .i64 a2_0) := (blk_cell BK446.out 0).trans rfl; have hcz10_1 : w7.cell? ⟨gb446, 1, none⟩ = some (.int .i64 a2_1) := (blk_cell BK446.out 1).trans rfl; have hfz10_0 := blk_frozen BK446.out 0; have hfz10_1 := blk_frozen BK446.out 1)))
 (try simp only [Act.put, List.setIfInBounds_toArray, List.set_cons_zero, List.set_cons_succ])
 go_cut [52] (fun v52 wc => ∃ (kq : Nat) (x52_3 : Bool), v52 = .bool x52_3 ∧ Aside0 (compositorlaw09_BufferCovers.j0 kq a2_0 a2_1 x52_3 a0_0 a0_1 l0_2 a1_0 a1_1 l1_2 = some true) ∧ Aside0 (kq ≤ k) ∧ Aside0 (wc.heap[gb444]? = some (.cells #[.int .i64 a0_0, .int .i64 a0_1, (.slice A0_2 l0_2.length c0_2)] 27 (0, 0))) ∧ Aside0 (wc.heap[gb445]? = some (.cells #[.int .i64 a1_0, .int .i64 a1_1, (.slice A1_2 l1_2.length c1_2)] 27 (0, 0))) ∧ Aside0 (wc.heap[gb446]? = some (.cells #[.int .i64 a2_0, .int .i64 a2_1] 41 (0, 0))) ∧ Aside0 (Below w.heap.size w wc))
 case first =>
  have H := HC4.out
  clear HC4
  replace H := Option.bind_eq_some_iff.mp H
  obtain ⟨t447, A110, H⟩ := H
  try dsimp only at H
  have A11 := Aside0.mk A110
  clear A110
  by_cases c12 : t447 = true
  ·
   subst c12
   have H1 : ((compositorlaw09_small.f a1_0 a1_1 l1_2).bind fun t448 => (if t448 = true then ((compositorref09_Valid.f k a0_0 a0_1 l0_2).bind fun t449 => (if t449 = true then ((compositorref09_Valid.f k a1_0 a1_1 l1_2).bind fun t450 => (if t450 = true then (if a2_0 < (-30) then (compositorlaw09_BufferCovers.j0 k a2_0 a2_1 true a0_0 a0_1 l0_2 a1_0 a1_1 l1_2) else (if a2_0 > 30 then (compositorlaw09_BufferCovers.j0 k a2_0 a2_1 true a0_0 a0_1 l0_2 a1_0 a1_1 l1_2) else (if a2_1 < (-30) then (compositorlaw09_BufferCovers.j0 k a2_0 a2_1 true a0_0 a0_1 l0_2 a1_0 a1_1 l1_2) else (compositorlaw09_BufferCovers.j0 k a2_0 a2_1 (decide (a2_1 > 30)) a0_0 a0_1 l0_2 a1_0 a1_1 l1_2)))) else (compositorlaw09_BufferCovers.j0 k a2_0 a2_1 true a0_0 a0_1 l0_2 a1_0 a1_1 l1_2))) else (compositorlaw09_BufferCovers.j0 k a2_0 a2_1 true a0_0 a0_1 l0_2 a1_0 a1_1 l1_2))) else (compositorlaw09_BufferCovers.j0 k a2_0 a2_1 true a0_0 a0_1 l0_2 a1_0 a1_1 l1_2))) = some true := by rw [if_pos rfl] at H; exact H
   clear H
   have H := H1
   clear H1
   replace H := Option.bind_eq_some_iff.mp H
   obtain ⟨t448, A130, H⟩ := H
   try dsimp only at H
   have A13 := Aside0.mk A130
   clear A130
   by_cases c14 : t448 = true
   ·
    subst c14
    have H1 : ((compositorref09_Valid.f k a0_0 a0_1 l0_2).bind fun t449 => (if t449 = true then ((compositorref09_Valid.f k a1_0 a1_1 l1_2).bind fun t450 => (if t450 = true then (if a2_0 < (-30) then (compositorlaw09_BufferCovers.j0 k a2_0 a2_1 true a0_0 a0_1 l0_2 a1_0 a1_1 l1_2) else (if a2_0 > 30 then (compositorlaw09_BufferCovers.j0 k a2_0 a2_1 true a0_0 a0_1 l0_2 a1_0 a1_1 l1_2) else (if a2_1 < (-30) then (compositorlaw09_BufferCovers.j0 k a2_0 a2_1 true a0_0 a0_1 l0_2 a1_0 a1_1 l1_2) else (compositorlaw09_BufferCovers.j0 k a2_0 a2_1 (decide (a2_1 > 30)) a0_0 a0_1 l0_2 a1_0 a1_1 l1_2)))) else (compositorlaw09_BufferCovers.j0 k a2_0 a2_1 true a0_0 a0_1 l0_2 a1_0 a1_1 l1_2))) else (compositorlaw09_BufferCovers.j0 k a2_0 a2_1 true a0_0 a0_1 l0_2 a1_0 a1_1 l1_2))) = some true := by rw [if_pos rfl] at H; exact H
    clear H
    have H := H1
    clear H1
    replace H := Option.bind_eq_some_iff.mp H
    obtain ⟨t449, A150, H⟩ := H
    try dsimp only at H
    have A15 := Aside0.mk A150
    clear A150
    by_cases c16 : t449 = true
    ·
     subst c16
     have H1 : ((compositorref09_Valid.f k a1_0 a1_1 l1_2).bind fun t450 => (if t450 = true then (if a2_0 < (-30) then (compositorlaw09_BufferCovers.j0 k a2_0 a2_1 true a0_0 a0_1 l0_2 a1_0 a1_1 l1_2) else (if a2_0 > 30 then (compositorlaw09_BufferCovers.j0 k a2_0 a2_1 true a0_0 a0_1 l0_2 a1_0 a1_1 l1_2) else (if a2_1 < (-30) then (compositorlaw09_BufferCovers.j0 k a2_0 a2_1 true a0_0 a0_1 l0_2 a1_0 a1_1 l1_2) else (compositorlaw09_BufferCovers.j0 k a2_0 a2_1 (decide (a2_1 > 30)) a0_0 a0_1 l0_2 a1_0 a1_1 l1_2)))) else (compositorlaw09_BufferCovers.j0 k a2_0 a2_1 true a0_0 a0_1 l0_2 a1_0 a1_1 l1_2))) = some true := by rw [if_pos rfl] at H; exact H
     clear H
     have H := H1
     clear H1
     replace H := Option.bind_eq_some_iff.mp H
     obtain ⟨t450, A170, H⟩ := H
     try dsimp only at H
     have A17 := Aside0.mk A170
     clear A170
     by_cases c18 : t450 = true
     ·
      subst c18
      have H1 : (if a2_0 < (-30) then (compositorlaw09_BufferCovers.j0 k a2_0 a2_1 true a0_0 a0_1 l0_2 a1_0 a1_1 l1_2) else (if a2_0 > 30 then (compositorlaw09_BufferCovers.j0 k a2_0 a2_1 true a0_0 a0_1 l0_2 a1_0 a1_1 l1_2) else (if a2_1 < (-30) then (compositorlaw09_BufferCovers.j0 k a2_0 a2_1 true a0_0 a0_1 l0_2 a1_0 a1_1 l1_2) else (compositorlaw09_BufferCovers.j0 k a2_0 a2_1 (decide (a2_1 > 30)) a0_0 a0_1 l0_2 a1_0 a1_1 l1_2)))) = some true := by rw [if_pos rfl] at H; exact H
      clear H
      have H := H1
      clear H1
      by_cases c19 : a2_0 < (-30)
      ·
       rw [if_pos c19] at H
       have c19b0 : decide (a2_0 < (-30)) = true := decide_eq_true c19
       clear c19
       (first | rw [c19b0] | (simp only [i64_w, i32_w]; rw [c19b0]) | skip)
       have H' := Aside0.mk H
       clear H
       have hnb20 := NB444_445.out
       have hnc20 := NB445_444.out
       have hnb21 := NB444_446.out
       have hnc21 := NB446_444.out
       have hcz22_0 : w7.cell? ⟨gb444, 0, none⟩ = some (.int .i64 a0_0) := (blk_cell BK444.out 0).trans rfl
       have hcz22_1 : w7.cell? ⟨gb444, 1, none⟩ = some (.int .i64 a0_1) := (blk_cell BK444.out 1).trans rfl
       have hcz22_2 : w7.cell? ⟨gb444, 2, none⟩ = some (.slice A0_2 l0_2.length c0_2) := (blk_cell BK444.out 2).trans rfl
       have hfz22_0 := blk_frozen BK444.out 0
       have hfz22_1 := blk_frozen BK444.out 1
       have hfz22_2 := blk_frozen BK444.out 2
       go_wp2_with (first | (go_at_call 22; (with_reducible refine (compositorlaw09_small.calls a0_0 a0_1 _ _ l0_2 true _ ?side1 ?side2 A11.out).mono ?_); (case side1 => repeat (first | exact (Kd.C_below HR0_2.out HB.out) | (with_reducible refine Kd.C_alloc ?_ _) | (with_reducible refine Kd.C_drewN ?_ _) | (with_reducible refine Kd.C_drew ?_))); (case side2 => exact HC0_2.out); rintro e w23 ⟨rfl, hb⟩; have n0_ := bb_ BK444 hb; have n1_ := bb_ BK445 hb; have n2_ := bb_ BK446 hb; have n3_ := hb_ HB hb; clear BK444; clear BK445; clear BK446; clear HB; have BK444 := n0_; have BK445 := n1_; have BK446 := n2_; have HB := n3_; clear n0_ n1_ n2_ n3_; (try clear hb); (try clear hb2); (try clear hk); (try clear hi); have hnb24 := NB445_446.out; have hnc24 := NB446_445.out; have hcz25_0 : w23.cell? ⟨gb445, 0, none⟩ = some (.int .i64 a1_0) := (blk_cell BK445.out 0).trans rfl; have hcz25_1 : w23.cell? ⟨gb445, 1, none⟩ = some (.int .i64 a1_1) := (blk_cell BK445.out 1).trans rfl; have hcz25_2 : w23.cell? ⟨gb445, 2, none⟩ = some (.slice A1_2 l1_2.length c1_2) := (blk_cell BK445.out 2).trans rfl; have hfz25_0 := blk_frozen BK445.out 0; have hfz25_1 := blk_frozen BK445.out 1; have hfz25_2 := blk_frozen BK445.out 2) | (go_at_call 22; (with_reducible refine (compositorlaw09_small.calls a1_0 a1_1 _ _ l1_2 true _ ?side1 ?side2 A13.out).mono ?_); (case side1 => repeat (first | exact (Kd.C_below HR1_2.out HB.out) | (with_reducible refine Kd.C_alloc ?_ _) | (with_reducible refine Kd.C_drewN ?_ _) | (with_reducible refine Kd.C_drew ?_))); (case side2 => exact HC1_2.out); rintro e w26 ⟨rfl, hb⟩; have n0_ := bb_ BK444 hb; have n1_ := bb_ BK445 hb; have n2_ := bb_ BK446 hb; have n3_ := hb_ HB hb; clear BK444; clear BK445; clear BK446; clear HB; have BK444 := n0_; have BK445 := n1_; have BK446 := n2_; have HB := n3_; clear n0_ n1_ n2_ n3_; (try clear hb); (try clear hb2); (try clear hk); (try clear hi); have hcz27_0 : w26.cell? ⟨gb444, 0, none⟩ = some (.int .i64 a0_0) := (blk_cell BK444.out 0).trans rfl; have hcz27_1 : w26.cell? ⟨gb444, 1, none⟩ = some (.int .i64 a0_1) := (blk_cell BK444.out 1).trans rfl; have hcz27_2 : w26.cell? ⟨gb444, 2, none⟩ = some (.slice A0_2 l0_2.length c0_2) := (blk_cell BK444.out 2).trans rfl; have hfz27_0 := blk_frozen BK444.out 0; have hfz27_1 := blk_frozen BK444.out 1; have hfz27_2 := blk_frozen BK444.out 2) | (go_at_call 25; (with_reducible refine (compositorref09_Valid.calls k a0_0 a0_1 _ _ l0_2 true _ ?side1 ?side2 A15.out).mono ?_); (case side1 => repeat (first | exact (Kd.C_below HR0_2.out HB.out) | (with_reducible refine Kd.C_alloc ?_ _) | (with_reducible refine Kd.C_drewN ?_ _) | (with_reducible refine Kd.C_drew ?_))); (case side2 => exact HC0_2.out); rintro e w28 ⟨rfl, hb⟩; have n0_ := bb_ BK444 hb; have n1_ := bb_ BK445 hb; have n2_ := bb_ BK446 hb; have n3_ := hb_ HB hb; clear BK444; clear BK445; clear BK446; clear HB; have BK444 := n0_; have BK445 := n1_; have BK446 := n2_; have HB := n3_; clear n0_ n1_ n2_ n3_; (try clear hb); (try clear hb2); (try clear hk); (try clear hi); have hcz29_0 : w28.cell? ⟨gb445, 0, none⟩ = some (.int .i64 a1_0) := (blk_cell BK445.out 0).trans rfl; have hcz29_1 : w28.cell? ⟨gb445, 1, none⟩ = some (.int .i64 a1_1) := (blk_cell BK445.out 1).trans rfl; have hcz29_2 : w28.cell? ⟨gb445, 2, none⟩ = some (.slice A1_2 l1_2.length c1_2) := (blk_cell BK445.out 2).trans rfl; have hfz29_0 := blk_frozen BK445.out 0; have hfz29_1 := blk_frozen BK445.out 1; have hfz29_2 := blk_frozen BK445.out 2) | (go_at_call 25; (with_reducible refine (compositorref09_Valid.calls k a1_0 a1_1 _ _ l1_2 true _ ?side1 ?side2 A17.out).mono ?_); (case side1 => repeat (first | exact (Kd.C_below HR1_2.out HB.out) | (with_reducible refine Kd.C_alloc ?_ _) | (with_reducible refine Kd.C_drewN ?_ _) | (with_reducible refine Kd.C_drew ?_))); (case side2 => exact HC1_2.out); rintro e w30 ⟨rfl, hb⟩; have n0_ := bb_ BK444 hb; have n1_ := bb_ BK445 hb; have n2_ := bb_ BK446 hb; have n3_ := hb_ HB hb; clear BK444; clear BK445; clear BK446; clear HB; have BK444 := n0_; have BK445 := n1_; have BK446 := n2_; have HB := n3_; clear n0_ n1_ n2_ n3_; (try clear hb); (try clear hb2); (try clear hk); (try clear hi)))
       repeat (go_quiet (first | (go_at_call 22; (with_reducible refine (compositorlaw09_small.calls a0_0 a0_1 _ _ l0_2 true _ ?side1 ?side2 A11.out).mono ?_); (case side1 => repeat (first | exact (Kd.C_below HR0_2.out HB.out) | (with_reducible refine Kd.C_alloc ?_ _) | (with_reducible refine Kd.C_drewN ?_ _) | (with_reducible refine Kd.C_drew ?_))); (case side2 => exact HC0_2.out); rintro e w23 ⟨rfl, hb⟩; have n0_ := bb_ BK444 hb; have n1_ := bb_ BK445 hb; have n2_ := bb_ BK446 hb; have n3_ := hb_ HB hb; clear BK444; clear BK445; clear BK446; clear HB; have BK444 := n0_; have BK445 := n1_; have BK446 := n2_; have HB := n3_; clear n0_ n1_ n2_ n3_; (try clear hb); (try clear hb2); (try clear hk); (try clear hi); have hnb24 := NB445_446.out; have hnc24 := NB446_445.out; have hcz25_0 : w23.cell? ⟨gb445, 0, none⟩ = some (.int .i64 a1_0) := (blk_cell BK445.out 0).trans rfl; have hcz25_1 : w23.cell? ⟨gb445, 1, none⟩ = some (.int .i64 a1_1) := (blk_cell BK445.out 1).trans rfl; have hcz25_2 : w23.cell? ⟨gb445, 2, none⟩ = some (.slice A1_2 l1_2.length c1_2) := (blk_cell BK445.out 2).trans rfl; have hfz25_0 := blk_frozen BK445.out 0; have hfz25_1 := blk_frozen BK445.out 1; have hfz25_2 := blk_frozen BK445.out 2) | (go_at_call 22; (with_reducible refine (compositorlaw09_small.calls a1_0 a1_1 _ _ l1_2 true _ ?side1 ?side2 A13.out).mono ?_); (case side1 => repeat (first | exact (Kd.C_below HR1_2.out HB.out) | (with_reducible refine Kd.C_alloc ?_ _) | (with_reducible refine Kd.C_drewN ?_ _) | (with_reducible refine Kd.C_drew ?_))); (case side2 => exact HC1_2.out); rintro e w26 ⟨rfl, hb⟩; have n0_ := bb_ BK444 hb; have n1_ := bb_ BK445 hb; have n2_ := bb_ BK446 hb; have n3_ := hb_ HB hb; clear BK444; clear BK445; clear BK446; clear HB; have BK444 := n0_; have BK445 := n1_; have BK446 := n2_; have HB := n3_; clear n0_ n1_ n2_ n3_; (try clear hb); (try clear hb2); (try clear hk); (try clear hi); have hcz27_0 : w26.cell? ⟨gb444, 0, none⟩ = some (.int .i64 a0_0) := (blk_cell BK444.out 0).trans rfl; have hcz27_1 : w26.cell? ⟨gb444, 1, none⟩ = some (.int .i64 a0_1) := (blk_cell BK444.out 1).trans rfl; have hcz27_2 : w26.cell? ⟨gb444, 2, none⟩ = some (.slice A0_2 l0_2.length c0_2) := (blk_cell BK444.out 2).trans rfl; have hfz27_0 := blk_frozen BK444.out 0; have hfz27_1 := blk_frozen BK444.out 1; have hfz27_2 := blk_frozen BK444.out 2) | (go_at_call 25; (with_reducible refine (compositorref09_Valid.calls k a0_0 a0_1 _ _ l0_2 true _ ?side1 ?side2 A15.out).mono ?_); (case side1 => repeat (first | exact (Kd.C_below HR0_2.out HB.out) | (with_reducible refine Kd.C_alloc ?_ _) | (with_reducible refine Kd.C_drewN ?_ _) | (with_reducible refine Kd.C_drew ?_))); (case side2 => exact HC0_2.out); rintro e w28 ⟨rfl, hb⟩; have n0_ := bb_ BK444 hb; have n1_ := bb_ BK445 hb; have n2_ := bb_ BK446 hb; have n3_ := hb_ HB hb; clear BK444; clear BK445; clear BK446; clear HB; have BK444 := n0_; have BK445 := n1_; have BK446 := n2_; have HB := n3_; clear n0_ n1_ n2_ n3_; (try clear hb); (try clear hb2); (try clear hk); (try clear hi); have hcz29_0 : w28.cell? ⟨gb445, 0, none⟩ = some (.int .i64 a1_0) := (blk_cell BK445.out 0).trans rfl; have hcz29_1 : w28.cell? ⟨gb445, 1, none⟩ = some (.int .i64 a1_1) := (blk_cell BK445.out 1).trans rfl; have hcz29_2 : w28.cell? ⟨gb445, 2, none⟩ = some (.slice A1_2 l1_2.length c1_2) := (blk_cell BK445.out 2).trans rfl; have hfz29_0 := blk_frozen BK445.out 0; have hfz29_1 := blk_frozen BK445.out 1; have hfz29_2 := blk_frozen BK445.out 2) | (go_at_call 25; (with_reducible refine (compositorref09_Valid.calls k a1_0 a1_1 _ _ l1_2 true _ ?side1 ?side2 A17.out).mono ?_); (case side1 => repeat (first | exact (Kd.C_below HR1_2.out HB.out) | (with_reducible refine Kd.C_alloc ?_ _) | (with_reducible refine Kd.C_drewN ?_ _) | (with_reducible refine Kd.C_drew ?_))); (case side2 => exact HC1_2.out); rintro e w30 ⟨rfl, hb⟩; have n0_ := bb_ BK444 hb; have n1_ := bb_ BK445 hb; have n2_ := bb_ BK446 hb; have n3_ := hb_ HB hb; clear BK444; clear BK445; clear BK446; clear HB; have BK444 := n0_; have BK445 := n1_; have BK446 := n2_; have HB := n3_; clear n0_ n1_ n2_ n3_; (try clear hb); (try clear hb2); (try clear hk); (try clear hi))); try go_wp2_with (first | (go_at_call 22; (with_reducible refine (compositorlaw09_small.calls a0_0 a0_1 _ _ l0_2 true _ ?side1 ?side2 A11.out).mono ?_); (case side1 => repeat (first | exact (Kd.C_below HR0_2.out HB.out) | (with_reducible refine Kd.C_alloc ?_ _) | (with_reducible refine Kd.C_drewN ?_ _) | (with_reducible refine Kd.C_drew ?_))); (case side2 => exact HC0_2.out); rintro e w23 ⟨rfl, hb⟩; have n0_ := bb_ BK444 hb; have n1_ := bb_ BK445 hb; have n2_ := bb_ BK446 hb; have n3_ := hb_ HB hb; clear BK444; clear BK445; clear BK446; clear HB; have BK444 := n0_; have BK445 := n1_; have BK446 := n2_; have HB := n3_; clear n0_ n1_ n2_ n3_; (try clear hb); (try clear hb2); (try clear hk); (try clear hi); have hnb24 := NB445_446.out; have hnc24 := NB446_445.out; have hcz25_0 : w23.cell? ⟨gb445, 0, none⟩ = some (.int .i64 a1_0) := (blk_cell BK445.out 0).trans rfl; have hcz25_1 : w23.cell? ⟨gb445, 1, none⟩ = some (.int .i64 a1_1) := (blk_cell BK445.out 1).trans rfl; have hcz25_2 : w23.cell? ⟨gb445, 2, none⟩ = some (.slice A1_2 l1_2.length c1_2) := (blk_cell BK445.out 2).trans rfl; have hfz25_0 := blk_frozen BK445.out 0; have hfz25_1 := blk_frozen BK445.out 1; have hfz25_2 := blk_frozen BK445.out 2) | (go_at_call 22; (with_reducible refine (compositorlaw09_small.calls a1_0 a1_1 _ _ l1_2 true _ ?side1 ?side2 A13.out).mono ?_); (case side1 => repeat (first | exact (Kd.C_below HR1_2.out HB.out) | (with_reducible refine Kd.C_alloc ?_ _) | (with_reducible refine Kd.C_drewN ?_ _) | (with_reducible refine Kd.C_drew ?_))); (case side2 => exact HC1_2.out); rintro e w26 ⟨rfl, hb⟩; have n0_ := bb_ BK444 hb; have n1_ := bb_ BK445 hb; have n2_ := bb_ BK446 hb; have n3_ := hb_ HB hb; clear BK444; clear BK445; clear BK446; clear HB; have BK444 := n0_; have BK445 := n1_; have BK446 := n2_; have HB := n3_; clear n0_ n1_ n2_ n3_; (try clear hb); (try clear hb2); (try clear hk); (try clear hi); have hcz27_0 : w26.cell? ⟨gb444, 0, none⟩ = some (.int .i64 a0_0) := (blk_cell BK444.out 0).trans rfl; have hcz27_1 : w26.cell? ⟨gb444, 1, none⟩ = some (.int .i64 a0_1) := (blk_cell BK444.out 1).trans rfl; have hcz27_2 : w26.cell? ⟨gb444, 2, none⟩ = some (.slice A0_2 l0_2.length c0_2) := (blk_cell BK444.out 2).trans rfl; have hfz27_0 := blk_frozen BK444.out 0; have hfz27_1 := blk_frozen BK444.out 1; have hfz27_2 := blk_frozen BK444.out 2) | (go_at_call 25; (with_reducible refine (compositorref09_Valid.calls k a0_0 a0_1 _ _ l0_2 true _ ?side1 ?side2 A15.out).mono ?_); (case side1 => repeat (first | exact (Kd.C_below HR0_2.out HB.out) | (with_reducible refine Kd.C_alloc ?_ _) | (with_reducible refine Kd.C_drewN ?_ _) | (with_reducible refine Kd.C_drew ?_))); (case side2 => exact HC0_2.out); rintro e w28 ⟨rfl, hb⟩; have n0_ := bb_ BK444 hb; have n1_ := bb_ BK445 hb; have n2_ := bb_ BK446 hb; have n3_ := hb_ HB hb; clear BK444; clear BK445; clear BK446; clear HB; have BK444 := n0_; have BK445 := n1_; have BK446 := n2_; have HB := n3_; clear n0_ n1_ n2_ n3_; (try clear hb); (try clear hb2); (try clear hk); (try clear hi); have hcz29_0 : w28.cell? ⟨gb445, 0, none⟩ = some (.int .i64 a1_0) := (blk_cell BK445.out 0).trans rfl; have hcz29_1 : w28.cell? ⟨gb445, 1, none⟩ = some (.int .i64 a1_1) := (blk_cell BK445.out 1).trans rfl; have hcz29_2 : w28.cell? ⟨gb445, 2, none⟩ = some (.slice A1_2 l1_2.length c1_2) := (blk_cell BK445.out 2).trans rfl; have hfz29_0 := blk_frozen BK445.out 0; have hfz29_1 := blk_frozen BK445.out 1; have hfz29_2 := blk_frozen BK445.out 2) | (go_at_call 25; (with_reducible refine (compositorref09_Valid.calls k a1_0 a1_1 _ _ l1_2 true _ ?side1 ?side2 A17.out).mono ?_); (case side1 => repeat (first | exact (Kd.C_below HR1_2.out HB.out) | (with_reducible refine Kd.C_alloc ?_ _) | (with_reducible refine Kd.C_drewN ?_ _) | (with_reducible refine Kd.C_drew ?_))); (case side2 => exact HC1_2.out); rintro e w30 ⟨rfl, hb⟩; have n0_ := bb_ BK444 hb; have n1_ := bb_ BK445 hb; have n2_ := bb_ BK446 hb; have n3_ := hb_ HB hb; clear BK444; clear BK445; clear BK446; clear HB; have BK444 := n0_; have BK445 := n1_; have BK446 := n2_; have HB := n3_; clear n0_ n1_ n2_ n3_; (try clear hb); (try clear hb2); (try clear hk); (try clear hi))))
       go_meet
       case rel => exact ⟨_, (true), (by first | rfl | (simp; done) | (simp [*]; done)), H', ⟨by first | omega | exact Nat.le_refl _⟩, bf_ BK444, bf_ BK445, bf_ BK446, ⟨by repeat (first | (with_reducible first | exact HB.out | apply below_alloc | apply pw_below_drewN | apply below_drew1 | refine below_set ?_ GE444.out | refine below_set ?_ GE445.out | refine below_set ?_ GE446.out) | exact HB.out)⟩⟩
      ·
       rw [if_neg c19] at H
       have c19b0 : decide (a2_0 < (-30)) = false := decide_eq_false c19
       clear c19
       (first | rw [c19b0] | (simp only [i64_w, i32_w]; rw [c19b0]) | skip)
       by_cases c31 : a2_0 > 30
       ·
        rw [if_pos c31] at H
        have c31b0 : decide (30 < a2_0) = true := decide_eq_true c31
        clear c31
        have H' := Aside0.mk H
        clear H
        have hnb32 := NB444_445.out
        have hnc32 := NB445_444.out
        have hnb33 := NB444_446.out
        have hnc33 := NB446_444.out
        have hcz34_0 : w7.cell? ⟨gb444, 0, none⟩ = some (.int .i64 a0_0) := (blk_cell BK444.out 0).trans rfl
        have hcz34_1 : w7.cell? ⟨gb444, 1, none⟩ = some (.int .i64 a0_1) := (blk_cell BK444.out 1).trans rfl
        have hcz34_2 : w7.cell? ⟨gb444, 2, none⟩ = some (.slice A0_2 l0_2.length c0_2) := (blk_cell BK444.out 2).trans rfl
        have hfz34_0 := blk_frozen BK444.out 0
        have hfz34_1 := blk_frozen BK444.out 1
        have hfz34_2 := blk_frozen BK444.out 2
        go_wp2_with (first | (go_at_call 22; (with_reducible refine (compositorlaw09_small.calls a0_0 a0_1 _ _ l0_2 true _ ?side1 ?side2 A11.out).mono ?_); (case side1 => repeat (first | exact (Kd.C_below HR0_2.out HB.out) | (with_reducible refine Kd.C_alloc ?_ _) | (with_reducible refine Kd.C_drewN ?_ _) | (with_reducible refine Kd.C_drew ?_))); (case side2 => exact HC0_2.out); rintro e w35 ⟨rfl, hb⟩; have n0_ := bb_ BK444 hb; have n1_ := bb_ BK445 hb; have n2_ := bb_ BK446 hb; have n3_ := hb_ HB hb; clear BK444; clear BK445; clear BK446; clear HB; have BK444 := n0_; have BK445 := n1_; have BK446 := n2_; have HB := n3_; clear n0_ n1_ n2_ n3_; (try clear hb); (try clear hb2); (try clear hk); (try clear hi); have hnb36 := NB445_446.out; have hnc36 := NB446_445.out; have hcz37_0 : w35.cell? ⟨gb445, 0, none⟩ = some (.int .i64 a1_0) := (blk_cell BK445.out 0).trans rfl; have hcz37_1 : w35.cell? ⟨gb445, 1, none⟩ = some (.int .i64 a1_1) := (blk_cell BK445.out 1).trans rfl; have hcz37_2 : w35.cell? ⟨gb445, 2, none⟩ = some (.slice A1_2 l1_2.length c1_2) := (blk_cell BK445.out 2).trans rfl; have hfz37_0 := blk_frozen BK445.out 0; have hfz37_1 := blk_frozen BK445.out 1; have hfz37_2 := blk_frozen BK445.out 2) | (go_at_call 22; (with_reducible refine (compositorlaw09_small.calls a1_0 a1_1 _ _ l1_2 true _ ?side1 ?side2 A13.out).mono ?_); (case side1 => repeat (first | exact (Kd.C_below HR1_2.out HB.out) | (with_reducible refine Kd.C_alloc ?_ _) | (with_reducible refine Kd.C_drewN ?_ _) | (with_reducible refine Kd.C_drew ?_))); (case side2 => exact HC1_2.out); rintro e w38 ⟨rfl, hb⟩; have n0_ := bb_ BK444 hb; have n1_ := bb_ BK445 hb; have n2_ := bb_ BK446 hb; have n3_ := hb_ HB hb; clear BK444; clear BK445; clear BK446; clear HB; have BK444 := n0_; have BK445 := n1_; have BK446 := n2_; have HB := n3_; clear n0_ n1_ n2_ n3_; (try clear hb); (try clear hb2); (try clear hk); (try clear hi); have hcz39_0 : w38.cell? ⟨gb444, 0, none⟩ = some (.int .i64 a0_0) := (blk_cell BK444.out 0).trans rfl; have hcz39_1 : w38.cell? ⟨gb444, 1, none⟩ = some (.int .i64 a0_1) := (blk_cell BK444.out 1).trans rfl; have hcz39_2 : w38.cell? ⟨gb444, 2, none⟩ = some (.slice A0_2 l0_2.length c0_2) := (blk_cell BK444.out 2).trans rfl; have hfz39_0 := blk_frozen BK444.out 0; have hfz39_1 := blk_frozen BK444.out 1; have hfz39_2 := blk_frozen BK444.out 2) | (go_at_call 25; (with_reducible refine (compositorref09_Valid.calls k a0_0 a0_1 _ _ l0_2 true _ ?side1 ?side2 A15.out).mono ?_); (case side1 => repeat (first | exact (Kd.C_below HR0_2.out HB.out) | (with_reducible refine Kd.C_alloc ?_ _) | (with_reducible refine Kd.C_drewN ?_ _) | (with_reducible refine Kd.C_drew ?_))); (case side2 => exact HC0_2.out); rintro e w40 ⟨rfl, hb⟩; have n0_ := bb_ BK444 hb; have n1_ := bb_ BK445 hb; have n2_ := bb_ BK446 hb; have n3_ := hb_ HB hb; clear BK444; clear BK445; clear BK446; clear HB; have BK444 := n0_; have BK445 := n1_; have BK446 := n2_; have HB := n3_; clear n0_ n1_ n2_ n3_; (try clear hb); (try clear hb2); (try clear hk); (try clear hi); have hcz41_0 : w40.cell? ⟨gb445, 0, none⟩ = some (.int .i64 a1_0) := (blk_cell BK445.out 0).trans rfl; have hcz41_1 : w40.cell? ⟨gb445, 1, none⟩ = some (.int .i64 a1_1) := (blk_cell BK445.out 1).trans rfl; have hcz41_2 : w40.cell? ⟨gb445, 2, none⟩ = some (.slice A1_2 l1_2.length c1_2) := (blk_cell BK445.out 2).trans rfl; have hfz41_0 := blk_frozen BK445.out 0; have hfz41_1 := blk_frozen BK445.out 1; have hfz41_2 := blk_frozen BK445.out 2) | (go_at_call 25; (with_reducible refine (compositorref09_Valid.calls k a1_0 a1_1 _ _ l1_2 true _ ?side1 ?side2 A17.out).mono ?_); (case side1 => repeat (first | exact (Kd.C_below HR1_2.out HB.out) | (with_reducible refine Kd.C_alloc ?_ _) | (with_reducible refine Kd.C_drewN ?_ _) | (with_reducible refine Kd.C_drew ?_))); (case side2 => exact HC1_2.out); rintro e w42 ⟨rfl, hb⟩; have n0_ := bb_ BK444 hb; have n1_ := bb_ BK445 hb; have n2_ := bb_ BK446 hb; have n3_ := hb_ HB hb; clear BK444; clear BK445; clear BK446; clear HB; have BK444 := n0_; have BK445 := n1_; have BK446 := n2_; have HB := n3_; clear n0_ n1_ n2_ n3_; (try clear hb); (try clear hb2); (try clear hk); (try clear hi)))
        repeat (go_quiet (first | (go_at_call 22; (with_reducible refine (compositorlaw09_small.calls a0_0 a0_1 _ _ l0_2 true _ ?side1 ?side2 A11.out).mono ?_); (case side1 => repeat (first | exact (Kd.C_below HR0_2.out HB.out) | (with_reducible refine Kd.C_alloc ?_ _) | (with_reducible refine Kd.C_drewN ?_ _) | (with_reducible refine Kd.C_drew ?_))); (case side2 => exact HC0_2.out); rintro e w35 ⟨rfl, hb⟩; have n0_ := bb_ BK444 hb; have n1_ := bb_ BK445 hb; have n2_ := bb_ BK446 hb; have n3_ := hb_ HB hb; clear BK444; clear BK445; clear BK446; clear HB; have BK444 := n0_; have BK445 := n1_; have BK446 := n2_; have HB := n3_; clear n0_ n1_ n2_ n3_; (try clear hb); (try clear hb2); (try clear hk); (try clear hi); have hnb36 := NB445_446.out; have hnc36 := NB446_445.out; have hcz37_0 : w35.cell? ⟨gb445, 0, none⟩ = some (.int .i64 a1_0) := (blk_cell BK445.out 0).trans rfl; have hcz37_1 : w35.cell? ⟨gb445, 1, none⟩ = some (.int .i64 a1_1) := (blk_cell BK445.out 1).trans rfl; have hcz37_2 : w35.cell? ⟨gb445, 2, none⟩ = some (.slice A1_2 l1_2.length c1_2) := (blk_cell BK445.out 2).trans rfl; have hfz37_0 := blk_frozen BK445.out 0; have hfz37_1 := blk_frozen BK445.out 1; have hfz37_2 := blk_frozen BK445.out 2) | (go_at_call 22; (with_reducible refine (compositorlaw09_small.calls a1_0 a1_1 _ _ l1_2 true _ ?side1 ?side2 A13.out).mono ?_); (case side1 => repeat (first | exact (Kd.C_below HR1_2.out HB.out) | (with_reducible refine Kd.C_alloc ?_ _) | (with_reducible refine Kd.C_drewN ?_ _) | (with_reducible refine Kd.C_drew ?_))); (case side2 => exact HC1_2.out); rintro e w38 ⟨rfl, hb⟩; have n0_ := bb_ BK444 hb; have n1_ := bb_ BK445 hb; have n2_ := bb_ BK446 hb; have n3_ := hb_ HB hb; clear BK444; clear BK445; clear BK446; clear HB; have BK444 := n0_; have BK445 := n1_; have BK446 := n2_; have HB := n3_; clear n0_ n1_ n2_ n3_; (try clear hb); (try clear hb2); (try clear hk); (try clear hi); have hcz39_0 : w38.cell? ⟨gb444, 0, none⟩ = some (.int .i64 a0_0) := (blk_cell BK444.out 0).trans rfl; have hcz39_1 : w38.cell? ⟨gb444, 1, none⟩ = some (.int .i64 a0_1) := (blk_cell BK444.out 1).trans rfl; have hcz39_2 : w38.cell? ⟨gb444, 2, none⟩ = some (.slice A0_2 l0_2.length c0_2) := (blk_cell BK444.out 2).trans rfl; have hfz39_0 := blk_frozen BK444.out 0; have hfz39_1 := blk_frozen BK444.out 1; have hfz39_2 := blk_frozen BK444.out 2) | (go_at_call 25; (with_reducible refine (compositorref09_Valid.calls k a0_0 a0_1 _ _ l0_2 true _ ?side1 ?side2 A15.out).mono ?_); (case side1 => repeat (first | exact (Kd.C_below HR0_2.out HB.out) | (with_reducible refine Kd.C_alloc ?_ _) | (with_reducible refine Kd.C_drewN ?_ _) | (with_reducible refine Kd.C_drew ?_))); (case side2 => exact HC0_2.out); rintro e w40 ⟨rfl, hb⟩; have n0_ := bb_ BK444 hb; have n1_ := bb_ BK445 hb; have n2_ := bb_ BK446 hb; have n3_ := hb_ HB hb; clear BK444; clear BK445; clear BK446; clear HB; have BK444 := n0_; have BK445 := n1_; have BK446 := n2_; have HB := n3_; clear n0_ n1_ n2_ n3_; (try clear hb); (try clear hb2); (try clear hk); (try clear hi); have hcz41_0 : w40.cell? ⟨gb445, 0, none⟩ = some (.int .i64 a1_0) := (blk_cell BK445.out 0).trans rfl; have hcz41_1 : w40.cell? ⟨gb445, 1, none⟩ = some (.int .i64 a1_1) := (blk_cell BK445.out 1).trans rfl; have hcz41_2 : w40.cell? ⟨gb445, 2, none⟩ = some (.slice A1_2 l1_2.length c1_2) := (blk_cell BK445.out 2).trans rfl; have hfz41_0 := blk_frozen BK445.out 0; have hfz41_1 := blk_frozen BK445.out 1; have hfz41_2 := blk_frozen BK445.out 2) | (go_at_call 25; (with_reducible refine (compositorref09_Valid.calls k a1_0 a1_1 _ _ l1_2 true _ ?side1 ?side2 A17.out).mono ?_); (case side1 => repeat (first | exact (Kd.C_below HR1_2.out HB.out) | (with_reducible refine Kd.C_alloc ?_ _) | (with_reducible refine Kd.C_drewN ?_ _) | (with_reducible refine Kd.C_drew ?_))); (case side2 => exact HC1_2.out); rintro e w42 ⟨rfl, hb⟩; have n0_ := bb_ BK444 hb; have n1_ := bb_ BK445 hb; have n2_ := bb_ BK446 hb; have n3_ := hb_ HB hb; clear BK444; clear BK445; clear BK446; clear HB; have BK444 := n0_; have BK445 := n1_; have BK446 := n2_; have HB := n3_; clear n0_ n1_ n2_ n3_; (try clear hb); (try clear hb2); (try clear hk); (try clear hi))); try go_wp2_with (first | (go_at_call 22; (with_reducible refine (compositorlaw09_small.calls a0_0 a0_1 _ _ l0_2 true _ ?side1 ?side2 A11.out).mono ?_); (case side1 => repeat (first | exact (Kd.C_below HR0_2.out HB.out) | (with_reducible refine Kd.C_alloc ?_ _) | (with_reducible refine Kd.C_drewN ?_ _) | (with_reducible refine Kd.C_drew ?_))); (case side2 => exact HC0_2.out); rintro e w35 ⟨rfl, hb⟩; have n0_ := bb_ BK444 hb; have n1_ := bb_ BK445 hb; have n2_ := bb_ BK446 hb; have n3_ := hb_ HB hb; clear BK444; clear BK445; clear BK446; clear HB; have BK444 := n0_; have BK445 := n1_; have BK446 := n2_; have HB := n3_; clear n0_ n1_ n2_ n3_; (try clear hb); (try clear hb2); (try clear hk); (try clear hi); have hnb36 := NB445_446.out; have hnc36 := NB446_445.out; have hcz37_0 : w35.cell? ⟨gb445, 0, none⟩ = some (.int .i64 a1_0) := (blk_cell BK445.out 0).trans rfl; have hcz37_1 : w35.cell? ⟨gb445, 1, none⟩ = some (.int .i64 a1_1) := (blk_cell BK445.out 1).trans rfl; have hcz37_2 : w35.cell? ⟨gb445, 2, none⟩ = some (.slice A1_2 l1_2.length c1_2) := (blk_cell BK445.out 2).trans rfl; have hfz37_0 := blk_frozen BK445.out 0; have hfz37_1 := blk_frozen BK445.out 1; have hfz37_2 := blk_frozen BK445.out 2) | (go_at_call 22; (with_reducible refine (compositorlaw09_small.calls a1_0 a1_1 _ _ l1_2 true _ ?side1 ?side2 A13.out).mono ?_); (case side1 => repeat (first | exact (Kd.C_below HR1_2.out HB.out) | (with_reducible refine Kd.C_alloc ?_ _) | (with_reducible refine Kd.C_drewN ?_ _) | (with_reducible refine Kd.C_drew ?_))); (case side2 => exact HC1_2.out); rintro e w38 ⟨rfl, hb⟩; have n0_ := bb_ BK444 hb; have n1_ := bb_ BK445 hb; have n2_ := bb_ BK446 hb; have n3_ := hb_ HB hb; clear BK444; clear BK445; clear BK446; clear HB; have BK444 := n0_; have BK445 := n1_; have BK446 := n2_; have HB := n3_; clear n0_ n1_ n2_ n3_; (try clear hb); (try clear hb2); (try clear hk); (try clear hi); have hcz39_0 : w38.cell? ⟨gb444, 0, none⟩ = some (.int .i64 a0_0) := (blk_cell BK444.out 0).trans rfl; have hcz39_1 : w38.cell? ⟨gb444, 1, none⟩ = some (.int .i64 a0_1) := (blk_cell BK444.out 1).trans rfl; have hcz39_2 : w38.cell? ⟨gb444, 2, none⟩ = some (.slice A0_2 l0_2.length c0_2) := (blk_cell BK444.out 2).trans rfl; have hfz39_0 := blk_frozen BK444.out 0; have hfz39_1 := blk_frozen BK444.out 1; have hfz39_2 := blk_frozen BK444.out 2) | (go_at_call 25; (with_reducible refine (compositorref09_Valid.calls k a0_0 a0_1 _ _ l0_2 true _ ?side1 ?side2 A15.out).mono ?_); (case side1 => repeat (first | exact (Kd.C_below HR0_2.out HB.out) | (with_reducible refine Kd.C_alloc ?_ _) | (with_reducible refine Kd.C_drewN ?_ _) | (with_reducible refine Kd.C_drew ?_))); (case side2 => exact HC0_2.out); rintro e w40 ⟨rfl, hb⟩; have n0_ := bb_ BK444 hb; have n1_ := bb_ BK445 hb; have n2_ := bb_ BK446 hb; have n3_ := hb_ HB hb; clear BK444; clear BK445; clear BK446; clear HB; have BK444 := n0_; have BK445 := n1_; have BK446 := n2_; have HB := n3_; clear n0_ n1_ n2_ n3_; (try clear hb); (try clear hb2); (try clear hk); (try clear hi); have hcz41_0 : w40.cell? ⟨gb445, 0, none⟩ = some (.int .i64 a1_0) := (blk_cell BK445.out 0).trans rfl; have hcz41_1 : w40.cell? ⟨gb445, 1, none⟩ = some (.int .i64 a1_1) := (blk_cell BK445.out 1).trans rfl; have hcz41_2 : w40.cell? ⟨gb445, 2, none⟩ = some (.slice A1_2 l1_2.length c1_2) := (blk_cell BK445.out 2).trans rfl; have hfz41_0 := blk_frozen BK445.out 0; have hfz41_1 := blk_frozen BK445.out 1; have hfz41_2 := blk_frozen BK445.out 2) | (go_at_call 25; (with_reducible refine (compositorref09_Valid.calls k a1_0 a1_1 _ _ l1_2 true _ ?side1 ?side2 A17.out).mono ?_); (case side1 => repeat (first | exact (Kd.C_below HR1_2.out HB.out) | (with_reducible refine Kd.C_alloc ?_ _) | (with_reducible refine Kd.C_drewN ?_ _) | (with_reducible refine Kd.C_drew ?_))); (case side2 => exact HC1_2.out); rintro e w42 ⟨rfl, hb⟩; have n0_ := bb_ BK444 hb; have n1_ := bb_ BK445 hb; have n2_ := bb_ BK446 hb; have n3_ := hb_ HB hb; clear BK444; clear BK445; clear BK446; clear HB; have BK444 := n0_; have BK445 := n1_; have BK446 := n2_; have HB := n3_; clear n0_ n1_ n2_ n3_; (try clear hb); (try clear hb2); (try clear hk); (try clear hi))))
        go_meet
        case rel => exact ⟨_, (true), (by first | rfl | (simp; done) | (simp [*]; done)), H', ⟨by first | omega | exact Nat.le_refl _⟩, bf_ BK444, bf_ BK445, bf_ BK446, ⟨by repeat (first | (with_reducible first | exact HB.out | apply below_alloc | apply pw_below_drewN | apply below_drew1 | refine below_set ?_ GE444.out | refine below_set ?_ GE445.out | refine below_set ?_ GE446.out) | exact HB.out)⟩⟩
       ·
        rw [if_neg c31] at H
        have c31b0 : decide (30 < a2_0) = false := decide_eq_false c31
        clear c31
        by_cases c43 : a2_1 < (-30)
        ·
         rw [if_pos c43] at H
         have c43b0 : decide (a2_1 < (-30)) = true := decide_eq_true c43
         clear c43
         have H' := Aside0.mk H
         clear H
         have hnb44 := NB444_445.out
         have hnc44 := NB445_444.out
         have hnb45 := NB444_446.out
         have hnc45 := NB446_444.out
         have hcz46_0 : w7.cell? ⟨gb444, 0, none⟩ = some (.int .i64 a0_0) := (blk_cell BK444.out 0).trans rfl
         have hcz46_1 : w7.cell? ⟨gb444, 1, none⟩ = some (.int .i64 a0_1) := (blk_cell BK444.out 1).trans rfl
         have hcz46_2 : w7.cell? ⟨gb444, 2, none⟩ = some (.slice A0_2 l0_2.length c0_2) := (blk_cell BK444.out 2).trans rfl
         have hfz46_0 := blk_frozen BK444.out 0
         have hfz46_1 := blk_frozen BK444.out 1
         have hfz46_2 := blk_frozen BK444.out 2
         go_wp2_with (first | (go_at_call 22; (with_reducible refine (compositorlaw09_small.calls a0_0 a0_1 _ _ l0_2 true _ ?side1 ?side2 A11.out).mono ?_); (case side1 => repeat (first | exact (Kd.C_below HR0_2.out HB.out) | (with_reducible refine Kd.C_alloc ?_ _) | (with_reducible refine Kd.C_drewN ?_ _) | (with_reducible refine Kd.C_drew ?_))); (case side2 => exact HC0_2.out); rintro e w47 ⟨rfl, hb⟩; have n0_ := bb_ BK444 hb; have n1_ := bb_ BK445 hb; have n2_ := bb_ BK446 hb; have n3_ := hb_ HB hb; clear BK444; clear BK445; clear BK446; clear HB; have BK444 := n0_; have BK445 := n1_; have BK446 := n2_; have HB := n3_; clear n0_ n1_ n2_ n3_; (try clear hb); (try clear hb2); (try clear hk); (try clear hi); have hnb48 := NB445_446.out; have hnc48 := NB446_445.out; have hcz49_0 : w47.cell? ⟨gb445, 0, none⟩ = some (.int .i64 a1_0) := (blk_cell BK445.out 0).trans rfl; have hcz49_1 : w47.cell? ⟨gb445, 1, none⟩ = some (.int .i64 a1_1) := (blk_cell BK445.out 1).trans rfl; have hcz49_2 : w47.cell? ⟨gb445, 2, none⟩ = some (.slice A1_2 l1_2.length c1_2) := (blk_cell BK445.out 2).trans rfl; have hfz49_0 := blk_frozen BK445.out 0; have hfz49_1 := blk_frozen BK445.out 1; have hfz49_2 := blk_frozen BK445.out 2) | (go_at_call 22; (with_reducible refine (compositorlaw09_small.calls a1_0 a1_1 _ _ l1_2 true _ ?side1 ?side2 A13.out).mono ?_); (case side1 => repeat (first | exact (Kd.C_below HR1_2.out HB.out) | (with_reducible refine Kd.C_alloc ?_ _) | (with_reducible refine Kd.C_drewN ?_ _) | (with_reducible refine Kd.C_drew ?_))); (case side2 => exact HC1_2.out); rintro e w50 ⟨rfl, hb⟩; have n0_ := bb_ BK444 hb; have n1_ := bb_ BK445 hb; have n2_ := bb_ BK446 hb; have n3_ := hb_ HB hb; clear BK444; clear BK445; clear BK446; clear HB; have BK444 := n0_; have BK445 := n1_; have BK446 := n2_; have HB := n3_; clear n0_ n1_ n2_ n3_; (try clear hb); (try clear hb2); (try clear hk); (try clear hi); have hcz51_0 : w50.cell? ⟨gb444, 0, none⟩ = some (.int .i64 a0_0) := (blk_cell BK444.out 0).trans rfl; have hcz51_1 : w50.cell? ⟨gb444, 1, none⟩ = some (.int .i64 a0_1) := (blk_cell BK444.out 1).trans rfl; have hcz51_2 : w50.cell? ⟨gb444, 2, none⟩ = some (.slice A0_2 l0_2.length c0_2) := (blk_cell BK444.out 2).trans rfl; have hfz51_0 := blk_frozen BK444.out 0; have hfz51_1 := blk_frozen BK444.out 1; have hfz51_2 := blk_frozen BK444.out 2) | (go_at_call 25; (with_reducible refine (compositorref09_Valid.calls k a0_0 a0_1 _ _ l0_2 true _ ?side1 ?side2 A15.out).mono ?_); (case side1 => repeat (first | exact (Kd.C_below HR0_2.out HB.out) | (with_reducible refine Kd.C_alloc ?_ _) | (with_reducible refine Kd.C_drewN ?_ _) | (with_reducible refine Kd.C_drew ?_))); (case side2 => exact HC0_2.out); rintro e w52 ⟨rfl, hb⟩; have n0_ := bb_ BK444 hb; have n1_ := bb_ BK445 hb; have n2_ := bb_ BK446 hb; have n3_ := hb_ HB hb; clear BK444; clear BK445; clear BK446; clear HB; have BK444 := n0_; have BK445 := n1_; have BK446 := n2_; have HB := n3_; clear n0_ n1_ n2_ n3_; (try clear hb); (try clear hb2); (try clear hk); (try clear hi); have hcz53_0 : w52.cell? ⟨gb445, 0, none⟩ = some (.int .i64 a1_0) := (blk_cell BK445.out 0).trans rfl; have hcz53_1 : w52.cell? ⟨gb445, 1, none⟩ = some (.int .i64 a1_1) := (blk_cell BK445.out 1).trans rfl; have hcz53_2 : w52.cell? ⟨gb445, 2, none⟩ = some (.slice A1_2 l1_2.length c1_2) := (blk_cell BK445.out 2).trans rfl; have hfz53_0 := blk_frozen BK445.out 0; have hfz53_1 := blk_frozen BK445.out 1; have hfz53_2 := blk_frozen BK445.out 2) | (go_at_call 25; (with_reducible refine (compositorref09_Valid.calls k a1_0 a1_1 _ _ l1_2 true _ ?side1 ?side2 A17.out).mono ?_); (case side1 => repeat (first | exact (Kd.C_below HR1_2.out HB.out) | (with_reducible refine Kd.C_alloc ?_ _) | (with_reducible refine Kd.C_drewN ?_ _) | (with_reducible refine Kd.C_drew ?_))); (case side2 => exact HC1_2.out); rintro e w54 ⟨rfl, hb⟩; have n0_ := bb_ BK444 hb; have n1_ := bb_ BK445 hb; have n2_ := bb_ BK446 hb; have n3_ := hb_ HB hb; clear BK444; clear BK445; clear BK446; clear HB; have BK444 := n0_; have BK445 := n1_; have BK446 := n2_; have HB := n3_; clear n0_ n1_ n2_ n3_; (try clear hb); (try clear hb2); (try clear hk); (try clear hi)))
         repeat (go_quiet (first | (go_at_call 22; (with_reducible refine (compositorlaw09_small.calls a0_0 a0_1 _ _ l0_2 true _ ?side1 ?side2 A11.out).mono ?_); (case side1 => repeat (first | exact (Kd.C_below HR0_2.out HB.out) | (with_reducible refine Kd.C_alloc ?_ _) | (with_reducible refine Kd.C_drewN ?_ _) | (with_reducible refine Kd.C_drew ?_))); (case side2 => exact HC0_2.out); rintro e w47 ⟨rfl, hb⟩; have n0_ := bb_ BK444 hb; have n1_ := bb_ BK445 hb; have n2_ := bb_ BK446 hb; have n3_ := hb_ HB hb; clear BK444; clear BK445; clear BK446; clear HB; have BK444 := n0_; have BK445 := n1_; have BK446 := n2_; have HB := n3_; clear n0_ n1_ n2_ n3_; (try clear hb); (try clear hb2); (try clear hk); (try clear hi); have hnb48 := NB445_446.out; have hnc48 := NB446_445.out; have hcz49_0 : w47.cell? ⟨gb445, 0, none⟩ = some (.int .i64 a1_0) := (blk_cell BK445.out 0).trans rfl; have hcz49_1 : w47.cell? ⟨gb445, 1, none⟩ = some (.int .i64 a1_1) := (blk_cell BK445.out 1).trans rfl; have hcz49_2 : w47.cell? ⟨gb445, 2, none⟩ = some (.slice A1_2 l1_2.length c1_2) := (blk_cell BK445.out 2).trans rfl; have hfz49_0 := blk_frozen BK445.out 0; have hfz49_1 := blk_frozen BK445.out 1; have hfz49_2 := blk_frozen BK445.out 2) | (go_at_call 22; (with_reducible refine (compositorlaw09_small.calls a1_0 a1_1 _ _ l1_2 true _ ?side1 ?side2 A13.out).mono ?_); (case side1 => repeat (first | exact (Kd.C_below HR1_2.out HB.out) | (with_reducible refine Kd.C_alloc ?_ _) | (with_reducible refine Kd.C_drewN ?_ _) | (with_reducible refine Kd.C_drew ?_))); (case side2 => exact HC1_2.out); rintro e w50 ⟨rfl, hb⟩; have n0_ := bb_ BK444 hb; have n1_ := bb_ BK445 hb; have n2_ := bb_ BK446 hb; have n3_ := hb_ HB hb; clear BK444; clear BK445; clear BK446; clear HB; have BK444 := n0_; have BK445 := n1_; have BK446 := n2_; have HB := n3_; clear n0_ n1_ n2_ n3_; (try clear hb); (try clear hb2); (try clear hk); (try clear hi); have hcz51_0 : w50.cell? ⟨gb444, 0, none⟩ = some (.int .i64 a0_0) := (blk_cell BK444.out 0).trans rfl; have hcz51_1 : w50.cell? ⟨gb444, 1, none⟩ = some (.int .i64 a0_1) := (blk_cell BK444.out 1).trans rfl; have hcz51_2 : w50.cell? ⟨gb444, 2, none⟩ = some (.slice A0_2 l0_2.length c0_2) := (blk_cell BK444.out 2).trans rfl; have hfz51_0 := blk_frozen BK444.out 0; have hfz51_1 := blk_frozen BK444.out 1; have hfz51_2 := blk_frozen BK444.out 2) | (go_at_call 25; (with_reducible refine (compositorref09_Valid.calls k a0_0 a0_1 _ _ l0_2 true _ ?side1 ?side2 A15.out).mono ?_); (case side1 => repeat (first | exact (Kd.C_below HR0_2.out HB.out) | (with_reducible refine Kd.C_alloc ?_ _) | (with_reducible refine Kd.C_drewN ?_ _) | (with_reducible refine Kd.C_drew ?_))); (case side2 => exact HC0_2.out); rintro e w52 ⟨rfl, hb⟩; have n0_ := bb_ BK444 hb; have n1_ := bb_ BK445 hb; have n2_ := bb_ BK446 hb; have n3_ := hb_ HB hb; clear BK444; clear BK445; clear BK446; clear HB; have BK444 := n0_; have BK445 := n1_; have BK446 := n2_; have HB := n3_; clear n0_ n1_ n2_ n3_; (try clear hb); (try clear hb2); (try clear hk); (try clear hi); have hcz53_0 : w52.cell? ⟨gb445, 0, none⟩ = some (.int .i64 a1_0) := (blk_cell BK445.out 0).trans rfl; have hcz53_1 : w52.cell? ⟨gb445, 1, none⟩ = some (.int .i64 a1_1) := (blk_cell BK445.out 1).trans rfl; have hcz53_2 : w52.cell? ⟨gb445, 2, none⟩ = some (.slice A1_2 l1_2.length c1_2) := (blk_cell BK445.out 2).trans rfl; have hfz53_0 := blk_frozen BK445.out 0; have hfz53_1 := blk_frozen BK445.out 1; have hfz53_2 := blk_frozen BK445.out 2) | (go_at_call 25; (with_reducible refine (compositorref09_Valid.calls k a1_0 a1_1 _ _ l1_2 true _ ?side1 ?side2 A17.out).mono ?_); (case side1 => repeat (first | exact (Kd.C_below HR1_2.out HB.out) | (with_reducible refine Kd.C_alloc ?_ _) | (with_reducible refine Kd.C_drewN ?_ _) | (with_reducible refine Kd.C_drew ?_))); (case side2 => exact HC1_2.out); rintro e w54 ⟨rfl, hb⟩; have n0_ := bb_ BK444 hb; have n1_ := bb_ BK445 hb; have n2_ := bb_ BK446 hb; have n3_ := hb_ HB hb; clear BK444; clear BK445; clear BK446; clear HB; have BK444 := n0_; have BK445 := n1_; have BK446 := n2_; have HB := n3_; clear n0_ n1_ n2_ n3_; (try clear hb); (try clear hb2); (try clear hk); (try clear hi))); try go_wp2_with (first | (go_at_call 22; (with_reducible refine (compositorlaw09_small.calls a0_0 a0_1 _ _ l0_2 true _ ?side1 ?side2 A11.out).mono ?_); (case side1 => repeat (first | exact (Kd.C_below HR0_2.out HB.out) | (with_reducible refine Kd.C_alloc ?_ _) | (with_reducible refine Kd.C_drewN ?_ _) | (with_reducible refine Kd.C_drew ?_))); (case side2 => exact HC0_2.out); rintro e w47 ⟨rfl, hb⟩; have n0_ := bb_ BK444 hb; have n1_ := bb_ BK445 hb; have n2_ := bb_ BK446 hb; have n3_ := hb_ HB hb; clear BK444; clear BK445; clear BK446; clear HB; have BK444 := n0_; have BK445 := n1_; have BK446 := n2_; have HB := n3_; clear n0_ n1_ n2_ n3_; (try clear hb); (try clear hb2); (try clear hk); (try clear hi); have hnb48 := NB445_446.out; have hnc48 := NB446_445.out; have hcz49_0 : w47.cell? ⟨gb445, 0, none⟩ = some (.int .i64 a1_0) := (blk_cell BK445.out 0).trans rfl; have hcz49_1 : w47.cell? ⟨gb445, 1, none⟩ = some (.int .i64 a1_1) := (blk_cell BK445.out 1).trans rfl; have hcz49_2 : w47.cell? ⟨gb445, 2, none⟩ = some (.slice A1_2 l1_2.length c1_2) := (blk_cell BK445.out 2).trans rfl; have hfz49_0 := blk_frozen BK445.out 0; have hfz49_1 := blk_frozen BK445.out 1; have hfz49_2 := blk_frozen BK445.out 2) | (go_at_call 22; (with_reducible refine (compositorlaw09_small.calls a1_0 a1_1 _ _ l1_2 true _ ?side1 ?side2 A13.out).mono ?_); (case side1 => repeat (first | exact (Kd.C_below HR1_2.out HB.out) | (with_reducible refine Kd.C_alloc ?_ _) | (with_reducible refine Kd.C_drewN ?_ _) | (with_reducible refine Kd.C_drew ?_))); (case side2 => exact HC1_2.out); rintro e w50 ⟨rfl, hb⟩; have n0_ := bb_ BK444 hb; have n1_ := bb_ BK445 hb; have n2_ := bb_ BK446 hb; have n3_ := hb_ HB hb; clear BK444; clear BK445; clear BK446; clear HB; have BK444 := n0_; have BK445 := n1_; have BK446 := n2_; have HB := n3_; clear n0_ n1_ n2_ n3_; (try clear hb); (try clear hb2); (try clear hk); (try clear hi); have hcz51_0 : w50.cell? ⟨gb444, 0, none⟩ = some (.int .i64 a0_0) := (blk_cell BK444.out 0).trans rfl; have hcz51_1 : w50.cell? ⟨gb444, 1, none⟩ = some (.int .i64 a0_1) := (blk_cell BK444.out 1).trans rfl; have hcz51_2 : w50.cell? ⟨gb444, 2, none⟩ = some (.slice A0_2 l0_2.length c0_2) := (blk_cell BK444.out 2).trans rfl; have hfz51_0 := blk_frozen BK444.out 0; have hfz51_1 := blk_frozen BK444.out 1; have hfz51_2 := blk_frozen BK444.out 2) | (go_at_call 25; (with_reducible refine (compositorref09_Valid.calls k a0_0 a0_1 _ _ l0_2 true _ ?side1 ?side2 A15.out).mono ?_); (case side1 => repeat (first | exact (Kd.C_below HR0_2.out HB.out) | (with_reducible refine Kd.C_alloc ?_ _) | (with_reducible refine Kd.C_drewN ?_ _) | (with_reducible refine Kd.C_drew ?_))); (case side2 => exact HC0_2.out); rintro e w52 ⟨rfl, hb⟩; have n0_ := bb_ BK444 hb; have n1_ := bb_ BK445 hb; have n2_ := bb_ BK446 hb; have n3_ := hb_ HB hb; clear BK444; clear BK445; clear BK446; clear HB; have BK444 := n0_; have BK445 := n1_; have BK446 := n2_; have HB := n3_; clear n0_ n1_ n2_ n3_; (try clear hb); (try clear hb2); (try clear hk); (try clear hi); have hcz53_0 : w52.cell? ⟨gb445, 0, none⟩ = some (.int .i64 a1_0) := (blk_cell BK445.out 0).trans rfl; have hcz53_1 : w52.cell? ⟨gb445, 1, none⟩ = some (.int .i64 a1_1) := (blk_cell BK445.out 1).trans rfl; have hcz53_2 : w52.cell? ⟨gb445, 2, none⟩ = some (.slice A1_2 l1_2.length c1_2) := (blk_cell BK445.out 2).trans rfl; have hfz53_0 := blk_frozen BK445.out 0; have hfz53_1 := blk_frozen BK445.out 1; have hfz53_2 := blk_frozen BK445.out 2) | (go_at_call 25; (with_reducible refine (compositorref09_Valid.calls k a1_0 a1_1 _ _ l1_2 true _ ?side1 ?side2 A17.out).mono ?_); (case side1 => repeat (first | exact (Kd.C_below HR1_2.out HB.out) | (with_reducible refine Kd.C_alloc ?_ _) | (with_reducible refine Kd.C_drewN ?_ _) | (with_reducible refine Kd.C_drew ?_))); (case side2 => exact HC1_2.out); rintro e w54 ⟨rfl, hb⟩; have n0_ := bb_ BK444 hb; have n1_ := bb_ BK445 hb; have n2_ := bb_ BK446 hb; have n3_ := hb_ HB hb; clear BK444; clear BK445; clear BK446; clear HB; have BK444 := n0_; have BK445 := n1_; have BK446 := n2_; have HB := n3_; clear n0_ n1_ n2_ n3_; (try clear hb); (try clear hb2); (try clear hk); (try clear hi))))
         go_meet
         case rel => exact ⟨_, (true), (by first | rfl | (simp; done) | (simp [*]; done)), H', ⟨by first | omega | exact Nat.le_refl _⟩, bf_ BK444, bf_ BK445, bf_ BK446, ⟨by repeat (first | (with_reducible first | exact HB.out | apply below_alloc | apply pw_below_drewN | apply below_drew1 | refine below_set ?_ GE444.out | refine below_set ?_ GE445.out | refine below_set ?_ GE446.out) | exact HB.out)⟩⟩
        ·
         rw [if_neg c43] at H
         have c43b0 : decide (a2_1 < (-30)) = false := decide_eq_false c43
         clear c43
         have H' := Aside0.mk H
         clear H
         have hnb55 := NB444_445.out
         have hnc55 := NB445_444.out
         have hnb56 := NB444_446.out
         have hnc56 := NB446_444.out
         have hcz57_0 : w7.cell? ⟨gb444, 0, none⟩ = some (.int .i64 a0_0) := (blk_cell BK444.out 0).trans rfl
         have hcz57_1 : w7.cell? ⟨gb444, 1, none⟩ = some (.int .i64 a0_1) := (blk_cell BK444.out 1).trans rfl
         have hcz57_2 : w7.cell? ⟨gb444, 2, none⟩ = some (.slice A0_2 l0_2.length c0_2) := (blk_cell BK444.out 2).trans rfl
         have hfz57_0 := blk_frozen BK444.out 0
         have hfz57_1 := blk_frozen BK444.out 1
         have hfz57_2 := blk_frozen BK444.out 2
         go_wp2_with (first | (go_at_call 22; (with_reducible refine (compositorlaw09_small.calls a0_0 a0_1 _ _ l0_2 true _ ?side1 ?side2 A11.out).mono ?_); (case side1 => repeat (first | exact (Kd.C_below HR0_2.out HB.out) | (with_reducible refine Kd.C_alloc ?_ _) | (with_reducible refine Kd.C_drewN ?_ _) | (with_reducible refine Kd.C_drew ?_))); (case side2 => exact HC0_2.out); rintro e w58 ⟨rfl, hb⟩; have n0_ := bb_ BK444 hb; have n1_ := bb_ BK445 hb; have n2_ := bb_ BK446 hb; have n3_ := hb_ HB hb; clear BK444; clear BK445; clear BK446; clear HB; have BK444 := n0_; have BK445 := n1_; have BK446 := n2_; have HB := n3_; clear n0_ n1_ n2_ n3_; (try clear hb); (try clear hb2); (try clear hk); (try clear hi); have hnb59 := NB445_446.out; have hnc59 := NB446_445.out; have hcz60_0 : w58.cell? ⟨gb445, 0, none⟩ = some (.int .i64 a1_0) := (blk_cell BK445.out 0).trans rfl; have hcz60_1 : w58.cell? ⟨gb445, 1, none⟩ = some (.int .i64 a1_1) := (blk_cell BK445.out 1).trans rfl; have hcz60_2 : w58.cell? ⟨gb445, 2, none⟩ = some (.slice A1_2 l1_2.length c1_2) := (blk_cell BK445.out 2).trans rfl; have hfz60_0 := blk_frozen BK445.out 0; have hfz60_1 := blk_frozen BK445.out 1; have hfz60_2 := blk_frozen BK445.out 2) | (go_at_call 22; (with_reducible refine (compositorlaw09_small.calls a1_0 a1_1 _ _ l1_2 true _ ?side1 ?side2 A13.out).mono ?_); (case side1 => repeat (first | exact (Kd.C_below HR1_2.out HB.out) | (with_reducible refine Kd.C_alloc ?_ _) | (with_reducible refine Kd.C_drewN ?_ _) | (with_reducible refine Kd.C_drew ?_))); (case side2 => exact HC1_2.out); rintro e w61 ⟨rfl, hb⟩; have n0_ := bb_ BK444 hb; have n1_ := bb_ BK445 hb; have n2_ := bb_ BK446 hb; have n3_ := hb_ HB hb; clear BK444; clear BK445; clear BK446; clear HB; have BK444 := n0_; have BK445 := n1_; have BK446 := n2_; have HB := n3_; clear n0_ n1_ n2_ n3_; (try clear hb); (try clear hb2); (try clear hk); (try clear hi); have hcz62_0 : w61.cell? ⟨gb444, 0, none⟩ = some (.int .i64 a0_0) := (blk_cell BK444.out 0).trans rfl; have hcz62_1 : w61.cell? ⟨gb444, 1, none⟩ = some (.int .i64 a0_1) := (blk_cell BK444.out 1).trans rfl; have hcz62_2 : w61.cell? ⟨gb444, 2, none⟩ = some (.slice A0_2 l0_2.length c0_2) := (blk_cell BK444.out 2).trans rfl; have hfz62_0 := blk_frozen BK444.out 0; have hfz62_1 := blk_frozen BK444.out 1; have hfz62_2 := blk_frozen BK444.out 2) | (go_at_call 25; (with_reducible refine (compositorref09_Valid.calls k a0_0 a0_1 _ _ l0_2 true _ ?side1 ?side2 A15.out).mono ?_); (case side1 => repeat (first | exact (Kd.C_below HR0_2.out HB.out) | (with_reducible refine Kd.C_alloc ?_ _) | (with_reducible refine Kd.C_drewN ?_ _) | (with_reducible refine Kd.C_drew ?_))); (case side2 => exact HC0_2.out); rintro e w63 ⟨rfl, hb⟩; have n0_ := bb_ BK444 hb; have n1_ := bb_ BK445 hb; have n2_ := bb_ BK446 hb; have n3_ := hb_ HB hb; clear BK444; clear BK445; clear BK446; clear HB; have BK444 := n0_; have BK445 := n1_; have BK446 := n2_; have HB := n3_; clear n0_ n1_ n2_ n3_; (try clear hb); (try clear hb2); (try clear hk); (try clear hi); have hcz64_0 : w63.cell? ⟨gb445, 0, none⟩ = some (.int .i64 a1_0) := (blk_cell BK445.out 0).trans rfl; have hcz64_1 : w63.cell? ⟨gb445, 1, none⟩ = some (.int .i64 a1_1) := (blk_cell BK445.out 1).trans rfl; have hcz64_2 : w63.cell? ⟨gb445, 2, none⟩ = some (.slice A1_2 l1_2.length c1_2) := (blk_cell BK445.out 2).trans rfl; have hfz64_0 := blk_frozen BK445.out 0; have hfz64_1 := blk_frozen BK445.out 1; have hfz64_2 := blk_frozen BK445.out 2) | (go_at_call 25; (with_reducible refine (compositorref09_Valid.calls k a1_0 a1_1 _ _ l1_2 true _ ?side1 ?side2 A17.out).mono ?_); (case side1 => repeat (first | exact (Kd.C_below HR1_2.out HB.out) | (with_reducible refine Kd.C_alloc ?_ _) | (with_reducible refine Kd.C_drewN ?_ _) | (with_reducible refine Kd.C_drew ?_))); (case side2 => exact HC1_2.out); rintro e w65 ⟨rfl, hb⟩; have n0_ := bb_ BK444 hb; have n1_ := bb_ BK445 hb; have n2_ := bb_ BK446 hb; have n3_ := hb_ HB hb; clear BK444; clear BK445; clear BK446; clear HB; have BK444 := n0_; have BK445 := n1_; have BK446 := n2_; have HB := n3_; clear n0_ n1_ n2_ n3_; (try clear hb); (try clear hb2); (try clear hk); (try clear hi)))
         repeat (go_quiet (first | (go_at_call 22; (with_reducible refine (compositorlaw09_small.calls a0_0 a0_1 _ _ l0_2 true _ ?side1 ?side2 A11.out).mono ?_); (case side1 => repeat (first | exact (Kd.C_below HR0_2.out HB.out) | (with_reducible refine Kd.C_alloc ?_ _) | (with_reducible refine Kd.C_drewN ?_ _) | (with_reducible refine Kd.C_drew ?_))); (case side2 => exact HC0_2.out); rintro e w58 ⟨rfl, hb⟩; have n0_ := bb_ BK444 hb; have n1_ := bb_ BK445 hb; have n2_ := bb_ BK446 hb; have n3_ := hb_ HB hb; clear BK444; clear BK445; clear BK446; clear HB; have BK444 := n0_; have BK445 := n1_; have BK446 := n2_; have HB := n3_; clear n0_ n1_ n2_ n3_; (try clear hb); (try clear hb2); (try clear hk); (try clear hi); have hnb59 := NB445_446.out; have hnc59 := NB446_445.out; have hcz60_0 : w58.cell? ⟨gb445, 0, none⟩ = some (.int .i64 a1_0) := (blk_cell BK445.out 0).trans rfl; have hcz60_1 : w58.cell? ⟨gb445, 1, none⟩ = some (.int .i64 a1_1) := (blk_cell BK445.out 1).trans rfl; have hcz60_2 : w58.cell? ⟨gb445, 2, none⟩ = some (.slice A1_2 l1_2.length c1_2) := (blk_cell BK445.out 2).trans rfl; have hfz60_0 := blk_frozen BK445.out 0; have hfz60_1 := blk_frozen BK445.out 1; have hfz60_2 := blk_frozen BK445.out 2) | (go_at_call 22; (with_reducible refine (compositorlaw09_small.calls a1_0 a1_1 _ _ l1_2 true _ ?side1 ?side2 A13.out).mono ?_); (case side1 => repeat (first | exact (Kd.C_below HR1_2.out HB.out) | (with_reducible refine Kd.C_alloc ?_ _) | (with_reducible refine Kd.C_drewN ?_ _) | (with_reducible refine Kd.C_drew ?_))); (case side2 => exact HC1_2.out); rintro e w61 ⟨rfl, hb⟩; have n0_ := bb_ BK444 hb; have n1_ := bb_ BK445 hb; have n2_ := bb_ BK446 hb; have n3_ := hb_ HB hb; clear BK444; clear BK445; clear BK446; clear HB; have BK444 := n0_; have BK445 := n1_; have BK446 := n2_; have HB := n3_; clear n0_ n1_ n2_ n3_; (try clear hb); (try clear hb2); (try clear hk); (try clear hi); have hcz62_0 : w61.cell? ⟨gb444, 0, none⟩ = some (.int .i64 a0_0) := (blk_cell BK444.out 0).trans rfl; have hcz62_1 : w61.cell? ⟨gb444, 1, none⟩ = some (.int .i64 a0_1) := (blk_cell BK444.out 1).trans rfl; have hcz62_2 : w61.cell? ⟨gb444, 2, none⟩ = some (.slice A0_2 l0_2.length c0_2) := (blk_cell BK444.out 2).trans rfl; have hfz62_0 := blk_frozen BK444.out 0; have hfz62_1 := blk_frozen BK444.out 1; have hfz62_2 := blk_frozen BK444.out 2) | (go_at_call 25; (with_reducible refine (compositorref09_Valid.calls k a0_0 a0_1 _ _ l0_2 true _ ?side1 ?side2 A15.out).mono ?_); (case side1 => repeat (first | exact (Kd.C_below HR0_2.out HB.out) | (with_reducible refine Kd.C_alloc ?_ _) | (with_reducible refine Kd.C_drewN ?_ _) | (with_reducible refine Kd.C_drew ?_))); (case side2 => exact HC0_2.out); rintro e w63 ⟨rfl, hb⟩; have n0_ := bb_ BK444 hb; have n1_ := bb_ BK445 hb; have n2_ := bb_ BK446 hb; have n3_ := hb_ HB hb; clear BK444; clear BK445; clear BK446; clear HB; have BK444 := n0_; have BK445 := n1_; have BK446 := n2_; have HB := n3_; clear n0_ n1_ n2_ n3_; (try clear hb); (try clear hb2); (try clear hk); (try clear hi); have hcz64_0 : w63.cell? ⟨gb445, 0, none⟩ = some (.int .i64 a1_0) := (blk_cell BK445.out 0).trans rfl; have hcz64_1 : w63.cell? ⟨gb445, 1, none⟩ = some (.int .i64 a1_1) := (blk_cell BK445.out 1).trans rfl; have hcz64_2 : w63.cell? ⟨gb445, 2, none⟩ = some (.slice A1_2 l1_2.length c1_2) := (blk_cell BK445.out 2).trans rfl; have hfz64_0 := blk_frozen BK445.out 0; have hfz64_1 := blk_frozen BK445.out 1; have hfz64_2 := blk_frozen BK445.out 2) | (go_at_call 25; (with_reducible refine (compositorref09_Valid.calls k a1_0 a1_1 _ _ l1_2 true _ ?side1 ?side2 A17.out).mono ?_); (case side1 => repeat (first | exact (Kd.C_below HR1_2.out HB.out) | (with_reducible refine Kd.C_alloc ?_ _) | (with_reducible refine Kd.C_drewN ?_ _) | (with_reducible refine Kd.C_drew ?_))); (case side2 => exact HC1_2.out); rintro e w65 ⟨rfl, hb⟩; have n0_ := bb_ BK444 hb; have n1_ := bb_ BK445 hb; have n2_ := bb_ BK446 hb; have n3_ := hb_ HB hb; clear BK444; clear BK445; clear BK446; clear HB; have BK444 := n0_; have BK445 := n1_; have BK446 := n2_; have HB := n3_; clear n0_ n1_ n2_ n3_; (try clear hb); (try clear hb2); (try clear hk); (try clear hi))); try go_wp2_with (first | (go_at_call 22; (with_reducible refine (compositorlaw09_small.calls a0_0 a0_1 _ _ l0_2 true _ ?side1 ?side2 A11.out).mono ?_); (case side1 => repeat (first | exact (Kd.C_below HR0_2.out HB.out) | (with_reducible refine Kd.C_alloc ?_ _) | (with_reducible refine Kd.C_drewN ?_ _) | (with_reducible refine Kd.C_drew ?_))); (case side2 => exact HC0_2.out); rintro e w58 ⟨rfl, hb⟩; have n0_ := bb_ BK444 hb; have n1_ := bb_ BK445 hb; have n2_ := bb_ BK446 hb; have n3_ := hb_ HB hb; clear BK444; clear BK445; clear BK446; clear HB; have BK444 := n0_; have BK445 := n1_; have BK446 := n2_; have HB := n3_; clear n0_ n1_ n2_ n3_; (try clear hb); (try clear hb2); (try clear hk); (try clear hi); have hnb59 := NB445_446.out; have hnc59 := NB446_445.out; have hcz60_0 : w58.cell? ⟨gb445, 0, none⟩ = some (.int .i64 a1_0) := (blk_cell BK445.out 0).trans rfl; have hcz60_1 : w58.cell? ⟨gb445, 1, none⟩ = some (.int .i64 a1_1) := (blk_cell BK445.out 1).trans rfl; have hcz60_2 : w58.cell? ⟨gb445, 2, none⟩ = some (.slice A1_2 l1_2.length c1_2) := (blk_cell BK445.out 2).trans rfl; have hfz60_0 := blk_frozen BK445.out 0; have hfz60_1 := blk_frozen BK445.out 1; have hfz60_2 := blk_frozen BK445.out 2) | (go_at_call 22; (with_reducible refine (compositorlaw09_small.calls a1_0 a1_1 _ _ l1_2 true _ ?side1 ?side2 A13.out).mono ?_); (case side1 => repeat (first | exact (Kd.C_below HR1_2.out HB.out) | (with_reducible refine Kd.C_alloc ?_ _) | (with_reducible refine Kd.C_drewN ?_ _) | (with_reducible refine Kd.C_drew ?_))); (case side2 => exact HC1_2.out); rintro e w61 ⟨rfl, hb⟩; have n0_ := bb_ BK444 hb; have n1_ := bb_ BK445 hb; have n2_ := bb_ BK446 hb; have n3_ := hb_ HB hb; clear BK444; clear BK445; clear BK446; clear HB; have BK444 := n0_; have BK445 := n1_; have BK446 := n2_; have HB := n3_; clear n0_ n1_ n2_ n3_; (try clear hb); (try clear hb2); (try clear hk); (try clear hi); have hcz62_0 : w61.cell? ⟨gb444, 0, none⟩ = some (.int .i64 a0_0) := (blk_cell BK444.out 0).trans rfl; have hcz62_1 : w61.cell? ⟨gb444, 1, none⟩ = some (.int .i64 a0_1) := (blk_cell BK444.out 1).trans rfl; have hcz62_2 : w61.cell? ⟨gb444, 2, none⟩ = some (.slice A0_2 l0_2.length c0_2) := (blk_cell BK444.out 2).trans rfl; have hfz62_0 := blk_frozen BK444.out 0; have hfz62_1 := blk_frozen BK444.out 1; have hfz62_2 := blk_frozen BK444.out 2) | (go_at_call 25; (with_reducible refine (compositorref09_Valid.calls k a0_0 a0_1 _ _ l0_2 true _ ?side1 ?side2 A15.out).mono ?_); (case side1 => repeat (first | exact (Kd.C_below HR0_2.out HB.out) | (with_reducible refine Kd.C_alloc ?_ _) | (with_reducible refine Kd.C_drewN ?_ _) | (with_reducible refine Kd.C_drew ?_))); (case side2 => exact HC0_2.out); rintro e w63 ⟨rfl, hb⟩; have n0_ := bb_ BK444 hb; have n1_ := bb_ BK445 hb; have n2_ := bb_ BK446 hb; have n3_ := hb_ HB hb; clear BK444; clear BK445; clear BK446; clear HB; have BK444 := n0_; have BK445 := n1_; have BK446 := n2_; have HB := n3_; clear n0_ n1_ n2_ n3_; (try clear hb); (try clear hb2); (try clear hk); (try clear hi); have hcz64_0 : w63.cell? ⟨gb445, 0, none⟩ = some (.int .i64 a1_0) := (blk_cell BK445.out 0).trans rfl; have hcz64_1 : w63.cell? ⟨gb445, 1, none⟩ = some (.int .i64 a1_1) := (blk_cell BK445.out 1).trans rfl; have hcz64_2 : w63.cell? ⟨gb445, 2, none⟩ = some (.slice A1_2 l1_2.length c1_2) := (blk_cell BK445.out 2).trans rfl; have hfz64_0 := blk_frozen BK445.out 0; have hfz64_1 := blk_frozen BK445.out 1; have hfz64_2 := blk_frozen BK445.out 2) | (go_at_call 25; (with_reducible refine (compositorref09_Valid.calls k a1_0 a1_1 _ _ l1_2 true _ ?side1 ?side2 A17.out).mono ?_); (case side1 => repeat (first | exact (Kd.C_below HR1_2.out HB.out) | (with_reducible refine Kd.C_alloc ?_ _) | (with_reducible refine Kd.C_drewN ?_ _) | (with_reducible refine Kd.C_drew ?_))); (case side2 => exact HC1_2.out); rintro e w65 ⟨rfl, hb⟩; have n0_ := bb_ BK444 hb; have n1_ := bb_ BK445 hb; have n2_ := bb_ BK446 hb; have n3_ := hb_ HB hb; clear BK444; clear BK445; clear BK446; clear HB; have BK444 := n0_; have BK445 := n1_; have BK446 := n2_; have HB := n3_; clear n0_ n1_ n2_ n3_; (try clear hb); (try clear hb2); (try clear hk); (try clear hi))))
         go_meet
         case rel => exact ⟨_, (decide (a2_1 > 30)), (by first | rfl | (simp; done) | (simp [*]; done)), H', ⟨by first | omega | exact Nat.le_refl _⟩, bf_ BK444, bf_ BK445, bf_ BK446, ⟨by repeat (first | (with_reducible first | exact HB.out | apply below_alloc | apply pw_below_drewN | apply below_drew1 | refine below_set ?_ GE444.out | refine below_set ?_ GE445.out | refine below_set ?_ GE446.out) | exact HB.out)⟩⟩
     ·
      replace c18 := Bool.eq_false_iff.mpr c18
      subst c18
      have H1 : (compositorlaw09_BufferCovers.j0 k a2_0 a2_1 true a0_0 a0_1 l0_2 a1_0 a1_1 l1_2) = some true := by rw [if_neg (show ¬ (false = true) by decide)] at H; exact H
      clear H
      have H := H1
      clear H1
      have H' := Aside0.mk H
      clear H
      have hnb66 := NB444_445.out
      have hnc66 := NB445_444.out
      have hnb67 := NB444_446.out
      have hnc67 := NB446_444.out
      have hcz68_0 : w7.cell? ⟨gb444, 0, none⟩ = some (.int .i64 a0_0) := (blk_cell BK444.out 0).trans rfl
      have hcz68_1 : w7.cell? ⟨gb444, 1, none⟩ = some (.int .i64 a0_1) := (blk_cell BK444.out 1).trans rfl
      have hcz68_2 : w7.cell? ⟨gb444, 2, none⟩ = some (.slice A0_2 l0_2.length c0_2) := (blk_cell BK444.out 2).trans rfl
      have hfz68_0 := blk_frozen BK444.out 0
      have hfz68_1 := blk_frozen BK444.out 1
      have hfz68_2 := blk_frozen BK444.out 2
      go_wp2_with (first | (go_at_call 22; (with_reducible refine (compositorlaw09_small.calls a0_0 a0_1 _ _ l0_2 true _ ?side1 ?side2 A11.out).mono ?_); (case side1 => repeat (first | exact (Kd.C_below HR0_2.out HB.out) | (with_reducible refine Kd.C_alloc ?_ _) | (with_reducible refine Kd.C_drewN ?_ _) | (with_reducible refine Kd.C_drew ?_))); (case side2 => exact HC0_2.out); rintro e w69 ⟨rfl, hb⟩; have n0_ := bb_ BK444 hb; have n1_ := bb_ BK445 hb; have n2_ := bb_ BK446 hb; have n3_ := hb_ HB hb; clear BK444; clear BK445; clear BK446; clear HB; have BK444 := n0_; have BK445 := n1_; have BK446 := n2_; have HB := n3_; clear n0_ n1_ n2_ n3_; (try clear hb); (try clear hb2); (try clear hk); (try clear hi); have hnb70 := NB445_446.out; have hnc70 := NB446_445.out; have hcz71_0 : w69.cell? ⟨gb445, 0, none⟩ = some (.int .i64 a1_0) := (blk_cell BK445.out 0).trans rfl; have hcz71_1 : w69.cell? ⟨gb445, 1, none⟩ = some (.int .i64 a1_1) := (blk_cell BK445.out 1).trans rfl; have hcz71_2 : w69.cell? ⟨gb445, 2, none⟩ = some (.slice A1_2 l1_2.length c1_2) := (blk_cell BK445.out 2).trans rfl; have hfz71_0 := blk_frozen BK445.out 0; have hfz71_1 := blk_frozen BK445.out 1; have hfz71_2 := blk_frozen BK445.out 2) | (go_at_call 22; (with_reducible refine (compositorlaw09_small.calls a1_0 a1_1 _ _ l1_2 true _ ?side1 ?side2 A13.out).mono ?_); (case side1 => repeat (first | exact (Kd.C_below HR1_2.out HB.out) | (with_reducible refine Kd.C_alloc ?_ _) | (with_reducible refine Kd.C_drewN ?_ _) | (with_reducible refine Kd.C_drew ?_))); (case side2 => exact HC1_2.out); rintro e w72 ⟨rfl, hb⟩; have n0_ := bb_ BK444 hb; have n1_ := bb_ BK445 hb; have n2_ := bb_ BK446 hb; have n3_ := hb_ HB hb; clear BK444; clear BK445; clear BK446; clear HB; have BK444 := n0_; have BK445 := n1_; have BK446 := n2_; have HB := n3_; clear n0_ n1_ n2_ n3_; (try clear hb); (try clear hb2); (try clear hk); (try clear hi); have hcz73_0 : w72.cell? ⟨gb444, 0, none⟩ = some (.int .i64 a0_0) := (blk_cell BK444.out 0).trans rfl; have hcz73_1 : w72.cell? ⟨gb444, 1, none⟩ = some (.int .i64 a0_1) := (blk_cell BK444.out 1).trans rfl; have hcz73_2 : w72.cell? ⟨gb444, 2, none⟩ = some (.slice A0_2 l0_2.length c0_2) := (blk_cell BK444.out 2).trans rfl; have hfz73_0 := blk_frozen BK444.out 0; have hfz73_1 := blk_frozen BK444.out 1; have hfz73_2 := blk_frozen BK444.out 2) | (go_at_call 25; (with_reducible refine (compositorref09_Valid.calls k a0_0 a0_1 _ _ l0_2 true _ ?side1 ?side2 A15.out).mono ?_); (case side1 => repeat (first | exact (Kd.C_below HR0_2.out HB.out) | (with_reducible refine Kd.C_alloc ?_ _) | (with_reducible refine Kd.C_drewN ?_ _) | (with_reducible refine Kd.C_drew ?_))); (case side2 => exact HC0_2.out); rintro e w74 ⟨rfl, hb⟩; have n0_ := bb_ BK444 hb; have n1_ := bb_ BK445 hb; have n2_ := bb_ BK446 hb; have n3_ := hb_ HB hb; clear BK444; clear BK445; clear BK446; clear HB; have BK444 := n0_; have BK445 := n1_; have BK446 := n2_; have HB := n3_; clear n0_ n1_ n2_ n3_; (try clear hb); (try clear hb2); (try clear hk); (try clear hi); have hcz75_0 : w74.cell? ⟨gb445, 0, none⟩ = some (.int .i64 a1_0) := (blk_cell BK445.out 0).trans rfl; have hcz75_1 : w74.cell? ⟨gb445, 1, none⟩ = some (.int .i64 a1_1) := (blk_cell BK445.out 1).trans rfl; have hcz75_2 : w74.cell? ⟨gb445, 2, none⟩ = some (.slice A1_2 l1_2.length c1_2) := (blk_cell BK445.out 2).trans rfl; have hfz75_0 := blk_frozen BK445.out 0; have hfz75_1 := blk_frozen BK445.out 1; have hfz75_2 := blk_frozen BK445.out 2) | (go_at_call 25; (with_reducible refine (compositorref09_Valid.calls k a1_0 a1_1 _ _ l1_2 false _ ?side1 ?side2 A17.out).mono ?_); (case side1 => repeat (first | exact (Kd.C_below HR1_2.out HB.out) | (with_reducible refine Kd.C_alloc ?_ _) | (with_reducible refine Kd.C_drewN ?_ _) | (with_reducible refine Kd.C_drew ?_))); (case side2 => exact HC1_2.out); rintro e w76 ⟨rfl, hb⟩; have n0_ := bb_ BK444 hb; have n1_ := bb_ BK445 hb; have n2_ := bb_ BK446 hb; have n3_ := hb_ HB hb; clear BK444; clear BK445; clear BK446; clear HB; have BK444 := n0_; have BK445 := n1_; have BK446 := n2_; have HB := n3_; clear n0_ n1_ n2_ n3_; (try clear hb); (try clear hb2); (try clear hk); (try clear hi)))
      repeat (go_quiet (first | (go_at_call 22; (with_reducible refine (compositorlaw09_small.calls a0_0 a0_1 _ _ l0_2 true _ ?side1 ?side2 A11.out).mono ?_); (case side1 => repeat (first | exact (Kd.C_below HR0_2.out HB.out) | (with_reducible refine Kd.C_alloc ?_ _) | (with_reducible refine Kd.C_drewN ?_ _) | (with_reducible refine Kd.C_drew ?_))); (case side2 => exact HC0_2.out); rintro e w69 ⟨rfl, hb⟩; have n0_ := bb_ BK444 hb; have n1_ := bb_ BK445 hb; have n2_ := bb_ BK446 hb; have n3_ := hb_ HB hb; clear BK444; clear BK445; clear BK446; clear HB; have BK444 := n0_; have BK445 := n1_; have BK446 := n2_; have HB := n3_; clear n0_ n1_ n2_ n3_; (try clear hb); (try clear hb2); (try clear hk); (try clear hi); have hnb70 := NB445_446.out; have hnc70 := NB446_445.out; have hcz71_0 : w69.cell? ⟨gb445, 0, none⟩ = some (.int .i64 a1_0) := (blk_cell BK445.out 0).trans rfl; have hcz71_1 : w69.cell? ⟨gb445, 1, none⟩ = some (.int .i64 a1_1) := (blk_cell BK445.out 1).trans rfl; have hcz71_2 : w69.cell? ⟨gb445, 2, none⟩ = some (.slice A1_2 l1_2.length c1_2) := (blk_cell BK445.out 2).trans rfl; have hfz71_0 := blk_frozen BK445.out 0; have hfz71_1 := blk_frozen BK445.out 1; have hfz71_2 := blk_frozen BK445.out 2) | (go_at_call 22; (with_reducible refine (compositorlaw09_small.calls a1_0 a1_1 _ _ l1_2 true _ ?side1 ?side2 A13.out).mono ?_); (case side1 => repeat (first | exact (Kd.C_below HR1_2.out HB.out) | (with_reducible refine Kd.C_alloc ?_ _) | (with_reducible refine Kd.C_drewN ?_ _) | (with_reducible refine Kd.C_drew ?_))); (case side2 => exact HC1_2.out); rintro e w72 ⟨rfl, hb⟩; have n0_ := bb_ BK444 hb; have n1_ := bb_ BK445 hb; have n2_ := bb_ BK446 hb; have n3_ := hb_ HB hb; clear BK444; clear BK445; clear BK446; clear HB; have BK444 := n0_; have BK445 := n1_; have BK446 := n2_; have HB := n3_; clear n0_ n1_ n2_ n3_; (try clear hb); (try clear hb2); (try clear hk); (try clear hi); have hcz73_0 : w72.cell? ⟨gb444, 0, none⟩ = some (.int .i64 a0_0) := (blk_cell BK444.out 0).trans rfl; have hcz73_1 : w72.cell? ⟨gb444, 1, none⟩ = some (.int .i64 a0_1) := (blk_cell BK444.out 1).trans rfl; have hcz73_2 : w72.cell? ⟨gb444, 2, none⟩ = some (.slice A0_2 l0_2.length c0_2) := (blk_cell BK444.out 2).trans rfl; have hfz73_0 := blk_frozen BK444.out 0; have hfz73_1 := blk_frozen BK444.out 1; have hfz73_2 := blk_frozen BK444.out 2) | (go_at_call 25; (with_reducible refine (compositorref09_Valid.calls k a0_0 a0_1 _ _ l0_2 true _ ?side1 ?side2 A15.out).mono ?_); (case side1 => repeat (first | exact (Kd.C_below HR0_2.out HB.out) | (with_reducible refine Kd.C_alloc ?_ _) | (with_reducible refine Kd.C_drewN ?_ _) | (with_reducible refine Kd.C_drew ?_))); (case side2 => exact HC0_2.out); rintro e w74 ⟨rfl, hb⟩; have n0_ := bb_ BK444 hb; have n1_ := bb_ BK445 hb; have n2_ := bb_ BK446 hb; have n3_ := hb_ HB hb; clear BK444; clear BK445; clear BK446; clear HB; have BK444 := n0_; have BK445 := n1_; have BK446 := n2_; have HB := n3_; clear n0_ n1_ n2_ n3_; (try clear hb); (try clear hb2); (try clear hk); (try clear hi); have hcz75_0 : w74.cell? ⟨gb445, 0, none⟩ = some (.int .i64 a1_0) := (blk_cell BK445.out 0).trans rfl; have hcz75_1 : w74.cell? ⟨gb445, 1, none⟩ = some (.int .i64 a1_1) := (blk_cell BK445.out 1).trans rfl; have hcz75_2 : w74.cell? ⟨gb445, 2, none⟩ = some (.slice A1_2 l1_2.length c1_2) := (blk_cell BK445.out 2).trans rfl; have hfz75_0 := blk_frozen BK445.out 0; have hfz75_1 := blk_frozen BK445.out 1; have hfz75_2 := blk_frozen BK445.out 2) | (go_at_call 25; (with_reducible refine (compositorref09_Valid.calls k a1_0 a1_1 _ _ l1_2 false _ ?side1 ?side2 A17.out).mono ?_); (case side1 => repeat (first | exact (Kd.C_below HR1_2.out HB.out) | (with_reducible refine Kd.C_alloc ?_ _) | (with_reducible refine Kd.C_drewN ?_ _) | (with_reducible refine Kd.C_drew ?_))); (case side2 => exact HC1_2.out); rintro e w76 ⟨rfl, hb⟩; have n0_ := bb_ BK444 hb; have n1_ := bb_ BK445 hb; have n2_ := bb_ BK446 hb; have n3_ := hb_ HB hb; clear BK444; clear BK445; clear BK446; clear HB; have BK444 := n0_; have BK445 := n1_; have BK446 := n2_; have HB := n3_; clear n0_ n1_ n2_ n3_; (try clear hb); (try clear hb2); (try clear hk); (try clear hi))); try go_wp2_with (first | (go_at_call 22; (with_reducible refine (compositorlaw09_small.calls a0_0 a0_1 _ _ l0_2 true _ ?side1 ?side2 A11.out).mono ?_); (case side1 => repeat (first | exact (Kd.C_below HR0_2.out HB.out) | (with_reducible refine Kd.C_alloc ?_ _) | (with_reducible refine Kd.C_drewN ?_ _) | (with_reducible refine Kd.C_drew ?_))); (case side2 => exact HC0_2.out); rintro e w69 ⟨rfl, hb⟩; have n0_ := bb_ BK444 hb; have n1_ := bb_ BK445 hb; have n2_ := bb_ BK446 hb; have n3_ := hb_ HB hb; clear BK444; clear BK445; clear BK446; clear HB; have BK444 := n0_; have BK445 := n1_; have BK446 := n2_; have HB := n3_; clear n0_ n1_ n2_ n3_; (try clear hb); (try clear hb2); (try clear hk); (try clear hi); have hnb70 := NB445_446.out; have hnc70 := NB446_445.out; have hcz71_0 : w69.cell? ⟨gb445, 0, none⟩ = some (.int .i64 a1_0) := (blk_cell BK445.out 0).trans rfl; have hcz71_1 : w69.cell? ⟨gb445, 1, none⟩ = some (.int .i64 a1_1) := (blk_cell BK445.out 1).trans rfl; have hcz71_2 : w69.cell? ⟨gb445, 2, none⟩ = some (.slice A1_2 l1_2.length c1_2) := (blk_cell BK445.out 2).trans rfl; have hfz71_0 := blk_frozen BK445.out 0; have hfz71_1 := blk_frozen BK445.out 1; have hfz71_2 := blk_frozen BK445.out 2) | (go_at_call 22; (with_reducible refine (compositorlaw09_small.calls a1_0 a1_1 _ _ l1_2 true _ ?side1 ?side2 A13.out).mono ?_); (case side1 => repeat (first | exact (Kd.C_below HR1_2.out HB.out) | (with_reducible refine Kd.C_alloc ?_ _) | (with_reducible refine Kd.C_drewN ?_ _) | (with_reducible refine Kd.C_drew ?_))); (case side2 => exact HC1_2.out); rintro e w72 ⟨rfl, hb⟩; have n0_ := bb_ BK444 hb; have n1_ := bb_ BK445 hb; have n2_ := bb_ BK446 hb; have n3_ := hb_ HB hb; clear BK444; clear BK445; clear BK446; clear HB; have BK444 := n0_; have BK445 := n1_; have BK446 := n2_; have HB := n3_; clear n0_ n1_ n2_ n3_; (try clear hb); (try clear hb2); (try clear hk); (try clear hi); have hcz73_0 : w72.cell? ⟨gb444, 0, none⟩ = some (.int .i64 a0_0) := (blk_cell BK444.out 0).trans rfl; have hcz73_1 : w72.cell? ⟨gb444, 1, none⟩ = some (.int .i64 a0_1) := (blk_cell BK444.out 1).trans rfl; have hcz73_2 : w72.cell? ⟨gb444, 2, none⟩ = some (.slice A0_2 l0_2.length c0_2) := (blk_cell BK444.out 2).trans rfl; have hfz73_0 := blk_frozen BK444.out 0; have hfz73_1 := blk_frozen BK444.out 1; have hfz73_2 := blk_frozen BK444.out 2) | (go_at_call 25; (with_reducible refine (compositorref09_Valid.calls k a0_0 a0_1 _ _ l0_2 true _ ?side1 ?side2 A15.out).mono ?_); (case side1 => repeat (first | exact (Kd.C_below HR0_2.out HB.out) | (with_reducible refine Kd.C_alloc ?_ _) | (with_reducible refine Kd.C_drewN ?_ _) | (with_reducible refine Kd.C_drew ?_))); (case side2 => exact HC0_2.out); rintro e w74 ⟨rfl, hb⟩; have n0_ := bb_ BK444 hb; have n1_ := bb_ BK445 hb; have n2_ := bb_ BK446 hb; have n3_ := hb_ HB hb; clear BK444; clear BK445; clear BK446; clear HB; have BK444 := n0_; have BK445 := n1_; have BK446 := n2_; have HB := n3_; clear n0_ n1_ n2_ n3_; (try clear hb); (try clear hb2); (try clear hk); (try clear hi); have hcz75_0 : w74.cell? ⟨gb445, 0, none⟩ = some (.int .i64 a1_0) := (blk_cell BK445.out 0).trans rfl; have hcz75_1 : w74.cell? ⟨gb445, 1, none⟩ = some (.int .i64 a1_1) := (blk_cell BK445.out 1).trans rfl; have hcz75_2 : w74.cell? ⟨gb445, 2, none⟩ = some (.slice A1_2 l1_2.length c1_2) := (blk_cell BK445.out 2).trans rfl; have hfz75_0 := blk_frozen BK445.out 0; have hfz75_1 := blk_frozen BK445.out 1; have hfz75_2 := blk_frozen BK445.out 2) | (go_at_call 25; (with_reducible refine (compositorref09_Valid.calls k a1_0 a1_1 _ _ l1_2 false _ ?side1 ?side2 A17.out).mono ?_); (case side1 => repeat (first | exact (Kd.C_below HR1_2.out HB.out) | (with_reducible refine Kd.C_alloc ?_ _) | (with_reducible refine Kd.C_drewN ?_ _) | (with_reducible refine Kd.C_drew ?_))); (case side2 => exact HC1_2.out); rintro e w76 ⟨rfl, hb⟩; have n0_ := bb_ BK444 hb; have n1_ := bb_ BK445 hb; have n2_ := bb_ BK446 hb; have n3_ := hb_ HB hb; clear BK444; clear BK445; clear BK446; clear HB; have BK444 := n0_; have BK445 := n1_; have BK446 := n2_; have HB := n3_; clear n0_ n1_ n2_ n3_; (try clear hb); (try clear hb2); (try clear hk); (try clear hi))))
      go_meet
      case rel => exact ⟨_, (true), (by first | rfl | (simp; done) | (simp [*]; done)), H', ⟨by first | omega | exact Nat.le_refl _⟩, bf_ BK444, bf_ BK445, bf_ BK446, ⟨by repeat (first | (with_reducible first | exact HB.out | apply below_alloc | apply pw_below_drewN | apply below_drew1 | refine below_set ?_ GE444.out | refine below_set ?_ GE445.out | refine below_set ?_ GE446.out) | exact HB.out)⟩⟩
    ·
     replace c16 := Bool.eq_false_iff.mpr c16
     subst c16
     have H1 : (compositorlaw09_BufferCovers.j0 k a2_0 a2_1 true a0_0 a0_1 l0_2 a1_0 a1_1 l1_2) = some true := by rw [if_neg (show ¬ (false = true) by decide)] at H; exact H
     clear H
     have H := H1
     clear H1
     have H' := Aside0.mk H
     clear H
     have hnb77 := NB444_445.out
     have hnc77 := NB445_444.out
     have hnb78 := NB444_446.out
     have hnc78 := NB446_444.out
     have hcz79_0 : w7.cell? ⟨gb444, 0, none⟩ = some (.int .i64 a0_0) := (blk_cell BK444.out 0).trans rfl
     have hcz79_1 : w7.cell? ⟨gb444, 1, none⟩ = some (.int .i64 a0_1) := (blk_cell BK444.out 1).trans rfl
     have hcz79_2 : w7.cell? ⟨gb444, 2, none⟩ = some (.slice A0_2 l0_2.length c0_2) := (blk_cell BK444.out 2).trans rfl
     have hfz79_0 := blk_frozen BK444.out 0
     have hfz79_1 := blk_frozen BK444.out 1
     have hfz79_2 := blk_frozen BK444.out 2
     go_wp2_with (first | (go_at_call 22; (with_reducible refine (compositorlaw09_small.calls a0_0 a0_1 _ _ l0_2 true _ ?side1 ?side2 A11.out).mono ?_); (case side1 => repeat (first | exact (Kd.C_below HR0_2.out HB.out) | (with_reducible refine Kd.C_alloc ?_ _) | (with_reducible refine Kd.C_drewN ?_ _) | (with_reducible refine Kd.C_drew ?_))); (case side2 => exact HC0_2.out); rintro e w80 ⟨rfl, hb⟩; have n0_ := bb_ BK444 hb; have n1_ := bb_ BK445 hb; have n2_ := bb_ BK446 hb; have n3_ := hb_ HB hb; clear BK444; clear BK445; clear BK446; clear HB; have BK444 := n0_; have BK445 := n1_; have BK446 := n2_; have HB := n3_; clear n0_ n1_ n2_ n3_; (try clear hb); (try clear hb2); (try clear hk); (try clear hi); have hnb81 := NB445_446.out; have hnc81 := NB446_445.out; have hcz82_0 : w80.cell? ⟨gb445, 0, none⟩ = some (.int .i64 a1_0) := (blk_cell BK445.out 0).trans rfl; have hcz82_1 : w80.cell? ⟨gb445, 1, none⟩ = some (.int .i64 a1_1) := (blk_cell BK445.out 1).trans rfl; have hcz82_2 : w80.cell? ⟨gb445, 2, none⟩ = some (.slice A1_2 l1_2.length c1_2) := (blk_cell BK445.out 2).trans rfl; have hfz82_0 := blk_frozen BK445.out 0; have hfz82_1 := blk_frozen BK445.out 1; have hfz82_2 := blk_frozen BK445.out 2) | (go_at_call 22; (with_reducible refine (compositorlaw09_small.calls a1_0 a1_1 _ _ l1_2 true _ ?side1 ?side2 A13.out).mono ?_); (case side1 => repeat (first | exact (Kd.C_below HR1_2.out HB.out) | (with_reducible refine Kd.C_alloc ?_ _) | (with_reducible refine Kd.C_drewN ?_ _) | (with_reducible refine Kd.C_drew ?_))); (case side2 => exact HC1_2.out); rintro e w83 ⟨rfl, hb⟩; have n0_ := bb_ BK444 hb; have n1_ := bb_ BK445 hb; have n2_ := bb_ BK446 hb; have n3_ := hb_ HB hb; clear BK444; clear BK445; clear BK446; clear HB; have BK444 := n0_; have BK445 := n1_; have BK446 := n2_; have HB := n3_; clear n0_ n1_ n2_ n3_; (try clear hb); (try clear hb2); (try clear hk); (try clear hi); have hcz84_0 : w83.cell? ⟨gb444, 0, none⟩ = some (.int .i64 a0_0) := (blk_cell BK444.out 0).trans rfl; have hcz84_1 : w83.cell? ⟨gb444, 1, none⟩ = some (.int .i64 a0_1) := (blk_cell BK444.out 1).trans rfl; have hcz84_2 : w83.cell? ⟨gb444, 2, none⟩ = some (.slice A0_2 l0_2.length c0_2) := (blk_cell BK444.out 2).trans rfl; have hfz84_0 := blk_frozen BK444.out 0; have hfz84_1 := blk_frozen BK444.out 1; have hfz84_2 := blk_frozen BK444.out 2) | (go_at_call 25; (with_reducible refine (compositorref09_Valid.calls k a0_0 a0_1 _ _ l0_2 false _ ?side1 ?side2 A15.out).mono ?_); (case side1 => repeat (first | exact (Kd.C_below HR0_2.out HB.out) | (with_reducible refine Kd.C_alloc ?_ _) | (with_reducible refine Kd.C_drewN ?_ _) | (with_reducible refine Kd.C_drew ?_))); (case side2 => exact HC0_2.out); rintro e w85 ⟨rfl, hb⟩; have n0_ := bb_ BK444 hb; have n1_ := bb_ BK445 hb; have n2_ := bb_ BK446 hb; have n3_ := hb_ HB hb; clear BK444; clear BK445; clear BK446; clear HB; have BK444 := n0_; have BK445 := n1_; have BK446 := n2_; have HB := n3_; clear n0_ n1_ n2_ n3_; (try clear hb); (try clear hb2); (try clear hk); (try clear hi)))
     repeat (go_quiet (first | (go_at_call 22; (with_reducible refine (compositorlaw09_small.calls a0_0 a0_1 _ _ l0_2 true _ ?side1 ?side2 A11.out).mono ?_); (case side1 => repeat (first | exact (Kd.C_below HR0_2.out HB.out) | (with_reducible refine Kd.C_alloc ?_ _) | (with_reducible refine Kd.C_drewN ?_ _) | (with_reducible refine Kd.C_drew ?_))); (case side2 => exact HC0_2.out); rintro e w80 ⟨rfl, hb⟩; have n0_ := bb_ BK444 hb; have n1_ := bb_ BK445 hb; have n2_ := bb_ BK446 hb; have n3_ := hb_ HB hb; clear BK444; clear BK445; clear BK446; clear HB; have BK444 := n0_; have BK445 := n1_; have BK446 := n2_; have HB := n3_; clear n0_ n1_ n2_ n3_; (try clear hb); (try clear hb2); (try clear hk); (try clear hi); have hnb81 := NB445_446.out; have hnc81 := NB446_445.out; have hcz82_0 : w80.cell? ⟨gb445, 0, none⟩ = some (.int .i64 a1_0) := (blk_cell BK445.out 0).trans rfl; have hcz82_1 : w80.cell? ⟨gb445, 1, none⟩ = some (.int .i64 a1_1) := (blk_cell BK445.out 1).trans rfl; have hcz82_2 : w80.cell? ⟨gb445, 2, none⟩ = some (.slice A1_2 l1_2.length c1_2) := (blk_cell BK445.out 2).trans rfl; have hfz82_0 := blk_frozen BK445.out 0; have hfz82_1 := blk_frozen BK445.out 1; have hfz82_2 := blk_frozen BK445.out 2) | (go_at_call 22; (with_reducible refine (compositorlaw09_small.calls a1_0 a1_1 _ _ l1_2 true _ ?side1 ?side2 A13.out).mono ?_); (case side1 => repeat (first | exact (Kd.C_below HR1_2.out HB.out) | (with_reducible refine Kd.C_alloc ?_ _) | (with_reducible refine Kd.C_drewN ?_ _) | (with_reducible refine Kd.C_drew ?_))); (case side2 => exact HC1_2.out); rintro e w83 ⟨rfl, hb⟩; have n0_ := bb_ BK444 hb; have n1_ := bb_ BK445 hb; have n2_ := bb_ BK446 hb; have n3_ := hb_ HB hb; clear BK444; clear BK445; clear BK446; clear HB; have BK444 := n0_; have BK445 := n1_; have BK446 := n2_; have HB := n3_; clear n0_ n1_ n2_ n3_; (try clear hb); (try clear hb2); (try clear hk); (try clear hi); have hcz84_0 : w83.cell? ⟨gb444, 0, none⟩ = some (.int .i64 a0_0) := (blk_cell BK444.out 0).trans rfl; have hcz84_1 : w83.cell? ⟨gb444, 1, none⟩ = some (.int .i64 a0_1) := (blk_cell BK444.out 1).trans rfl; have hcz84_2 : w83.cell? ⟨gb444, 2, none⟩ = some (.slice A0_2 l0_2.length c0_2) := (blk_cell BK444.out 2).trans rfl; have hfz84_0 := blk_frozen BK444.out 0; have hfz84_1 := blk_frozen BK444.out 1; have hfz84_2 := blk_frozen BK444.out 2) | (go_at_call 25; (with_reducible refine (compositorref09_Valid.calls k a0_0 a0_1 _ _ l0_2 false _ ?side1 ?side2 A15.out).mono ?_); (case side1 => repeat (first | exact (Kd.C_below HR0_2.out HB.out) | (with_reducible refine Kd.C_alloc ?_ _) | (with_reducible refine Kd.C_drewN ?_ _) | (with_reducible refine Kd.C_drew ?_))); (case side2 => exact HC0_2.out); rintro e w85 ⟨rfl, hb⟩; have n0_ := bb_ BK444 hb; have n1_ := bb_ BK445 hb; have n2_ := bb_ BK446 hb; have n3_ := hb_ HB hb; clear BK444; clear BK445; clear BK446; clear HB; have BK444 := n0_; have BK445 := n1_; have BK446 := n2_; have HB := n3_; clear n0_ n1_ n2_ n3_; (try clear hb); (try clear hb2); (try clear hk); (try clear hi))); try go_wp2_with (first | (go_at_call 22; (with_reducible refine (compositorlaw09_small.calls a0_0 a0_1 _ _ l0_2 true _ ?side1 ?side2 A11.out).mono ?_); (case side1 => repeat (first | exact (Kd.C_below HR0_2.out HB.out) | (with_reducible refine Kd.C_alloc ?_ _) | (with_reducible refine Kd.C_drewN ?_ _) | (with_reducible refine Kd.C_drew ?_))); (case side2 => exact HC0_2.out); rintro e w80 ⟨rfl, hb⟩; have n0_ := bb_ BK444 hb; have n1_ := bb_ BK445 hb; have n2_ := bb_ BK446 hb; have n3_ := hb_ HB hb; clear BK444; clear BK445; clear BK446; clear HB; have BK444 := n0_; have BK445 := n1_; have BK446 := n2_; have HB := n3_; clear n0_ n1_ n2_ n3_; (try clear hb); (try clear hb2); (try clear hk); (try clear hi); have hnb81 := NB445_446.out; have hnc81 := NB446_445.out; have hcz82_0 : w80.cell? ⟨gb445, 0, none⟩ = some (.int .i64 a1_0) := (blk_cell BK445.out 0).trans rfl; have hcz82_1 : w80.cell? ⟨gb445, 1, none⟩ = some (.int .i64 a1_1) := (blk_cell BK445.out 1).trans rfl; have hcz82_2 : w80.cell? ⟨gb445, 2, none⟩ = some (.slice A1_2 l1_2.length c1_2) := (blk_cell BK445.out 2).trans rfl; have hfz82_0 := blk_frozen BK445.out 0; have hfz82_1 := blk_frozen BK445.out 1; have hfz82_2 := blk_frozen BK445.out 2) | (go_at_call 22; (with_reducible refine (compositorlaw09_small.calls a1_0 a1_1 _ _ l1_2 true _ ?side1 ?side2 A13.out).mono ?_); (case side1 => repeat (first | exact (Kd.C_below HR1_2.out HB.out) | (with_reducible refine Kd.C_alloc ?_ _) | (with_reducible refine Kd.C_drewN ?_ _) | (with_reducible refine Kd.C_drew ?_))); (case side2 => exact HC1_2.out); rintro e w83 ⟨rfl, hb⟩; have n0_ := bb_ BK444 hb; have n1_ := bb_ BK445 hb; have n2_ := bb_ BK446 hb; have n3_ := hb_ HB hb; clear BK444; clear BK445; clear BK446; clear HB; have BK444 := n0_; have BK445 := n1_; have BK446 := n2_; have HB := n3_; clear n0_ n1_ n2_ n3_; (try clear hb); (try clear hb2); (try clear hk); (try clear hi); have hcz84_0 : w83.cell? ⟨gb444, 0, none⟩ = some (.int .i64 a0_0) := (blk_cell BK444.out 0).trans rfl; have hcz84_1 : w83.cell? ⟨gb444, 1, none⟩ = some (.int .i64 a0_1) := (blk_cell BK444.out 1).trans rfl; have hcz84_2 : w83.cell? ⟨gb444, 2, none⟩ = some (.slice A0_2 l0_2.length c0_2) := (blk_cell BK444.out 2).trans rfl; have hfz84_0 := blk_frozen BK444.out 0; have hfz84_1 := blk_frozen BK444.out 1; have hfz84_2 := blk_frozen BK444.out 2) | (go_at_call 25; (with_reducible refine (compositorref09_Valid.calls k a0_0 a0_1 _ _ l0_2 false _ ?side1 ?side2 A15.out).mono ?_); (case side1 => repeat (first | exact (Kd.C_below HR0_2.out HB.out) | (with_reducible refine Kd.C_alloc ?_ _) | (with_reducible refine Kd.C_drewN ?_ _) | (with_reducible refine Kd.C_drew ?_))); (case side2 => exact HC0_2.out); rintro e w85 ⟨rfl, hb⟩; have n0_ := bb_ BK444 hb; have n1_ := bb_ BK445 hb; have n2_ := bb_ BK446 hb; have n3_ := hb_ HB hb; clear BK444; clear BK445; clear BK446; clear HB; have BK444 := n0_; have BK445 := n1_; have BK446 := n2_; have HB := n3_; clear n0_ n1_ n2_ n3_; (try clear hb); (try clear hb2); (try clear hk); (try clear hi))))
     go_meet
     case rel => exact ⟨_, (true), (by first | rfl | (simp; done) | (simp [*]; done)), H', ⟨by first | omega | exact Nat.le_refl _⟩, bf_ BK444, bf_ BK445, bf_ BK446, ⟨by repeat (first | (with_reducible first | exact HB.out | apply below_alloc | apply pw_below_drewN | apply below_drew1 | refine below_set ?_ GE444.out | refine below_set ?_ GE445.out | refine below_set ?_ GE446.out) | exact HB.out)⟩⟩
   ·
    replace c14 := Bool.eq_false_iff.mpr c14
    subst c14
    have H1 : (compositorlaw09_BufferCovers.j0 k a2_0 a2_1 true a0_0 a0_1 l0_2 a1_0 a1_1 l1_2) = some true := by rw [if_neg (show ¬ (false = true) by decide)] at H; exact H
    clear H
    have H := H1
    clear H1
    have H' := Aside0.mk H
    clear H
    have hnb86 := NB444_445.out
    have hnc86 := NB445_444.out
    have hnb87 := NB444_446.out
    have hnc87 := NB446_444.out
    have hcz88_0 : w7.cell? ⟨gb444, 0, none⟩ = some (.int .i64 a0_0) := (blk_cell BK444.out 0).trans rfl
    have hcz88_1 : w7.cell? ⟨gb444, 1, none⟩ = some (.int .i64 a0_1) := (blk_cell BK444.out 1).trans rfl
    have hcz88_2 : w7.cell? ⟨gb444, 2, none⟩ = some (.slice A0_2 l0_2.length c0_2) := (blk_cell BK444.out 2).trans rfl
    have hfz88_0 := blk_frozen BK444.out 0
    have hfz88_1 := blk_frozen BK444.out 1
    have hfz88_2 := blk_frozen BK444.out 2
    go_wp2_with (first | (go_at_call 22; (with_reducible refine (compositorlaw09_small.calls a0_0 a0_1 _ _ l0_2 true _ ?side1 ?side2 A11.out).mono ?_); (case side1 => repeat (first | exact (Kd.C_below HR0_2.out HB.out) | (with_reducible refine Kd.C_alloc ?_ _) | (with_reducible refine Kd.C_drewN ?_ _) | (with_reducible refine Kd.C_drew ?_))); (case side2 => exact HC0_2.out); rintro e w89 ⟨rfl, hb⟩; have n0_ := bb_ BK444 hb; have n1_ := bb_ BK445 hb; have n2_ := bb_ BK446 hb; have n3_ := hb_ HB hb; clear BK444; clear BK445; clear BK446; clear HB; have BK444 := n0_; have BK445 := n1_; have BK446 := n2_; have HB := n3_; clear n0_ n1_ n2_ n3_; (try clear hb); (try clear hb2); (try clear hk); (try clear hi); have hnb90 := NB445_446.out; have hnc90 := NB446_445.out; have hcz91_0 : w89.cell? ⟨gb445, 0, none⟩ = some (.int .i64 a1_0) := (blk_cell BK445.out 0).trans rfl; have hcz91_1 : w89.cell? ⟨gb445, 1, none⟩ = some (.int .i64 a1_1) := (blk_cell BK445.out 1).trans rfl; have hcz91_2 : w89.cell? ⟨gb445, 2, none⟩ = some (.slice A1_2 l1_2.length c1_2) := (blk_cell BK445.out 2).trans rfl; have hfz91_0 := blk_frozen BK445.out 0; have hfz91_1 := blk_frozen BK445.out 1; have hfz91_2 := blk_frozen BK445.out 2) | (go_at_call 22; (with_reducible refine (compositorlaw09_small.calls a1_0 a1_1 _ _ l1_2 false _ ?side1 ?side2 A13.out).mono ?_); (case side1 => repeat (first | exact (Kd.C_below HR1_2.out HB.out) | (with_reducible refine Kd.C_alloc ?_ _) | (with_reducible refine Kd.C_drewN ?_ _) | (with_reducible refine Kd.C_drew ?_))); (case side2 => exact HC1_2.out); rintro e w92 ⟨rfl, hb⟩; have n0_ := bb_ BK444 hb; have n1_ := bb_ BK445 hb; have n2_ := bb_ BK446 hb; have n3_ := hb_ HB hb; clear BK444; clear BK445; clear BK446; clear HB; have BK444 := n0_; have BK445 := n1_; have BK446 := n2_; have HB := n3_; clear n0_ n1_ n2_ n3_; (try clear hb); (try clear hb2); (try clear hk); (try clear hi)))
    repeat (go_quiet (first | (go_at_call 22; (with_reducible refine (compositorlaw09_small.calls a0_0 a0_1 _ _ l0_2 true _ ?side1 ?side2 A11.out).mono ?_); (case side1 => repeat (first | exact (Kd.C_below HR0_2.out HB.out) | (with_reducible refine Kd.C_alloc ?_ _) | (with_reducible refine Kd.C_drewN ?_ _) | (with_reducible refine Kd.C_drew ?_))); (case side2 => exact HC0_2.out); rintro e w89 ⟨rfl, hb⟩; have n0_ := bb_ BK444 hb; have n1_ := bb_ BK445 hb; have n2_ := bb_ BK446 hb; have n3_ := hb_ HB hb; clear BK444; clear BK445; clear BK446; clear HB; have BK444 := n0_; have BK445 := n1_; have BK446 := n2_; have HB := n3_; clear n0_ n1_ n2_ n3_; (try clear hb); (try clear hb2); (try clear hk); (try clear hi); have hnb90 := NB445_446.out; have hnc90 := NB446_445.out; have hcz91_0 : w89.cell? ⟨gb445, 0, none⟩ = some (.int .i64 a1_0) := (blk_cell BK445.out 0).trans rfl; have hcz91_1 : w89.cell? ⟨gb445, 1, none⟩ = some (.int .i64 a1_1) := (blk_cell BK445.out 1).trans rfl; have hcz91_2 : w89.cell? ⟨gb445, 2, none⟩ = some (.slice A1_2 l1_2.length c1_2) := (blk_cell BK445.out 2).trans rfl; have hfz91_0 := blk_frozen BK445.out 0; have hfz91_1 := blk_frozen BK445.out 1; have hfz91_2 := blk_frozen BK445.out 2) | (go_at_call 22; (with_reducible refine (compositorlaw09_small.calls a1_0 a1_1 _ _ l1_2 false _ ?side1 ?side2 A13.out).mono ?_); (case side1 => repeat (first | exact (Kd.C_below HR1_2.out HB.out) | (with_reducible refine Kd.C_alloc ?_ _) | (with_reducible refine Kd.C_drewN ?_ _) | (with_reducible refine Kd.C_drew ?_))); (case side2 => exact HC1_2.out); rintro e w92 ⟨rfl, hb⟩; have n0_ := bb_ BK444 hb; have n1_ := bb_ BK445 hb; have n2_ := bb_ BK446 hb; have n3_ := hb_ HB hb; clear BK444; clear BK445; clear BK446; clear HB; have BK444 := n0_; have BK445 := n1_; have BK446 := n2_; have HB := n3_; clear n0_ n1_ n2_ n3_; (try clear hb); (try clear hb2); (try clear hk); (try clear hi))); try go_wp2_with (first | (go_at_call 22; (with_reducible refine (compositorlaw09_small.calls a0_0 a0_1 _ _ l0_2 true _ ?side1 ?side2 A11.out).mono ?_); (case side1 => repeat (first | exact (Kd.C_below HR0_2.out HB.out) | (with_reducible refine Kd.C_alloc ?_ _) | (with_reducible refine Kd.C_drewN ?_ _) | (with_reducible refine Kd.C_drew ?_))); (case side2 => exact HC0_2.out); rintro e w89 ⟨rfl, hb⟩; have n0_ := bb_ BK444 hb; have n1_ := bb_ BK445 hb; have n2_ := bb_ BK446 hb; have n3_ := hb_ HB hb; clear BK444; clear BK445; clear BK446; clear HB; have BK444 := n0_; have BK445 := n1_; have BK446 := n2_; have HB := n3_; clear n0_ n1_ n2_ n3_; (try clear hb); (try clear hb2); (try clear hk); (try clear hi); have hnb90 := NB445_446.out; have hnc90 := NB446_445.out; have hcz91_0 : w89.cell? ⟨gb445, 0, none⟩ = some (.int .i64 a1_0) := (blk_cell BK445.out 0).trans rfl; have hcz91_1 : w89.cell? ⟨gb445, 1, none⟩ = some (.int .i64 a1_1) := (blk_cell BK445.out 1).trans rfl; have hcz91_2 : w89.cell? ⟨gb445, 2, none⟩ = some (.slice A1_2 l1_2.length c1_2) := (blk_cell BK445.out 2).trans rfl; have hfz91_0 := blk_frozen BK445.out 0; have hfz91_1 := blk_frozen BK445.out 1; have hfz91_2 := blk_frozen BK445.out 2) | (go_at_call 22; (with_reducible refine (compositorlaw09_small.calls a1_0 a1_1 _ _ l1_2 false _ ?side1 ?side2 A13.out).mono ?_); (case side1 => repeat (first | exact (Kd.C_below HR1_2.out HB.out) | (with_reducible refine Kd.C_alloc ?_ _) | (with_reducible refine Kd.C_drewN ?_ _) | (with_reducible refine Kd.C_drew ?_))); (case side2 => exact HC1_2.out); rintro e w92 ⟨rfl, hb⟩; have n0_ := bb_ BK444 hb; have n1_ := bb_ BK445 hb; have n2_ := bb_ BK446 hb; have n3_ := hb_ HB hb; clear BK444; clear BK445; clear BK446; clear HB; have BK444 := n0_; have BK445 := n1_; have BK446 := n2_; have HB := n3_; clear n0_ n1_ n2_ n3_; (try clear hb); (try clear hb2); (try clear hk); (try clear hi))))
    go_meet
    case rel => exact ⟨_, (true), (by first | rfl | (simp; done) | (simp [*]; done)), H', ⟨by first | omega | exact Nat.le_refl _⟩, bf_ BK444, bf_ BK445, bf_ BK446, ⟨by repeat (first | (with_reducible first | exact HB.out | apply below_alloc | apply pw_below_drewN | apply below_drew1 | refine below_set ?_ GE444.out | refine below_set ?_ GE445.out | refine below_set ?_ GE446.out) | exact HB.out)⟩⟩
  ·
   replace c12 := Bool.eq_false_iff.mpr c12
   subst c12
   have H1 : (compositorlaw09_BufferCovers.j0 k a2_0 a2_1 true a0_0 a0_1 l0_2 a1_0 a1_1 l1_2) = some true := by rw [if_neg (show ¬ (false = true) by decide)] at H; exact H
   clear H
   have H := H1
   clear H1
   have H' := Aside0.mk H
   clear H
   have hnb93 := NB444_445.out
   have hnc93 := NB445_444.out
   have hnb94 := NB444_446.out
   have hnc94 := NB446_444.out
   have hcz95_0 : w7.cell? ⟨gb444, 0, none⟩ = some (.int .i64 a0_0) := (blk_cell BK444.out 0).trans rfl
   have hcz95_1 : w7.cell? ⟨gb444, 1, none⟩ = some (.int .i64 a0_1) := (blk_cell BK444.out 1).trans rfl
   have hcz95_2 : w7.cell? ⟨gb444, 2, none⟩ = some (.slice A0_2 l0_2.length c0_2) := (blk_cell BK444.out 2).trans rfl
   have hfz95_0 := blk_frozen BK444.out 0
   have hfz95_1 := blk_frozen BK444.out 1
   have hfz95_2 := blk_frozen BK444.out 2
   go_wp2_with (first | (go_at_call 22; (with_reducible refine (compositorlaw09_small.calls a0_0 a0_1 _ _ l0_2 false _ ?side1 ?side2 A11.out).mono ?_); (case side1 => repeat (first | exact (Kd.C_below HR0_2.out HB.out) | (with_reducible refine Kd.C_alloc ?_ _) | (with_reducible refine Kd.C_drewN ?_ _) | (with_reducible refine Kd.C_drew ?_))); (case side2 => exact HC0_2.out); rintro e w96 ⟨rfl, hb⟩; have n0_ := bb_ BK444 hb; have n1_ := bb_ BK445 hb; have n2_ := bb_ BK446 hb; have n3_ := hb_ HB hb; clear BK444; clear BK445; clear BK446; clear HB; have BK444 := n0_; have BK445 := n1_; have BK446 := n2_; have HB := n3_; clear n0_ n1_ n2_ n3_; (try clear hb); (try clear hb2); (try clear hk); (try clear hi)))
   repeat (go_quiet (first | (go_at_call 22; (with_reducible refine (compositorlaw09_small.calls a0_0 a0_1 _ _ l0_2 false _ ?side1 ?side2 A11.out).mono ?_); (case side1 => repeat (first | exact (Kd.C_below HR0_2.out HB.out) | (with_reducible refine Kd.C_alloc ?_ _) | (with_reducible refine Kd.C_drewN ?_ _) | (with_reducible refine Kd.C_drew ?_))); (case side2 => exact HC0_2.out); rintro e w96 ⟨rfl, hb⟩; have n0_ := bb_ BK444 hb; have n1_ := bb_ BK445 hb; have n2_ := bb_ BK446 hb; have n3_ := hb_ HB hb; clear BK444; clear BK445; clear BK446; clear HB; have BK444 := n0_; have BK445 := n1_; have BK446 := n2_; have HB := n3_; clear n0_ n1_ n2_ n3_; (try clear hb); (try clear hb2); (try clear hk); (try clear hi))); try go_wp2_with (first | (go_at_call 22; (with_reducible refine (compositorlaw09_small.calls a0_0 a0_1 _ _ l0_2 false _ ?side1 ?side2 A11.out).mono ?_); (case side1 => repeat (first | exact (Kd.C_below HR0_2.out HB.out) | (with_reducible refine Kd.C_alloc ?_ _) | (with_reducible refine Kd.C_drewN ?_ _) | (with_reducible refine Kd.C_drew ?_))); (case side2 => exact HC0_2.out); rintro e w96 ⟨rfl, hb⟩; have n0_ := bb_ BK444 hb; have n1_ := bb_ BK445 hb; have n2_ := bb_ BK446 hb; have n3_ := hb_ HB hb; clear BK444; clear BK445; clear BK446; clear HB; have BK444 := n0_; have BK445 := n1_; have BK446 := n2_; have HB := n3_; clear n0_ n1_ n2_ n3_; (try clear hb); (try clear hb2); (try clear hk); (try clear hi))))
   go_meet
   case rel => exact ⟨_, (true), (by first | rfl | (simp; done) | (simp [*]; done)), H', ⟨by first | omega | exact Nat.le_refl _⟩, bf_ BK444, bf_ BK445, bf_ BK446, ⟨by repeat (first | (with_reducible first | exact HB.out | apply below_alloc | apply pw_below_drewN | apply below_drew1 | refine below_set ?_ GE444.out | refine below_set ?_ GE445.out | refine below_set ?_ GE446.out) | exact HB.out)⟩⟩
 case rest =>
  clear HC4
  try clear c1
  try clear c2
  try clear p2
  try clear c3
  try clear c4
  try clear c5
  try clear c6
  try clear c7
  try clear c8
  try clear c9
  try clear c12
  try clear c14
  try clear c16
  try clear c18
  try clear c19
  try clear c19b0
  try clear c20
  try clear c21
  try clear c24
  try clear c31
  try clear c31b0
  try clear c32
  try clear c33
  try clear c36
  try clear c43
  try clear c43b0
  try clear c44
  try clear c45
  try clear c48
  try clear c55
  try clear c56
  try clear c59
  try clear c66
  try clear c67
  try clear c70
  try clear c77
  try clear c78
  try clear c81
  try clear c86
  try clear c87
  try clear c90
  try clear c93
  try clear c94
  try clear hcz10_0
  try clear hcz10_1
  try clear hcz22_0
  try clear hcz22_1
  try clear hcz22_2
  try clear hcz25_0
  try clear hcz25_1
  try clear hcz25_2
  try clear hcz27_0
  try clear hcz27_1
  try clear hcz27_2
  try clear hcz29_0
  try clear hcz29_1
  try clear hcz29_2
  try clear hcz34_0
  try clear hcz34_1
  try clear hcz34_2
  try clear hcz37_0
  try clear hcz37_1
  try clear hcz37_2
  try clear hcz39_0
  try clear hcz39_1
  try clear hcz39_2
  try clear hcz41_0
  try clear hcz41_1
  try clear hcz41_2
  try clear hcz46_0
  try clear hcz46_1
  try clear hcz46_2
  try clear hcz49_0
  try clear hcz49_1
  try clear hcz49_2
  try clear hcz51_0
  try clear hcz51_1
  try clear hcz51_2
  try clear hcz53_0
  try clear hcz53_1
  try clear hcz53_2
  try clear hcz57_0
  try clear hcz57_1
  try clear hcz57_2
  try clear hcz60_0
  try clear hcz60_1
  try clear hcz60_2
  try clear hcz62_0
  try clear hcz62_1
  try clear hcz62_2
  try clear hcz64_0
  try clear hcz64_1
  try clear hcz64_2
  try clear hcz68_0
  try clear hcz68_1
  try clear hcz68_2
  try clear hcz71_0
  try clear hcz71_1
  try clear hcz71_2
  try clear hcz73_0
  try clear hcz73_1
  try clear hcz73_2
  try clear hcz75_0
  try clear hcz75_1
  try clear hcz75_2
  try clear hcz79_0
  try clear hcz79_1
  try clear hcz79_2
  try clear hcz82_0
  try clear hcz82_1
  try clear hcz82_2
  try clear hcz84_0
  try clear hcz84_1
  try clear hcz84_2
  try clear hcz88_0
  try clear hcz88_1
  try clear hcz88_2
  try clear hcz91_0
  try clear hcz91_1
  try clear hcz91_2
  try clear hcz95_0
  try clear hcz95_1
  try clear hcz95_2
  try clear hfz10_0
  try clear hfz10_1
  try clear hfz22_0
  try clear hfz22_1
  try clear hfz22_2
  try clear hfz25_0
  try clear hfz25_1
  try clear hfz25_2
  try clear hfz27_0
  try clear hfz27_1
  try clear hfz27_2
  try clear hfz29_0
  try clear hfz29_1
  try clear hfz29_2
  try clear hfz34_0
  try clear hfz34_1
  try clear hfz34_2
  try clear hfz37_0
  try clear hfz37_1
  try clear hfz37_2
  try clear hfz39_0
  try clear hfz39_1
  try clear hfz39_2
  try clear hfz41_0
  try clear hfz41_1
  try clear hfz41_2
  try clear hfz46_0
  try clear hfz46_1
  try clear hfz46_2
  try clear hfz49_0
  try clear hfz49_1
  try clear hfz49_2
  try clear hfz51_0
  try clear hfz51_1
  try clear hfz51_2
  try clear hfz53_0
  try clear hfz53_1
  try clear hfz53_2
  try clear hfz57_0
  try clear hfz57_1
  try clear hfz57_2
  try clear hfz60_0
  try clear hfz60_1
  try clear hfz60_2
  try clear hfz62_0
  try clear hfz62_1
  try clear hfz62_2
  try clear hfz64_0
  try clear hfz64_1
  try clear hfz64_2
  try clear hfz68_0
  try clear hfz68_1
  try clear hfz68_2
  try clear hfz71_0
  try clear hfz71_1
  try clear hfz71_2
  try clear hfz73_0
  try clear hfz73_1
  try clear hfz73_2
  try clear hfz75_0
  try clear hfz75_1
  try clear hfz75_2
  try clear hfz79_0
  try clear hfz79_1
  try clear hfz79_2
  try clear hfz82_0
  try clear hfz82_1
  try clear hfz82_2
  try clear hfz84_0
  try clear hfz84_1
  try clear hfz84_2
  try clear hfz88_0
  try clear hfz88_1
  try clear hfz88_2
  try clear hfz91_0
  try clear hfz91_1
  try clear hfz91_2
  try clear hfz95_0
  try clear hfz95_1
  try clear hfz95_2
  obtain ⟨kq, x52_3, rfl, HA, HJ3, BK444, BK445, BK446, HB⟩ := hcut
  cases kq with
  | zero => exact absurd HA.out (by simp [compositorlaw09_BufferCovers.j0])
  | succ kj3 =>
   have H := HA.out
   clear HA
   simp only [compositorlaw09_BufferCovers.j0] at H
   by_cases c97 : x52_3 = true
   ·
    subst c97
    have H1 : ((compositorlaw09_exampleHolds.f kj3).bind fun t451 => (some t451)) = some true := by rw [if_pos rfl] at H; exact H
    clear H
    have H := H1
    clear H1
    replace H := Option.bind_eq_some_iff.mp H
    obtain ⟨t451, A980, H⟩ := H
    try dsimp only at H
    have A98 := Aside0.mk A980
    clear A980
    have Hq_ := Option.some.inj H
    go_wp2_with (first | (go_at_call 13; (with_reducible refine (compositorlaw09_exampleHolds.calls kj3  t451 _ A98.out).mono ?_); rintro e w99 ⟨rfl, hb⟩; have n0_ := bb_ BK444 hb; have n1_ := bb_ BK445 hb; have n2_ := bb_ BK446 hb; have n3_ := hb_ HB hb; clear BK444; clear BK445; clear BK446; clear HB; have BK444 := n0_; have BK445 := n1_; have BK446 := n2_; have HB := n3_; clear n0_ n1_ n2_ n3_; (try clear hb); (try clear hb2); (try clear hk); (try clear hi)))
    repeat (go_quiet (first | (go_at_call 13; (with_reducible refine (compositorlaw09_exampleHolds.calls kj3  t451 _ A98.out).mono ?_); rintro e w99 ⟨rfl, hb⟩; have n0_ := bb_ BK444 hb; have n1_ := bb_ BK445 hb; have n2_ := bb_ BK446 hb; have n3_ := hb_ HB hb; clear BK444; clear BK445; clear BK446; clear HB; have BK444 := n0_; have BK445 := n1_; have BK446 := n2_; have HB := n3_; clear n0_ n1_ n2_ n3_; (try clear hb); (try clear hb2); (try clear hk); (try clear hi))); try go_wp2_with (first | (go_at_call 13; (with_reducible refine (compositorlaw09_exampleHolds.calls kj3  t451 _ A98.out).mono ?_); rintro e w99 ⟨rfl, hb⟩; have n0_ := bb_ BK444 hb; have n1_ := bb_ BK445 hb; have n2_ := bb_ BK446 hb; have n3_ := hb_ HB hb; clear BK444; clear BK445; clear BK446; clear HB; have BK444 := n0_; have BK445 := n1_; have BK446 := n2_; have HB := n3_; clear n0_ n1_ n2_ n3_; (try clear hb); (try clear hb2); (try clear hk); (try clear hi))))
    go_ret
    exact ⟨by first | rfl | (simp [errW_none, errW_some] <;> rfl) | (simp [*, errW_none, errW_some] <;> rfl), by repeat (first | (with_reducible first | exact HB.out | apply below_alloc | apply pw_below_drewN | apply below_drew1 | refine below_set ?_ GE444.out | refine below_set ?_ GE445.out | refine below_set ?_ GE446.out) | exact HB.out)⟩
   ·
    replace c97 := Bool.eq_false_iff.mpr c97
    subst c97
    have H1 : ((buffer_Paste.f a0_0 a0_1 l0_2 a1_0 a1_1 l1_2 a2_0 a2_1).bind fun bt452 => (if bt452.2.2.2 = 0 then (if bt452.1 = a0_0 then (if bt452.2.1 = a0_1 then (compositorlaw09_BufferCovers.j1 kj3 a2_0 a2_1 ((bt452.2.2.1.length : Int) != (l0_2.length : Int)) a0_0 a0_1 l0_2 a1_0 a1_1 l1_2 bt452.1 bt452.2.1 bt452.2.2.1) else (compositorlaw09_BufferCovers.j1 kj3 a2_0 a2_1 true a0_0 a0_1 l0_2 a1_0 a1_1 l1_2 bt452.1 bt452.2.1 bt452.2.2.1)) else (compositorlaw09_BufferCovers.j1 kj3 a2_0 a2_1 true a0_0 a0_1 l0_2 a1_0 a1_1 l1_2 bt452.1 bt452.2.1 bt452.2.2.1)) else (compositorlaw09_BufferCovers.j1 kj3 a2_0 a2_1 true a0_0 a0_1 l0_2 a1_0 a1_1 l1_2 bt452.1 bt452.2.1 bt452.2.2.1))) = some true := by rw [if_neg (show ¬ (false = true) by decide)] at H; exact H
    clear H
    have H := H1
    clear H1
    replace H := Option.bind_eq_some_iff.mp H
    obtain ⟨⟨t452, t453, t454, t457⟩, A1000, H⟩ := H
    try dsimp only at H
    have A100 := Aside0.mk A1000
    clear A1000
    have HC101 := Aside0.mk H
    clear H
    have hnb102 := NB444_445.out
    have hnc102 := NB445_444.out
    have hnb103 := NB444_446.out
    have hnc103 := NB446_444.out
    have hcz104_0 : wc.cell? ⟨gb444, 0, none⟩ = some (.int .i64 a0_0) := (blk_cell BK444.out 0).trans rfl
    have hcz104_1 : wc.cell? ⟨gb444, 1, none⟩ = some (.int .i64 a0_1) := (blk_cell BK444.out 1).trans rfl
    have hcz104_2 : wc.cell? ⟨gb444, 2, none⟩ = some (.slice A0_2 l0_2.length c0_2) := (blk_cell BK444.out 2).trans rfl
    have hfz104_0 := blk_frozen BK444.out 0
    have hfz104_1 := blk_frozen BK444.out 1
    have hfz104_2 := blk_frozen BK444.out 2
    have hnb105 := NB445_446.out
    have hnc105 := NB446_445.out
    have hcz106_0 : wc.cell? ⟨gb445, 0, none⟩ = some (.int .i64 a1_0) := (blk_cell BK445.out 0).trans rfl
    have hcz106_1 : wc.cell? ⟨gb445, 1, none⟩ = some (.int .i64 a1_1) := (blk_cell BK445.out 1).trans rfl
    have hcz106_2 : wc.cell? ⟨gb445, 2, none⟩ = some (.slice A1_2 l1_2.length c1_2) := (blk_cell BK445.out 2).trans rfl
    have hfz106_0 := blk_frozen BK445.out 0
    have hfz106_1 := blk_frozen BK445.out 1
    have hfz106_2 := blk_frozen BK445.out 2
    go_upto_region 5 with (first | (go_at_call 32; (with_reducible refine (buffer_Paste.calls a0_0 a0_1 _ _ l0_2 a1_0 a1_1 _ _ l1_2 a2_0 a2_1 t452 t453 t454 t457 _ ?side1 ?side2 ?side3 ?side4 A100.out).mono ?_); (case side1 => repeat (first | exact (Kd.C_below HR0_2.out HB.out) | (with_reducible refine Kd.C_alloc ?_ _) | (with_reducible refine Kd.C_drewN ?_ _) | (with_reducible refine Kd.C_drew ?_))); (case side2 => exact HC0_2.out); (case side3 => repeat (first | exact (Kd.C_below HR1_2.out HB.out) | (with_reducible refine Kd.C_alloc ?_ _) | (with_reducible refine Kd.C_drewN ?_ _) | (with_reducible refine Kd.C_drew ?_))); (case side4 => exact HC1_2.out); rintro e w107 ⟨v455, rfl, ho0, hb⟩; have n0_ := Aside0.mk (Kd.R_lower ho0 (below_size (hq_ HB))); have n1_ := bb_ BK444 hb; have n2_ := bb_ BK445 hb; have n3_ := bb_ BK446 hb; have n4_ := hb_ HB hb; clear BK444; clear BK445; clear BK446; clear HB; have HO456 := n0_; have BK444 := n1_; have BK445 := n2_; have BK446 := n3_; have HB := n4_; clear n0_ n1_ n2_ n3_ n4_; (try clear hb); (try clear hb2); (try clear hk); (try clear hi); (try clear ho0)) | ((with_reducible refine gate_dst (N := 9) rfl ?_); (try (refine gate_guard (by rfl) ?_; dsimp only)); refine box_event ?hg (N := 9) ?hd (cs := #[.int .i64 0, .int .i64 0, .slice none 0 0]) (t := 27) ?hr ?_; (case hd => rfl); (case hg => rfl); (case hr => first | (go_simp; done) | (go_simp; rfl)); intro gb458 hg w108 hbox hb; have n0_ := Aside0.mk (Kd.R_below (by (with_reducible repeat (first | apply Kd.R_alloc | apply Kd.R_drewN | apply Kd.R_drew)); exact HO456.out) hb); have n1_ := bb_ BK444 hb; have n2_ := bb_ BK445 hb; have n3_ := bb_ BK446 hb; have n4_ := hb_ HB hb; have n5_ := Aside0.mk (hbox); have n6_ := Aside0.mk ((by rw [hg]; exact (below_size (hq_ HB)) : w.heap.size ≤ gb458)); have n7_ := Aside0.mk ((by rw [hg]; exact (below_size (hq_ HB)) : w.heap.size ≤ gb458)); have n8_ := Aside0.mk ((by rw [hg]; exact Nat.ne_of_lt (blk_lt (g := gb444) (o := .cells #[.int .i64 a0_0, .int .i64 a0_1, .slice A0_2 l0_2.length c0_2] 27 (0, 0)) (bq_ BK444)) : gb444 ≠ gb458)); have n9_ := Aside0.mk ((by rw [hg]; exact Nat.ne_of_gt (blk_lt (g := gb444) (o := .cells #[.int .i64 a0_0, .int .i64 a0_1, .slice A0_2 l0_2.length c0_2] 27 (0, 0)) (bq_ BK444)) : gb458 ≠ gb444)); have n10_ := Aside0.mk ((by rw [hg]; exact Nat.ne_of_lt (blk_lt (g := gb445) (o := .cells #[.int .i64 a1_0, .int .i64 a1_1, .slice A1_2 l1_2.length c1_2] 27 (0, 0)) (bq_ BK445)) : gb445 ≠ gb458)); have n11_ := Aside0.mk ((by rw [hg]; exact Nat.ne_of_gt (blk_lt (g := gb445) (o := .cells #[.int .i64 a1_0, .int .i64 a1_1, .slice A1_2 l1_2.length c1_2] 27 (0, 0)) (bq_ BK445)) : gb458 ≠ gb445)); have n12_ := Aside0.mk ((by rw [hg]; exact Nat.ne_of_lt (blk_lt (g := gb446) (o := .cells #[.int .i64 a2_0, .int .i64 a2_1] 41 (0, 0)) (bq_ BK446)) : gb446 ≠ gb458)); have n13_ := Aside0.mk ((by rw [hg]; exact Nat.ne_of_gt (blk_lt (g := gb446) (o := .cells #[.int .i64 a2_0, .int .i64 a2_1] 41 (0, 0)) (bq_ BK446)) : gb458 ≠ gb446)); clear HO456; clear BK444; clear BK445; clear BK446; clear HB; have HO456 := n0_; have BK444 := n1_; have BK445 := n2_; have BK446 := n3_; have HB := n4_; have BK458 := n5_; have GW458 := n6_; have GE458 := n7_; have NB444_458 := n8_; have NB458_444 := n9_; have NB445_458 := n10_; have NB458_445 := n11_; have NB446_458 := n12_; have NB458_446 := n13_; clear n0_ n1_ n2_ n3_ n4_ n5_ n6_ n7_ n8_ n9_ n10_ n11_ n12_ n13_; clear hb hbox hg; have hnb109 := NB458_444.out; have hnc109 := NB444_458.out; have hnb110 := NB458_445.out; have hnc110 := NB445_458.out; have hnb111 := NB458_446.out; have hnc111 := NB446_458.out; have hcz112_0 : w108.cell? ⟨gb458, 0, none⟩ = some (.int .i64 0) := (blk_cell BK458.out 0).trans rfl; have hcz112_1 : w108.cell? ⟨gb458, 1, none⟩ = some (.int .i64 0) := (blk_cell BK458.out 1).trans rfl; have hcz112_2 : w108.cell? ⟨gb458, 2, none⟩ = some (.slice none 0 0) := (blk_cell BK458.out 2).trans rfl; have hfz112_0 := blk_frozen BK458.out 0; have hfz112_1 := blk_frozen BK458.out 1; have hfz112_2 := blk_frozen BK458.out 2; obtain ⟨Ao113, co113, eo113⟩ := Kd.R_slice HO456.out; subst eo113))
    repeat (go_quiet (first | (go_at_call 32; (with_reducible refine (buffer_Paste.calls a0_0 a0_1 _ _ l0_2 a1_0 a1_1 _ _ l1_2 a2_0 a2_1 t452 t453 t454 t457 _ ?side1 ?side2 ?side3 ?side4 A100.out).mono ?_); (case side1 => repeat (first | exact (Kd.C_below HR0_2.out HB.out) | (with_reducible refine Kd.C_alloc ?_ _) | (with_reducible refine Kd.C_drewN ?_ _) | (with_reducible refine Kd.C_drew ?_))); (case side2 => exact HC0_2.out); (case side3 => repeat (first | exact (Kd.C_below HR1_2.out HB.out) | (with_reducible refine Kd.C_alloc ?_ _) | (with_reducible refine Kd.C_drewN ?_ _) | (with_reducible refine Kd.C_drew ?_))); (case side4 => exact HC1_2.out); rintro e w107 ⟨v455, rfl, ho0, hb⟩; have n0_ := Aside0.mk (Kd.R_lower ho0 (below_size (hq_ HB))); have n1_ := bb_ BK444 hb; have n2_ := bb_ BK445 hb; have n3_ := bb_ BK446 hb; have n4_ := hb_ HB hb; clear BK444; clear BK445; clear BK446; clear HB; have HO456 := n0_; have BK444 := n1_; have BK445 := n2_; have BK446 := n3_; have HB := n4_; clear n0_ n1_ n2_ n3_ n4_; (try clear hb); (try clear hb2); (try clear hk); (try clear hi); (try clear ho0)) | ((with_reducible refine gate_dst (N := 9) rfl ?_); (try (refine gate_guard (by rfl) ?_; dsimp only)); refine box_event ?hg (N := 9) ?hd (cs := #[.int .i64 0, .int .i64 0, .slice none 0 0]) (t := 27) ?hr ?_; (case hd => rfl); (case hg => rfl); (case hr => first | (go_simp; done) | (go_simp; rfl)); intro gb458 hg w108 hbox hb; have n0_ := Aside0.mk (Kd.R_below (by (with_reducible repeat (first | apply Kd.R_alloc | apply Kd.R_drewN | apply Kd.R_drew)); exact HO456.out) hb); have n1_ := bb_ BK444 hb; have n2_ := bb_ BK445 hb; have n3_ := bb_ BK446 hb; have n4_ := hb_ HB hb; have n5_ := Aside0.mk (hbox); have n6_ := Aside0.mk ((by rw [hg]; exact (below_size (hq_ HB)) : w.heap.size ≤ gb458)); have n7_ := Aside0.mk ((by rw [hg]; exact (below_size (hq_ HB)) : w.heap.size ≤ gb458)); have n8_ := Aside0.mk ((by rw [hg]; exact Nat.ne_of_lt (blk_lt (g := gb444) (o := .cells #[.int .i64 a0_0, .int .i64 a0_1, .slice A0_2 l0_2.length c0_2] 27 (0, 0)) (bq_ BK444)) : gb444 ≠ gb458)); have n9_ := Aside0.mk ((by rw [hg]; exact Nat.ne_of_gt (blk_lt (g := gb444) (o := .cells #[.int .i64 a0_0, .int .i64 a0_1, .slice A0_2 l0_2.length c0_2] 27 (0, 0)) (bq_ BK444)) : gb458 ≠ gb444)); have n10_ := Aside0.mk ((by rw [hg]; exact Nat.ne_of_lt (blk_lt (g := gb445) (o := .cells #[.int .i64 a1_0, .int .i64 a1_1, .slice A1_2 l1_2.length c1_2] 27 (0, 0)) (bq_ BK445)) : gb445 ≠ gb458)); have n11_ := Aside0.mk ((by rw [hg]; exact Nat.ne_of_gt (blk_lt (g := gb445) (o := .cells #[.int .i64 a1_0, .int .i64 a1_1, .slice A1_2 l1_2.length c1_2] 27 (0, 0)) (bq_ BK445)) : gb458 ≠ gb445)); have n12_ := Aside0.mk ((by rw [hg]; exact Nat.ne_of_lt (blk_lt (g := gb446) (o := .cells #[.int .i64 a2_0, .int .i64 a2_1] 41 (0, 0)) (bq_ BK446)) : gb446 ≠ gb458)); have n13_ := Aside0.mk ((by rw [hg]; exact Nat.ne_of_gt (blk_lt (g := gb446) (o := .cells #[.int .i64 a2_0, .int .i64 a2_1] 41 (0, 0)) (bq_ BK446)) : gb458 ≠ gb446)); clear HO456; clear BK444; clear BK445; clear BK446; clear HB; have HO456 := n0_; have BK444 := n1_; have BK445 := n2_; have BK446 := n3_; have HB := n4_; have BK458 := n5_; have GW458 := n6_; have GE458 := n7_; have NB444_458 := n8_; have NB458_444 := n9_; have NB445_458 := n10_; have NB458_445 := n11_; have NB446_458 := n12_; have NB458_446 := n13_; clear n0_ n1_ n2_ n3_ n4_ n5_ n6_ n7_ n8_ n9_ n10_ n11_ n12_ n13_; clear hb hbox hg; have hnb109 := NB458_444.out; have hnc109 := NB444_458.out; have hnb110 := NB458_445.out; have hnc110 := NB445_458.out; have hnb111 := NB458_446.out; have hnc111 := NB446_458.out; have hcz112_0 : w108.cell? ⟨gb458, 0, none⟩ = some (.int .i64 0) := (blk_cell BK458.out 0).trans rfl; have hcz112_1 : w108.cell? ⟨gb458, 1, none⟩ = some (.int .i64 0) := (blk_cell BK458.out 1).trans rfl; have hcz112_2 : w108.cell? ⟨gb458, 2, none⟩ = some (.slice none 0 0) := (blk_cell BK458.out 2).trans rfl; have hfz112_0 := blk_frozen BK458.out 0; have hfz112_1 := blk_frozen BK458.out 1; have hfz112_2 := blk_frozen BK458.out 2; obtain ⟨Ao113, co113, eo113⟩ := Kd.R_slice HO456.out; subst eo113)); go_upto_region 5 with (first | (go_at_call 32; (with_reducible refine (buffer_Paste.calls a0_0 a0_1 _ _ l0_2 a1_0 a1_1 _ _ l1_2 a2_0 a2_1 t452 t453 t454 t457 _ ?side1 ?side2 ?side3 ?side4 A100.out).mono ?_); (case side1 => repeat (first | exact (Kd.C_below HR0_2.out HB.out) | (with_reducible refine Kd.C_alloc ?_ _) | (with_reducible refine Kd.C_drewN ?_ _) | (with_reducible refine Kd.C_drew ?_))); (case side2 => exact HC0_2.out); (case side3 => repeat (first | exact (Kd.C_below HR1_2.out HB.out) | (with_reducible refine Kd.C_alloc ?_ _) | (with_reducible refine Kd.C_drewN ?_ _) | (with_reducible refine Kd.C_drew ?_))); (case side4 => exact HC1_2.out); rintro e w107 ⟨v455, rfl, ho0, hb⟩; have n0_ := Aside0.mk (Kd.R_lower ho0 (below_size (hq_ HB))); have n1_ := bb_ BK444 hb; have n2_ := bb_ BK445 hb; have n3_ := bb_ BK446 hb; have n4_ := hb_ HB hb; clear BK444; clear BK445; clear BK446; clear HB; have HO456 := n0_; have BK444 := n1_; have BK445 := n2_; have BK446 := n3_; have HB := n4_; clear n0_ n1_ n2_ n3_ n4_; (try clear hb); (try clear hb2); (try clear hk); (try clear hi); (try clear ho0)) | ((with_reducible refine gate_dst (N := 9) rfl ?_); (try (refine gate_guard (by rfl) ?_; dsimp only)); refine box_event ?hg (N := 9) ?hd (cs := #[.int .i64 0, .int .i64 0, .slice none 0 0]) (t := 27) ?hr ?_; (case hd => rfl); (case hg => rfl); (case hr => first | (go_simp; done) | (go_simp; rfl)); intro gb458 hg w108 hbox hb; have n0_ := Aside0.mk (Kd.R_below (by (with_reducible repeat (first | apply Kd.R_alloc | apply Kd.R_drewN | apply Kd.R_drew)); exact HO456.out) hb); have n1_ := bb_ BK444 hb; have n2_ := bb_ BK445 hb; have n3_ := bb_ BK446 hb; have n4_ := hb_ HB hb; have n5_ := Aside0.mk (hbox); have n6_ := Aside0.mk ((by rw [hg]; exact (below_size (hq_ HB)) : w.heap.size ≤ gb458)); have n7_ := Aside0.mk ((by rw [hg]; exact (below_size (hq_ HB)) : w.heap.size ≤ gb458)); have n8_ := Aside0.mk ((by rw [hg]; exact Nat.ne_of_lt (blk_lt (g := gb444) (o := .cells #[.int .i64 a0_0, .int .i64 a0_1, .slice A0_2 l0_2.length c0_2] 27 (0, 0)) (bq_ BK444)) : gb444 ≠ gb458)); have n9_ := Aside0.mk ((by rw [hg]; exact Nat.ne_of_gt (blk_lt (g := gb444) (o := .cells #[.int .i64 a0_0, .int .i64 a0_1, .slice A0_2 l0_2.length c0_2] 27 (0, 0)) (bq_ BK444)) : gb458 ≠ gb444)); have n10_ := Aside0.mk ((by rw [hg]; exact Nat.ne_of_lt (blk_lt (g := gb445) (o := .cells #[.int .i64 a1_0, .int .i64 a1_1, .slice A1_2 l1_2.length c1_2] 27 (0, 0)) (bq_ BK445)) : gb445 ≠ gb458)); have n11_ := Aside0.mk ((by rw [hg]; exact Nat.ne_of_gt (blk_lt (g := gb445) (o := .cells #[.int .i64 a1_0, .int .i64 a1_1, .slice A1_2 l1_2.length c1_2] 27 (0, 0)) (bq_ BK445)) : gb458 ≠ gb445)); have n12_ := Aside0.mk ((by rw [hg]; exact Nat.ne_of_lt (blk_lt (g := gb446) (o := .cells #[.int .i64 a2_0, .int .i64 a2_1] 41 (0, 0)) (bq_ BK446)) : gb446 ≠ gb458)); have n13_ := Aside0.mk ((by rw [hg]; exact Nat.ne_of_gt (blk_lt (g := gb446) (o := .cells #[.int .i64 a2_0, .int .i64 a2_1] 41 (0, 0)) (bq_ BK446)) : gb458 ≠ gb446)); clear HO456; clear BK444; clear BK445; clear BK446; clear HB; have HO456 := n0_; have BK444 := n1_; have BK445 := n2_; have BK446 := n3_; have HB := n4_; have BK458 := n5_; have GW458 := n6_; have GE458 := n7_; have NB444_458 := n8_; have NB458_444 := n9_; have NB445_458 := n10_; have NB458_445 := n11_; have NB446_458 := n12_; have NB458_446 := n13_; clear n0_ n1_ n2_ n3_ n4_ n5_ n6_ n7_ n8_ n9_ n10_ n11_ n12_ n13_; clear hb hbox hg; have hnb109 := NB458_444.out; have hnc109 := NB444_458.out; have hnb110 := NB458_445.out; have hnc110 := NB445_458.out; have hnb111 := NB458_446.out; have hnc111 := NB446_458.out; have hcz112_0 : w108.cell? ⟨gb458, 0, none⟩ = some (.int .i64 0) := (blk_cell BK458.out 0).trans rfl; have hcz112_1 : w108.cell? ⟨gb458, 1, none⟩ = some (.int .i64 0) := (blk_cell BK458.out 1).trans rfl; have hcz112_2 : w108.cell? ⟨gb458, 2, none⟩ = some (.slice none 0 0) := (blk_cell BK458.out 2).trans rfl; have hfz112_0 := blk_frozen BK458.out 0; have hfz112_1 := blk_frozen BK458.out 1; have hfz112_2 := blk_frozen BK458.out 2; obtain ⟨Ao113, co113, eo113⟩ := Kd.R_slice HO456.out; subst eo113)))
    (try simp only [Act.put, List.setIfInBounds_toArray, List.set_cons_zero, List.set_cons_succ])
    go_cut [86] (fun v86 wc => ∃ (kq : Nat) (x86_100 : Bool), v86 = .bool x86_100 ∧ Aside0 (compositorlaw09_BufferCovers.j1 kq a2_0 a2_1 x86_100 a0_0 a0_1 l0_2 a1_0 a1_1 l1_2 t452 t453 t454 = some true) ∧ Aside0 (kq ≤ kj3) ∧ Aside0 (Kd.R k43 43 wc w.heap.size (fun _ => True) (.slice Ao113 t454.length co113) t454) ∧ Aside0 (wc.heap[gb444]? = some (.cells #[.int .i64 a0_0, .int .i64 a0_1, (.slice A0_2 l0_2.length c0_2)] 27 (0, 0))) ∧ Aside0 (wc.heap[gb445]? = some (.cells #[.int .i64 a1_0, .int .i64 a1_1, (.slice A1_2 l1_2.length c1_2)] 27 (0, 0))) ∧ Aside0 (wc.heap[gb446]? = some (.cells #[.int .i64 a2_0, .int .i64 a2_1] 41 (0, 0))) ∧ Aside0 (wc.heap[gb458]? = some (.cells #[.int .i64 t452, .int .i64 t453, (.slice Ao113 t454.length co113)] 27 (0, 0))) ∧ Aside0 (Below w.heap.size w wc))
    case first =>
     have H := HC101.out
     clear HC101
     by_cases c114 : t457 = 0
     ·
      rw [if_pos c114] at H
      have c114b0 : (t457 == 0) = true := beq_iff_eq.mpr c114
      have c114b1 : (t457 != 0) = false := bne_eq_false_iff_eq.mpr c114
      clear c114
      (first | rw [c114b0] | (simp only [i64_w, i32_w]; rw [c114b0]) | skip)
      by_cases c115 : t452 = a0_0
      ·
       rw [if_pos c115] at H
       have c115b0 : (t452 == a0_0) = true := beq_iff_eq.mpr c115
       have c115b1 : (t452 != a0_0) = false := bne_eq_false_iff_eq.mpr c115
       clear c115
       by_cases c116 : t453 = a0_1
       ·
        rw [if_pos c116] at H
        have c116b0 : (t453 == a0_1) = true := beq_iff_eq.mpr c116
        have c116b1 : (t453 != a0_1) = false := bne_eq_false_iff_eq.mpr c116
        clear c116
        have H' := Aside0.mk H
        clear H
        have hnb117 := NB458_444.out
        have hnc117 := NB444_458.out
        have hnb118 := NB458_445.out
        have hnc118 := NB445_458.out
        have hnb119 := NB458_446.out
        have hnc119 := NB446_458.out
        have hcz120_0 : w108.cell? ⟨gb458, 0, none⟩ = some (.int .i64 0) := (blk_cell BK458.out 0).trans rfl
        have hcz120_1 : w108.cell? ⟨gb458, 1, none⟩ = some (.int .i64 0) := (blk_cell BK458.out 1).trans rfl
        have hcz120_2 : w108.cell? ⟨gb458, 2, none⟩ = some (.slice none 0 0) := (blk_cell BK458.out 2).trans rfl
        have hfz120_0 := blk_frozen BK458.out 0
        have hfz120_1 := blk_frozen BK458.out 1
        have hfz120_2 := blk_frozen BK458.out 2
        have hnb121 := NB444_445.out
        have hnc121 := NB445_444.out
        have hnb122 := NB444_446.out
        have hnc122 := NB446_444.out
        have hcz123_0 : w108.cell? ⟨gb444, 0, none⟩ = some (.int .i64 a0_0) := (blk_cell BK444.out 0).trans rfl
        have hcz123_1 : w108.cell? ⟨gb444, 1, none⟩ = some (.int .i64 a0_1) := (blk_cell BK444.out 1).trans rfl
        have hcz123_2 : w108.cell? ⟨gb444, 2, none⟩ = some (.slice A0_2 l0_2.length c0_2) := (blk_cell BK444.out 2).trans rfl
        have hfz123_0 := blk_frozen BK444.out 0
        have hfz123_1 := blk_frozen BK444.out 1
        have hfz123_2 := blk_frozen BK444.out 2
        go_wp2
        repeat (go_quiet (fail); try go_wp2)
        go_meet
        case rel => exact ⟨_, (((t454.length : Int) != (l0_2.length : Int))), (by first | rfl | (simp; done) | (simp [*]; done)), H', ⟨by have := HJ3.out; first | omega | exact Nat.le_refl _⟩, ⟨by (with_reducible repeat (first | apply Kd.R_alloc | apply Kd.R_drewN | apply Kd.R_drew)); exact Kd.R_mono (Kd.R_far (p := ⟨gb458, 2, none⟩) (Kd.R_far (p := ⟨gb458, 1, none⟩) (Kd.R_far (p := ⟨gb458, 0, none⟩) (Kd.R_types HO456.out BK458.out (by decide)) (fun _ hk => hk.2) (.int .i64 t452)) (fun _ hk => hk.2) (.int .i64 t453)) (fun _ hk => hk.2) (.slice Ao113 t454.length co113)) (fun _ hk => trivial)⟩, bf_ BK444, bf_ BK445, bf_ BK446, ⟨by (with_reducible repeat (first | refine blk_drewN ?_ _ | refine blk_drew ?_ | refine blk_alloc ?_ _)); refine blk_put (cs := #[.int .i64 t452, .int .i64 t453, .slice none 0 0]) ?_ 2 _ rfl; (with_reducible repeat (first | refine blk_drewN ?_ _ | refine blk_drew ?_ | refine blk_alloc ?_ _)); refine blk_put (cs := #[.int .i64 t452, .int .i64 0, .slice none 0 0]) ?_ 1 _ rfl; (with_reducible repeat (first | refine blk_drewN ?_ _ | refine blk_drew ?_ | refine blk_alloc ?_ _)); refine blk_put (cs := #[.int .i64 0, .int .i64 0, .slice none 0 0]) ?_ 0 _ rfl; (with_reducible repeat (first | refine blk_drewN ?_ _ | refine blk_drew ?_ | refine blk_alloc ?_ _)); exact BK458.out⟩, ⟨by repeat (first | (with_reducible first | exact HB.out | apply below_alloc | apply pw_below_drewN | apply below_drew1 | refine below_set ?_ GE444.out | refine below_set ?_ GE445.out | refine below_set ?_ GE446.out | refine below_set ?_ GE458.out) | exact HB.out)⟩⟩
       ·
        rw [if_neg c116] at H
        have c116b0 : (t453 == a0_1) = false := beq_eq_false_iff_ne.mpr c116
        have c116b1 : (t453 != a0_1) = true := bne_iff_ne.mpr c116
        have H' := Aside0.mk H
        clear H
        have hnb124 := NB458_444.out
        have hnc124 := NB444_458.out
        have hnb125 := NB458_445.out
        have hnc125 := NB445_458.out
        have hnb126 := NB458_446.out
        have hnc126 := NB446_458.out
        have hcz127_0 : w108.cell? ⟨gb458, 0, none⟩ = some (.int .i64 0) := (blk_cell BK458.out 0).trans rfl
        have hcz127_1 : w108.cell? ⟨gb458, 1, none⟩ = some (.int .i64 0) := (blk_cell BK458.out 1).trans rfl
        have hcz127_2 : w108.cell? ⟨gb458, 2, none⟩ = some (.slice none 0 0) := (blk_cell BK458.out 2).trans rfl
        have hfz127_0 := blk_frozen BK458.out 0
        have hfz127_1 := blk_frozen BK458.out 1
        have hfz127_2 := blk_frozen BK458.out 2
        have hnb128 := NB444_445.out
        have hnc128 := NB445_444.out
        have hnb129 := NB444_446.out
        have hnc129 := NB446_444.out
        have hcz130_0 : w108.cell? ⟨gb444, 0, none⟩ = some (.int .i64 a0_0) := (blk_cell BK444.out 0).trans rfl
        have hcz130_1 : w108.cell? ⟨gb444, 1, none⟩ = some (.int .i64 a0_1) := (blk_cell BK444.out 1).trans rfl
        have hcz130_2 : w108.cell? ⟨gb444, 2, none⟩ = some (.slice A0_2 l0_2.length c0_2) := (blk_cell BK444.out 2).trans rfl
        have hfz130_0 := blk_frozen BK444.out 0
        have hfz130_1 := blk_frozen BK444.out 1
        have hfz130_2 := blk_frozen BK444.out 2
        go_wp2
        repeat (go_quiet (fail); try go_wp2)
        go_meet
        case rel => exact ⟨_, (true), (by first | rfl | (simp; done) | (simp [*]; done)), H', ⟨by have := HJ3.out; first | omega | exact Nat.le_refl _⟩, ⟨by (with_reducible repeat (first | apply Kd.R_alloc | apply Kd.R_drewN | apply Kd.R_drew)); exact Kd.R_mono (Kd.R_far (p := ⟨gb458, 2, none⟩) (Kd.R_far (p := ⟨gb458, 1, none⟩) (Kd.R_far (p := ⟨gb458, 0, none⟩) (Kd.R_types HO456.out BK458.out (by decide)) (fun _ hk => hk.2) (.int .i64 t452)) (fun _ hk => hk.2) (.int .i64 t453)) (fun _ hk => hk.2) (.slice Ao113 t454.length co113)) (fun _ hk => trivial)⟩, bf_ BK444, bf_ BK445, bf_ BK446, ⟨by (with_reducible repeat (first | refine blk_drewN ?_ _ | refine blk_drew ?_ | refine blk_alloc ?_ _)); refine blk_put (cs := #[.int .i64 t452, .int .i64 t453, .slice none 0 0]) ?_ 2 _ rfl; (with_reducible repeat (first | refine blk_drewN ?_ _ | refine blk_drew ?_ | refine blk_alloc ?_ _)); refine blk_put (cs := #[.int .i64 t452, .int .i64 0, .slice none 0 0]) ?_ 1 _ rfl; (with_reducible repeat (first | refine blk_drewN ?_ _ | refine blk_drew ?_ | refine blk_alloc ?_ _)); refine blk_put (cs := #[.int .i64 0, .int .i64 0, .slice none 0 0]) ?_ 0 _ rfl; (with_reducible repeat (first | refine blk_drewN ?_ _ | refine blk_drew ?_ | refine blk_alloc ?_ _)); exact BK458.out⟩, ⟨by repeat (first | (with_reducible first | exact HB.out | apply below_alloc | apply pw_below_drewN | apply below_drew1 | refine below_set ?_ GE444.out | refine below_set ?_ GE445.out | refine below_set ?_ GE446.out | refine below_set ?_ GE458.out) | exact HB.out)⟩⟩
      ·
       rw [if_neg c115] at H
       have c115b0 : (t452 == a0_0) = false := beq_eq_false_iff_ne.mpr c115
       have c115b1 : (t452 != a0_0) = true := bne_iff_ne.mpr c115
       have H' := Aside0.mk H
       clear H
       have hnb131 := NB458_444.out
       have hnc131 := NB444_458.out
       have hnb132 := NB458_445.out
       have hnc132 := NB445_458.out
       have hnb133 := NB458_446.out
       have hnc133 := NB446_458.out
       have hcz134_0 : w108.cell? ⟨gb458, 0, none⟩ = some (.int .i64 0) := (blk_cell BK458.out 0).trans rfl
       have hcz134_1 : w108.cell? ⟨gb458, 1, none⟩ = some (.int .i64 0) := (blk_cell BK458.out 1).trans rfl
       have hcz134_2 : w108.cell? ⟨gb458, 2, none⟩ = some (.slice none 0 0) := (blk_cell BK458.out 2).trans rfl
       have hfz134_0 := blk_frozen BK458.out 0
       have hfz134_1 := blk_frozen BK458.out 1
       have hfz134_2 := blk_frozen BK458.out 2
       have hnb135 := NB444_445.out
       have hnc135 := NB445_444.out
       have hnb136 := NB444_446.out
       have hnc136 := NB446_444.out
       have hcz137_0 : w108.cell? ⟨gb444, 0, none⟩ = some (.int .i64 a0_0) := (blk_cell BK444.out 0).trans rfl
       have hcz137_1 : w108.cell? ⟨gb444, 1, none⟩ = some (.int .i64 a0_1) := (blk_cell BK444.out 1).trans rfl
       have hcz137_2 : w108.cell? ⟨gb444, 2, none⟩ = some (.slice A0_2 l0_2.length c0_2) := (blk_cell BK444.out 2).trans rfl
       have hfz137_0 := blk_frozen BK444.out 0
       have hfz137_1 := blk_frozen BK444.out 1
       have hfz137_2 := blk_frozen BK444.out 2
       go_wp2
       repeat (go_quiet (fail); try go_wp2)
       go_meet
       case rel => exact ⟨_, (true), (by first | rfl | (simp; done) | (simp [*]; done)), H', ⟨by have := HJ3.out; first | omega | exact Nat.le_refl _⟩, ⟨by (with_reducible repeat (first | apply Kd.R_alloc | apply Kd.R_drewN | apply Kd.R_drew)); exact Kd.R_mono (Kd.R_far (p := ⟨gb458, 2, none⟩) (Kd.R_far (p := ⟨gb458, 1, none⟩) (Kd.R_far (p := ⟨gb458, 0, none⟩) (Kd.R_types HO456.out BK458.out (by decide)) (fun _ hk => hk.2) (.int .i64 t452)) (fun _ hk => hk.2) (.int .i64 t453)) (fun _ hk => hk.2) (.slice Ao113 t454.length co113)) (fun _ hk => trivial)⟩, bf_ BK444, bf_ BK445, bf_ BK446, ⟨by (with_reducible repeat (first | refine blk_drewN ?_ _ | refine blk_drew ?_ | refine blk_alloc ?_ _)); refine blk_put (cs := #[.int .i64 t452, .int .i64 t453, .slice none 0 0]) ?_ 2 _ rfl; (with_reducible repeat (first | refine blk_drewN ?_ _ | refine blk_drew ?_ | refine blk_alloc ?_ _)); refine blk_put (cs := #[.int .i64 t452, .int .i64 0, .slice none 0 0]) ?_ 1 _ rfl; (with_reducible repeat (first | refine blk_drewN ?_ _ | refine blk_drew ?_ | refine blk_alloc ?_ _)); refine blk_put (cs := #[.int .i64 0, .int .i64 0, .slice none 0 0]) ?_ 0 _ rfl; (with_reducible repeat (first | refine blk_drewN ?_ _ | refine blk_drew ?_ | refine blk_alloc ?_ _)); exact BK458.out⟩, ⟨by repeat (first | (with_reducible first | exact HB.out | apply below_alloc | apply pw_below_drewN | apply below_drew1 | refine below_set ?_ GE444.out | refine below_set ?_ GE445.out | refine below_set ?_ GE446.out | refine below_set ?_ GE458.out) | exact HB.out)⟩⟩
     ·
      rw [if_neg c114] at H
      have c114b0 : (t457 == 0) = false := beq_eq_false_iff_ne.mpr c114
      have c114b1 : (t457 != 0) = true := bne_iff_ne.mpr c114
      (first | rw [c114b0] | (simp only [i64_w, i32_w]; rw [c114b0]) | skip)
      have H' := Aside0.mk H
      clear H
      go_wp2
      repeat (go_quiet (fail); try go_wp2)
      go_meet
      case rel => exact ⟨_, (true), (by first | rfl | (simp; done) | (simp [*]; done)), H', ⟨by have := HJ3.out; first | omega | exact Nat.le_refl _⟩, ⟨by (with_reducible repeat (first | apply Kd.R_alloc | apply Kd.R_drewN | apply Kd.R_drew)); exact Kd.R_mono (Kd.R_far (p := ⟨gb458, 2, none⟩) (Kd.R_far (p := ⟨gb458, 1, none⟩) (Kd.R_far (p := ⟨gb458, 0, none⟩) (Kd.R_types HO456.out BK458.out (by decide)) (fun _ hk => hk.2) (.int .i64 t452)) (fun _ hk => hk.2) (.int .i64 t453)) (fun _ hk => hk.2) (.slice Ao113 t454.length co113)) (fun _ hk => trivial)⟩, bf_ BK444, bf_ BK445, bf_ BK446, ⟨by (with_reducible repeat (first | refine blk_drewN ?_ _ | refine blk_drew ?_ | refine blk_alloc ?_ _)); refine blk_put (cs := #[.int .i64 t452, .int .i64 t453, .slice none 0 0]) ?_ 2 _ rfl; (with_reducible repeat (first | refine blk_drewN ?_ _ | refine blk_drew ?_ | refine blk_alloc ?_ _)); refine blk_put (cs := #[.int .i64 t452, .int .i64 0, .slice none 0 0]) ?_ 1 _ rfl; (with_reducible repeat (first | refine blk_drewN ?_ _ | refine blk_drew ?_ | refine blk_alloc ?_ _)); refine blk_put (cs := #[.int .i64 0, .int .i64 0, .slice none 0 0]) ?_ 0 _ rfl; (with_reducible repeat (first | refine blk_drewN ?_ _ | refine blk_drew ?_ | refine blk_alloc ?_ _)); exact BK458.out⟩, ⟨by repeat (first | (with_reducible first | exact HB.out | apply below_alloc | apply pw_below_drewN | apply below_drew1 | refine below_set ?_ GE444.out | refine below_set ?_ GE445.out | refine below_set ?_ GE446.out | refine below_set ?_ GE458.out) | exact HB.out)⟩⟩
    case rest =>
     clear HC101
     try clear c1
     try clear c2
     try clear p2
     try clear c3
     try clear c4
     try clear c5
     try clear c6
     try clear c7
     try clear c8
     try clear c9
     try clear c10
     try clear c11
     try clear c12
     try clear c13
     try clear c14
     try clear c16
     try clear c18
     try clear c19
     try clear c19b0
     try clear c20
     try clear c21
     try clear c24
     try clear c31
     try clear c31b0
     try clear c32
     try clear c33
     try clear c36
     try clear c43
     try clear c43b0
     try clear c44
     try clear c45
     try clear c48
     try clear c55
     try clear c56
     try clear c59
     try clear c66
     try clear c67
     try clear c70
     try clear c77
     try clear c78
     try clear c81
     try clear c86
     try clear c87
     try clear c90
     try clear c93
     try clear c94
     try clear c97
     try clear c102
     try clear c103
     try clear c105
     try clear c109
     try clear c110
     try clear c111
     try clear c114
     try clear c114b0
     try clear c114b1
     try clear c115
     try clear c115b0
     try clear c115b1
     try clear c116
     try clear c116b0
     try clear c116b1
     try clear c117
     try clear c118
     try clear c119
     try clear c121
     try clear c122
     try clear c124
     try clear c125
     try clear c126
     try clear c128
     try clear c129
     try clear c131
     try clear c132
     try clear c133
     try clear c135
     try clear c136
     try clear hcz104_0
     try clear hcz104_1
     try clear hcz104_2
     try clear hcz106_0
     try clear hcz106_1
     try clear hcz106_2
     try clear hcz10_0
     try clear hcz10_1
     try clear hcz112_0
     try clear hcz112_1
     try clear hcz112_2
     try clear hcz120_0
     try clear hcz120_1
     try clear hcz120_2
     try clear hcz123_0
     try clear hcz123_1
     try clear hcz123_2
     try clear hcz127_0
     try clear hcz127_1
     try clear hcz127_2
     try clear hcz130_0
     try clear hcz130_1
     try clear hcz130_2
     try clear hcz134_0
     try clear hcz134_1
     try clear hcz134_2
     try clear hcz137_0
     try clear hcz137_1
     try clear hcz137_2
     try clear hcz22_0
     try clear hcz22_1
     try clear hcz22_2
     try clear hcz25_0
     try clear hcz25_1
     try clear hcz25_2
     try clear hcz27_0
     try clear hcz27_1
     try clear hcz27_2
     try clear hcz29_0
     try clear hcz29_1
     try clear hcz29_2
     try clear hcz34_0
     try clear hcz34_1
     try clear hcz34_2
     try clear hcz37_0
     try clear hcz37_1
     try clear hcz37_2
     try clear hcz39_0
     try clear hcz39_1
     try clear hcz39_2
     try clear hcz41_0
     try clear hcz41_1
     try clear hcz41_2
     try clear hcz46_0
     try clear hcz46_1
     try clear hcz46_2
     try clear hcz49_0
     try clear hcz49_1
     try clear hcz49_2
     try clear hcz51_0
     try clear hcz51_1
     try clear hcz51_2
     try clear hcz53_0
     try clear hcz53_1
     try clear hcz53_2
     try clear hcz57_0
     try clear hcz57_1
     try clear hcz57_2
     try clear hcz60_0
     try clear hcz60_1
     try clear hcz60_2
     try clear hcz62_0
     try clear hcz62_1
     try clear hcz62_2
     try clear hcz64_0
     try clear hcz64_1
     try clear hcz64_2
     try clear hcz68_0
     try clear hcz68_1
     try clear hcz68_2
     try clear hcz71_0
     try clear hcz71_1
     try clear hcz71_2
     try clear hcz73_0
     try clear hcz73_1
     try clear hcz73_2
     try clear hcz75_0
     try clear hcz75_1
     try clear hcz75_2
     try clear hcz79_0
     try clear hcz79_1
     try clear hcz79_2
     try clear hcz82_0
     try clear hcz82_1
     try clear hcz82_2
     try clear hcz84_0
     try clear hcz84_1
     try clear hcz84_2
     try clear hcz88_0
     try clear hcz88_1
     try clear hcz88_2
     try clear hcz91_0
     try clear hcz91_1
     try clear hcz91_2
     try clear hcz95_0
     try clear hcz95_1
     try clear hcz95_2
     try clear hfz104_0
     try clear hfz104_1
     try clear hfz104_2
     try clear hfz106_0
     try clear hfz106_1
     try clear hfz106_2
     try clear hfz10_0
     try clear hfz10_1
     try clear hfz112_0
     try clear hfz112_1
     try clear hfz112_2
     try clear hfz120_0
     try clear hfz120_1
     try clear hfz120_2
     try clear hfz123_0
     try clear hfz123_1
     try clear hfz123_2
     try clear hfz127_0
     try clear hfz127_1
     try clear hfz127_2
     try clear hfz130_0
     try clear hfz130_1
     try clear hfz130_2
     try clear hfz134_0
     try clear hfz134_1
     try clear hfz134_2
     try clear hfz137_0
     try clear hfz137_1
     try clear hfz137_2
     try clear hfz22_0
     try clear hfz22_1
     try clear hfz22_2
     try clear hfz25_0
     try clear hfz25_1
     try clear hfz25_2
     try clear hfz27_0
     try clear hfz27_1
     try clear hfz27_2
     try clear hfz29_0
     try clear hfz29_1
     try clear hfz29_2
     try clear hfz34_0
     try clear hfz34_1
     try clear hfz34_2
     try clear hfz37_0
     try clear hfz37_1
     try clear hfz37_2
     try clear hfz39_0
     try clear hfz39_1
     try clear hfz39_2
     try clear hfz41_0
     try clear hfz41_1
     try clear hfz41_2
     try clear hfz46_0
     try clear hfz46_1
     try clear hfz46_2
     try clear hfz49_0
     try clear hfz49_1
     try clear hfz49_2
     try clear hfz51_0
     try clear hfz51_1
     try clear hfz51_2
     try clear hfz53_0
     try clear hfz53_1
     try clear hfz53_2
     try clear hfz57_0
     try clear hfz57_1
     try clear hfz57_2
     try clear hfz60_0
     try clear hfz60_1
     try clear hfz60_2
     try clear hfz62_0
     try clear hfz62_1
     try clear hfz62_2
     try clear hfz64_0
     try clear hfz64_1
     try clear hfz64_2
     try clear hfz68_0
     try clear hfz68_1
     try clear hfz68_2
     try clear hfz71_0
     try clear hfz71_1
     try clear hfz71_2
     try clear hfz73_0
     try clear hfz73_1
     try clear hfz73_2
     try clear hfz75_0
     try clear hfz75_1
     try clear hfz75_2
     try clear hfz79_0
     try clear hfz79_1
     try clear hfz79_2
     try clear hfz82_0
     try clear hfz82_1
     try clear hfz82_2
     try clear hfz84_0
     try clear hfz84_1
     try clear hfz84_2
     try clear hfz88_0
     try clear hfz88_1
     try clear hfz88_2
     try clear hfz91_0
     try clear hfz91_1
     try clear hfz91_2
     try clear hfz95_0
     try clear hfz95_1
     try clear hfz95_2
     try clear p2
     obtain ⟨kq, x86_100, rfl, HA, HJ100, HO_459002, BK444, BK445, BK446, BK458, HB⟩ := hcut
     cases kq with
     | zero => exact absurd HA.out (by simp [compositorlaw09_BufferCovers.j1])
     | succ kj100 =>
      have H := HA.out
      clear HA
      simp only [compositorlaw09_BufferCovers.j1] at H
      by_cases c138 : x86_100 = true
      ·
       subst c138
       have H1 : (some false) = some true := by rw [if_pos rfl] at H; exact H
       clear H
       have H := H1
       clear H1
       exact absurd H (by simp)
      ·
       replace c138 := Bool.eq_false_iff.mpr c138
       subst c138
       have H1 : (compositorlaw09_BufferCovers.l0 kj100 a2_0 a2_1 0 a0_0 a0_1 l0_2 a1_0 a1_1 l1_2 t452 t453 t454) = some true := by rw [if_neg (show ¬ (false = true) by decide)] at H; exact H
       clear H
       have H := H1
       clear H1
       have H' := Aside0.mk H
       clear H
       go_wp2
       repeat (go_quiet (fail); try go_wp2)
       go_loopg [11] kj100 (fun kq v11 w' => ∃ (x11_3 : Int), v11 = .int .i64 x11_3 ∧ Aside0 (compositorlaw09_BufferCovers.l0 kq a2_0 a2_1 x11_3 a0_0 a0_1 l0_2 a1_0 a1_1 l1_2 t452 t453 t454 = some true) ∧ Aside0 (kq ≤ kj100) ∧ Aside0 (Kd.R k43 43 w' w.heap.size (fun _ => True) (.slice Ao113 t454.length co113) t454) ∧ Aside0 (w'.heap[gb444]? = some (.cells #[.int .i64 a0_0, .int .i64 a0_1, (.slice A0_2 l0_2.length c0_2)] 27 (0, 0))) ∧ Aside0 (w'.heap[gb445]? = some (.cells #[.int .i64 a1_0, .int .i64 a1_1, (.slice A1_2 l1_2.length c1_2)] 27 (0, 0))) ∧ Aside0 (w'.heap[gb446]? = some (.cells #[.int .i64 a2_0, .int .i64 a2_1] 41 (0, 0))) ∧ Aside0 (w'.heap[gb458]? = some (.cells #[.int .i64 t452, .int .i64 t453, (.slice Ao113 t454.length co113)] 27 (0, 0))) ∧ Aside0 (Below w.heap.size w w'))
       case atStart => exact ⟨(0), (by first | rfl | (simp; done) | (simp [*]; done)), H', ⟨Nat.le_refl _⟩, ⟨by (with_reducible repeat (first | apply Kd.R_alloc | apply Kd.R_drewN | apply Kd.R_drew)); exact HO_459002.out⟩, bf_ BK444, bf_ BK445, bf_ BK446, bf_ BK458, ⟨by repeat (first | (with_reducible first | exact HB.out | apply below_alloc | apply pw_below_drewN | apply below_drew1 | refine below_set ?_ GE444.out | refine below_set ?_ GE445.out | refine below_set ?_ GE446.out | refine below_set ?_ GE458.out) | exact HB.out)⟩⟩
       case round =>
        clear H'
        try clear c1
        try clear c2
        try clear p2
        try clear c3
        try clear c4
        try clear c5
        try clear c6
        try clear c7
        try clear c8
        try clear c9
        try clear c10
        try clear c11
        try clear c12
        try clear c13
        try clear c14
        try clear c16
        try clear c18
        try clear c19
        try clear c19b0
        try clear c20
        try clear c21
        try clear c24
        try clear c31
        try clear c31b0
        try clear c32
        try clear c33
        try clear c36
        try clear c43
        try clear c43b0
        try clear c44
        try clear c45
        try clear c48
        try clear c55
        try clear c56
        try clear c59
        try clear c66
        try clear c67
        try clear c70
        try clear c77
        try clear c78
        try clear c81
        try clear c86
        try clear c87
        try clear c90
        try clear c93
        try clear c94
        try clear c97
        try clear c102
        try clear c103
        try clear c105
        try clear c109
        try clear c110
        try clear c111
        try clear c114
        try clear c114b0
        try clear c114b1
        try clear c115
        try clear c115b0
        try clear c115b1
        try clear c116
        try clear c116b0
        try clear c116b1
        try clear c117
        try clear c118
        try clear c119
        try clear c121
        try clear c122
        try clear c124
        try clear c125
        try clear c126
        try clear c128
        try clear c129
        try clear c131
        try clear c132
        try clear c133
        try clear c135
        try clear c136
        try clear c138
        try clear hcz104_0
        try clear hcz104_1
        try clear hcz104_2
        try clear hcz106_0
        try clear hcz106_1
        try clear hcz106_2
        try clear hcz10_0
        try clear hcz10_1
        try clear hcz112_0
        try clear hcz112_1
        try clear hcz112_2
        try clear hcz120_0
        try clear hcz120_1
        try clear hcz120_2
        try clear hcz123_0
        try clear hcz123_1
        try clear hcz123_2
        try clear hcz127_0
        try clear hcz127_1
        try clear hcz127_2
        try clear hcz130_0
        try clear hcz130_1
        try clear hcz130_2
        try clear hcz134_0
        try clear hcz134_1
        try clear hcz134_2
        try clear hcz137_0
        try clear hcz137_1
        try clear hcz137_2
        try clear hcz22_0
        try clear hcz22_1
        try clear hcz22_2
        try clear hcz25_0
        try clear hcz25_1
        try clear hcz25_2
        try clear hcz27_0
        try clear hcz27_1
        try clear hcz27_2
        try clear hcz29_0
        try clear hcz29_1
        try clear hcz29_2
        try clear hcz34_0
        try clear hcz34_1
        try clear hcz34_2
        try clear hcz37_0
        try clear hcz37_1
        try clear hcz37_2
        try clear hcz39_0
        try clear hcz39_1
        try clear hcz39_2
        try clear hcz41_0
        try clear hcz41_1
        try clear hcz41_2
        try clear hcz46_0
        try clear hcz46_1
        try clear hcz46_2
        try clear hcz49_0
        try clear hcz49_1
        try clear hcz49_2
        try clear hcz51_0
        try clear hcz51_1
        try clear hcz51_2
        try clear hcz53_0
        try clear hcz53_1
        try clear hcz53_2
        try clear hcz57_0
        try clear hcz57_1
        try clear hcz57_2
        try clear hcz60_0
        try clear hcz60_1
        try clear hcz60_2
        try clear hcz62_0
        try clear hcz62_1
        try clear hcz62_2
        try clear hcz64_0
        try clear hcz64_1
        try clear hcz64_2
        try clear hcz68_0
        try clear hcz68_1
        try clear hcz68_2
        try clear hcz71_0
        try clear hcz71_1
        try clear hcz71_2
        try clear hcz73_0
        try clear hcz73_1
        try clear hcz73_2
        try clear hcz75_0
        try clear hcz75_1
        try clear hcz75_2
        try clear hcz79_0
        try clear hcz79_1
        try clear hcz79_2
        try clear hcz82_0
        try clear hcz82_1
        try clear hcz82_2
        try clear hcz84_0
        try clear hcz84_1
        try clear hcz84_2
        try clear hcz88_0
        try clear hcz88_1
        try clear hcz88_2
        try clear hcz91_0
        try clear hcz91_1
        try clear hcz91_2
        try clear hcz95_0
        try clear hcz95_1
        try clear hcz95_2
        try clear hfz104_0
        try clear hfz104_1
        try clear hfz104_2
        try clear hfz106_0
        try clear hfz106_1
        try clear hfz106_2
        try clear hfz10_0
        try clear hfz10_1
        try clear hfz112_0
        try clear hfz112_1
        try clear hfz112_2
        try clear hfz120_0
        try clear hfz120_1
        try clear hfz120_2
        try clear hfz123_0
        try clear hfz123_1
        try clear hfz123_2
        try clear hfz127_0
        try clear hfz127_1
        try clear hfz127_2
        try clear hfz130_0
        try clear hfz130_1
        try clear hfz130_2
        try clear hfz134_0
        try clear hfz134_1
        try clear hfz134_2
        try clear hfz137_0
        try clear hfz137_1
        try clear hfz137_2
        try clear hfz22_0
        try clear hfz22_1
        try clear hfz22_2
        try clear hfz25_0
        try clear hfz25_1
        try clear hfz25_2
        try clear hfz27_0
        try clear hfz27_1
        try clear hfz27_2
        try clear hfz29_0
        try clear hfz29_1
        try clear hfz29_2
        try clear hfz34_0
        try clear hfz34_1
        try clear hfz34_2
        try clear hfz37_0
        try clear hfz37_1
        try clear hfz37_2
        try clear hfz39_0
        try clear hfz39_1
        try clear hfz39_2
        try clear hfz41_0
        try clear hfz41_1
        try clear hfz41_2
        try clear hfz46_0
        try clear hfz46_1
        try clear hfz46_2
        try clear hfz49_0
        try clear hfz49_1
        try clear hfz49_2
        try clear hfz51_0
        try clear hfz51_1
        try clear hfz51_2
        try clear hfz53_0
        try clear hfz53_1
        try clear hfz53_2
        try clear hfz57_0
        try clear hfz57_1
        try clear hfz57_2
        try clear hfz60_0
        try clear hfz60_1
        try clear hfz60_2
        try clear hfz62_0
        try clear hfz62_1
        try clear hfz62_2
        try clear hfz64_0
        try clear hfz64_1
        try clear hfz64_2
        try clear hfz68_0
        try clear hfz68_1
        try clear hfz68_2
        try clear hfz71_0
        try clear hfz71_1
        try clear hfz71_2
        try clear hfz73_0
        try clear hfz73_1
        try clear hfz73_2
        try clear hfz75_0
        try clear hfz75_1
        try clear hfz75_2
        try clear hfz79_0
        try clear hfz79_1
        try clear hfz79_2
        try clear hfz82_0
        try clear hfz82_1
        try clear hfz82_2
        try clear hfz84_0
        try clear hfz84_1
        try clear hfz84_2
        try clear hfz88_0
        try clear hfz88_1
        try clear hfz88_2
        try clear hfz91_0
        try clear hfz91_1
        try clear hfz91_2
        try clear hfz95_0
        try clear hfz95_1
        try clear hfz95_2
        try clear p2
        obtain ⟨x11_3, rfl, HA, HK3, HO_459002, BK444, BK445, BK446, BK458, HB⟩ := hrel
        cases gk with
        | zero => exact absurd HA.out (by simp [compositorlaw09_BufferCovers.l0])
        | succ k3 =>
         have H := HA.out
         clear HA
         simp only [compositorlaw09_BufferCovers.l0] at H
         by_cases c139 : x11_3 < (t454.length : Int)
         ·
          rw [if_pos c139] at H
          have c139b0 : decide (x11_3 < (t454.length : Int)) = true := decide_eq_true c139
          clear c139
          by_cases c140 : a0_0 = 0
          ·
           rw [if_pos c140] at H
           exact absurd H (by simp)
          ·
           rw [if_neg c140] at H
           have c140b0 : (a0_0 == 0) = false := beq_eq_false_iff_ne.mpr c140
           have c140b1 : (a0_0 != 0) = true := bne_iff_ne.mpr c140
           by_cases c141 : 0 ≤ x11_3
           ·
            rw [if_pos c141] at H
            have c141b0 : decide (0 ≤ x11_3) = true := decide_eq_true c141
            clear c141
            by_cases c142 : x11_3 < (l0_2.length : Int)
            ·
             rw [if_pos c142] at H
             have c142b0 : decide (x11_3 < (l0_2.length : Int)) = true := decide_eq_true c142
             clear c142
             have HC143 := Aside0.mk H
             clear H
             have hnb144 := NB458_444.out
             have hnc144 := NB444_458.out
             have hnb145 := NB458_445.out
             have hnc145 := NB445_458.out
             have hnb146 := NB458_446.out
             have hnc146 := NB446_458.out
             have hcz147_0 : wr.cell? ⟨gb458, 0, none⟩ = some (.int .i64 t452) := (blk_cell BK458.out 0).trans rfl
             have hcz147_1 : wr.cell? ⟨gb458, 1, none⟩ = some (.int .i64 t453) := (blk_cell BK458.out 1).trans rfl
             have hcz147_2 : wr.cell? ⟨gb458, 2, none⟩ = some (.slice Ao113 t454.length co113) := (blk_cell BK458.out 2).trans rfl
             have hfz147_0 := blk_frozen BK458.out 0
             have hfz147_1 := blk_frozen BK458.out 1
             have hfz147_2 := blk_frozen BK458.out 2
             have hnb148 := NB444_445.out
             have hnc148 := NB445_444.out
             have hnb149 := NB444_446.out
             have hnc149 := NB446_444.out
             have hcz150_0 : wr.cell? ⟨gb444, 0, none⟩ = some (.int .i64 a0_0) := (blk_cell BK444.out 0).trans rfl
             have hcz150_1 : wr.cell? ⟨gb444, 1, none⟩ = some (.int .i64 a0_1) := (blk_cell BK444.out 1).trans rfl
             have hcz150_2 : wr.cell? ⟨gb444, 2, none⟩ = some (.slice A0_2 l0_2.length c0_2) := (blk_cell BK444.out 2).trans rfl
             have hfz150_0 := blk_frozen BK444.out 0
             have hfz150_1 := blk_frozen BK444.out 1
             have hfz150_2 := blk_frozen BK444.out 2
             have p460 : 0 ≤ (x11_3 : Int) := of_decide_eq_true (by first | (with_reducible assumption) | assumption)
             have q460 : x11_3 < (l0_2.length : Int) := of_decide_eq_true (by first | (with_reducible assumption) | assumption)
             obtain ⟨ad460, e460, hx460_0, hx460_1, hx460_2, hx460_3⟩ := at_T43 HR0_2.out x11_3 p460 q460
             cases e460
             replace hx460_0 := (HB.out.cell (World.block_lt_of_cell? w _ hx460_0)).trans hx460_0
             replace hx460_1 := (HB.out.cell (World.block_lt_of_cell? w _ hx460_1)).trans hx460_1
             replace hx460_2 := (HB.out.cell (World.block_lt_of_cell? w _ hx460_2)).trans hx460_2
             replace hx460_3 := (HB.out.cell (World.block_lt_of_cell? w _ hx460_3)).trans hx460_3
             replace p460 := eq_true p460
             replace q460 := eq_true q460
             go_upto_region 12 with (first | ((with_reducible refine gate_dst (N := 14) rfl ?_); (try (refine gate_guard (by rfl) ?_; dsimp only)); refine box_event ?hg (N := 14) ?hd (cs := #[.int .u8 0, .int .u8 0, .int .u8 0, .int .u8 0]) (t := 43) ?hr ?_; (case hd => rfl); (case hg => rfl); (case hr => first | (go_simp; done) | (go_simp; rfl)); intro gb461 hg w151 hbox hb; have n0_ := Aside0.mk (Kd.R_below (Kd.R_elderB (by (with_reducible repeat (first | apply Kd.R_alloc | apply Kd.R_drewN | apply Kd.R_drew)); exact HO_459002.out) gb461 (Nat.le_of_eq hg.symm)) hb); have n1_ := bb_ BK444 hb; have n2_ := bb_ BK445 hb; have n3_ := bb_ BK446 hb; have n4_ := bb_ BK458 hb; have n5_ := hb_ HB hb; have n6_ := Aside0.mk (hbox); have n7_ := Aside0.mk ((by rw [hg]; exact (below_size (hq_ HB)) : w.heap.size ≤ gb461)); have n8_ := Aside0.mk ((by rw [hg]; exact (below_size (hq_ HB)) : w.heap.size ≤ gb461)); have n9_ := Aside0.mk ((by rw [hg]; exact Nat.ne_of_lt (blk_lt (g := gb444) (o := .cells #[.int .i64 a0_0, .int .i64 a0_1, .slice (some ad460) l0_2.length c0_2] 27 (0, 0)) (bq_ BK444)) : gb444 ≠ gb461)); have n10_ := Aside0.mk ((by rw [hg]; exact Nat.ne_of_gt (blk_lt (g := gb444) (o := .cells #[.int .i64 a0_0, .int .i64 a0_1, .slice (some ad460) l0_2.length c0_2] 27 (0, 0)) (bq_ BK444)) : gb461 ≠ gb444)); have n11_ := Aside0.mk ((by rw [hg]; exact Nat.ne_of_lt (blk_lt (g := gb445) (o := .cells #[.int .i64 a1_0, .int .i64 a1_1, .slice A1_2 l1_2.length c1_2] 27 (0, 0)) (bq_ BK445)) : gb445 ≠ gb461)); have n12_ := Aside0.mk ((by rw [hg]; exact Nat.ne_of_gt (blk_lt (g := gb445) (o := .cells #[.int .i64 a1_0, .int .i64 a1_1, .slice A1_2 l1_2.length c1_2] 27 (0, 0)) (bq_ BK445)) : gb461 ≠ gb445)); have n13_ := Aside0.mk ((by rw [hg]; exact Nat.ne_of_lt (blk_lt (g := gb446) (o := .cells #[.int .i64 a2_0, .int .i64 a2_1] 41 (0, 0)) (bq_ BK446)) : gb446 ≠ gb461)); have n14_ := Aside0.mk ((by rw [hg]; exact Nat.ne_of_gt (blk_lt (g := gb446) (o := .cells #[.int .i64 a2_0, .int .i64 a2_1] 41 (0, 0)) (bq_ BK446)) : gb461 ≠ gb446)); have n15_ := Aside0.mk ((by rw [hg]; exact Nat.ne_of_lt (blk_lt (g := gb458) (o := .cells #[.int .i64 t452, .int .i64 t453, .slice Ao113 t454.length co113] 27 (0, 0)) (bq_ BK458)) : gb458 ≠ gb461)); have n16_ := Aside0.mk ((by rw [hg]; exact Nat.ne_of_gt (blk_lt (g := gb458) (o := .cells #[.int .i64 t452, .int .i64 t453, .slice Ao113 t454.length co113] 27 (0, 0)) (bq_ BK458)) : gb461 ≠ gb458)); clear HO_459002; clear BK444; clear BK445; clear BK446; clear BK458; clear HB; have HO_459002 := n0_; have BK444 := n1_; have BK445 := n2_; have BK446 := n3_; have BK458 := n4_; have HB := n5_; have BK461 := n6_; have GW461 := n7_; have GE461 := n8_; have NB444_461 := n9_; have NB461_444 := n10_; have NB445_461 := n11_; have NB461_445 := n12_; have NB446_461 := n13_; have NB461_446 := n14_; have NB458_461 := n15_; have NB461_458 := n16_; clear n0_ n1_ n2_ n3_ n4_ n5_ n6_ n7_ n8_ n9_ n10_ n11_ n12_ n13_ n14_ n15_ n16_; clear hb hbox hg; have hnb152 := NB461_444.out; have hnc152 := NB444_461.out; have hnb153 := NB461_445.out; have hnc153 := NB445_461.out; have hnb154 := NB461_446.out; have hnc154 := NB446_461.out; have hnb155 := NB461_458.out; have hnc155 := NB458_461.out; have hcz156_0 : w151.cell? ⟨gb461, 0, none⟩ = some (.int .u8 0) := (blk_cell BK461.out 0).trans rfl; have hcz156_1 : w151.cell? ⟨gb461, 1, none⟩ = some (.int .u8 0) := (blk_cell BK461.out 1).trans rfl; have hcz156_2 : w151.cell? ⟨gb461, 2, none⟩ = some (.int .u8 0) := (blk_cell BK461.out 2).trans rfl; have hcz156_3 : w151.cell? ⟨gb461, 3, none⟩ = some (.int .u8 0) := (blk_cell BK461.out 3).trans rfl; have hfz156_0 := blk_frozen BK461.out 0; have hfz156_1 := blk_frozen BK461.out 1; have hfz156_2 := blk_frozen BK461.out 2; have hfz156_3 := blk_frozen BK461.out 3))
             repeat (go_quiet (first | ((with_reducible refine gate_dst (N := 14) rfl ?_); (try (refine gate_guard (by rfl) ?_; dsimp only)); refine box_event ?hg (N := 14) ?hd (cs := #[.int .u8 0, .int .u8 0, .int .u8 0, .int .u8 0]) (t := 43) ?hr ?_; (case hd => rfl); (case hg => rfl); (case hr => first | (go_simp; done) | (go_simp; rfl)); intro gb461 hg w151 hbox hb; have n0_ := Aside0.mk (Kd.R_below (Kd.R_elderB (by (with_reducible repeat (first | apply Kd.R_alloc | apply Kd.R_drewN | apply Kd.R_drew)); exact HO_459002.out) gb461 (Nat.le_of_eq hg.symm)) hb); have n1_ := bb_ BK444 hb; have n2_ := bb_ BK445 hb; have n3_ := bb_ BK446 hb; have n4_ := bb_ BK458 hb; have n5_ := hb_ HB hb; have n6_ := Aside0.mk (hbox); have n7_ := Aside0.mk ((by rw [hg]; exact (below_size (hq_ HB)) : w.heap.size ≤ gb461)); have n8_ := Aside0.mk ((by rw [hg]; exact (below_size (hq_ HB)) : w.heap.size ≤ gb461)); have n9_ := Aside0.mk ((by rw [hg]; exact Nat.ne_of_lt (blk_lt (g := gb444) (o := .cells #[.int .i64 a0_0, .int .i64 a0_1, .slice (some ad460) l0_2.length c0_2] 27 (0, 0)) (bq_ BK444)) : gb444 ≠ gb461)); have n10_ := Aside0.mk ((by rw [hg]; exact Nat.ne_of_gt (blk_lt (g := gb444) (o := .cells #[.int .i64 a0_0, .int .i64 a0_1, .slice (some ad460) l0_2.length c0_2] 27 (0, 0)) (bq_ BK444)) : gb461 ≠ gb444)); have n11_ := Aside0.mk ((by rw [hg]; exact Nat.ne_of_lt (blk_lt (g := gb445) (o := .cells #[.int .i64 a1_0, .int .i64 a1_1, .slice A1_2 l1_2.length c1_2] 27 (0, 0)) (bq_ BK445)) : gb445 ≠ gb461)); have n12_ := Aside0.mk ((by rw [hg]; exact Nat.ne_of_gt (blk_lt (g := gb445) (o := .cells #[.int .i64 a1_0, .int .i64 a1_1, .slice A1_2 l1_2.length c1_2] 27 (0, 0)) (bq_ BK445)) : gb461 ≠ gb445)); have n13_ := Aside0.mk ((by rw [hg]; exact Nat.ne_of_lt (blk_lt (g := gb446) (o := .cells #[.int .i64 a2_0, .int .i64 a2_1] 41 (0, 0)) (bq_ BK446)) : gb446 ≠ gb461)); have n14_ := Aside0.mk ((by rw [hg]; exact Nat.ne_of_gt (blk_lt (g := gb446) (o := .cells #[.int .i64 a2_0, .int .i64 a2_1] 41 (0, 0)) (bq_ BK446)) : gb461 ≠ gb446)); have n15_ := Aside0.mk ((by rw [hg]; exact Nat.ne_of_lt (blk_lt (g := gb458) (o := .cells #[.int .i64 t452, .int .i64 t453, .slice Ao113 t454.length co113] 27 (0, 0)) (bq_ BK458)) : gb458 ≠ gb461)); have n16_ := Aside0.mk ((by rw [hg]; exact Nat.ne_of_gt (blk_lt (g := gb458) (o := .cells #[.int .i64 t452, .int .i64 t453, .slice Ao113 t454.length co113] 27 (0, 0)) (bq_ BK458)) : gb461 ≠ gb458)); clear HO_459002; clear BK444; clear BK445; clear BK446; clear BK458; clear HB; have HO_459002 := n0_; have BK444 := n1_; have BK445 := n2_; have BK446 := n3_; have BK458 := n4_; have HB := n5_; have BK461 := n6_; have GW461 := n7_; have GE461 := n8_; have NB444_461 := n9_; have NB461_444 := n10_; have NB445_461 := n11_; have NB461_445 := n12_; have NB446_461 := n13_; have NB461_446 := n14_; have NB458_461 := n15_; have NB461_458 := n16_; clear n0_ n1_ n2_ n3_ n4_ n5_ n6_ n7_ n8_ n9_ n10_ n11_ n12_ n13_ n14_ n15_ n16_; clear hb hbox hg; have hnb152 := NB461_444.out; have hnc152 := NB444_461.out; have hnb153 := NB461_445.out; have hnc153 := NB445_461.out; have hnb154 := NB461_446.out; have hnc154 := NB446_461.out; have hnb155 := NB461_458.out; have hnc155 := NB458_461.out; have hcz156_0 : w151.cell? ⟨gb461, 0, none⟩ = some (.int .u8 0) := (blk_cell BK461.out 0).trans rfl; have hcz156_1 : w151.cell? ⟨gb461, 1, none⟩ = some (.int .u8 0) := (blk_cell BK461.out 1).trans rfl; have hcz156_2 : w151.cell? ⟨gb461, 2, none⟩ = some (.int .u8 0) := (blk_cell BK461.out 2).trans rfl; have hcz156_3 : w151.cell? ⟨gb461, 3, none⟩ = some (.int .u8 0) := (blk_cell BK461.out 3).trans rfl; have hfz156_0 := blk_frozen BK461.out 0; have hfz156_1 := blk_frozen BK461.out 1; have hfz156_2 := blk_frozen BK461.out 2; have hfz156_3 := blk_frozen BK461.out 3)); go_upto_region 12 with (first | ((with_reducible refine gate_dst (N := 14) rfl ?_); (try (refine gate_guard (by rfl) ?_; dsimp only)); refine box_event ?hg (N := 14) ?hd (cs := #[.int .u8 0, .int .u8 0, .int .u8 0, .int .u8 0]) (t := 43) ?hr ?_; (case hd => rfl); (case hg => rfl); (case hr => first | (go_simp; done) | (go_simp; rfl)); intro gb461 hg w151 hbox hb; have n0_ := Aside0.mk (Kd.R_below (Kd.R_elderB (by (with_reducible repeat (first | apply Kd.R_alloc | apply Kd.R_drewN | apply Kd.R_drew)); exact HO_459002.out) gb461 (Nat.le_of_eq hg.symm)) hb); have n1_ := bb_ BK444 hb; have n2_ := bb_ BK445 hb; have n3_ := bb_ BK446 hb; have n4_ := bb_ BK458 hb; have n5_ := hb_ HB hb; have n6_ := Aside0.mk (hbox); have n7_ := Aside0.mk ((by rw [hg]; exact (below_size (hq_ HB)) : w.heap.size ≤ gb461)); have n8_ := Aside0.mk ((by rw [hg]; exact (below_size (hq_ HB)) : w.heap.size ≤ gb461)); have n9_ := Aside0.mk ((by rw [hg]; exact Nat.ne_of_lt (blk_lt (g := gb444) (o := .cells #[.int .i64 a0_0, .int .i64 a0_1, .slice (some ad460) l0_2.length c0_2] 27 (0, 0)) (bq_ BK444)) : gb444 ≠ gb461)); have n10_ := Aside0.mk ((by rw [hg]; exact Nat.ne_of_gt (blk_lt (g := gb444) (o := .cells #[.int .i64 a0_0, .int .i64 a0_1, .slice (some ad460) l0_2.length c0_2] 27 (0, 0)) (bq_ BK444)) : gb461 ≠ gb444)); have n11_ := Aside0.mk ((by rw [hg]; exact Nat.ne_of_lt (blk_lt (g := gb445) (o := .cells #[.int .i64 a1_0, .int .i64 a1_1, .slice A1_2 l1_2.length c1_2] 27 (0, 0)) (bq_ BK445)) : gb445 ≠ gb461)); have n12_ := Aside0.mk ((by rw [hg]; exact Nat.ne_of_gt (blk_lt (g := gb445) (o := .cells #[.int .i64 a1_0, .int .i64 a1_1, .slice A1_2 l1_2.length c1_2] 27 (0, 0)) (bq_ BK445)) : gb461 ≠ gb445)); have n13_ := Aside0.mk ((by rw [hg]; exact Nat.ne_of_lt (blk_lt (g := gb446) (o := .cells #[.int .i64 a2_0, .int .i64 a2_1] 41 (0, 0)) (bq_ BK446)) : gb446 ≠ gb461)); have n14_ := Aside0.mk ((by rw [hg]; exact Nat.ne_of_gt (blk_lt (g := gb446) (o := .cells #[.int .i64 a2_0, .int .i64 a2_1] 41 (0, 0)) (bq_ BK446)) : gb461 ≠ gb446)); have n15_ := Aside0.mk ((by rw [hg]; exact Nat.ne_of_lt (blk_lt (g := gb458) (o := .cells #[.int .i64 t452, .int .i64 t453, .slice Ao113 t454.length co113] 27 (0, 0)) (bq_ BK458)) : gb458 ≠ gb461)); have n16_ := Aside0.mk ((by rw [hg]; exact Nat.ne_of_gt (blk_lt (g := gb458) (o := .cells #[.int .i64 t452, .int .i64 t453, .slice Ao113 t454.length co113] 27 (0, 0)) (bq_ BK458)) : gb461 ≠ gb458)); clear HO_459002; clear BK444; clear BK445; clear BK446; clear BK458; clear HB; have HO_459002 := n0_; have BK444 := n1_; have BK445 := n2_; have BK446 := n3_; have BK458 := n4_; have HB := n5_; have BK461 := n6_; have GW461 := n7_; have GE461 := n8_; have NB444_461 := n9_; have NB461_444 := n10_; have NB445_461 := n11_; have NB461_445 := n12_; have NB446_461 := n13_; have NB461_446 := n14_; have NB458_461 := n15_; have NB461_458 := n16_; clear n0_ n1_ n2_ n3_ n4_ n5_ n6_ n7_ n8_ n9_ n10_ n11_ n12_ n13_ n14_ n15_ n16_; clear hb hbox hg; have hnb152 := NB461_444.out; have hnc152 := NB444_461.out; have hnb153 := NB461_445.out; have hnc153 := NB445_461.out; have hnb154 := NB461_446.out; have hnc154 := NB446_461.out; have hnb155 := NB461_458.out; have hnc155 := NB458_461.out; have hcz156_0 : w151.cell? ⟨gb461, 0, none⟩ = some (.int .u8 0) := (blk_cell BK461.out 0).trans rfl; have hcz156_1 : w151.cell? ⟨gb461, 1, none⟩ = some (.int .u8 0) := (blk_cell BK461.out 1).trans rfl; have hcz156_2 : w151.cell? ⟨gb461, 2, none⟩ = some (.int .u8 0) := (blk_cell BK461.out 2).trans rfl; have hcz156_3 : w151.cell? ⟨gb461, 3, none⟩ = some (.int .u8 0) := (blk_cell BK461.out 3).trans rfl; have hfz156_0 := blk_frozen BK461.out 0; have hfz156_1 := blk_frozen BK461.out 1; have hfz156_2 := blk_frozen BK461.out 2; have hfz156_3 := blk_frozen BK461.out 3)))
             (try simp only [Act.put, List.setIfInBounds_toArray, List.set_cons_zero, List.set_cons_succ])
             go_cut [128] (fun v128 wc => ∃ (kq : Nat) (x128_142 : Bool), v128 = .bool x128_142 ∧ Aside0 (compositorlaw09_BufferCovers.j3 kq a2_0 a2_1 x11_3 (wrap64 ((Int.tmod x11_3 a0_0) - a2_0)) (wrap64 ((wrap64 (Int.tdiv x11_3 a0_0)) - a2_1)) x128_142 a0_0 a0_1 l0_2 a1_0 a1_1 l1_2 t452 t453 t454 ((rd_T43 l0_2 x11_3).f0) ((rd_T43 l0_2 x11_3).f1) ((rd_T43 l0_2 x11_3).f2) ((rd_T43 l0_2 x11_3).f3) = some true) ∧ Aside0 (kq ≤ k3) ∧ Aside0 (Kd.R k43 43 wc w.heap.size (fun k_ => k_ ≠ gb461) (.slice Ao113 t454.length co113) t454) ∧ Aside0 (wc.heap[gb444]? = some (.cells #[.int .i64 a0_0, .int .i64 a0_1, (.slice (some ad460) l0_2.length c0_2)] 27 (0, 0))) ∧ Aside0 (wc.heap[gb445]? = some (.cells #[.int .i64 a1_0, .int .i64 a1_1, (.slice A1_2 l1_2.length c1_2)] 27 (0, 0))) ∧ Aside0 (wc.heap[gb446]? = some (.cells #[.int .i64 a2_0, .int .i64 a2_1] 41 (0, 0))) ∧ Aside0 (wc.heap[gb458]? = some (.cells #[.int .i64 t452, .int .i64 t453, (.slice Ao113 t454.length co113)] 27 (0, 0))) ∧ Aside0 (wc.heap[gb461]? = some (.cells #[.int .u8 ((rd_T43 l0_2 x11_3).f0), .int .u8 ((rd_T43 l0_2 x11_3).f1), .int .u8 ((rd_T43 l0_2 x11_3).f2), .int .u8 ((rd_T43 l0_2 x11_3).f3)] 43 (0, 0))) ∧ Aside0 (Below w.heap.size w wc))
             case first =>
              have H := HC143.out
              clear HC143
              by_cases c157 : (wrap64 ((Int.tmod x11_3 a0_0) - a2_0)) ≥ 0
              ·
               rw [if_pos c157] at H
               have c157b0 : decide (0 ≤ (wrap64 ((Int.tmod x11_3 a0_0) - a2_0))) = true := decide_eq_true c157
               clear c157
               (first | rw [c157b0] | (simp only [i64_w, i32_w]; rw [c157b0]) | skip)
               by_cases c158 : (wrap64 ((Int.tmod x11_3 a0_0) - a2_0)) < a1_0
               ·
                rw [if_pos c158] at H
                have c158b0 : decide ((wrap64 ((Int.tmod x11_3 a0_0) - a2_0)) < a1_0) = true := decide_eq_true c158
                clear c158
                by_cases c159 : (wrap64 ((wrap64 (Int.tdiv x11_3 a0_0)) - a2_1)) ≥ 0
                ·
                 rw [if_pos c159] at H
                 have c159b0 : decide (0 ≤ (wrap64 ((wrap64 (Int.tdiv x11_3 a0_0)) - a2_1))) = true := decide_eq_true c159
                 clear c159
                 have H' := Aside0.mk H
                 clear H
                 have hnb160 := NB445_444.out
                 have hnc160 := NB444_445.out
                 have hnb161 := NB445_446.out
                 have hnc161 := NB446_445.out
                 have hnb162 := NB445_458.out
                 have hnc162 := NB458_445.out
                 have hnb163 := NB445_461.out
                 have hnc163 := NB461_445.out
                 have hcz164_0 : w151.cell? ⟨gb445, 0, none⟩ = some (.int .i64 a1_0) := (blk_cell BK445.out 0).trans rfl
                 have hcz164_1 : w151.cell? ⟨gb445, 1, none⟩ = some (.int .i64 a1_1) := (blk_cell BK445.out 1).trans rfl
                 have hcz164_2 : w151.cell? ⟨gb445, 2, none⟩ = some (.slice A1_2 l1_2.length c1_2) := (blk_cell BK445.out 2).trans rfl
                 have hfz164_0 := blk_frozen BK445.out 0
                 have hfz164_1 := blk_frozen BK445.out 1
                 have hfz164_2 := blk_frozen BK445.out 2
                 go_wp2
                 repeat (go_quiet (fail); try go_wp2)
                 go_meet
                 case rel => exact ⟨_, (decide ((wrap64 ((wrap64 (Int.tdiv x11_3 a0_0)) - a2_1)) < a1_1)), (by first | rfl | (simp; done) | (simp [*]; done)), H', ⟨by have := HJ3.out; have := HJ100.out; have := HK3.out; first | omega | exact Nat.le_refl _⟩, ⟨by (with_reducible repeat (first | apply Kd.R_alloc | apply Kd.R_drewN | apply Kd.R_drew)); exact Kd.R_mono (Kd.R_far (p := ⟨gb461, 3, none⟩) (Kd.R_far (p := ⟨gb461, 2, none⟩) (Kd.R_far (p := ⟨gb461, 1, none⟩) (Kd.R_far (p := ⟨gb461, 0, none⟩) (Kd.R_mono HO_459002.out (fun k_ hk => (⟨hk, hk.2⟩ : _ ∧ k_ ≠ gb461))) (fun _ hk => hk.2) (.int .u8 ((rd_T43 l0_2 x11_3).f0))) (fun _ hk => hk.2) (.int .u8 ((rd_T43 l0_2 x11_3).f1))) (fun _ hk => hk.2) (.int .u8 ((rd_T43 l0_2 x11_3).f2))) (fun _ hk => hk.2) (.int .u8 ((rd_T43 l0_2 x11_3).f3))) (fun _ hk => hk.1.2)⟩, bf_ BK444, bf_ BK445, bf_ BK446, bf_ BK458, ⟨by (with_reducible repeat (first | refine blk_drewN ?_ _ | refine blk_drew ?_ | refine blk_alloc ?_ _)); refine blk_put (cs := #[.int .u8 ((rd_T43 l0_2 x11_3).f0), .int .u8 ((rd_T43 l0_2 x11_3).f1), .int .u8 ((rd_T43 l0_2 x11_3).f2), .int .u8 0]) ?_ 3 _ rfl; (with_reducible repeat (first | refine blk_drewN ?_ _ | refine blk_drew ?_ | refine blk_alloc ?_ _)); refine blk_put (cs := #[.int .u8 ((rd_T43 l0_2 x11_3).f0), .int .u8 ((rd_T43 l0_2 x11_3).f1), .int .u8 0, .int .u8 0]) ?_ 2 _ rfl; (with_reducible repeat (first | refine blk_drewN ?_ _ | refine blk_drew ?_ | refine blk_alloc ?_ _)); refine blk_put (cs := #[.int .u8 ((rd_T43 l0_2 x11_3).f0), .int .u8 0, .int .u8 0, .int .u8 0]) ?_ 1 _ rfl; (with_reducible repeat (first | refine blk_drewN ?_ _ | refine blk_drew ?_ | refine blk_alloc ?_ _)); refine blk_put (cs := #[.int .u8 0, .int .u8 0, .int .u8 0, .int .u8 0]) ?_ 0 _ rfl; (with_reducible repeat (first | refine blk_drewN ?_ _ | refine blk_drew ?_ | refine blk_alloc ?_ _)); exact BK461.out⟩, ⟨by repeat (first | (with_reducible first | exact HB.out | apply below_alloc | apply pw_below_drewN | apply below_drew1 | refine below_set ?_ GE444.out | refine below_set ?_ GE445.out | refine below_set ?_ GE446.out | refine below_set ?_ GE458.out | refine below_set ?_ GE461.out) | exact HB.out)⟩⟩
                ·
                 rw [if_neg c159] at H
                 have c159b0 : decide (0 ≤ (wrap64 ((wrap64 (Int.tdiv x11_3 a0_0)) - a2_1))) = false := decide_eq_false c159
                 clear c159
                 have H' := Aside0.mk H
                 clear H
                 have hnb165 := NB445_444.out
                 have hnc165 := NB444_445.out
                 have hnb166 := NB445_446.out
                 have hnc166 := NB446_445.out
                 have hnb167 := NB445_458.out
                 have hnc167 := NB458_445.out
                 have hnb168 := NB445_461.out
                 have hnc168 := NB461_445.out
                 have hcz169_0 : w151.cell? ⟨gb445, 0, none⟩ = some (.int .i64 a1_0) := (blk_cell BK445.out 0).trans rfl
                 have hcz169_1 : w151.cell? ⟨gb445, 1, none⟩ = some (.int .i64 a1_1) := (blk_cell BK445.out 1).trans rfl
                 have hcz169_2 : w151.cell? ⟨gb445, 2, none⟩ = some (.slice A1_2 l1_2.length c1_2) := (blk_cell BK445.out 2).trans rfl
                 have hfz169_0 := blk_frozen BK445.out 0
                 have hfz169_1 := blk_frozen BK445.out 1
                 have hfz169_2 := blk_frozen BK445.out 2
                 go_wp2
                 repeat (go_quiet (fail); try go_wp2)
                 go_meet
                 case rel => exact ⟨_, (false), (by first | rfl | (simp; done) | (simp [*]; done)), H', ⟨by have := HJ3.out; have := HJ100.out; have := HK3.out; first | omega | exact Nat.le_refl _⟩, ⟨by (with_reducible repeat (first | apply Kd.R_alloc | apply Kd.R_drewN | apply Kd.R_drew)); exact Kd.R_mono (Kd.R_far (p := ⟨gb461, 3, none⟩) (Kd.R_far (p := ⟨gb461, 2, none⟩) (Kd.R_far (p := ⟨gb461, 1, none⟩) (Kd.R_far (p := ⟨gb461, 0, none⟩) (Kd.R_mono HO_459002.out (fun k_ hk => (⟨hk, hk.2⟩ : _ ∧ k_ ≠ gb461))) (fun _ hk => hk.2) (.int .u8 ((rd_T43 l0_2 x11_3).f0))) (fun _ hk => hk.2) (.int .u8 ((rd_T43 l0_2 x11_3).f1))) (fun _ hk => hk.2) (.int .u8 ((rd_T43 l0_2 x11_3).f2))) (fun _ hk => hk.2) (.int .u8 ((rd_T43 l0_2 x11_3).f3))) (fun _ hk => hk.1.2)⟩, bf_ BK444, bf_ BK445, bf_ BK446, bf_ BK458, ⟨by (with_reducible repeat (first | refine blk_drewN ?_ _ | refine blk_drew ?_ | refine blk_alloc ?_ _)); refine blk_put (cs := #[.int .u8 ((rd_T43 l0_2 x11_3).f0), .int .u8 ((rd_T43 l0_2 x11_3).f1), .int .u8 ((rd_T43 l0_2 x11_3).f2), .int .u8 0]) ?_ 3 _ rfl; (with_reducible repeat (first | refine blk_drewN ?_ _ | refine blk_drew ?_ | refine blk_alloc ?_ _)); refine blk_put (cs := #[.int .u8 ((rd_T43 l0_2 x11_3).f0), .int .u8 ((rd_T43 l0_2 x11_3).f1), .int .u8 0, .int .u8 0]) ?_ 2 _ rfl; (with_reducible repeat (first | refine blk_drewN ?_ _ | refine blk_drew ?_ | refine blk_alloc ?_ _)); refine blk_put (cs := #[.int .u8 ((rd_T43 l0_2 x11_3).f0), .int .u8 0, .int .u8 0, .int .u8 0]) ?_ 1 _ rfl; (with_reducible repeat (first | refine blk_drewN ?_ _ | refine blk_drew ?_ | refine blk_alloc ?_ _)); refine blk_put (cs := #[.int .u8 0, .int .u8 0, .int .u8 0, .int .u8 0]) ?_ 0 _ rfl; (with_reducible repeat (first | refine blk_drewN ?_ _ | refine blk_drew ?_ | refine blk_alloc ?_ _)); exact BK461.out⟩, ⟨by repeat (first | (with_reducible first | exact HB.out | apply below_alloc | apply pw_below_drewN | apply below_drew1 | refine below_set ?_ GE444.out | refine below_set ?_ GE445.out | refine below_set ?_ GE446.out | refine below_set ?_ GE458.out | refine below_set ?_ GE461.out) | exact HB.out)⟩⟩
               ·
                rw [if_neg c158] at H
                have c158b0 : decide ((wrap64 ((Int.tmod x11_3 a0_0) - a2_0)) < a1_0) = false := decide_eq_false c158
                clear c158
                have H' := Aside0.mk H
                clear H
                have hnb170 := NB445_444.out
                have hnc170 := NB444_445.out
                have hnb171 := NB445_446.out
                have hnc171 := NB446_445.out
                have hnb172 := NB445_458.out
                have hnc172 := NB458_445.out
                have hnb173 := NB445_461.out
                have hnc173 := NB461_445.out
                have hcz174_0 : w151.cell? ⟨gb445, 0, none⟩ = some (.int .i64 a1_0) := (blk_cell BK445.out 0).trans rfl
                have hcz174_1 : w151.cell? ⟨gb445, 1, none⟩ = some (.int .i64 a1_1) := (blk_cell BK445.out 1).trans rfl
                have hcz174_2 : w151.cell? ⟨gb445, 2, none⟩ = some (.slice A1_2 l1_2.length c1_2) := (blk_cell BK445.out 2).trans rfl
                have hfz174_0 := blk_frozen BK445.out 0
                have hfz174_1 := blk_frozen BK445.out 1
                have hfz174_2 := blk_frozen BK445.out 2
                go_wp2
                repeat (go_quiet (fail); try go_wp2)
                go_meet
                case rel => exact ⟨_, (false), (by first | rfl | (simp; done) | (simp [*]; done)), H', ⟨by have := HJ3.out; have := HJ100.out; have := HK3.out; first | omega | exact Nat.le_refl _⟩, ⟨by (with_reducible repeat (first | apply Kd.R_alloc | apply Kd.R_drewN | apply Kd.R_drew)); exact Kd.R_mono (Kd.R_far (p := ⟨gb461, 3, none⟩) (Kd.R_far (p := ⟨gb461, 2, none⟩) (Kd.R_far (p := ⟨gb461, 1, none⟩) (Kd.R_far (p := ⟨gb461, 0, none⟩) (Kd.R_mono HO_459002.out (fun k_ hk => (⟨hk, hk.2⟩ : _ ∧ k_ ≠ gb461))) (fun _ hk => hk.2) (.int .u8 ((rd_T43 l0_2 x11_3).f0))) (fun _ hk => hk.2) (.int .u8 ((rd_T43 l0_2 x11_3).f1))) (fun _ hk => hk.2) (.int .u8 ((rd_T43 l0_2 x11_3).f2))) (fun _ hk => hk.2) (.int .u8 ((rd_T43 l0_2 x11_3).f3))) (fun _ hk => hk.1.2)⟩, bf_ BK444, bf_ BK445, bf_ BK446, bf_ BK458, ⟨by (with_reducible repeat (first | refine blk_drewN ?_ _ | refine blk_drew ?_ | refine blk_alloc ?_ _)); refine blk_put (cs := #[.int .u8 ((rd_T43 l0_2 x11_3).f0), .int .u8 ((rd_T43 l0_2 x11_3).f1), .int .u8 ((rd_T43 l0_2 x11_3).f2), .int .u8 0]) ?_ 3 _ rfl; (with_reducible repeat (first | refine blk_drewN ?_ _ | refine blk_drew ?_ | refine blk_alloc ?_ _)); refine blk_put (cs := #[.int .u8 ((rd_T43 l0_2 x11_3).f0), .int .u8 ((rd_T43 l0_2 x11_3).f1), .int .u8 0, .int .u8 0]) ?_ 2 _ rfl; (with_reducible repeat (first | refine blk_drewN ?_ _ | refine blk_drew ?_ | refine blk_alloc ?_ _)); refine blk_put (cs := #[.int .u8 ((rd_T43 l0_2 x11_3).f0), .int .u8 0, .int .u8 0, .int .u8 0]) ?_ 1 _ rfl; (with_reducible repeat (first | refine blk_drewN ?_ _ | refine blk_drew ?_ | refine blk_alloc ?_ _)); refine blk_put (cs := #[.int .u8 0, .int .u8 0, .int .u8 0, .int .u8 0]) ?_ 0 _ rfl; (with_reducible repeat (first | refine blk_drewN ?_ _ | refine blk_drew ?_ | refine blk_alloc ?_ _)); exact BK461.out⟩, ⟨by repeat (first | (with_reducible first | exact HB.out | apply below_alloc | apply pw_below_drewN | apply below_drew1 | refine below_set ?_ GE444.out | refine below_set ?_ GE445.out | refine below_set ?_ GE446.out | refine below_set ?_ GE458.out | refine below_set ?_ GE461.out) | exact HB.out)⟩⟩
              ·
               rw [if_neg c157] at H
               have c157b0 : decide (0 ≤ (wrap64 ((Int.tmod x11_3 a0_0) - a2_0))) = false := decide_eq_false c157
               clear c157
               (first | rw [c157b0] | (simp only [i64_w, i32_w]; rw [c157b0]) | skip)
               have H' := Aside0.mk H
               clear H
               go_wp2
               repeat (go_quiet (fail); try go_wp2)
               go_meet
               case rel => exact ⟨_, (false), (by first | rfl | (simp; done) | (simp [*]; done)), H', ⟨by have := HJ3.out; have := HJ100.out; have := HK3.out; first | omega | exact Nat.le_refl _⟩, ⟨by (with_reducible repeat (first | apply Kd.R_alloc | apply Kd.R_drewN | apply Kd.R_drew)); exact Kd.R_mono (Kd.R_far (p := ⟨gb461, 3, none⟩) (Kd.R_far (p := ⟨gb461, 2, none⟩) (Kd.R_far (p := ⟨gb461, 1, none⟩) (Kd.R_far (p := ⟨gb461, 0, none⟩) (Kd.R_mono HO_459002.out (fun k_ hk => (⟨hk, hk.2⟩ : _ ∧ k_ ≠ gb461))) (fun _ hk => hk.2) (.int .u8 ((rd_T43 l0_2 x11_3).f0))) (fun _ hk => hk.2) (.int .u8 ((rd_T43 l0_2 x11_3).f1))) (fun _ hk => hk.2) (.int .u8 ((rd_T43 l0_2 x11_3).f2))) (fun _ hk => hk.2) (.int .u8 ((rd_T43 l0_2 x11_3).f3))) (fun _ hk => hk.1.2)⟩, bf_ BK444, bf_ BK445, bf_ BK446, bf_ BK458, ⟨by (with_reducible repeat (first | refine blk_drewN ?_ _ | refine blk_drew ?_ | refine blk_alloc ?_ _)); refine blk_put (cs := #[.int .u8 ((rd_T43 l0_2 x11_3).f0), .int .u8 ((rd_T43 l0_2 x11_3).f1), .int .u8 ((rd_T43 l0_2 x11_3).f2), .int .u8 0]) ?_ 3 _ rfl; (with_reducible repeat (first | refine blk_drewN ?_ _ | refine blk_drew ?_ | refine blk_alloc ?_ _)); refine blk_put (cs := #[.int .u8 ((rd_T43 l0_2 x11_3).f0), .int .u8 ((rd_T43 l0_2 x11_3).f1), .int .u8 0, .int .u8 0]) ?_ 2 _ rfl; (with_reducible repeat (first | refine blk_drewN ?_ _ | refine blk_drew ?_ | refine blk_alloc ?_ _)); refine blk_put (cs := #[.int .u8 ((rd_T43 l0_2 x11_3).f0), .int .u8 0, .int .u8 0, .int .u8 0]) ?_ 1 _ rfl; (with_reducible repeat (first | refine blk_drewN ?_ _ | refine blk_drew ?_ | refine blk_alloc ?_ _)); refine blk_put (cs := #[.int .u8 0, .int .u8 0, .int .u8 0, .int .u8 0]) ?_ 0 _ rfl; (with_reducible repeat (first | refine blk_drewN ?_ _ | refine blk_drew ?_ | refine blk_alloc ?_ _)); exact BK461.out⟩, ⟨by repeat (first | (with_reducible first | exact HB.out | apply below_alloc | apply pw_below_drewN | apply below_drew1 | refine below_set ?_ GE444.out | refine below_set ?_ GE445.out | refine below_set ?_ GE446.out | refine below_set ?_ GE458.out | refine below_set ?_ GE461.out) | exact HB.out)⟩⟩
             case rest =>
              clear HC143
              try clear c1
              try clear c2
              try clear p2
              try clear c3
              try clear c4
              try clear p4
              try clear q4
              try clear hx4
              try clear c5
              try clear c6
              try clear p6
              try clear c7
              try clear c8
              try clear c9
              try clear c10
              try clear c11
              try clear c12
              try clear c13
              try clear c14
              try clear c15
              try clear c16
              try clear c17
              try clear c18
              try clear c19
              try clear c19b0
              try clear c20
              try clear c21
              try clear c24
              try clear c31
              try clear c31b0
              try clear c32
              try clear c33
              try clear c36
              try clear c43
              try clear c43b0
              try clear c44
              try clear c45
              try clear p46
              try clear q46
              try clear hx46
              try clear c48
              try clear c55
              try clear c56
              try clear c59
              try clear p64
              try clear c66
              try clear c67
              try clear c70
              try clear c77
              try clear c78
              try clear c81
              try clear c86
              try clear c87
              try clear c90
              try clear c93
              try clear c94
              try clear c97
              try clear c102
              try clear c103
              try clear c105
              try clear c109
              try clear c110
              try clear c111
              try clear c114
              try clear c114b0
              try clear c114b1
              try clear c115
              try clear c115b0
              try clear c115b1
              try clear c116
              try clear c116b0
              try clear c116b1
              try clear c117
              try clear c118
              try clear c119
              try clear c121
              try clear c122
              try clear c124
              try clear c125
              try clear c126
              try clear c128
              try clear c129
              try clear c131
              try clear c132
              try clear c133
              try clear c135
              try clear c136
              try clear c138
              try clear c139
              try clear c139b0
              try clear c140
              try clear c140b0
              try clear c140b1
              try clear c141
              try clear c141b0
              try clear c142
              try clear c142b0
              try clear c144
              try clear c145
              try clear c146
              try clear c148
              try clear c149
              try clear c152
              try clear c153
              try clear c154
              try clear c155
              try clear c157
              try clear c157b0
              try clear c158
              try clear c158b0
              try clear c159
              try clear c159b0
              try clear c160
              try clear c161
              try clear c162
              try clear c163
              try clear c165
              try clear c166
              try clear c167
              try clear c168
              try clear c170
              try clear c171
              try clear c172
              try clear c173
              try clear hcz104_0
              try clear hcz104_1
              try clear hcz104_2
              try clear hcz106_0
              try clear hcz106_1
              try clear hcz106_2
              try clear hcz10_0
              try clear hcz10_1
              try clear hcz112_0
              try clear hcz112_1
              try clear hcz112_2
              try clear hcz120_0
              try clear hcz120_1
              try clear hcz120_2
              try clear hcz123_0
              try clear hcz123_1
              try clear hcz123_2
              try clear hcz127_0
              try clear hcz127_1
              try clear hcz127_2
              try clear hcz130_0
              try clear hcz130_1
              try clear hcz130_2
              try clear hcz134_0
              try clear hcz134_1
              try clear hcz134_2
              try clear hcz137_0
              try clear hcz137_1
              try clear hcz137_2
              try clear hcz147_0
              try clear hcz147_1
              try clear hcz147_2
              try clear hcz150_0
              try clear hcz150_1
              try clear hcz150_2
              try clear hcz156_0
              try clear hcz156_1
              try clear hcz156_2
              try clear hcz156_3
              try clear hcz164_0
              try clear hcz164_1
              try clear hcz164_2
              try clear hcz169_0
              try clear hcz169_1
              try clear hcz169_2
              try clear hcz174_0
              try clear hcz174_1
              try clear hcz174_2
              try clear hcz22_0
              try clear hcz22_1
              try clear hcz22_2
              try clear hcz25_0
              try clear hcz25_1
              try clear hcz25_2
              try clear hcz27_0
              try clear hcz27_1
              try clear hcz27_2
              try clear hcz29_0
              try clear hcz29_1
              try clear hcz29_2
              try clear hcz34_0
              try clear hcz34_1
              try clear hcz34_2
              try clear hcz37_0
              try clear hcz37_1
              try clear hcz37_2
              try clear hcz39_0
              try clear hcz39_1
              try clear hcz39_2
              try clear hcz41_0
              try clear hcz41_1
              try clear hcz41_2
              try clear hcz46_0
              try clear hcz46_1
              try clear hcz46_2
              try clear hcz49_0
              try clear hcz49_1
              try clear hcz49_2
              try clear hcz51_0
              try clear hcz51_1
              try clear hcz51_2
              try clear hcz53_0
              try clear hcz53_1
              try clear hcz53_2
              try clear hcz57_0
              try clear hcz57_1
              try clear hcz57_2
              try clear hcz60_0
              try clear hcz60_1
              try clear hcz60_2
              try clear hcz62_0
              try clear hcz62_1
              try clear hcz62_2
              try clear hcz64_0
              try clear hcz64_1
              try clear hcz64_2
              try clear hcz68_0
              try clear hcz68_1
              try clear hcz68_2
              try clear hcz71_0
              try clear hcz71_1
              try clear hcz71_2
              try clear hcz73_0
              try clear hcz73_1
              try clear hcz73_2
              try clear hcz75_0
              try clear hcz75_1
              try clear hcz75_2
              try clear hcz79_0
              try clear hcz79_1
              try clear hcz79_2
              try clear hcz82_0
              try clear hcz82_1
              try clear hcz82_2
              try clear hcz84_0
              try clear hcz84_1
              try clear hcz84_2
              try clear hcz88_0
              try clear hcz88_1
              try clear hcz88_2
              try clear hcz91_0
              try clear hcz91_1
              try clear hcz91_2
              try clear hcz95_0
              try clear hcz95_1
              try clear hcz95_2
              try clear hfz104_0
              try clear hfz104_1
              try clear hfz104_2
              try clear hfz106_0
              try clear hfz106_1
              try clear hfz106_2
              try clear hfz10_0
              try clear hfz10_1
              try clear hfz112_0
              try clear hfz112_1
              try clear hfz112_2
              try clear hfz120_0
              try clear hfz120_1
              try clear hfz120_2
              try clear hfz123_0
              try clear hfz123_1
              try clear hfz123_2
              try clear hfz127_0
              try clear hfz127_1
              try clear hfz127_2
              try clear hfz130_0
              try clear hfz130_1
              try clear hfz130_2
              try clear hfz134_0
              try clear hfz134_1
              try clear hfz134_2
              try clear hfz137_0
              try clear hfz137_1
              try clear hfz137_2
              try clear hfz147_0
              try clear hfz147_1
              try clear hfz147_2
              try clear hfz150_0
              try clear hfz150_1
              try clear hfz150_2
              try clear hfz156_0
              try clear hfz156_1
              try clear hfz156_2
              try clear hfz156_3
              try clear hfz164_0
              try clear hfz164_1
              try clear hfz164_2
              try clear hfz169_0
              try clear hfz169_1
              try clear hfz169_2
              try clear hfz174_0
              try clear hfz174_1
              try clear hfz174_2
              try clear hfz22_0
              try clear hfz22_1
              try clear hfz22_2
              try clear hfz25_0
              try clear hfz25_1
              try clear hfz25_2
              try clear hfz27_0
              try clear hfz27_1
              try clear hfz27_2
              try clear hfz29_0
              try clear hfz29_1
              try clear hfz29_2
              try clear hfz34_0
              try clear hfz34_1
              try clear hfz34_2
              try clear hfz37_0
              try clear hfz37_1
              try clear hfz37_2
              try clear hfz39_0
              try clear hfz39_1
              try clear hfz39_2
              try clear hfz41_0
              try clear hfz41_1
              try clear hfz41_2
              try clear hfz46_0
              try clear hfz46_1
              try clear hfz46_2
              try clear hfz49_0
              try clear hfz49_1
              try clear hfz49_2
              try clear hfz51_0
              try clear hfz51_1
              try clear hfz51_2
              try clear hfz53_0
              try clear hfz53_1
              try clear hfz53_2
              try clear hfz57_0
              try clear hfz57_1
              try clear hfz57_2
              try clear hfz60_0
              try clear hfz60_1
              try clear hfz60_2
              try clear hfz62_0
              try clear hfz62_1
              try clear hfz62_2
              try clear hfz64_0
              try clear hfz64_1
              try clear hfz64_2
              try clear hfz68_0
              try clear hfz68_1
              try clear hfz68_2
              try clear hfz71_0
              try clear hfz71_1
              try clear hfz71_2
              try clear hfz73_0
              try clear hfz73_1
              try clear hfz73_2
              try clear hfz75_0
              try clear hfz75_1
              try clear hfz75_2
              try clear hfz79_0
              try clear hfz79_1
              try clear hfz79_2
              try clear hfz82_0
              try clear hfz82_1
              try clear hfz82_2
              try clear hfz84_0
              try clear hfz84_1
              try clear hfz84_2
              try clear hfz88_0
              try clear hfz88_1
              try clear hfz88_2
              try clear hfz91_0
              try clear hfz91_1
              try clear hfz91_2
              try clear hfz95_0
              try clear hfz95_1
              try clear hfz95_2
              try clear hx460_0
              try clear hx460_1
              try clear hx460_2
              try clear hx460_3
              try clear p2
              try clear p460
              try clear q460
              obtain ⟨kq, x128_142, rfl, HA, HJ142, HO_459002, BK444, BK445, BK446, BK458, BK461, HB⟩ := hcut
              cases kq with
              | zero => exact absurd HA.out (by simp [compositorlaw09_BufferCovers.j3])
              | succ kj142 =>
               have H := HA.out
               clear HA
               simp only [compositorlaw09_BufferCovers.j3] at H
               by_cases c175 : x128_142 = true
               ·
                subst c175
                have H1 : (if 0 ≤ (wrap64 ((wrap64 ((wrap64 ((wrap64 (Int.tdiv x11_3 a0_0)) - a2_1)) * a1_0)) + (wrap64 ((Int.tmod x11_3 a0_0) - a2_0)))) then (if (wrap64 ((wrap64 ((wrap64 ((wrap64 (Int.tdiv x11_3 a0_0)) - a2_1)) * a1_0)) + (wrap64 ((Int.tmod x11_3 a0_0) - a2_0)))) < (l1_2.length : Int) then (if 0 ≤ x11_3 then (if x11_3 < (t454.length : Int) then (if (!(((rd_T43 t454 x11_3).f0) == ((rd_T43 l1_2 (wrap64 ((wrap64 ((wrap64 ((wrap64 (Int.tdiv x11_3 a0_0)) - a2_1)) * a1_0)) + (wrap64 ((Int.tmod x11_3 a0_0) - a2_0))))).f0)) || (!(((rd_T43 t454 x11_3).f1) == ((rd_T43 l1_2 (wrap64 ((wrap64 ((wrap64 ((wrap64 (Int.tdiv x11_3 a0_0)) - a2_1)) * a1_0)) + (wrap64 ((Int.tmod x11_3 a0_0) - a2_0))))).f1)) || (!(((rd_T43 t454 x11_3).f2) == ((rd_T43 l1_2 (wrap64 ((wrap64 ((wrap64 ((wrap64 (Int.tdiv x11_3 a0_0)) - a2_1)) * a1_0)) + (wrap64 ((Int.tmod x11_3 a0_0) - a2_0))))).f2)) || (!(((rd_T43 t454 x11_3).f3) == ((rd_T43 l1_2 (wrap64 ((wrap64 ((wrap64 ((wrap64 (Int.tdiv x11_3 a0_0)) - a2_1)) * a1_0)) + (wrap64 ((Int.tmod x11_3 a0_0) - a2_0))))).f3)))))) = true then (some false) else (compositorlaw09_BufferCovers.l0 kj142 a2_0 a2_1 (wrap64 (x11_3 + 1)) a0_0 a0_1 l0_2 a1_0 a1_1 l1_2 t452 t453 t454)) else (none)) else (none)) else (none)) else (none)) = some true := by rw [if_pos rfl] at H; exact H
                clear H
                have H := H1
                clear H1
                obtain ⟨ji176, hji176⟩ : ∃ j_ : Int, (wrap64 ((wrap64 ((wrap64 ((wrap64 (Int.tdiv x11_3 a0_0)) - a2_1)) * a1_0)) + (wrap64 ((Int.tmod x11_3 a0_0) - a2_0)))) = j_ := ⟨_, rfl⟩
                replace H : (if 0 ≤ (ji176) then (if (ji176) < (l1_2.length : Int) then (if 0 ≤ x11_3 then (if x11_3 < (t454.length : Int) then (if (!(((rd_T43 t454 x11_3).f0) == ((rd_T43 l1_2 (ji176)).f0)) || (!(((rd_T43 t454 x11_3).f1) == ((rd_T43 l1_2 (ji176)).f1)) || (!(((rd_T43 t454 x11_3).f2) == ((rd_T43 l1_2 (ji176)).f2)) || (!(((rd_T43 t454 x11_3).f3) == ((rd_T43 l1_2 (ji176)).f3)))))) = true then (some false) else (compositorlaw09_BufferCovers.l0 kj142 a2_0 a2_1 (wrap64 (x11_3 + 1)) a0_0 a0_1 l0_2 a1_0 a1_1 l1_2 t452 t453 t454)) else (none)) else (none)) else (none)) else (none)) = some true := by first | (rw [hji176] at H; exact H) | (simp only [hji176] at H ⊢; exact H)
                have hji176w : (IntKind.i64.wrap ((wrap64 ((wrap64 ((wrap64 (Int.tdiv x11_3 a0_0)) - a2_1)) * a1_0)) + (wrap64 ((Int.tmod x11_3 a0_0) - a2_0)))) = ji176 := (i64_w _).trans hji176
                by_cases c177 : 0 ≤ (ji176)
                ·
                 rw [if_pos c177] at H
                 have c177b0 : decide (0 ≤ (ji176)) = true := decide_eq_true c177
                 clear c177
                 by_cases c178 : (ji176) < (l1_2.length : Int)
                 ·
                  rw [if_pos c178] at H
                  have c178b0 : decide ((ji176) < (l1_2.length : Int)) = true := decide_eq_true c178
                  clear c178
                  by_cases c179 : 0 ≤ x11_3
                  ·
                   rw [if_pos c179] at H
                   have c179b0 : decide (0 ≤ x11_3) = true := decide_eq_true c179
                   clear c179
                   by_cases c180 : x11_3 < (t454.length : Int)
                   ·
                    rw [if_pos c180] at H
                    have c180b0 : decide (x11_3 < (t454.length : Int)) = true := decide_eq_true c180
                    clear c180
                    by_cases c181 : (!(((rd_T43 t454 x11_3).f0) == ((rd_T43 l1_2 (ji176)).f0)) || (!(((rd_T43 t454 x11_3).f1) == ((rd_T43 l1_2 (ji176)).f1)) || (!(((rd_T43 t454 x11_3).f2) == ((rd_T43 l1_2 (ji176)).f2)) || (!(((rd_T43 t454 x11_3).f3) == ((rd_T43 l1_2 (ji176)).f3)))))) = true
                    ·
                     rw [if_pos c181] at H
                     have c181b0 : (!(((rd_T43 t454 x11_3).f0) == ((rd_T43 l1_2 (ji176)).f0)) || (!(((rd_T43 t454 x11_3).f1) == ((rd_T43 l1_2 (ji176)).f1)) || (!(((rd_T43 t454 x11_3).f2) == ((rd_T43 l1_2 (ji176)).f2)) || (!(((rd_T43 t454 x11_3).f3) == ((rd_T43 l1_2 (ji176)).f3)))))) = true := c181
                     clear c181
                     exact absurd H (by simp)
                    ·
                     rw [if_neg c181] at H
                     have c181b0 : (!(((rd_T43 t454 x11_3).f0) == ((rd_T43 l1_2 (ji176)).f0)) || (!(((rd_T43 t454 x11_3).f1) == ((rd_T43 l1_2 (ji176)).f1)) || (!(((rd_T43 t454 x11_3).f2) == ((rd_T43 l1_2 (ji176)).f2)) || (!(((rd_T43 t454 x11_3).f3) == ((rd_T43 l1_2 (ji176)).f3)))))) = false := by simpa using c181
                     clear c181
                     have H' := Aside0.mk H
                     clear H
                     have hnb182 := NB445_444.out
                     have hnc182 := NB444_445.out
                     have hnb183 := NB445_446.out
                     have hnc183 := NB446_445.out
                     have hnb184 := NB445_458.out
                     have hnc184 := NB458_445.out
                     have hnb185 := NB445_461.out
                     have hnc185 := NB461_445.out
                     have hcz186_0 : wc.cell? ⟨gb445, 0, none⟩ = some (.int .i64 a1_0) := (blk_cell BK445.out 0).trans rfl
                     have hcz186_1 : wc.cell? ⟨gb445, 1, none⟩ = some (.int .i64 a1_1) := (blk_cell BK445.out 1).trans rfl
                     have hcz186_2 : wc.cell? ⟨gb445, 2, none⟩ = some (.slice A1_2 l1_2.length c1_2) := (blk_cell BK445.out 2).trans rfl
                     have hfz186_0 := blk_frozen BK445.out 0
                     have hfz186_1 := blk_frozen BK445.out 1
                     have hfz186_2 := blk_frozen BK445.out 2
                     have p462 : 0 ≤ ((ji176) : Int) := of_decide_eq_true (by first | (with_reducible assumption) | assumption)
                     have q462 : (ji176) < (l1_2.length : Int) := of_decide_eq_true (by first | (with_reducible assumption) | assumption)
                     obtain ⟨ad462, e462, hx462_0, hx462_1, hx462_2, hx462_3⟩ := at_T43 HR1_2.out (ji176) p462 q462
                     cases e462
                     replace hx462_0 := (HB.out.cell (World.block_lt_of_cell? w _ hx462_0)).trans hx462_0
                     replace hx462_1 := (HB.out.cell (World.block_lt_of_cell? w _ hx462_1)).trans hx462_1
                     replace hx462_2 := (HB.out.cell (World.block_lt_of_cell? w _ hx462_2)).trans hx462_2
                     replace hx462_3 := (HB.out.cell (World.block_lt_of_cell? w _ hx462_3)).trans hx462_3
                     replace p462 := eq_true p462
                     replace q462 := eq_true q462
                     have hnb187 := NB461_444.out
                     have hnc187 := NB444_461.out
                     have hnb188 := NB461_446.out
                     have hnc188 := NB446_461.out
                     have hnb189 := NB461_458.out
                     have hnc189 := NB458_461.out
                     have hcz190_0 : wc.cell? ⟨gb461, 0, none⟩ = some (.int .u8 ((rd_T43 l0_2 x11_3).f0)) := (blk_cell BK461.out 0).trans rfl
                     have hcz190_1 : wc.cell? ⟨gb461, 1, none⟩ = some (.int .u8 ((rd_T43 l0_2 x11_3).f1)) := (blk_cell BK461.out 1).trans rfl
                     have hcz190_2 : wc.cell? ⟨gb461, 2, none⟩ = some (.int .u8 ((rd_T43 l0_2 x11_3).f2)) := (blk_cell BK461.out 2).trans rfl
                     have hcz190_3 : wc.cell? ⟨gb461, 3, none⟩ = some (.int .u8 ((rd_T43 l0_2 x11_3).f3)) := (blk_cell BK461.out 3).trans rfl
                     have hfz190_0 := blk_frozen BK461.out 0
                     have hfz190_1 := blk_frozen BK461.out 1
                     have hfz190_2 := blk_frozen BK461.out 2
                     have hfz190_3 := blk_frozen BK461.out 3
                     have hnb191 := NB458_444.out
                     have hnc191 := NB444_458.out
                     have hnb192 := NB458_446.out
                     have hnc192 := NB446_458.out
                     have hcz193_0 : wc.cell? ⟨gb458, 0, none⟩ = some (.int .i64 t452) := (blk_cell BK458.out 0).trans rfl
                     have hcz193_1 : wc.cell? ⟨gb458, 1, none⟩ = some (.int .i64 t453) := (blk_cell BK458.out 1).trans rfl
                     have hcz193_2 : wc.cell? ⟨gb458, 2, none⟩ = some (.slice Ao113 t454.length co113) := (blk_cell BK458.out 2).trans rfl
                     have hfz193_0 := blk_frozen BK458.out 0
                     have hfz193_1 := blk_frozen BK458.out 1
                     have hfz193_2 := blk_frozen BK458.out 2
                     have p463 : 0 ≤ (x11_3 : Int) := of_decide_eq_true (by first | (with_reducible assumption) | assumption)
                     have q463 : x11_3 < (t454.length : Int) := of_decide_eq_true (by first | (with_reducible assumption) | assumption)
                     obtain ⟨ad463, e463, hx463_0, hx463_1, hx463_2, hx463_3⟩ := at_T43 (Kd.R_reads' HO_459002.out).2.2 x11_3 p463 q463
                     cases e463
                     have hn463_0 : ad463.block ≠ gb461 := by first | exact Kd.own_blk (Kd.R_ne HO_459002.out BK461.out (by decide)) | exact Kd.own_blk (fun h_ => absurd rfl (HO_459002.out.1 _ h_.symm))
                     have hn463_1 : ad463.block ≠ gb461 := by first | exact Kd.own_blk (Kd.R_ne HO_459002.out BK461.out (by decide)) | exact Kd.own_blk (fun h_ => absurd rfl (HO_459002.out.1 _ h_.symm))
                     have hn463_2 : ad463.block ≠ gb461 := by first | exact Kd.own_blk (Kd.R_ne HO_459002.out BK461.out (by decide)) | exact Kd.own_blk (fun h_ => absurd rfl (HO_459002.out.1 _ h_.symm))
                     have hn463_3 : ad463.block ≠ gb461 := by first | exact Kd.own_blk (Kd.R_ne HO_459002.out BK461.out (by decide)) | exact Kd.own_blk (fun h_ => absurd rfl (HO_459002.out.1 _ h_.symm))
                     replace hx463_0 := (cell_far (p := ⟨gb461, 0, none⟩) (by first | (rw [add_block]; exact hn463_0) | (show (Addr.add _ _).block ≠ _; rw [add_block]; exact hn463_0) | exact hn463_0) (.int .u8 ((rd_T43 l1_2 (ji176)).f0))).trans hx463_0
                     replace hx463_1 := (cell_far (p := ⟨gb461, 0, none⟩) (by first | (rw [add_block]; exact hn463_0) | (show (Addr.add _ _).block ≠ _; rw [add_block]; exact hn463_0) | exact hn463_0) (.int .u8 ((rd_T43 l1_2 (ji176)).f0))).trans hx463_1
                     replace hx463_2 := (cell_far (p := ⟨gb461, 0, none⟩) (by first | (rw [add_block]; exact hn463_0) | (show (Addr.add _ _).block ≠ _; rw [add_block]; exact hn463_0) | exact hn463_0) (.int .u8 ((rd_T43 l1_2 (ji176)).f0))).trans hx463_2
                     replace hx463_3 := (cell_far (p := ⟨gb461, 0, none⟩) (by first | (rw [add_block]; exact hn463_0) | (show (Addr.add _ _).block ≠ _; rw [add_block]; exact hn463_0) | exact hn463_0) (.int .u8 ((rd_T43 l1_2 (ji176)).f0))).trans hx463_3
                     replace hx463_0 := (cell_far (p := ⟨gb461, 1, none⟩) (by first | (rw [add_block]; exact hn463_1) | (show (Addr.add _ _).block ≠ _; rw [add_block]; exact hn463_1) | exact hn463_1) (.int .u8 ((rd_T43 l1_2 (ji176)).f1))).trans hx463_0
                     replace hx463_1 := (cell_far (p := ⟨gb461, 1, none⟩) (by first | (rw [add_block]; exact hn463_1) | (show (Addr.add _ _).block ≠ _; rw [add_block]; exact hn463_1) | exact hn463_1) (.int .u8 ((rd_T43 l1_2 (ji176)).f1))).trans hx463_1
                     replace hx463_2 := (cell_far (p := ⟨gb461, 1, none⟩) (by first | (rw [add_block]; exact hn463_1) | (show (Addr.add _ _).block ≠ _; rw [add_block]; exact hn463_1) | exact hn463_1) (.int .u8 ((rd_T43 l1_2 (ji176)).f1))).trans hx463_2
                     replace hx463_3 := (cell_far (p := ⟨gb461, 1, none⟩) (by first | (rw [add_block]; exact hn463_1) | (show (Addr.add _ _).block ≠ _; rw [add_block]; exact hn463_1) | exact hn463_1) (.int .u8 ((rd_T43 l1_2 (ji176)).f1))).trans hx463_3
                     replace hx463_0 := (cell_far (p := ⟨gb461, 2, none⟩) (by first | (rw [add_block]; exact hn463_2) | (show (Addr.add _ _).block ≠ _; rw [add_block]; exact hn463_2) | exact hn463_2) (.int .u8 ((rd_T43 l1_2 (ji176)).f2))).trans hx463_0
                     replace hx463_1 := (cell_far (p := ⟨gb461, 2, none⟩) (by first | (rw [add_block]; exact hn463_2) | (show (Addr.add _ _).block ≠ _; rw [add_block]; exact hn463_2) | exact hn463_2) (.int .u8 ((rd_T43 l1_2 (ji176)).f2))).trans hx463_1
                     replace hx463_2 := (cell_far (p := ⟨gb461, 2, none⟩) (by first | (rw [add_block]; exact hn463_2) | (show (Addr.add _ _).block ≠ _; rw [add_block]; exact hn463_2) | exact hn463_2) (.int .u8 ((rd_T43 l1_2 (ji176)).f2))).trans hx463_2
                     replace hx463_3 := (cell_far (p := ⟨gb461, 2, none⟩) (by first | (rw [add_block]; exact hn463_2) | (show (Addr.add _ _).block ≠ _; rw [add_block]; exact hn463_2) | exact hn463_2) (.int .u8 ((rd_T43 l1_2 (ji176)).f2))).trans hx463_3
                     replace hx463_0 := (cell_far (p := ⟨gb461, 3, none⟩) (by first | (rw [add_block]; exact hn463_3) | (show (Addr.add _ _).block ≠ _; rw [add_block]; exact hn463_3) | exact hn463_3) (.int .u8 ((rd_T43 l1_2 (ji176)).f3))).trans hx463_0
                     replace hx463_1 := (cell_far (p := ⟨gb461, 3, none⟩) (by first | (rw [add_block]; exact hn463_3) | (show (Addr.add _ _).block ≠ _; rw [add_block]; exact hn463_3) | exact hn463_3) (.int .u8 ((rd_T43 l1_2 (ji176)).f3))).trans hx463_1
                     replace hx463_2 := (cell_far (p := ⟨gb461, 3, none⟩) (by first | (rw [add_block]; exact hn463_3) | (show (Addr.add _ _).block ≠ _; rw [add_block]; exact hn463_3) | exact hn463_3) (.int .u8 ((rd_T43 l1_2 (ji176)).f3))).trans hx463_2
                     replace hx463_3 := (cell_far (p := ⟨gb461, 3, none⟩) (by first | (rw [add_block]; exact hn463_3) | (show (Addr.add _ _).block ≠ _; rw [add_block]; exact hn463_3) | exact hn463_3) (.int .u8 ((rd_T43 l1_2 (ji176)).f3))).trans hx463_3
                     (try have hy463_0 := fun (n_ : Nat) => (show ((((((wc.drewN n_).setCell ⟨gb461, 0, none⟩ (.int .u8 ((rd_T43 l1_2 (ji176)).f0))).setCell ⟨gb461, 1, none⟩ (.int .u8 ((rd_T43 l1_2 (ji176)).f1))).setCell ⟨gb461, 2, none⟩ (.int .u8 ((rd_T43 l1_2 (ji176)).f2))).setCell ⟨gb461, 3, none⟩ (.int .u8 ((rd_T43 l1_2 (ji176)).f3)))).cell? _ = some _ from hx463_0))
                     (try have hy463_1 := fun (n_ : Nat) => (show ((((((wc.drewN n_).setCell ⟨gb461, 0, none⟩ (.int .u8 ((rd_T43 l1_2 (ji176)).f0))).setCell ⟨gb461, 1, none⟩ (.int .u8 ((rd_T43 l1_2 (ji176)).f1))).setCell ⟨gb461, 2, none⟩ (.int .u8 ((rd_T43 l1_2 (ji176)).f2))).setCell ⟨gb461, 3, none⟩ (.int .u8 ((rd_T43 l1_2 (ji176)).f3)))).cell? _ = some _ from hx463_1))
                     (try have hy463_2 := fun (n_ : Nat) => (show ((((((wc.drewN n_).setCell ⟨gb461, 0, none⟩ (.int .u8 ((rd_T43 l1_2 (ji176)).f0))).setCell ⟨gb461, 1, none⟩ (.int .u8 ((rd_T43 l1_2 (ji176)).f1))).setCell ⟨gb461, 2, none⟩ (.int .u8 ((rd_T43 l1_2 (ji176)).f2))).setCell ⟨gb461, 3, none⟩ (.int .u8 ((rd_T43 l1_2 (ji176)).f3)))).cell? _ = some _ from hx463_2))
                     (try have hy463_3 := fun (n_ : Nat) => (show ((((((wc.drewN n_).setCell ⟨gb461, 0, none⟩ (.int .u8 ((rd_T43 l1_2 (ji176)).f0))).setCell ⟨gb461, 1, none⟩ (.int .u8 ((rd_T43 l1_2 (ji176)).f1))).setCell ⟨gb461, 2, none⟩ (.int .u8 ((rd_T43 l1_2 (ji176)).f2))).setCell ⟨gb461, 3, none⟩ (.int .u8 ((rd_T43 l1_2 (ji176)).f3)))).cell? _ = some _ from hx463_3))
                     clear hn463_0
                     clear hn463_1
                     clear hn463_2
                     clear hn463_3
                     replace p463 := eq_true p463
                     replace q463 := eq_true q463
                     go_wp2
                     repeat (go_quiet (fail); try go_wp2)
                     go_roundg kj142
                     case measure => have := HJ3.out; have := HJ100.out; have := HK3.out; have := HJ142.out; omega
                     case rel => exact ⟨(wrap64 (x11_3 + 1)), (by first | rfl | (simp; done) | (simp [*]; done)), H', ⟨by have := HJ3.out; have := HJ100.out; have := HK3.out; have := HJ142.out; omega⟩, ⟨by (with_reducible repeat (first | apply Kd.R_alloc | apply Kd.R_drewN | apply Kd.R_drew)); exact Kd.R_mono (Kd.R_far (p := ⟨gb461, 3, none⟩) (Kd.R_far (p := ⟨gb461, 2, none⟩) (Kd.R_far (p := ⟨gb461, 1, none⟩) (Kd.R_far (p := ⟨gb461, 0, none⟩) (Kd.R_mono HO_459002.out (fun k_ hk => (⟨hk, hk⟩ : _ ∧ k_ ≠ gb461))) (fun _ hk => hk.2) (.int .u8 ((rd_T43 l1_2 (ji176)).f0))) (fun _ hk => hk.2) (.int .u8 ((rd_T43 l1_2 (ji176)).f1))) (fun _ hk => hk.2) (.int .u8 ((rd_T43 l1_2 (ji176)).f2))) (fun _ hk => hk.2) (.int .u8 ((rd_T43 l1_2 (ji176)).f3))) (fun _ hk => trivial)⟩, bf_ BK444, bf_ BK445, bf_ BK446, bf_ BK458, ⟨by repeat (first | (with_reducible first | exact HB.out | apply below_alloc | apply pw_below_drewN | apply below_drew1 | refine below_set ?_ GE444.out | refine below_set ?_ GE445.out | refine below_set ?_ GE446.out | refine below_set ?_ GE458.out | refine below_set ?_ GE461.out) | exact HB.out)⟩⟩
                   ·
                    rw [if_neg c180] at H
                    exact absurd H (by simp)
                  ·
                   rw [if_neg c179] at H
                   exact absurd H (by simp)
                 ·
                  rw [if_neg c178] at H
                  exact absurd H (by simp)
                ·
                 rw [if_neg c177] at H
                 exact absurd H (by simp)
               ·
                replace c175 := Bool.eq_false_iff.mpr c175
                subst c175
                have H1 : (if 0 ≤ x11_3 then (if x11_3 < (t454.length : Int) then (if (!(((rd_T43 t454 x11_3).f0) == ((rd_T43 l0_2 x11_3).f0)) || (!(((rd_T43 t454 x11_3).f1) == ((rd_T43 l0_2 x11_3).f1)) || (!(((rd_T43 t454 x11_3).f2) == ((rd_T43 l0_2 x11_3).f2)) || (!(((rd_T43 t454 x11_3).f3) == ((rd_T43 l0_2 x11_3).f3)))))) = true then (some false) else (compositorlaw09_BufferCovers.l0 kj142 a2_0 a2_1 (wrap64 (x11_3 + 1)) a0_0 a0_1 l0_2 a1_0 a1_1 l1_2 t452 t453 t454)) else (none)) else (none)) = some true := by rw [if_neg (show ¬ (false = true) by decide)] at H; exact H
                clear H
                have H := H1
                clear H1
                by_cases c194 : 0 ≤ x11_3
                ·
                 rw [if_pos c194] at H
                 have c194b0 : decide (0 ≤ x11_3) = true := decide_eq_true c194
                 clear c194
                 by_cases c195 : x11_3 < (t454.length : Int)
                 ·
                  rw [if_pos c195] at H
                  have c195b0 : decide (x11_3 < (t454.length : Int)) = true := decide_eq_true c195
                  clear c195
                  by_cases c196 : (!(((rd_T43 t454 x11_3).f0) == ((rd_T43 l0_2 x11_3).f0)) || (!(((rd_T43 t454 x11_3).f1) == ((rd_T43 l0_2 x11_3).f1)) || (!(((rd_T43 t454 x11_3).f2) == ((rd_T43 l0_2 x11_3).f2)) || (!(((rd_T43 t454 x11_3).f3) == ((rd_T43 l0_2 x11_3).f3)))))) = true
                  ·
                   rw [if_pos c196] at H
                   have c196b0 : (!(((rd_T43 t454 x11_3).f0) == ((rd_T43 l0_2 x11_3).f0)) || (!(((rd_T43 t454 x11_3).f1) == ((rd_T43 l0_2 x11_3).f1)) || (!(((rd_T43 t454 x11_3).f2) == ((rd_T43 l0_2 x11_3).f2)) || (!(((rd_T43 t454 x11_3).f3) == ((rd_T43 l0_2 x11_3).f3)))))) = true := c196
                   clear c196
                   exact absurd H (by simp)
                  ·
                   rw [if_neg c196] at H
                   have c196b0 : (!(((rd_T43 t454 x11_3).f0) == ((rd_T43 l0_2 x11_3).f0)) || (!(((rd_T43 t454 x11_3).f1) == ((rd_T43 l0_2 x11_3).f1)) || (!(((rd_T43 t454 x11_3).f2) == ((rd_T43 l0_2 x11_3).f2)) || (!(((rd_T43 t454 x11_3).f3) == ((rd_T43 l0_2 x11_3).f3)))))) = false := by simpa using c196
                   clear c196
                   have H' := Aside0.mk H
                   clear H
                   have hnb197 := NB458_444.out
                   have hnc197 := NB444_458.out
                   have hnb198 := NB458_445.out
                   have hnc198 := NB445_458.out
                   have hnb199 := NB458_446.out
                   have hnc199 := NB446_458.out
                   have hnb200 := NB458_461.out
                   have hnc200 := NB461_458.out
                   have hcz201_0 : wc.cell? ⟨gb458, 0, none⟩ = some (.int .i64 t452) := (blk_cell BK458.out 0).trans rfl
                   have hcz201_1 : wc.cell? ⟨gb458, 1, none⟩ = some (.int .i64 t453) := (blk_cell BK458.out 1).trans rfl
                   have hcz201_2 : wc.cell? ⟨gb458, 2, none⟩ = some (.slice Ao113 t454.length co113) := (blk_cell BK458.out 2).trans rfl
                   have hfz201_0 := blk_frozen BK458.out 0
                   have hfz201_1 := blk_frozen BK458.out 1
                   have hfz201_2 := blk_frozen BK458.out 2
                   have p464 : 0 ≤ (x11_3 : Int) := of_decide_eq_true (by first | (with_reducible assumption) | assumption)
                   have q464 : x11_3 < (t454.length : Int) := of_decide_eq_true (by first | (with_reducible assumption) | assumption)
                   obtain ⟨ad464, e464, hx464_0, hx464_1, hx464_2, hx464_3⟩ := at_T43 (Kd.R_reads' HO_459002.out).2.2 x11_3 p464 q464
                   cases e464
                   replace p464 := eq_true p464
                   replace q464 := eq_true q464
                   have hnb202 := NB461_444.out
                   have hnc202 := NB444_461.out
                   have hnb203 := NB461_445.out
                   have hnc203 := NB445_461.out
                   have hnb204 := NB461_446.out
                   have hnc204 := NB446_461.out
                   have hcz205_0 : wc.cell? ⟨gb461, 0, none⟩ = some (.int .u8 ((rd_T43 l0_2 x11_3).f0)) := (blk_cell BK461.out 0).trans rfl
                   have hcz205_1 : wc.cell? ⟨gb461, 1, none⟩ = some (.int .u8 ((rd_T43 l0_2 x11_3).f1)) := (blk_cell BK461.out 1).trans rfl
                   have hcz205_2 : wc.cell? ⟨gb461, 2, none⟩ = some (.int .u8 ((rd_T43 l0_2 x11_3).f2)) := (blk_cell BK461.out 2).trans rfl
                   have hcz205_3 : wc.cell? ⟨gb461, 3, none⟩ = some (.int .u8 ((rd_T43 l0_2 x11_3).f3)) := (blk_cell BK461.out 3).trans rfl
                   have hfz205_0 := blk_frozen BK461.out 0
                   have hfz205_1 := blk_frozen BK461.out 1
                   have hfz205_2 := blk_frozen BK461.out 2
                   have hfz205_3 := blk_frozen BK461.out 3
                   go_wp2
                   repeat (go_quiet (fail); try go_wp2)
                   go_roundg kj142
                   case measure => have := HJ3.out; have := HJ100.out; have := HK3.out; have := HJ142.out; omega
                   case rel => exact ⟨(wrap64 (x11_3 + 1)), (by first | rfl | (simp; done) | (simp [*]; done)), H', ⟨by have := HJ3.out; have := HJ100.out; have := HK3.out; have := HJ142.out; omega⟩, ⟨by (with_reducible repeat (first | apply Kd.R_alloc | apply Kd.R_drewN | apply Kd.R_drew)); exact Kd.R_mono HO_459002.out (fun _ hk => trivial)⟩, bf_ BK444, bf_ BK445, bf_ BK446, bf_ BK458, ⟨by repeat (first | (with_reducible first | exact HB.out | apply below_alloc | apply pw_below_drewN | apply below_drew1 | refine below_set ?_ GE444.out | refine below_set ?_ GE445.out | refine below_set ?_ GE446.out | refine below_set ?_ GE458.out | refine below_set ?_ GE461.out) | exact HB.out)⟩⟩
                 ·
                  rw [if_neg c195] at H
                  exact absurd H (by simp)
                ·
                 rw [if_neg c194] at H
                 exact absurd H (by simp)
            ·
             rw [if_neg c142] at H
             exact absurd H (by simp)
           ·
            rw [if_neg c141] at H
            exact absurd H (by simp)
         ·
          rw [if_neg c139] at H
          have c139b0 : decide (x11_3 < (t454.length : Int)) = false := decide_eq_false c139
          clear c139
          replace H := Option.bind_eq_some_iff.mp H
          obtain ⟨t459, A2060, H⟩ := H
          try dsimp only at H
          have A206 := Aside0.mk A2060
          clear A2060
          have Hq_ := Option.some.inj H
          have hnb207 := NB458_444.out
          have hnc207 := NB444_458.out
          have hnb208 := NB458_445.out
          have hnc208 := NB445_458.out
          have hnb209 := NB458_446.out
          have hnc209 := NB446_458.out
          have hcz210_0 : wr.cell? ⟨gb458, 0, none⟩ = some (.int .i64 t452) := (blk_cell BK458.out 0).trans rfl
          have hcz210_1 : wr.cell? ⟨gb458, 1, none⟩ = some (.int .i64 t453) := (blk_cell BK458.out 1).trans rfl
          have hcz210_2 : wr.cell? ⟨gb458, 2, none⟩ = some (.slice Ao113 t454.length co113) := (blk_cell BK458.out 2).trans rfl
          have hfz210_0 := blk_frozen BK458.out 0
          have hfz210_1 := blk_frozen BK458.out 1
          have hfz210_2 := blk_frozen BK458.out 2
          go_wp2_with (first | (go_at_call 13; (with_reducible refine (compositorlaw09_exampleHolds.calls k3  t459 _ A206.out).mono ?_); rintro e w211 ⟨rfl, hb⟩; have n0_ := Aside0.mk (Kd.R_below (by (with_reducible repeat (first | apply Kd.R_alloc | apply Kd.R_drewN | apply Kd.R_drew)); exact HO_459002.out) hb); have n1_ := bb_ BK444 hb; have n2_ := bb_ BK445 hb; have n3_ := bb_ BK446 hb; have n4_ := bb_ BK458 hb; have n5_ := hb_ HB hb; clear HO_459002; clear BK444; clear BK445; clear BK446; clear BK458; clear HB; have HO_459002 := n0_; have BK444 := n1_; have BK445 := n2_; have BK446 := n3_; have BK458 := n4_; have HB := n5_; clear n0_ n1_ n2_ n3_ n4_ n5_; (try clear hb); (try clear hb2); (try clear hk); (try clear hi)))
          repeat (go_quiet (first | (go_at_call 13; (with_reducible refine (compositorlaw09_exampleHolds.calls k3  t459 _ A206.out).mono ?_); rintro e w211 ⟨rfl, hb⟩; have n0_ := Aside0.mk (Kd.R_below (by (with_reducible repeat (first | apply Kd.R_alloc | apply Kd.R_drewN | apply Kd.R_drew)); exact HO_459002.out) hb); have n1_ := bb_ BK444 hb; have n2_ := bb_ BK445 hb; have n3_ := bb_ BK446 hb; have n4_ := bb_ BK458 hb; have n5_ := hb_ HB hb; clear HO_459002; clear BK444; clear BK445; clear BK446; clear BK458; clear HB; have HO_459002 := n0_; have BK444 := n1_; have BK445 := n2_; have BK446 := n3_; have BK458 := n4_; have HB := n5_; clear n0_ n1_ n2_ n3_ n4_ n5_; (try clear hb); (try clear hb2); (try clear hk); (try clear hi))); try go_wp2_with (first | (go_at_call 13; (with_reducible refine (compositorlaw09_exampleHolds.calls k3  t459 _ A206.out).mono ?_); rintro e w211 ⟨rfl, hb⟩; have n0_ := Aside0.mk (Kd.R_below (by (with_reducible repeat (first | apply Kd.R_alloc | apply Kd.R_drewN | apply Kd.R_drew)); exact HO_459002.out) hb); have n1_ := bb_ BK444 hb; have n2_ := bb_ BK445 hb; have n3_ := bb_ BK446 hb; have n4_ := bb_ BK458 hb; have n5_ := hb_ HB hb; clear HO_459002; clear BK444; clear BK445; clear BK446; clear BK458; clear HB; have HO_459002 := n0_; have BK444 := n1_; have BK445 := n2_; have BK446 := n3_; have BK458 := n4_; have HB := n5_; clear n0_ n1_ n2_ n3_ n4_ n5_; (try clear hb); (try clear hb2); (try clear hk); (try clear hi))))
          go_ret
          exact ⟨by first | rfl | (simp [errW_none, errW_some] <;> rfl) | (simp [*, errW_none, errW_some] <;> rfl), by repeat (first | (with_reducible first | exact HB.out | apply below_alloc | apply pw_below_drewN | apply below_drew1 | refine below_set ?_ GE444.out | refine below_set ?_ GE445.out | refine below_set ?_ GE446.out | refine below_set ?_ GE458.out) | exact HB.out)⟩
end Go.Proofs.Ytmockeaiccpogaa.All
end
section
namespace Go.Proofs.Ytmockeaiccpogaa.All
open Go.Proofs.YtmockeaiccpogaaSq
open Go.RowKit Go.Proofs.YtmockeaiccpogaaW.PrintWords Go.Proofs.YtmockeaiccpogaaW.PrintLast Go.Proofs.YtmockeaiccpogaaW.PrintMore
attribute [local go_sem] max2_int min2_int max_two min_two max_three min_three max_four min_four
set_option linter.unusedVariables false
set_option linter.unusedSimpArgs false
end Go.Proofs.Ytmockeaiccpogaa.All
end
section
namespace Go.Proofs.Ytmockeaiccpogaa.All
open Go.RowKit Go.Proofs.YtmockeaiccpogaaW.PrintWords Go.Proofs.YtmockeaiccpogaaW.PrintLast Go.Proofs.YtmockeaiccpogaaW.PrintMore
attribute [local go_sem] max2_int min2_int max_two min_two max_three min_three max_four min_four
set_option linter.unusedVariables false
set_option linter.unusedSimpArgs false
end Go.Proofs.Ytmockeaiccpogaa.All
end
section
namespace Go.Proofs.Ytmockeaiccpogaa.All
open Go.RowKit Go.Proofs.YtmockeaiccpogaaW.PrintWords Go.Proofs.YtmockeaiccpogaaW.PrintLast Go.Proofs.YtmockeaiccpogaaW.PrintMore
attribute [local go_sem] max2_int min2_int max_two min_two max_three min_three max_four min_four
set_option linter.unusedVariables false
set_option linter.unusedSimpArgs false
end Go.Proofs.Ytmockeaiccpogaa.All
end
section
namespace Go.Proofs.Ytmockeaiccpogaa.All
open Go.RowKit Go.Proofs.YtmockeaiccpogaaW.PrintWords Go.Proofs.YtmockeaiccpogaaW.PrintLast Go.Proofs.YtmockeaiccpogaaW.PrintMore
attribute [local go_sem] max2_int min2_int max_two min_two max_three min_three max_four min_four
set_option linter.unusedVariables false
set_option linter.unusedSimpArgs false
end Go.Proofs.Ytmockeaiccpogaa.All
end
section
namespace Go.Proofs.Ytmockeaiccpogaa.All
open Go.Proofs.YtmockeaiccpogaaSq
open Go.RowKit Go.Proofs.YtmockeaiccpogaaW.PrintWords Go.Proofs.YtmockeaiccpogaaW.PrintLast Go.Proofs.YtmockeaiccpogaaW.PrintMore
attribute [local go_sem] max2_int min2_int max_two min_two max_three min_three max_four min_four
set_option linter.unusedVariables false
set_option linter.unusedSimpArgs false
end Go.Proofs.Ytmockeaiccpogaa.All
end
section
namespace Go.Proofs.Ytmockeaiccpogaa.All
open Go.RowKit Go.Proofs.YtmockeaiccpogaaW.PrintWords Go.Proofs.YtmockeaiccpogaaW.PrintLast Go.Proofs.YtmockeaiccpogaaW.PrintMore
attribute [local go_sem] max2_int min2_int max_two min_two max_three min_three max_four min_four
set_option linter.unusedVariables false
set_option linter.unusedSimpArgs false
end Go.Proofs.Ytmockeaiccpogaa.All
end
section
namespace Go.Proofs.Ytmockeaiccpogaa.All
open Go.RowKit Go.Proofs.YtmockeaiccpogaaW.PrintWords Go.Proofs.YtmockeaiccpogaaW.PrintLast Go.Proofs.YtmockeaiccpogaaW.PrintMore
attribute [local go_sem] max2_int min2_int max_two min_two max_three min_three max_four min_four
set_option linter.unusedVariables false
set_option linter.unusedSimpArgs false
section
open Go.Proofs.YtmockeaiccpogaaHand
end
end Go.Proofs.Ytmockeaiccpogaa.All
end
section
namespace Go.Proofs.Ytmockeaiccpogaa.All
open Go.Proofs.YtmockeaiccpogaaSq
open Go.RowKit Go.Proofs.YtmockeaiccpogaaW.PrintWords Go.Proofs.YtmockeaiccpogaaW.PrintLast Go.Proofs.YtmockeaiccpogaaW.PrintMore
attribute [local go_sem] max2_int min2_int max_two min_two max_three min_three max_four min_four
set_option linter.unusedVariables false
set_option linter.unusedSimpArgs false
section
open Go.Proofs.YtmockeaiccpogaaHand Go.Proofs.YtmockeaiccpogaaSq
end
end Go.Proofs.Ytmockeaiccpogaa.All
end
section
namespace Go.Proofs.Ytmockeaiccpogaa.All
open Go.RowKit Go.Proofs.YtmockeaiccpogaaW.PrintWords Go.Proofs.YtmockeaiccpogaaW.PrintLast Go.Proofs.YtmockeaiccpogaaW.PrintMore
attribute [local go_sem] max2_int min2_int max_two min_two max_three min_three max_four min_four
set_option linter.unusedVariables false
set_option linter.unusedSimpArgs false
end Go.Proofs.Ytmockeaiccpogaa.All
end
section
namespace Go.Proofs.Ytmockeaiccpogaa.All
open Go.RowKit Go.Proofs.YtmockeaiccpogaaW.PrintWords Go.Proofs.YtmockeaiccpogaaW.PrintLast Go.Proofs.YtmockeaiccpogaaW.PrintMore
set_option linter.unusedVariables false
structure S22 where
  f0 : Int
  f1 : Int
  f2 : Int
  f3 : Int
structure S27 where
  f0 : Int
  f1 : Int
  f2 : List S43
def k27 : Kd S27 := Kd.iso (Kd.pair (Kd.int .i64) (Kd.pair (Kd.int .i64) (Kd.slice 43 k43))) (fun x : S27 => (x.f0, x.f1, x.f2))
theorem k27_open {w : World} {x : S27} {cs : List Value} (h : k27.K w x cs) : ∃ A2 c2, cs = [.int .i64 x.f0, .int .i64 x.f1, .slice A2 x.f2.length c2] ∧ x.f2.length ≤ c2 ∧ Kd.C k43 w A2 x.f2.length x.f2 := by
  obtain ⟨_, _, rfl, rfl, ⟨_, _, rfl, rfl, g2⟩⟩ := h
  obtain ⟨A2, c2, rfl, l2, h2⟩ := g2
  exact ⟨A2, c2, rfl, l2, h2⟩
structure S41 where
  f0 : Int
  f1 : Int
def k41 : Kd S41 := Kd.iso (Kd.pair (Kd.int .i64) (Kd.int .i64)) (fun x : S41 => (x.f0, x.f1))
theorem k41_open {w : World} {x : S41} {cs : List Value} (h : k41.K w x cs) : cs = [.int .i64 x.f0, .int .i64 x.f1] := by
  obtain ⟨_, _, rfl, rfl, rfl⟩ := h
  exact rfl
end Go.Proofs.Ytmockeaiccpogaa.All
end
section
namespace Go.Proofs.Ytmockeaiccpogaa.Pure
open Go.RowKit Go.Proofs.YtmockeaiccpogaaW.PrintWords Go.Proofs.YtmockeaiccpogaaW.PrintMore Go.Proofs.Ytmockeaiccpogaa.All
set_option linter.unusedVariables false
set_option linter.unusedSimpArgs false
theorem i64 {x : Int} (h : (Lit.int .i64 x).wf = true) : -9223372036854775808 ≤ x ∧ x ≤ 9223372036854775807 := by
  simpa [Lit.wf, IntKind.min, IntKind.max, IntKind.signed, IntKind.bits] using h
theorem w64 {x : Int} (h : -9223372036854775808 ≤ x) (h' : x ≤ 9223372036854775807) : wrap64 x = x := by unfold wrap64; omega
theorem wnat {n : Nat} (h : n ≤ 1000000) : wrap64 ((n : Int) + 1) = ((n + 1 : Nat) : Int) := by unfold wrap64; omega
theorem fuel {α : Type} {f : Nat → Option α} (hm : ∀ k r, f k = some r → f (k + 1) = some r) {K : Nat} {r : α} (h : f K = some r) : ∀ k, K ≤ k → f k = some r := by
  intro k hk
  obtain ⟨j, rfl⟩ : ∃ j, k = K + j := ⟨k - K, by omega⟩
  clear hk
  induction j with
  | zero => exact h
  | succ j ih => exact hm _ _ ih
theorem example_holds : ∀ k, 200 ≤ k → compositorlaw09_exampleHolds.f k = some true :=
  fuel (f := fun k => compositorlaw09_exampleHolds.f k) (fun k r h => compositorlaw09_exampleHolds.mono k r h) (by decide +kernel)
theorem mx_spec (a b : Int) : a ≤ mx a b ∧ b ≤ mx a b ∧ (mx a b = a ∨ mx a b = b) := by unfold mx; split <;> omega
theorem mn_spec (a b : Int) : mn a b ≤ a ∧ mn a b ≤ b ∧ (mn a b = a ∨ mn a b = b) := by unfold mn; split <;> omega
def PV (p : S43) : Prop := p.f0 ≤ p.f3 ∧ p.f1 ≤ p.f3 ∧ p.f2 ≤ p.f3
def VB (W H : Int) (l : List S43) : Prop := (1 ≤ W ∧ W ≤ 256) ∧ (1 ≤ H ∧ H ≤ 256) ∧ (l.length : Int) = W * H ∧ ∀ p ∈ l, PV p
noncomputable instance (W H : Int) (l : List S43) : Decidable (VB W H l) := Classical.propDecidable _
def SZ (n : Int) : Prop := 1 ≤ n ∧ n ≤ 256
noncomputable instance (n : Int) : Decidable (SZ n) := Classical.propDecidable _
theorem ok_iff (p : S43) : buffer_Valid.ok p = true ↔ PV p := by
  have m0 := mn_spec p.f0 p.f3
  have m1 := mn_spec p.f1 p.f3
  have m2 := mn_spec p.f2 p.f3
  unfold buffer_Valid.ok PV
  simp only [Bool.and_eq_true, beq_iff_eq, and_true]
  omega
theorem bsize_eq (a : Int) : buffer_size.f a = some (decide (SZ a)) := by
  unfold buffer_size.f
  split <;> (refine congrArg some (Bool.eq_iff_iff.mpr ?_); simp only [decide_eq_true_eq, Bool.false_eq_true, false_iff]; unfold SZ; omega)
theorem rsize_eq (a b : Int) : compositorref09_size.f a b = some (decide (SZ a ∧ SZ b)) := by
  unfold compositorref09_size.f
  repeat' split
  all_goals (refine congrArg some (Bool.eq_iff_iff.mpr ?_); simp only [decide_eq_true_eq, Bool.false_eq_true, false_iff]; unfold SZ; omega)
theorem prod_small {W H : Int} (hW : SZ W) (hH : SZ H) : wrap64 (W * H) = W * H ∧ 1 ≤ W * H ∧ W * H ≤ 65536 := by
  unfold SZ at hW hH
  have p1 := Int.mul_le_mul hW.2 hH.2 (by omega) (by omega : (0 : Int) ≤ 256)
  have p2 : 0 < W * H := Int.mul_pos (by omega) (by omega)
  refine ⟨?_, by omega, by omega⟩
  unfold wrap64; omega
theorem bvalid_eq (W H : Int) (l : List S43) : buffer_Valid.f W H l = some (decide (VB W H l)) := by
  simp only [buffer_Valid.f, bsize_eq, Option.bind_some, decide_eq_true_eq]
  by_cases hW : SZ W
  · by_cases hH : SZ H
    · have hp := prod_small hW hH
      rw [if_pos hW, if_pos hH, hp.1]
      by_cases hl : (l.length : Int) = W * H
      · rw [if_pos hl]
        refine congrArg some (Bool.eq_iff_iff.mpr ?_)
        rw [List.all_eq_true, decide_eq_true_eq]
        exact ⟨fun h => ⟨hW, hH, hl, fun p hp => (ok_iff p).mp (h p hp)⟩, fun h p hp => (ok_iff p).mpr (h.2.2.2 p hp)⟩
      · rw [if_neg hl, decide_eq_false (fun h => hl h.2.2.1)]
    · rw [if_pos hW, if_neg hH, decide_eq_false (fun h => hH h.2.1)]
  · rw [if_neg hW, decide_eq_false (fun h => hW h.1)]
theorem rd_at {l : List S43} {i : Nat} (h : i < l.length) : rd_T43 l (i : Int) = l[i] := by
  simp [rd_T43, List.getD_eq_getElem?_getD, List.getElem?_eq_getElem h]
theorem rpv (p : S43) : compositorref08_Valid.f p.f0 p.f1 p.f2 p.f3 = some (decide (p.f0 ≤ p.f3 ∧ p.f1 ≤ p.f3 ∧ p.f2 ≤ p.f3)) := by
  unfold compositorref08_Valid.f
  repeat' split
  all_goals (refine congrArg some (Bool.eq_iff_iff.mpr ?_); simp only [decide_eq_true_eq, Bool.false_eq_true, false_iff]; omega)
theorem rvl (W H : Int) (l : List S43) (hl : l.length ≤ 100000) : ∀ d i, i + d = l.length → ∀ k, d + 1 ≤ k → ∀ b, (b = true ↔ ∀ p ∈ l.drop i, PV p) → compositorref09_Valid.l0 k i W H l = some b := by
  intro d
  induction d with
  | zero =>
    intro i hi k hk b hb
    obtain ⟨k, rfl⟩ : ∃ j, k = j + 1 := ⟨k - 1, by omega⟩
    rw [compositorref09_Valid.l0, if_neg (by omega)]
    have e : l.drop i = [] := List.drop_eq_nil_of_le (by omega)
    rw [e] at hb
    have : b = true := hb.mpr (fun p hp => by cases hp)
    rw [this]
  | succ d ih =>
    intro i hi k hk b hb
    obtain ⟨k, rfl⟩ : ∃ j, k = j + 1 := ⟨k - 1, by omega⟩
    have hlt : i < l.length := by omega
    rw [compositorref09_Valid.l0, if_pos (by omega), if_pos (by omega), rd_at hlt, rpv, Option.bind_some]
    have e : l.drop i = l[i] :: l.drop (i + 1) := List.drop_eq_getElem_cons hlt
    rw [e] at hb
    have ew : wrap64 ((i : Int) + 1) = ((i + 1 : Nat) : Int) := wnat (by omega)
    rw [ew]
    simp only [decide_eq_true_eq]
    by_cases h0 : PV l[i]
    · rw [if_pos (show l[i].f0 ≤ l[i].f3 ∧ l[i].f1 ≤ l[i].f3 ∧ l[i].f2 ≤ l[i].f3 from h0)]
      refine ih (i + 1) (by omega) k (by omega) b (hb.trans ?_)
      constructor
      · intro h p hm; exact h p (List.mem_cons_of_mem _ hm)
      · intro h p hm
        rcases List.mem_cons.mp hm with rfl | hm
        · exact h0
        · exact h p hm
    · rw [if_neg (show ¬ (l[i].f0 ≤ l[i].f3 ∧ l[i].f1 ≤ l[i].f3 ∧ l[i].f2 ≤ l[i].f3) from h0)]
      cases b with
      | false => rfl
      | true => exact absurd (hb.mp rfl l[i] (List.mem_cons_self ..)) h0
theorem rvalid_eq (W H : Int) (l : List S43) (hl : l.length ≤ 100000) : ∀ k, l.length + 2 ≤ k → compositorref09_Valid.f k W H l = some (decide (VB W H l)) := by
  intro k hk
  obtain ⟨k, rfl⟩ : ∃ j, k = j + 1 := ⟨k - 1, by omega⟩
  simp only [compositorref09_Valid.f, rsize_eq, Option.bind_some, decide_eq_true_eq, compositorref09_Valid.j0, if_true]
  by_cases hs : SZ W ∧ SZ H
  · have hp := prod_small hs.1 hs.2
    rw [if_pos hs, hp.1]
    by_cases he : (l.length : Int) = W * H
    · have e : ((l.length : Int) != W * H) = false := by simpa using he
      rw [e, if_neg (by simp)]
      refine rvl W H l hl l.length 0 (by omega) k (by omega) _ ?_
      rw [decide_eq_true_eq, List.drop_zero]
      exact ⟨fun h => h.2.2.2, fun h => ⟨hs.1, hs.2, he, h⟩⟩
    · have e : ((l.length : Int) != W * H) = true := by simpa using he
      rw [e, if_pos rfl, decide_eq_false (fun h => he h.2.2.1)]
  · rw [if_neg hs, decide_eq_false (fun h => hs ⟨h.1, h.2.1⟩)]
theorem pne (a b : S43) : (!(a.f0 == b.f0) || (!(a.f1 == b.f1) || (!(a.f2 == b.f2) || (!(a.f3 == b.f3))))) = true ↔ a ≠ b := by
  obtain ⟨a0, a1, a2, a3⟩ := a
  obtain ⟨b0, b1, b2, b3⟩ := b
  simp only [Bool.or_eq_true, Bool.not_eq_true', beq_eq_false_iff_ne, ne_eq, S43.mk.injEq]
  omega
def EB (W H : Int) (l : List S43) (W' H' : Int) (l' : List S43) : Prop := W = W' ∧ H = H' ∧ l = l'
noncomputable instance (W H : Int) (l : List S43) (W' H' : Int) (l' : List S43) : Decidable (EB W H l W' H' l') := Classical.propDecidable _
theorem rel (W H : Int) (l : List S43) (W' H' : Int) (l' : List S43) (hl : l.length ≤ 100000) (he : l.length = l'.length) : ∀ d i, i + d = l.length → ∀ k, d + 1 ≤ k → ∀ b, (b = true ↔ l.drop i = l'.drop i) → compositorref09_Equal.l0 k i W H l W' H' l' = some b := by
  intro d
  induction d with
  | zero =>
    intro i hi k hk b hb
    obtain ⟨k, rfl⟩ : ∃ j, k = j + 1 := ⟨k - 1, by omega⟩
    rw [compositorref09_Equal.l0, if_neg (by omega)]
    have : b = true := hb.mpr (by rw [List.drop_eq_nil_of_le (by omega), List.drop_eq_nil_of_le (by omega)])
    rw [this]
  | succ d ih =>
    intro i hi k hk b hb
    obtain ⟨k, rfl⟩ : ∃ j, k = j + 1 := ⟨k - 1, by omega⟩
    have hlt : i < l.length := by omega
    have hlt' : i < l'.length := by omega
    rw [compositorref09_Equal.l0, if_pos (by omega), if_pos (by omega), if_pos (by omega), rd_at hlt, rd_at hlt', wnat (by omega)]
    rw [List.drop_eq_getElem_cons hlt, List.drop_eq_getElem_cons hlt'] at hb
    by_cases hp : l[i] = l'[i]
    · rw [if_neg (fun h => (pne _ _).mp h hp)]
      exact ih (i + 1) (by omega) k (by omega) b (hb.trans (by rw [List.cons.injEq]; exact ⟨fun h => h.2, fun h => ⟨hp, h⟩⟩))
    · rw [if_pos ((pne _ _).mpr hp)]
      cases b with
      | false => rfl
      | true => exact absurd (List.cons.inj (hb.mp rfl)).1 hp
theorem small_eq (W H : Int) (l : List S43) : compositorlaw09_small.f W H l = some (decide ((l.length : Int) ≤ 400)) := rfl
theorem ext_getD {l m : List S43} (h : l.length = m.length) (he : ∀ i, i < l.length → l.getD i z43 = m.getD i z43) : l = m := by
  apply List.ext_getElem h
  intro i h1 h2
  have := he i h1
  rw [List.getD_eq_getElem?_getD, List.getD_eq_getElem?_getD, List.getElem?_eq_getElem h1, List.getElem?_eq_getElem h2] at this
  exact this
theorem over_getD {l s : List S43} {lo : Nat} (h : lo + s.length ≤ l.length) (i : Nat) : (over l lo s).getD i z43 = if lo ≤ i ∧ i < lo + s.length then s.getD (i - lo) z43 else l.getD i z43 := by
  unfold over
  simp only [List.getD_eq_getElem?_getD]
  by_cases h1 : i < lo
  · rw [if_neg (by omega), List.append_assoc, List.getElem?_append_left (by rw [List.length_take]; omega), List.getElem?_take, if_pos h1]
  · rw [List.append_assoc, List.getElem?_append_right (by rw [List.length_take]; omega)]
    have e : (List.take lo l).length = lo := by rw [List.length_take]; omega
    rw [e]
    by_cases h2 : i < lo + s.length
    · rw [if_pos ⟨by omega, h2⟩, List.getElem?_append_left (by omega)]
    · rw [if_neg (by omega), List.getElem?_append_right (by omega), List.getElem?_drop]
      congr 2
      omega
theorem zipWith_getD (g : S43 → S43 → S43) (a b : List S43) {j : Nat} (ha : j < a.length) (hb : j < b.length) : (List.zipWith g a b).getD j z43 = g (a.getD j z43) (b.getD j z43) := by
  simp [List.getD_eq_getElem?_getD, List.getElem?_zipWith, List.getElem?_eq_getElem ha, List.getElem?_eq_getElem hb]
theorem mid_getD (l : List S43) (lo n j : Nat) (h : j < n) : ((l.drop lo).take n).getD j z43 = l.getD (lo + j) z43 := by
  simp only [List.getD_eq_getElem?_getD, List.getElem?_take, if_pos h, List.getElem?_drop]
theorem in_row {W r c t fr n : Nat} (hc : c < W) (hfr : fr + n ≤ W) : (t * W + fr ≤ r * W + c ∧ r * W + c < t * W + fr + n) ↔ (r = t ∧ fr ≤ c ∧ c < fr + n) := by
  rcases Nat.lt_trichotomy r t with h | h | h
  · have m : (r + 1) * W ≤ t * W := Nat.mul_le_mul_right W h
    rw [Nat.succ_mul] at m
    generalize r * W = p at *
    generalize t * W = q at *
    omega
  · subst h
    generalize r * W = p at *
    omega
  · have m : (t + 1) * W ≤ r * W := Nat.mul_le_mul_right W h
    rw [Nat.succ_mul] at m
    generalize r * W = p at *
    generalize t * W = q at *
    omega
theorem rows_getD (g : S43 → S43 → S43) (q : List S43 → List S43 → List S43) (hq : ∀ d s, s.length = d.length → q d s = List.zipWith g d s) (s : List S43) (W SW t0 fr v0 u0 n H : Nat) (l : List S43) (hl : l.length = H * W) (hfr : fr + n ≤ W) :
    ∀ k, t0 + k ≤ H → (∀ j, j < k → (v0 + j) * SW + u0 + n ≤ s.length) → (buffer_combine.rows q s W SW t0 fr v0 u0 n k l).length = l.length ∧
      ∀ r c, r < H → c < W → (buffer_combine.rows q s W SW t0 fr v0 u0 n k l).getD (r * W + c) z43 = if (t0 ≤ r ∧ r < t0 + k) ∧ (fr ≤ c ∧ c < fr + n) then g (l.getD (r * W + c) z43) (s.getD ((v0 + (r - t0)) * SW + u0 + (c - fr)) z43) else l.getD (r * W + c) z43 := by
  intro k
  induction k with
  | zero =>
    intro _ _
    refine ⟨rfl, fun r c hr hc => ?_⟩
    rw [if_neg (by omega)]
    rfl
  | succ k ih =>
    intro hk hs
    obtain ⟨ih1, ih2⟩ := ih (by omega) (fun j hj => hs j (by omega))
    have hsk := hs k (by omega)
    have hlo : (t0 + k) * W + fr + n ≤ l.length := by
      have m : (t0 + k + 1) * W ≤ H * W := Nat.mul_le_mul_right W (by omega)
      rw [Nat.succ_mul] at m
      rw [hl]
      generalize (t0 + k) * W = p at *
      generalize H * W = z at *
      omega
    rw [buffer_combine.rows]
    generalize hL : buffer_combine.rows q s W SW t0 fr v0 u0 n k l = L at *
    have ha : ((L.drop ((t0 + k) * W + fr)).take n).length = n := by rw [List.length_take, List.length_drop]; omega
    have hb : ((s.drop ((v0 + k) * SW + u0)).take n).length = n := by rw [List.length_take, List.length_drop]; omega
    rw [hq _ _ (by rw [ha, hb])]
    have hz : (List.zipWith g ((L.drop ((t0 + k) * W + fr)).take n) ((s.drop ((v0 + k) * SW + u0)).take n)).length = n := by rw [List.length_zipWith, ha, hb, Nat.min_self]
    refine ⟨by rw [over_length _ _ _ (by rw [hz]; omega)]; exact ih1, fun r c hr hc => ?_⟩
    rw [over_getD (by rw [hz]; omega), hz]
    by_cases h1 : r = t0 + k ∧ fr ≤ c ∧ c < fr + n
    · obtain ⟨rfl, h2, h3⟩ := h1
      rw [if_pos ((in_row hc hfr).mpr ⟨rfl, h2, h3⟩), if_pos (by omega)]
      have e : (t0 + k) * W + c - ((t0 + k) * W + fr) = c - fr := by omega
      rw [e, zipWith_getD g _ _ (by rw [ha]; omega) (by rw [hb]; omega), mid_getD _ _ _ _ (by omega), mid_getD _ _ _ _ (by omega)]
      have e2 : (t0 + k) * W + fr + (c - fr) = (t0 + k) * W + c := by omega
      rw [e2, ih2 (t0 + k) c hr hc, if_neg (by omega), show t0 + k - t0 = k by omega]
    · rw [if_neg (fun h => h1 ((in_row hc hfr).mp h)), ih2 r c hr hc]
      by_cases h2 : (t0 ≤ r ∧ r < t0 + k) ∧ (fr ≤ c ∧ c < fr + n)
      · rw [if_pos h2, if_pos (by omega)]
      · rw [if_neg h2, if_neg (by omega)]
noncomputable def PX (g : S43 → S43 → S43) (W : Nat) (l : List S43) (SW SH : Nat) (s : List S43) (x y : Int) (r c : Nat) : S43 :=
  if (x ≤ c ∧ (c : Int) < x + SW) ∧ (y ≤ r ∧ (r : Int) < y + SH) then g (l.getD (r * W + c) z43) (s.getD (((r : Int) - y).toNat * SW + ((c : Int) - x).toNat) z43) else l.getD (r * W + c) z43
noncomputable def PUT (g : S43 → S43 → S43) (W H : Nat) (l : List S43) (SW SH : Nat) (s : List S43) (x y : Int) : List S43 := (List.range (H * W)).map fun i => PX g W l SW SH s x y (i / W) (i % W)
theorem PUT_len (g : S43 → S43 → S43) (W H : Nat) (l : List S43) (SW SH : Nat) (s : List S43) (x y : Int) : (PUT g W H l SW SH s x y).length = H * W := by simp [PUT]
theorem divmod {W r c : Nat} (hc : c < W) : (r * W + c) / W = r ∧ (r * W + c) % W = c := by
  refine ⟨?_, ?_⟩
  · rw [Nat.add_comm, Nat.add_mul_div_right _ _ (by omega), Nat.div_eq_of_lt hc]; omega
  · rw [Nat.add_comm, Nat.add_mul_mod_self_right, Nat.mod_eq_of_lt hc]
theorem lt_rows {W H r c : Nat} (hr : r < H) (hc : c < W) : r * W + c < H * W := by
  have m : (r + 1) * W ≤ H * W := Nat.mul_le_mul_right W hr
  rw [Nat.succ_mul] at m
  omega
theorem PUT_getD (g : S43 → S43 → S43) (W H : Nat) (l : List S43) (SW SH : Nat) (s : List S43) (x y : Int) {r c : Nat} (hr : r < H) (hc : c < W) : (PUT g W H l SW SH s x y).getD (r * W + c) z43 = PX g W l SW SH s x y r c := by
  have h := lt_rows hr hc
  obtain ⟨e1, e2⟩ := divmod (r := r) hc
  simp [PUT, List.getD_eq_getElem?_getD, h, e1, e2]
theorem ext_rows {l m : List S43} {W H : Nat} (hW : 0 < W) (hl : l.length = H * W) (hm : m.length = H * W) (he : ∀ r c, r < H → c < W → l.getD (r * W + c) z43 = m.getD (r * W + c) z43) : l = m := by
  refine ext_getD (by omega) (fun i hi => ?_)
  have h1 : i / W < H := by rw [Nat.div_lt_iff_lt_mul hW]; omega
  have h2 : i % W < W := Nat.mod_lt _ hW
  have h3 : i / W * W + i % W = i := by rw [Nat.mul_comm]; exact Nat.div_add_mod i W
  have := he (i / W) (i % W) h1 h2
  rwa [h3] at this
theorem PUT_out (g : S43 → S43 → S43) (W H : Nat) (l : List S43) (SW SH : Nat) (s : List S43) (x y : Int) (hW : 0 < W) (hl : l.length = H * W) (h : buffer_combine.out W H SW SH x y) : PUT g W H l SW SH s x y = l := by
  refine ext_rows hW (PUT_len _ _ _ _ _ _ _ _ _) hl (fun r c hr hc => ?_)
  rw [PUT_getD _ _ _ _ _ _ _ _ _ hr hc, PX, if_neg]
  unfold buffer_combine.out at h
  omega
theorem all_eq (g : S43 → S43 → S43) (q : List S43 → List S43 → List S43) (hq : ∀ d s, s.length = d.length → q d s = List.zipWith g d s) (W H SW SH : Nat) (l s : List S43) (x y : Int) (hW : 0 < W) (hSW : 0 < SW) (hl : l.length = H * W) (hs : s.length = SH * SW) (h : ¬ buffer_combine.out W H SW SH x y) :
    buffer_combine.all q W H l SW SH s x y = PUT g W H l SW SH s x y := by
  unfold buffer_combine.out at h
  have X1 := mx_spec x 0
  have T1 := mx_spec y 0
  have M1 := mn_spec (x + (SW : Int)) W
  have B1 := mn_spec (y + (SH : Int)) H
  unfold buffer_combine.all
  generalize mx x 0 = X at *
  generalize mx y 0 = T at *
  generalize mn (x + (SW : Int)) W = M at *
  generalize mn (y + (SH : Int)) H = B at *
  simp only [Int.toNat_natCast]
  obtain ⟨t0, ht0⟩ : ∃ t0 : Nat, T.toNat = t0 := ⟨_, rfl⟩
  obtain ⟨fr, hfr⟩ : ∃ t0 : Nat, X.toNat = t0 := ⟨_, rfl⟩
  obtain ⟨v0, hv0⟩ : ∃ t0 : Nat, (T - y).toNat = t0 := ⟨_, rfl⟩
  obtain ⟨u0, hu0⟩ : ∃ t0 : Nat, (X - x).toNat = t0 := ⟨_, rfl⟩
  obtain ⟨n, hn⟩ : ∃ t0 : Nat, (M - X).toNat = t0 := ⟨_, rfl⟩
  obtain ⟨m, hm⟩ : ∃ t0 : Nat, (B - T).toNat = t0 := ⟨_, rfl⟩
  rw [ht0, hfr, hv0, hu0, hn, hm]
  have hbound : ∀ j, j < m → (v0 + j) * SW + u0 + n ≤ s.length := by
    intro j hj
    have h1 : v0 + j + 1 ≤ SH := by omega
    have m1 : (v0 + j + 1) * SW ≤ SH * SW := Nat.mul_le_mul_right SW h1
    rw [Nat.succ_mul] at m1
    have h2 : u0 + n ≤ SW := by omega
    rw [hs]
    generalize (v0 + j) * SW = p at *
    generalize SH * SW = z at *
    omega
  obtain ⟨L1, L2⟩ := rows_getD g q hq s W SW t0 fr v0 u0 n H l hl (by omega) m (by omega) hbound
  refine ext_rows hW (by rw [L1, hl]) (PUT_len _ _ _ _ _ _ _ _ _) (fun r c hr hc => ?_)
  rw [L2 r c hr hc, PUT_getD _ _ _ _ _ _ _ _ _ hr hc, PX]
  by_cases h1 : (t0 ≤ r ∧ r < t0 + m) ∧ (fr ≤ c ∧ c < fr + n)
  · rw [if_pos h1, if_pos (by omega)]
    have e1 : v0 + (r - t0) = ((r : Int) - y).toNat := by omega
    have e2 : u0 + (c - fr) = ((c : Int) - x).toNat := by omega
    rw [e1, Nat.add_assoc, e2]
  · rw [if_neg h1, if_neg (by omega)]
theorem VBn {W H : Int} {a : List S43} (h : VB W H a) : ∃ w n : Nat, W = w ∧ H = n ∧ w ≤ 256 ∧ n ≤ 256 ∧ 0 < w ∧ 0 < n ∧ a.length = n * w := by
  obtain ⟨h1, h2, h3, _⟩ := h
  obtain ⟨w, rfl⟩ : ∃ w : Nat, W = w := ⟨W.toNat, by omega⟩
  obtain ⟨n, rfl⟩ : ∃ n : Nat, H = n := ⟨H.toNat, by omega⟩
  refine ⟨w, n, rfl, rfl, by omega, by omega, by omega, by omega, ?_⟩
  rw [← Int.natCast_mul] at h3
  rw [Nat.mul_comm]
  exact Int.ofNat.inj h3
noncomputable def CM (g : S43 → S43 → S43) (W H : Int) (l : List S43) (SW SH : Int) (s : List S43) (x y : Int) : Int × Int × List S43 × Int := if VB W H l ∧ VB SW SH s then (W, H, PUT g W.toNat H.toNat l SW.toNat SH.toNat s x y, 0) else (0, 0, [], 15)
theorem combine_eq (g : S43 → S43 → S43) (q : List S43 → List S43 → List S43) (hq : ∀ d s, s.length = d.length → q d s = List.zipWith g d s) (W H : Int) (l : List S43) (SW SH : Int) (s : List S43) (x y : Int) : buffer_combine.g q W H l SW SH s x y = some (CM g W H l SW SH s x y) := by
  unfold buffer_combine.g
  rw [bvalid_eq, bvalid_eq, Option.bind_some, Option.bind_some]
  simp only [decide_eq_true_eq, CM]
  by_cases h1 : VB W H l
  · rw [if_pos h1]
    by_cases h2 : VB SW SH s
    · rw [if_pos h2, if_pos (show VB W H l ∧ VB SW SH s from ⟨h1, h2⟩)]
      obtain ⟨w, n, rfl, rfl, _, _, a1, a2, a3⟩ := VBn h1
      obtain ⟨w', n', rfl, rfl, _, _, b1, b2, b3⟩ := VBn h2
      simp only [Int.toNat_natCast]
      by_cases h3 : buffer_combine.out w n w' n' x y
      · rw [if_pos h3, PUT_out g w n l w' n' s x y a1 a3 h3]
      · rw [if_neg h3, all_eq g q hq w n w' n' l s x y a1 b1 a3 b3 h3]
    · rw [if_neg h2, if_neg (show ¬ (VB W H l ∧ VB SW SH s) from fun h => h2 h.2)]
  · rw [if_neg h1, if_neg (show ¬ (VB W H l ∧ VB SW SH s) from fun h => h1 h.1)]
theorem zipWith_snd (d s : List S43) (h : s.length = d.length) : s = List.zipWith (fun _ s => s) d s := by
  apply List.ext_getElem
  · rw [List.length_zipWith, h, Nat.min_self]
  · intro i h1 h2
    simp
theorem paste_eq (W H : Int) (l : List S43) (SW SH : Int) (s : List S43) (x y : Int) : buffer_Paste.f W H l SW SH s x y = some (CM (fun _ s => s) W H l SW SH s x y) :=
  combine_eq (fun _ s => s) (fun _ s => s) (fun d s h => zipWith_snd d s h) W H l SW SH s x y
theorem pidx {W H r c : Nat} (hW : W ≤ 256) (hH : H ≤ 256) (hr : r < H) (hc : c < W) : Aside0 (wrap64 (wrap64 ((r : Int) * (W : Int)) + (c : Int)) = ((r * W + c : Nat) : Int)) := by
  have h := lt_rows hr hc
  have m2 : H * W ≤ 256 * 256 := Nat.mul_le_mul hH hW
  rw [← Int.natCast_mul]
  generalize r * W = q at *
  generalize H * W = z at *
  refine ⟨?_⟩
  rw [w64 (x := (q : Int)) (by omega) (by omega), w64 (by omega) (by omega)]
  omega
theorem rdT (l : List S43) (i : Nat) : rd_T43 l (i : Int) = l.getD i z43 := by
  unfold rd_T43
  rw [Int.toNat_natCast]
theorem peq {a b : S43} (h : a = b) : ¬ (!(a.f0 == b.f0) || (!(a.f1 == b.f1) || (!(a.f2 == b.f2) || (!(a.f3 == b.f3))))) = true := fun hc => (pne a b).mp hc h
theorem wsub {a : Nat} {x : Int} (ha : a ≤ 256) (hx : -30 ≤ x ∧ x ≤ 30) : wrap64 ((a : Int) - x) = (a : Int) - x := by unfold wrap64; omega
theorem wself {a : Nat} (ha : a ≤ 256) : wrap64 (a : Int) = (a : Int) := by unfold wrap64; omega
theorem cov_l0 (w h sw sh : Nat) (l s : List S43) (x y : Int) (hx : -30 ≤ x ∧ x ≤ 30) (hy : -30 ≤ y ∧ y ≤ 30) (hw : 0 < w ∧ w ≤ 256) (hh : 0 < h ∧ h ≤ 256) (hsw : 0 < sw ∧ sw ≤ 256) (hsh : 0 < sh ∧ sh ≤ 256) (hl : l.length = h * w) (hs : s.length = sh * sw) (hsm : l.length ≤ 400) :
    ∀ d i, i + d = h * w → ∀ k, 2 * d + 300 ≤ k → compositorlaw09_BufferCovers.l0 k x y (i : Int) w h l sw sh s w h (PUT (fun _ s => s) w h l sw sh s x y) = some true := by
  have hP := PUT_len (fun _ s => s) w h l sw sh s x y
  intro d
  induction d with
  | zero =>
    intro i hi k hk
    obtain ⟨k, rfl⟩ : ∃ j, k = j + 1 := ⟨k - 1, by omega⟩
    rw [compositorlaw09_BufferCovers.l0, if_neg (by omega), example_holds k (by omega)]
    rfl
  | succ d ih =>
    intro i hi k hk
    obtain ⟨k, rfl⟩ : ∃ j, k = j + 1 + 1 := ⟨k - 2, by omega⟩
    have hil : i < l.length := by omega
    have ihn := ih (i + 1) (by omega) k (by omega)
    have hwn : Aside0 (wrap64 ((i : Int) + 1) = ((i + 1 : Nat) : Int)) := ⟨wnat (by omega)⟩
    obtain ⟨r, hr⟩ : ∃ r, r = i / w := ⟨_, rfl⟩
    obtain ⟨c, hc⟩ : ∃ c, c = i % w := ⟨_, rfl⟩
    have hcw : c < w := by rw [hc]; exact Nat.mod_lt _ hw.1
    have hrh : r < h := by rw [hr, Nat.div_lt_iff_lt_mul hw.1]; omega
    have hrc : r * w + c = i := by rw [hr, hc, Nat.mul_comm]; exact Nat.div_add_mod i w
    have e1 : Int.tmod (i : Int) (w : Int) = (c : Int) := by rw [hc]; rfl
    have e2 : Int.tdiv (i : Int) (w : Int) = (r : Int) := by rw [hr]; rfl
    clear hr hc
    have e3 : Aside0 (wrap64 ((c : Int) - x) = (c : Int) - x) := ⟨wsub (Nat.le_trans (Nat.le_of_lt hcw) hw.2) hx⟩
    have e4 : Aside0 (wrap64 ((r : Int)) = (r : Int)) := ⟨wself (Nat.le_trans (Nat.le_of_lt hrh) hh.2)⟩
    have e5 : Aside0 (wrap64 ((r : Int) - y) = (r : Int) - y) := ⟨wsub (Nat.le_trans (Nat.le_of_lt hrh) hh.2) hy⟩
    have hpx := PUT_getD (fun _ s => s) w h l sw sh s x y hrh hcw
    rw [hrc] at hpx
    have hiP : (i : Int) < ((PUT (fun _ s => s) w h l sw sh s x y).length : Int) := by omega
    have hi0 : (0 : Int) ≤ (i : Int) := by omega
    have hw0 : ¬ (w : Int) = 0 := by omega
    have hil' : (i : Int) < (l.length : Int) := by omega
    rw [compositorlaw09_BufferCovers.l0, if_pos hiP, if_neg hw0, if_pos hi0, if_pos hil', e1, e2, e3.out, e4.out, e5.out]
    clear e1 e2
    generalize PUT (fun _ s => s) w h l sw sh s x y = P at *
    have hout : ¬ ((x ≤ c ∧ (c : Int) < x + sw) ∧ (y ≤ r ∧ (r : Int) < y + sh)) → compositorlaw09_BufferCovers.j3 (k + 1) x y (i : Int) ((c : Int) - x) ((r : Int) - y) false w h l sw sh s w h P ((rd_T43 l i).f0) ((rd_T43 l i).f1) ((rd_T43 l i).f2) ((rd_T43 l i).f3) = some true := by
      intro hn
      rw [compositorlaw09_BufferCovers.j3, if_neg (by decide), if_pos hi0, if_pos hiP]
      rw [if_neg (peq (a := rd_T43 P i) (b := rd_T43 l i) (by rw [rdT, rdT, hpx, PX, if_neg hn, hrc])), hwn.out]
      exact ihn
    by_cases t1 : (c : Int) - x ≥ 0
    · rw [if_pos t1]
      by_cases t2 : (c : Int) - x < (sw : Int)
      · rw [if_pos t2]
        by_cases t3 : (r : Int) - y ≥ 0
        · rw [if_pos t3]
          by_cases t4 : (r : Int) - y < (sh : Int)
          · rw [decide_eq_true t4]
            obtain ⟨u, hu⟩ : ∃ u : Nat, (c : Int) - x = u := ⟨((c : Int) - x).toNat, by omega⟩
            obtain ⟨v, hv⟩ : ∃ u : Nat, (r : Int) - y = u := ⟨((r : Int) - y).toNat, by omega⟩
            have hin : (x ≤ c ∧ (c : Int) < x + sw) ∧ (y ≤ r ∧ (r : Int) < y + sh) := by omega
            have ep := pidx hsw.2 hsh.2 (r := v) (c := u) (by omega) (by omega)
            have el := lt_rows (r := v) (H := sh) (c := u) (W := sw) (by omega) (by omega)
            rw [← hs] at el
            rw [PX, if_pos hin, hu, hv, Int.toNat_natCast, Int.toNat_natCast] at hpx
            rw [hu, hv, compositorlaw09_BufferCovers.j3, if_pos rfl, ep.out, if_pos (Int.natCast_nonneg _), if_pos (Int.ofNat_lt.mpr el), if_pos hi0, if_pos hiP]
            rw [if_neg (peq (a := rd_T43 P i) (b := rd_T43 s ((v * sw + u : Nat) : Int)) (by rw [rdT, rdT, hpx])), hwn.out]
            exact ihn
          · rw [decide_eq_false t4]
            exact hout (by omega)
        · rw [if_neg t3]
          exact hout (by omega)
      · rw [if_neg t2]
        exact hout (by omega)
    · rw [if_neg t1]
      exact hout (by omega)
theorem covers (W H : Int) (l : List S43) (SW SH : Int) (s : List S43) (x y : Int) : compositorlaw09_BufferCovers.f 200010 W H l SW SH s x y = some true := by
  have ex : ∀ b : Bool, b = true → ∀ a1 a2 a3 a4 a5 a6 a7 a8, compositorlaw09_BufferCovers.j0 200010 a1 a2 b a3 a4 a5 a6 a7 a8 = some true := by
    intro b hb a1 a2 a3 a4 a5 a6 a7 a8
    rw [compositorlaw09_BufferCovers.j0, if_pos hb, example_holds 200009 (by omega)]
    rfl
  unfold compositorlaw09_BufferCovers.f
  rw [small_eq, small_eq, Option.bind_some, Option.bind_some]
  simp only [decide_eq_true_eq]
  by_cases h1 : (l.length : Int) ≤ 400
  · rw [if_pos h1]
    by_cases h2 : (s.length : Int) ≤ 400
    · rw [if_pos h2, rvalid_eq W H l (by omega) 200010 (by omega), Option.bind_some]
      by_cases h3 : VB W H l
      · rw [if_pos (decide_eq_true h3), rvalid_eq SW SH s (by omega) 200010 (by omega), Option.bind_some]
        by_cases h4 : VB SW SH s
        · rw [if_pos (decide_eq_true h4)]
          by_cases x1 : x < -30
          · rw [if_pos x1]; exact ex _ rfl _ _ _ _ _ _ _ _
          rw [if_neg x1]
          by_cases x2 : x > 30
          · rw [if_pos x2]; exact ex _ rfl _ _ _ _ _ _ _ _
          rw [if_neg x2]
          by_cases y1 : y < -30
          · rw [if_pos y1]; exact ex _ rfl _ _ _ _ _ _ _ _
          rw [if_neg y1]
          by_cases y2 : y > 30
          · rw [decide_eq_true y2]; exact ex _ rfl _ _ _ _ _ _ _ _
          rw [decide_eq_false y2, compositorlaw09_BufferCovers.j0, if_neg (by decide), paste_eq, Option.bind_some]
          have c1 : CM (fun _ s => s) W H l SW SH s x y = (W, H, PUT (fun _ s => s) W.toNat H.toNat l SW.toNat SH.toNat s x y, 0) := by
            unfold CM
            rw [if_pos ⟨h3, h4⟩]
          rw [c1]
          obtain ⟨w, n, rfl, rfl, aw, an, a1, a2, a3⟩ := VBn h3
          obtain ⟨w', n', rfl, rfl, bw, bn, b1, b2, b3⟩ := VBn h4
          simp only [Int.toNat_natCast, if_true, PUT_len]
          have hb : (((n * w : Nat) : Int) != (l.length : Int)) = false := by
            rw [a3]; exact bne_self_eq_false _
          rw [hb, compositorlaw09_BufferCovers.j1, if_neg (by decide)]
          exact cov_l0 w n w' n' l s x y (by omega) (by omega) ⟨a1, aw⟩ ⟨a2, an⟩ ⟨b1, bw⟩ ⟨b2, bn⟩ a3 b3 (by omega) (n * w) 0 (by omega) 200008 (by omega)
        · rw [if_neg (by rw [decide_eq_false h4]; decide)]
          exact ex _ rfl _ _ _ _ _ _ _ _
      · rw [if_neg (by rw [decide_eq_false h3]; decide)]
        exact ex _ rfl _ _ _ _ _ _ _ _
    · rw [if_neg h2]
      exact ex _ rfl _ _ _ _ _ _ _ _
  · rw [if_neg h1]
    exact ex _ rfl _ _ _ _ _ _ _ _
theorem BufferCovers (x0 : S27) (x1 : S27) (x2 : S41) (ok0 : ((Lit.int .i64 x0.f0).wf = true) ∧ ((Lit.int .i64 x0.f1).wf = true) ∧ (x0.f2.length * 4 ≤ 140737488351232 ∧ x0.f2.length ≤ 9223372036854775807 ∧ ∀ y25 ∈ x0.f2, ((Lit.int .u8 y25.f0).wf = true) ∧ ((Lit.int .u8 y25.f1).wf = true) ∧ ((Lit.int .u8 y25.f2).wf = true) ∧ ((Lit.int .u8 y25.f3).wf = true))) (ok1 : ((Lit.int .i64 x1.f0).wf = true) ∧ ((Lit.int .i64 x1.f1).wf = true) ∧ (x1.f2.length * 4 ≤ 140737488351232 ∧ x1.f2.length ≤ 9223372036854775807 ∧ ∀ y25 ∈ x1.f2, ((Lit.int .u8 y25.f0).wf = true) ∧ ((Lit.int .u8 y25.f1).wf = true) ∧ ((Lit.int .u8 y25.f2).wf = true) ∧ ((Lit.int .u8 y25.f3).wf = true))) (ok2 : ((Lit.int .i64 x2.f0).wf = true) ∧ ((Lit.int .i64 x2.f1).wf = true)) :
    ∃ k, compositorlaw09_BufferCovers.f k x0.f0 x0.f1 x0.f2 x1.f0 x1.f1 x1.f2 x2.f0 x2.f1 = some true := by
  exact ⟨200010, covers _ _ _ _ _ _ _ _⟩
end Go.Proofs.Ytmockeaiccpogaa.Pure
end
