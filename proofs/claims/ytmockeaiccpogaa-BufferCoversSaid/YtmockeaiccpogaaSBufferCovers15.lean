-- The texts behind this claim's law, put together by a program of this session (shake.py): what no text uses is left out. Its words are print.sh's.
import Derived.Test.YtmockeaiccpogaaSBufferCovers14
section
namespace Go.Proofs.Ytmockeaiccpogaa.All
open Go.RowKit Go.Proofs.YtmockeaiccpogaaW.PrintWords Go.Proofs.YtmockeaiccpogaaW.PrintLast Go.Proofs.YtmockeaiccpogaaW.PrintMore
attribute [local go_sem] max2_int min2_int max_two min_two max_three min_three max_four min_four
set_option linter.unusedVariables false
set_option linter.unusedSimpArgs false
def rect_Canonical.f (a0_0 : Int) (a0_1 : Int) (a0_2 : Int) (a0_3 : Int) : Option (Int × Int × Int × Int) := (rect_Empty.f a0_0 a0_1 a0_2 a0_3).bind fun t155 => (if t155 = true then (some (0, 0, 0, 0)) else (some (a0_0, a0_1, a0_2, a0_3)))
set_option maxHeartbeats 8000000 in
set_option maxRecDepth 100000 in
theorem rect_Canonical.calls (a0_0 : Int) (a0_1 : Int) (a0_2 : Int) (a0_3 : Int) (r1 : Int) (r2 : Int) (r3 : Int) (r4 : Int) (w : World) (h : rect_Canonical.f a0_0 a0_1 a0_2 a0_3 = some (r1, r2, r3, r4)) :
    Calls Try.prog 67 #[.agg #[.int .i64 a0_0, .int .i64 a0_1, .int .i64 a0_2, .int .i64 a0_3]] w fun e w' => e = .returned (.agg #[.int .i64 r1, .int .i64 r2, .int .i64 r3, .int .i64 r4]) ∧ Below w.heap.size w w' := by
  have hu47 := Try.underlying47
  have HB := Aside0.mk (Below.refl w.heap.size w)
  have H : ((rect_Empty.f a0_0 a0_1 a0_2 a0_3).bind fun t155 => (if t155 = true then (some (0, 0, 0, 0)) else (some (a0_0, a0_1, a0_2, a0_3)))) = some (r1, r2, r3, r4) := h
  clear h
  replace H := Option.bind_eq_some_iff.mp H
  obtain ⟨t155, A20, H⟩ := H
  replace H : (if t155 = true then (some (0, 0, 0, 0)) else (some (a0_0, a0_1, a0_2, a0_3))) = some (r1, r2, r3, r4) := H
  have A2 := Aside0.mk A20
  clear A20
  by_cases c3 : t155 = true
  · subst c3
    have H1 : (some (0, 0, 0, 0)) = some (r1, r2, r3, r4) := by rw [if_pos rfl] at H; exact H
    clear H
    have H := H1
    clear H1
    simp only [Option.some.injEq, Prod.mk.injEq] at H
    obtain ⟨rfl, rfl, rfl, rfl⟩ := H
    go_enter Try.func67, Try.ntmps67
    go_wp2_with (first | ((with_reducible refine gate_dst (N := 1) rfl ?_); refine box_event ?hg (N := 1) ?hd (cs := #[.int .i64 a0_0, .int .i64 a0_1, .int .i64 a0_2, .int .i64 a0_3]) (t := 47) ?hr ?_; (case hd => rfl); (case hg => rfl); (case hr => first | (go_simp; done) | (go_simp; rfl)); intro gb153 hg w4 hbox hb; have n0_ := Aside0.mk (below_step (by repeat (first | (with_reducible first | exact HB.out | apply below_alloc | apply pw_below_drewN | apply below_drew1) | exact HB.out)) hb); have n1_ := Aside0.mk (hbox); have n2_ := Aside0.mk ((by rw [hg]; exact (below_size (by repeat (first | (with_reducible first | exact HB.out | apply below_alloc | apply pw_below_drewN | apply below_drew1) | exact HB.out))) : w.heap.size ≤ gb153)); have n3_ := Aside0.mk ((by rw [hg]; exact (below_size (by repeat (first | (with_reducible first | exact HB.out | apply below_alloc | apply pw_below_drewN | apply below_drew1) | exact HB.out))) : w.heap.size ≤ gb153)); clear HB; have HB := n0_; have BK153 := n1_; have GW153 := n2_; have GE153 := n3_; clear n0_ n1_ n2_ n3_; clear hb hbox hg) | ((with_reducible refine gate_dst (N := 2) rfl ?_); refine box_event ?hg (N := 2) ?hd (cs := #[.int .i64 0, .int .i64 0, .int .i64 0, .int .i64 0]) (t := 47) ?hr ?_; (case hd => rfl); (case hg => rfl); (case hr => first | (go_simp; done) | (go_simp; rfl)); intro gb154 hg w5 hbox hb; have n0_ := Aside0.mk (blk_below (g := gb153) (o := .cells #[.int .i64 a0_0, .int .i64 a0_1, .int .i64 a0_2, .int .i64 a0_3] 47 (0, 0)) (by (with_reducible repeat (first | refine blk_drewN ?_ _ | refine blk_drew ?_ | refine blk_alloc ?_ _)); exact BK153.out) hb); have n1_ := Aside0.mk (below_step (by repeat (first | (with_reducible first | exact HB.out | apply below_alloc | apply pw_below_drewN | apply below_drew1 | refine below_set ?_ GE153.out) | exact HB.out)) hb); have n2_ := Aside0.mk (hbox); have n3_ := Aside0.mk ((by rw [hg]; exact (below_size (by repeat (first | (with_reducible first | exact HB.out | apply below_alloc | apply pw_below_drewN | apply below_drew1 | refine below_set ?_ GE153.out) | exact HB.out))) : w.heap.size ≤ gb154)); have n4_ := Aside0.mk ((by rw [hg]; exact (below_size (by repeat (first | (with_reducible first | exact HB.out | apply below_alloc | apply pw_below_drewN | apply below_drew1 | refine below_set ?_ GE153.out) | exact HB.out))) : w.heap.size ≤ gb154)); have n5_ := Aside0.mk ((by rw [hg]; exact Nat.ne_of_lt (blk_lt (g := gb153) (o := .cells #[.int .i64 a0_0, .int .i64 a0_1, .int .i64 a0_2, .int .i64 a0_3] 47 (0, 0)) (by (with_reducible repeat (first | refine blk_drewN ?_ _ | refine blk_drew ?_ | refine blk_alloc ?_ _)); exact BK153.out)) : gb153 ≠ gb154)); have n6_ := Aside0.mk ((by rw [hg]; exact Nat.ne_of_gt (blk_lt (g := gb153) (o := .cells #[.int .i64 a0_0, .int .i64 a0_1, .int .i64 a0_2, .int .i64 a0_3] 47 (0, 0)) (by (with_reducible repeat (first | refine blk_drewN ?_ _ | refine blk_drew ?_ | refine blk_alloc ?_ _)); exact BK153.out)) : gb154 ≠ gb153)); clear BK153; clear HB; have BK153 := n0_; have HB := n1_; have BK154 := n2_; have GW154 := n3_; have GE154 := n4_; have NB153_154 := n5_; have NB154_153 := n6_; clear n0_ n1_ n2_ n3_ n4_ n5_ n6_; clear hb hbox hg; have hnb6 := NB153_154.out; have hnc6 := NB154_153.out; have hcz7_0 : w5.cell? ⟨gb153, 0, none⟩ = some (.int .i64 a0_0) := (blk_cell BK153.out 0).trans rfl; have hcz7_1 : w5.cell? ⟨gb153, 1, none⟩ = some (.int .i64 a0_1) := (blk_cell BK153.out 1).trans rfl; have hcz7_2 : w5.cell? ⟨gb153, 2, none⟩ = some (.int .i64 a0_2) := (blk_cell BK153.out 2).trans rfl; have hcz7_3 : w5.cell? ⟨gb153, 3, none⟩ = some (.int .i64 a0_3) := (blk_cell BK153.out 3).trans rfl; have hfz7_0 := blk_frozen BK153.out 0; have hfz7_1 := blk_frozen BK153.out 1; have hfz7_2 := blk_frozen BK153.out 2; have hfz7_3 := blk_frozen BK153.out 3) | ((with_reducible refine gate_callee (f := 55) rfl ?_); refine goesL_ (some 4) rfl rfl Try.func55 (by kernel_rfl) rfl #[.agg #[.int .i64 a0_0, .int .i64 a0_1, .int .i64 a0_2, .int .i64 a0_3]] rfl (by (try simp only [List.map_toArray, List.map_cons, List.map_nil]); first | done | rfl | (simp only [List.length_drop, List.length_take]; rfl)) ?_; (with_reducible refine (rect_Empty.calls a0_0 a0_1 a0_2 a0_3 true _ A2.out).mono ?_); rintro e w8 ⟨rfl, hb⟩; refine ⟨_, rfl, ?_⟩; have n0_ := Aside0.mk (blk_below (g := gb153) (o := .cells #[.int .i64 a0_0, .int .i64 a0_1, .int .i64 a0_2, .int .i64 a0_3] 47 (0, 0)) (by (with_reducible repeat (first | refine blk_drewN ?_ _ | refine blk_drew ?_ | refine blk_alloc ?_ _)); exact BK153.out) hb); have n1_ := Aside0.mk (blk_below (g := gb154) (o := .cells #[.int .i64 0, .int .i64 0, .int .i64 0, .int .i64 0] 47 (0, 0)) (by (with_reducible repeat (first | refine blk_drewN ?_ _ | refine blk_drew ?_ | refine blk_alloc ?_ _)); exact BK154.out) hb); have n2_ := Aside0.mk (below_step (by repeat (first | (with_reducible first | exact HB.out | apply below_alloc | apply pw_below_drewN | apply below_drew1 | refine below_set ?_ GE153.out | refine below_set ?_ GE154.out) | exact HB.out)) hb); clear BK153; clear BK154; clear HB; have BK153 := n0_; have BK154 := n1_; have HB := n2_; clear n0_ n1_ n2_; (try clear hb); (try clear hb2); (try clear hk); (try clear hi); have hcz9_0 : w8.cell? ⟨gb154, 0, none⟩ = some (.int .i64 0) := (blk_cell BK154.out 0).trans rfl; have hcz9_1 : w8.cell? ⟨gb154, 1, none⟩ = some (.int .i64 0) := (blk_cell BK154.out 1).trans rfl; have hcz9_2 : w8.cell? ⟨gb154, 2, none⟩ = some (.int .i64 0) := (blk_cell BK154.out 2).trans rfl; have hcz9_3 : w8.cell? ⟨gb154, 3, none⟩ = some (.int .i64 0) := (blk_cell BK154.out 3).trans rfl; have hfz9_0 := blk_frozen BK154.out 0; have hfz9_1 := blk_frozen BK154.out 1; have hfz9_2 := blk_frozen BK154.out 2; have hfz9_3 := blk_frozen BK154.out 3))
    refine bodyPost_ret (results_cell_row rfl _ _ gb154 47 #[.int .i64 0, .int .i64 0, .int .i64 0, .int .i64 0] (0, 0) _ rfl (by (with_reducible repeat (first | refine blk_drewN ?_ _ | refine blk_drew ?_ | refine blk_alloc ?_ _)); refine blk_put (cs := #[.int .i64 0, .int .i64 0, .int .i64 0, .int .i64 0]) ?_ 3 _ rfl; (with_reducible repeat (first | refine blk_drewN ?_ _ | refine blk_drew ?_ | refine blk_alloc ?_ _)); refine blk_put (cs := #[.int .i64 0, .int .i64 0, .int .i64 0, .int .i64 0]) ?_ 2 _ rfl; (with_reducible repeat (first | refine blk_drewN ?_ _ | refine blk_drew ?_ | refine blk_alloc ?_ _)); refine blk_put (cs := #[.int .i64 0, .int .i64 0, .int .i64 0, .int .i64 0]) ?_ 1 _ rfl; (with_reducible repeat (first | refine blk_drewN ?_ _ | refine blk_drew ?_ | refine blk_alloc ?_ _)); refine blk_put (cs := #[.int .i64 0, .int .i64 0, .int .i64 0, .int .i64 0]) ?_ 0 _ rfl; (with_reducible repeat (first | refine blk_drewN ?_ _ | refine blk_drew ?_ | refine blk_alloc ?_ _)); exact BK154.out) Try.underlying47 rfl (by kernel_rfl)) rfl ?_
    exact ⟨by first | rfl | (simp [errW_none, errW_some] <;> rfl) | (simp [*, errW_none, errW_some] <;> rfl), by repeat (first | (with_reducible first | exact HB.out | apply below_alloc | apply pw_below_drewN | apply below_drew1 | refine below_set ?_ GE153.out | refine below_set ?_ GE154.out) | exact HB.out)⟩
  · replace c3 := Bool.eq_false_iff.mpr c3
    subst c3
    have H1 : (some (a0_0, a0_1, a0_2, a0_3)) = some (r1, r2, r3, r4) := by rw [if_neg (show ¬ (false = true) by decide)] at H; exact H
    clear H
    have H := H1
    clear H1
    simp only [Option.some.injEq, Prod.mk.injEq] at H
    obtain ⟨rfl, rfl, rfl, rfl⟩ := H
    go_enter Try.func67, Try.ntmps67
    go_wp2_with (first | ((with_reducible refine gate_dst (N := 1) rfl ?_); refine box_event ?hg (N := 1) ?hd (cs := #[.int .i64 a0_0, .int .i64 a0_1, .int .i64 a0_2, .int .i64 a0_3]) (t := 47) ?hr ?_; (case hd => rfl); (case hg => rfl); (case hr => first | (go_simp; done) | (go_simp; rfl)); intro gb153 hg w10 hbox hb; have n0_ := Aside0.mk (below_step (by repeat (first | (with_reducible first | exact HB.out | apply below_alloc | apply pw_below_drewN | apply below_drew1) | exact HB.out)) hb); have n1_ := Aside0.mk (hbox); have n2_ := Aside0.mk ((by rw [hg]; exact (below_size (by repeat (first | (with_reducible first | exact HB.out | apply below_alloc | apply pw_below_drewN | apply below_drew1) | exact HB.out))) : w.heap.size ≤ gb153)); have n3_ := Aside0.mk ((by rw [hg]; exact (below_size (by repeat (first | (with_reducible first | exact HB.out | apply below_alloc | apply pw_below_drewN | apply below_drew1) | exact HB.out))) : w.heap.size ≤ gb153)); clear HB; have HB := n0_; have BK153 := n1_; have GW153 := n2_; have GE153 := n3_; clear n0_ n1_ n2_ n3_; clear hb hbox hg) | ((with_reducible refine gate_dst (N := 2) rfl ?_); refine box_event ?hg (N := 2) ?hd (cs := #[.int .i64 0, .int .i64 0, .int .i64 0, .int .i64 0]) (t := 47) ?hr ?_; (case hd => rfl); (case hg => rfl); (case hr => first | (go_simp; done) | (go_simp; rfl)); intro gb154 hg w11 hbox hb; have n0_ := Aside0.mk (blk_below (g := gb153) (o := .cells #[.int .i64 a0_0, .int .i64 a0_1, .int .i64 a0_2, .int .i64 a0_3] 47 (0, 0)) (by (with_reducible repeat (first | refine blk_drewN ?_ _ | refine blk_drew ?_ | refine blk_alloc ?_ _)); exact BK153.out) hb); have n1_ := Aside0.mk (below_step (by repeat (first | (with_reducible first | exact HB.out | apply below_alloc | apply pw_below_drewN | apply below_drew1 | refine below_set ?_ GE153.out) | exact HB.out)) hb); have n2_ := Aside0.mk (hbox); have n3_ := Aside0.mk ((by rw [hg]; exact (below_size (by repeat (first | (with_reducible first | exact HB.out | apply below_alloc | apply pw_below_drewN | apply below_drew1 | refine below_set ?_ GE153.out) | exact HB.out))) : w.heap.size ≤ gb154)); have n4_ := Aside0.mk ((by rw [hg]; exact (below_size (by repeat (first | (with_reducible first | exact HB.out | apply below_alloc | apply pw_below_drewN | apply below_drew1 | refine below_set ?_ GE153.out) | exact HB.out))) : w.heap.size ≤ gb154)); have n5_ := Aside0.mk ((by rw [hg]; exact Nat.ne_of_lt (blk_lt (g := gb153) (o := .cells #[.int .i64 a0_0, .int .i64 a0_1, .int .i64 a0_2, .int .i64 a0_3] 47 (0, 0)) (by (with_reducible repeat (first | refine blk_drewN ?_ _ | refine blk_drew ?_ | refine blk_alloc ?_ _)); exact BK153.out)) : gb153 ≠ gb154)); have n6_ := Aside0.mk ((by rw [hg]; exact Nat.ne_of_gt (blk_lt (g := gb153) (o := .cells #[.int .i64 a0_0, .int .i64 a0_1, .int .i64 a0_2, .int .i64 a0_3] 47 (0, 0)) (by (with_reducible repeat (first | refine blk_drewN ?_ _ | refine blk_drew ?_ | refine blk_alloc ?_ _)); exact BK153.out)) : gb154 ≠ gb153)); clear BK153; clear HB; have BK153 := n0_; have HB := n1_; have BK154 := n2_; have GW154 := n3_; have GE154 := n4_; have NB153_154 := n5_; have NB154_153 := n6_; clear n0_ n1_ n2_ n3_ n4_ n5_ n6_; clear hb hbox hg; have hnb12 := NB153_154.out; have hnc12 := NB154_153.out; have hcz13_0 : w11.cell? ⟨gb153, 0, none⟩ = some (.int .i64 a0_0) := (blk_cell BK153.out 0).trans rfl; have hcz13_1 : w11.cell? ⟨gb153, 1, none⟩ = some (.int .i64 a0_1) := (blk_cell BK153.out 1).trans rfl; have hcz13_2 : w11.cell? ⟨gb153, 2, none⟩ = some (.int .i64 a0_2) := (blk_cell BK153.out 2).trans rfl; have hcz13_3 : w11.cell? ⟨gb153, 3, none⟩ = some (.int .i64 a0_3) := (blk_cell BK153.out 3).trans rfl; have hfz13_0 := blk_frozen BK153.out 0; have hfz13_1 := blk_frozen BK153.out 1; have hfz13_2 := blk_frozen BK153.out 2; have hfz13_3 := blk_frozen BK153.out 3) | ((with_reducible refine gate_callee (f := 55) rfl ?_); refine goesL_ (some 4) rfl rfl Try.func55 (by kernel_rfl) rfl #[.agg #[.int .i64 a0_0, .int .i64 a0_1, .int .i64 a0_2, .int .i64 a0_3]] rfl (by (try simp only [List.map_toArray, List.map_cons, List.map_nil]); first | done | rfl | (simp only [List.length_drop, List.length_take]; rfl)) ?_; (with_reducible refine (rect_Empty.calls a0_0 a0_1 a0_2 a0_3 false _ A2.out).mono ?_); rintro e w14 ⟨rfl, hb⟩; refine ⟨_, rfl, ?_⟩; have n0_ := Aside0.mk (blk_below (g := gb153) (o := .cells #[.int .i64 a0_0, .int .i64 a0_1, .int .i64 a0_2, .int .i64 a0_3] 47 (0, 0)) (by (with_reducible repeat (first | refine blk_drewN ?_ _ | refine blk_drew ?_ | refine blk_alloc ?_ _)); exact BK153.out) hb); have n1_ := Aside0.mk (blk_below (g := gb154) (o := .cells #[.int .i64 0, .int .i64 0, .int .i64 0, .int .i64 0] 47 (0, 0)) (by (with_reducible repeat (first | refine blk_drewN ?_ _ | refine blk_drew ?_ | refine blk_alloc ?_ _)); exact BK154.out) hb); have n2_ := Aside0.mk (below_step (by repeat (first | (with_reducible first | exact HB.out | apply below_alloc | apply pw_below_drewN | apply below_drew1 | refine below_set ?_ GE153.out | refine below_set ?_ GE154.out) | exact HB.out)) hb); clear BK153; clear BK154; clear HB; have BK153 := n0_; have BK154 := n1_; have HB := n2_; clear n0_ n1_ n2_; (try clear hb); (try clear hb2); (try clear hk); (try clear hi); have hcz15_0 : w14.cell? ⟨gb153, 0, none⟩ = some (.int .i64 a0_0) := (blk_cell BK153.out 0).trans rfl; have hcz15_1 : w14.cell? ⟨gb153, 1, none⟩ = some (.int .i64 a0_1) := (blk_cell BK153.out 1).trans rfl; have hcz15_2 : w14.cell? ⟨gb153, 2, none⟩ = some (.int .i64 a0_2) := (blk_cell BK153.out 2).trans rfl; have hcz15_3 : w14.cell? ⟨gb153, 3, none⟩ = some (.int .i64 a0_3) := (blk_cell BK153.out 3).trans rfl; have hfz15_0 := blk_frozen BK153.out 0; have hfz15_1 := blk_frozen BK153.out 1; have hfz15_2 := blk_frozen BK153.out 2; have hfz15_3 := blk_frozen BK153.out 3; have hcz16_0 : w14.cell? ⟨gb154, 0, none⟩ = some (.int .i64 0) := (blk_cell BK154.out 0).trans rfl; have hcz16_1 : w14.cell? ⟨gb154, 1, none⟩ = some (.int .i64 0) := (blk_cell BK154.out 1).trans rfl; have hcz16_2 : w14.cell? ⟨gb154, 2, none⟩ = some (.int .i64 0) := (blk_cell BK154.out 2).trans rfl; have hcz16_3 : w14.cell? ⟨gb154, 3, none⟩ = some (.int .i64 0) := (blk_cell BK154.out 3).trans rfl; have hfz16_0 := blk_frozen BK154.out 0; have hfz16_1 := blk_frozen BK154.out 1; have hfz16_2 := blk_frozen BK154.out 2; have hfz16_3 := blk_frozen BK154.out 3))
    refine bodyPost_ret (results_cell_row rfl _ _ gb154 47 #[.int .i64 a0_0, .int .i64 a0_1, .int .i64 a0_2, .int .i64 a0_3] (0, 0) _ rfl (by (with_reducible repeat (first | refine blk_drewN ?_ _ | refine blk_drew ?_ | refine blk_alloc ?_ _)); refine blk_put (cs := #[.int .i64 a0_0, .int .i64 a0_1, .int .i64 a0_2, .int .i64 0]) ?_ 3 _ rfl; (with_reducible repeat (first | refine blk_drewN ?_ _ | refine blk_drew ?_ | refine blk_alloc ?_ _)); refine blk_put (cs := #[.int .i64 a0_0, .int .i64 a0_1, .int .i64 0, .int .i64 0]) ?_ 2 _ rfl; (with_reducible repeat (first | refine blk_drewN ?_ _ | refine blk_drew ?_ | refine blk_alloc ?_ _)); refine blk_put (cs := #[.int .i64 a0_0, .int .i64 0, .int .i64 0, .int .i64 0]) ?_ 1 _ rfl; (with_reducible repeat (first | refine blk_drewN ?_ _ | refine blk_drew ?_ | refine blk_alloc ?_ _)); refine blk_put (cs := #[.int .i64 0, .int .i64 0, .int .i64 0, .int .i64 0]) ?_ 0 _ rfl; (with_reducible repeat (first | refine blk_drewN ?_ _ | refine blk_drew ?_ | refine blk_alloc ?_ _)); exact BK154.out) Try.underlying47 rfl (by kernel_rfl)) rfl ?_
    exact ⟨by first | rfl | (simp [errW_none, errW_some] <;> rfl) | (simp [*, errW_none, errW_some] <;> rfl), by repeat (first | (with_reducible first | exact HB.out | apply below_alloc | apply pw_below_drewN | apply below_drew1 | refine below_set ?_ GE153.out | refine below_set ?_ GE154.out) | exact HB.out)⟩
def rect_Intersect.f (a0_0 : Int) (a0_1 : Int) (a0_2 : Int) (a0_3 : Int) (a1_0 : Int) (a1_1 : Int) (a1_2 : Int) (a1_3 : Int) : Option (Int × Int × Int × Int) := (rect_Empty.f a0_0 a0_1 a0_2 a0_3).bind fun t159 => (if t159 = true then (some (0, 0, 0, 0)) else ((rect_Empty.f a1_0 a1_1 a1_2 a1_3).bind fun t160 => (if t160 = true then (some (0, 0, 0, 0)) else ((rect_Canonical.f (mx a0_0 a1_0) (mx a0_1 a1_1) (mn a0_2 a1_2) (mn a0_3 a1_3)).bind fun bt161 => (some (bt161.1, bt161.2.1, bt161.2.2.1, bt161.2.2.2))))))
set_option maxHeartbeats 8000000 in
set_option maxRecDepth 100000 in
theorem rect_Intersect.calls (a0_0 : Int) (a0_1 : Int) (a0_2 : Int) (a0_3 : Int) (a1_0 : Int) (a1_1 : Int) (a1_2 : Int) (a1_3 : Int) (r1 : Int) (r2 : Int) (r3 : Int) (r4 : Int) (w : World) (h : rect_Intersect.f a0_0 a0_1 a0_2 a0_3 a1_0 a1_1 a1_2 a1_3 = some (r1, r2, r3, r4)) :
    Calls Try.prog 68 #[.agg #[.int .i64 a0_0, .int .i64 a0_1, .int .i64 a0_2, .int .i64 a0_3], .agg #[.int .i64 a1_0, .int .i64 a1_1, .int .i64 a1_2, .int .i64 a1_3]] w fun e w' => e = .returned (.agg #[.int .i64 r1, .int .i64 r2, .int .i64 r3, .int .i64 r4]) ∧ Below w.heap.size w w' := by
  have hu47 := Try.underlying47
  have HB := Aside0.mk (Below.refl w.heap.size w)
  have H : ((rect_Empty.f a0_0 a0_1 a0_2 a0_3).bind fun t159 => (if t159 = true then (some (0, 0, 0, 0)) else ((rect_Empty.f a1_0 a1_1 a1_2 a1_3).bind fun t160 => (if t160 = true then (some (0, 0, 0, 0)) else ((rect_Canonical.f (mx a0_0 a1_0) (mx a0_1 a1_1) (mn a0_2 a1_2) (mn a0_3 a1_3)).bind fun bt161 => (some (bt161.1, bt161.2.1, bt161.2.2.1, bt161.2.2.2))))))) = some (r1, r2, r3, r4) := h
  clear h
  replace H := Option.bind_eq_some_iff.mp H
  obtain ⟨t159, A30, H⟩ := H
  replace H : (if t159 = true then (some (0, 0, 0, 0)) else ((rect_Empty.f a1_0 a1_1 a1_2 a1_3).bind fun t160 => (if t160 = true then (some (0, 0, 0, 0)) else ((rect_Canonical.f (mx a0_0 a1_0) (mx a0_1 a1_1) (mn a0_2 a1_2) (mn a0_3 a1_3)).bind fun bt161 => (some (bt161.1, bt161.2.1, bt161.2.2.1, bt161.2.2.2)))))) = some (r1, r2, r3, r4) := H
  have A3 := Aside0.mk A30
  clear A30
  by_cases c4 : t159 = true
  · subst c4
    have H1 : (some (0, 0, 0, 0)) = some (r1, r2, r3, r4) := by rw [if_pos rfl] at H; exact H
    clear H
    have H := H1
    clear H1
    simp only [Option.some.injEq, Prod.mk.injEq] at H
    obtain ⟨rfl, rfl, rfl, rfl⟩ := H
    go_enter Try.func68, Try.ntmps68
    go_wp2_with (first | ((with_reducible refine gate_dst (N := 2) rfl ?_); refine box_event ?hg (N := 2) ?hd (cs := #[.int .i64 a0_0, .int .i64 a0_1, .int .i64 a0_2, .int .i64 a0_3]) (t := 47) ?hr ?_; (case hd => rfl); (case hg => rfl); (case hr => first | (go_simp; done) | (go_simp; rfl)); intro gb156 hg w5 hbox hb; have n0_ := Aside0.mk (below_step (by repeat (first | (with_reducible first | exact HB.out | apply below_alloc | apply pw_below_drewN | apply below_drew1) | exact HB.out)) hb); have n1_ := Aside0.mk (hbox); have n2_ := Aside0.mk ((by rw [hg]; exact (below_size (by repeat (first | (with_reducible first | exact HB.out | apply below_alloc | apply pw_below_drewN | apply below_drew1) | exact HB.out))) : w.heap.size ≤ gb156)); have n3_ := Aside0.mk ((by rw [hg]; exact (below_size (by repeat (first | (with_reducible first | exact HB.out | apply below_alloc | apply pw_below_drewN | apply below_drew1) | exact HB.out))) : w.heap.size ≤ gb156)); clear HB; have HB := n0_; have BK156 := n1_; have GW156 := n2_; have GE156 := n3_; clear n0_ n1_ n2_ n3_; clear hb hbox hg) | ((with_reducible refine gate_dst (N := 3) rfl ?_); refine box_event ?hg (N := 3) ?hd (cs := #[.int .i64 a1_0, .int .i64 a1_1, .int .i64 a1_2, .int .i64 a1_3]) (t := 47) ?hr ?_; (case hd => rfl); (case hg => rfl); (case hr => first | (go_simp; done) | (go_simp; rfl)); intro gb157 hg w6 hbox hb; have n0_ := Aside0.mk (blk_below (g := gb156) (o := .cells #[.int .i64 a0_0, .int .i64 a0_1, .int .i64 a0_2, .int .i64 a0_3] 47 (0, 0)) (by (with_reducible repeat (first | refine blk_drewN ?_ _ | refine blk_drew ?_ | refine blk_alloc ?_ _)); exact BK156.out) hb); have n1_ := Aside0.mk (below_step (by repeat (first | (with_reducible first | exact HB.out | apply below_alloc | apply pw_below_drewN | apply below_drew1 | refine below_set ?_ GE156.out) | exact HB.out)) hb); have n2_ := Aside0.mk (hbox); have n3_ := Aside0.mk ((by rw [hg]; exact (below_size (by repeat (first | (with_reducible first | exact HB.out | apply below_alloc | apply pw_below_drewN | apply below_drew1 | refine below_set ?_ GE156.out) | exact HB.out))) : w.heap.size ≤ gb157)); have n4_ := Aside0.mk ((by rw [hg]; exact (below_size (by repeat (first | (with_reducible first | exact HB.out | apply below_alloc | apply pw_below_drewN | apply below_drew1 | refine below_set ?_ GE156.out) | exact HB.out))) : w.heap.size ≤ gb157)); have n5_ := Aside0.mk ((by rw [hg]; exact Nat.ne_of_lt (blk_lt (g := gb156) (o := .cells #[.int .i64 a0_0, .int .i64 a0_1, .int .i64 a0_2, .int .i64 a0_3] 47 (0, 0)) (by (with_reducible repeat (first | refine blk_drewN ?_ _ | refine blk_drew ?_ | refine blk_alloc ?_ _)); exact BK156.out)) : gb156 ≠ gb157)); have n6_ := Aside0.mk ((by rw [hg]; exact Nat.ne_of_gt (blk_lt (g := gb156) (o := .cells #[.int .i64 a0_0, .int .i64 a0_1, .int .i64 a0_2, .int .i64 a0_3] 47 (0, 0)) (by (with_reducible repeat (first | refine blk_drewN ?_ _ | refine blk_drew ?_ | refine blk_alloc ?_ _)); exact BK156.out)) : gb157 ≠ gb156)); clear BK156; clear HB; have BK156 := n0_; have HB := n1_; have BK157 := n2_; have GW157 := n3_; have GE157 := n4_; have NB156_157 := n5_; have NB157_156 := n6_; clear n0_ n1_ n2_ n3_ n4_ n5_ n6_; clear hb hbox hg) | ((with_reducible refine gate_dst (N := 4) rfl ?_); refine box_event ?hg (N := 4) ?hd (cs := #[.int .i64 0, .int .i64 0, .int .i64 0, .int .i64 0]) (t := 47) ?hr ?_; (case hd => rfl); (case hg => rfl); (case hr => first | (go_simp; done) | (go_simp; rfl)); intro gb158 hg w7 hbox hb; have n0_ := Aside0.mk (blk_below (g := gb156) (o := .cells #[.int .i64 a0_0, .int .i64 a0_1, .int .i64 a0_2, .int .i64 a0_3] 47 (0, 0)) (by (with_reducible repeat (first | refine blk_drewN ?_ _ | refine blk_drew ?_ | refine blk_alloc ?_ _)); exact BK156.out) hb); have n1_ := Aside0.mk (blk_below (g := gb157) (o := .cells #[.int .i64 a1_0, .int .i64 a1_1, .int .i64 a1_2, .int .i64 a1_3] 47 (0, 0)) (by (with_reducible repeat (first | refine blk_drewN ?_ _ | refine blk_drew ?_ | refine blk_alloc ?_ _)); exact BK157.out) hb); have n2_ := Aside0.mk (below_step (by repeat (first | (with_reducible first | exact HB.out | apply below_alloc | apply pw_below_drewN | apply below_drew1 | refine below_set ?_ GE156.out | refine below_set ?_ GE157.out) | exact HB.out)) hb); have n3_ := Aside0.mk (hbox); have n4_ := Aside0.mk ((by rw [hg]; exact (below_size (by repeat (first | (with_reducible first | exact HB.out | apply below_alloc | apply pw_below_drewN | apply below_drew1 | refine below_set ?_ GE156.out | refine below_set ?_ GE157.out) | exact HB.out))) : w.heap.size ≤ gb158)); have n5_ := Aside0.mk ((by rw [hg]; exact (below_size (by repeat (first | (with_reducible first | exact HB.out | apply below_alloc | apply pw_below_drewN | apply below_drew1 | refine below_set ?_ GE156.out | refine below_set ?_ GE157.out) | exact HB.out))) : w.heap.size ≤ gb158)); have n6_ := Aside0.mk ((by rw [hg]; exact Nat.ne_of_lt (blk_lt (g := gb156) (o := .cells #[.int .i64 a0_0, .int .i64 a0_1, .int .i64 a0_2, .int .i64 a0_3] 47 (0, 0)) (by (with_reducible repeat (first | refine blk_drewN ?_ _ | refine blk_drew ?_ | refine blk_alloc ?_ _)); exact BK156.out)) : gb156 ≠ gb158)); have n7_ := Aside0.mk ((by rw [hg]; exact Nat.ne_of_gt (blk_lt (g := gb156) (o := .cells #[.int .i64 a0_0, .int .i64 a0_1, .int .i64 a0_2, .int .i64 a0_3] 47 (0, 0)) (by (with_reducible repeat (first | refine blk_drewN ?_ _ | refine blk_drew ?_ | refine blk_alloc ?_ _)); exact BK156.out)) : gb158 ≠ gb156)); have n8_ := Aside0.mk ((by rw [hg]; exact Nat.ne_of_lt (blk_lt (g := gb157) (o := .cells #[.int .i64 a1_0, .int .i64 a1_1, .int .i64 a1_2, .int .i64 a1_3] 47 (0, 0)) (by (with_reducible repeat (first | refine blk_drewN ?_ _ | refine blk_drew ?_ | refine blk_alloc ?_ _)); exact BK157.out)) : gb157 ≠ gb158)); have n9_ := Aside0.mk ((by rw [hg]; exact Nat.ne_of_gt (blk_lt (g := gb157) (o := .cells #[.int .i64 a1_0, .int .i64 a1_1, .int .i64 a1_2, .int .i64 a1_3] 47 (0, 0)) (by (with_reducible repeat (first | refine blk_drewN ?_ _ | refine blk_drew ?_ | refine blk_alloc ?_ _)); exact BK157.out)) : gb158 ≠ gb157)); clear BK156; clear BK157; clear HB; have BK156 := n0_; have BK157 := n1_; have HB := n2_; have BK158 := n3_; have GW158 := n4_; have GE158 := n5_; have NB156_158 := n6_; have NB158_156 := n7_; have NB157_158 := n8_; have NB158_157 := n9_; clear n0_ n1_ n2_ n3_ n4_ n5_ n6_ n7_ n8_ n9_; clear hb hbox hg; have hnb8 := NB156_157.out; have hnc8 := NB157_156.out; have hnb9 := NB156_158.out; have hnc9 := NB158_156.out; have hcz10_0 : w7.cell? ⟨gb156, 0, none⟩ = some (.int .i64 a0_0) := (blk_cell BK156.out 0).trans rfl; have hcz10_1 : w7.cell? ⟨gb156, 1, none⟩ = some (.int .i64 a0_1) := (blk_cell BK156.out 1).trans rfl; have hcz10_2 : w7.cell? ⟨gb156, 2, none⟩ = some (.int .i64 a0_2) := (blk_cell BK156.out 2).trans rfl; have hcz10_3 : w7.cell? ⟨gb156, 3, none⟩ = some (.int .i64 a0_3) := (blk_cell BK156.out 3).trans rfl; have hfz10_0 := blk_frozen BK156.out 0; have hfz10_1 := blk_frozen BK156.out 1; have hfz10_2 := blk_frozen BK156.out 2; have hfz10_3 := blk_frozen BK156.out 3) | ((with_reducible refine gate_callee (f := 55) rfl ?_); refine goesL_ (some 6) rfl rfl Try.func55 (by kernel_rfl) rfl #[.agg #[.int .i64 a0_0, .int .i64 a0_1, .int .i64 a0_2, .int .i64 a0_3]] rfl (by (try simp only [List.map_toArray, List.map_cons, List.map_nil]); first | done | rfl | (simp only [List.length_drop, List.length_take]; rfl)) ?_; (with_reducible refine (rect_Empty.calls a0_0 a0_1 a0_2 a0_3 true _ A3.out).mono ?_); rintro e w11 ⟨rfl, hb⟩; refine ⟨_, rfl, ?_⟩; have n0_ := Aside0.mk (blk_below (g := gb156) (o := .cells #[.int .i64 a0_0, .int .i64 a0_1, .int .i64 a0_2, .int .i64 a0_3] 47 (0, 0)) (by (with_reducible repeat (first | refine blk_drewN ?_ _ | refine blk_drew ?_ | refine blk_alloc ?_ _)); exact BK156.out) hb); have n1_ := Aside0.mk (blk_below (g := gb157) (o := .cells #[.int .i64 a1_0, .int .i64 a1_1, .int .i64 a1_2, .int .i64 a1_3] 47 (0, 0)) (by (with_reducible repeat (first | refine blk_drewN ?_ _ | refine blk_drew ?_ | refine blk_alloc ?_ _)); exact BK157.out) hb); have n2_ := Aside0.mk (blk_below (g := gb158) (o := .cells #[.int .i64 0, .int .i64 0, .int .i64 0, .int .i64 0] 47 (0, 0)) (by (with_reducible repeat (first | refine blk_drewN ?_ _ | refine blk_drew ?_ | refine blk_alloc ?_ _)); exact BK158.out) hb); have n3_ := Aside0.mk (below_step (by repeat (first | (with_reducible first | exact HB.out | apply below_alloc | apply pw_below_drewN | apply below_drew1 | refine below_set ?_ GE156.out | refine below_set ?_ GE157.out | refine below_set ?_ GE158.out) | exact HB.out)) hb); clear BK156; clear BK157; clear BK158; clear HB; have BK156 := n0_; have BK157 := n1_; have BK158 := n2_; have HB := n3_; clear n0_ n1_ n2_ n3_; (try clear hb); (try clear hb2); (try clear hk); (try clear hi); have hnb12 := NB158_157.out; have hnc12 := NB157_158.out; have hcz13_0 : w11.cell? ⟨gb158, 0, none⟩ = some (.int .i64 0) := (blk_cell BK158.out 0).trans rfl; have hcz13_1 : w11.cell? ⟨gb158, 1, none⟩ = some (.int .i64 0) := (blk_cell BK158.out 1).trans rfl; have hcz13_2 : w11.cell? ⟨gb158, 2, none⟩ = some (.int .i64 0) := (blk_cell BK158.out 2).trans rfl; have hcz13_3 : w11.cell? ⟨gb158, 3, none⟩ = some (.int .i64 0) := (blk_cell BK158.out 3).trans rfl; have hfz13_0 := blk_frozen BK158.out 0; have hfz13_1 := blk_frozen BK158.out 1; have hfz13_2 := blk_frozen BK158.out 2; have hfz13_3 := blk_frozen BK158.out 3))
    refine bodyPost_ret (results_cell_row rfl _ _ gb158 47 #[.int .i64 0, .int .i64 0, .int .i64 0, .int .i64 0] (0, 0) _ rfl (by (with_reducible repeat (first | refine blk_drewN ?_ _ | refine blk_drew ?_ | refine blk_alloc ?_ _)); refine blk_put (cs := #[.int .i64 0, .int .i64 0, .int .i64 0, .int .i64 0]) ?_ 3 _ rfl; (with_reducible repeat (first | refine blk_drewN ?_ _ | refine blk_drew ?_ | refine blk_alloc ?_ _)); refine blk_put (cs := #[.int .i64 0, .int .i64 0, .int .i64 0, .int .i64 0]) ?_ 2 _ rfl; (with_reducible repeat (first | refine blk_drewN ?_ _ | refine blk_drew ?_ | refine blk_alloc ?_ _)); refine blk_put (cs := #[.int .i64 0, .int .i64 0, .int .i64 0, .int .i64 0]) ?_ 1 _ rfl; (with_reducible repeat (first | refine blk_drewN ?_ _ | refine blk_drew ?_ | refine blk_alloc ?_ _)); refine blk_put (cs := #[.int .i64 0, .int .i64 0, .int .i64 0, .int .i64 0]) ?_ 0 _ rfl; (with_reducible repeat (first | refine blk_drewN ?_ _ | refine blk_drew ?_ | refine blk_alloc ?_ _)); exact BK158.out) Try.underlying47 rfl (by kernel_rfl)) rfl ?_
    exact ⟨by first | rfl | (simp [errW_none, errW_some] <;> rfl) | (simp [*, errW_none, errW_some] <;> rfl), by repeat (first | (with_reducible first | exact HB.out | apply below_alloc | apply pw_below_drewN | apply below_drew1 | refine below_set ?_ GE156.out | refine below_set ?_ GE157.out | refine below_set ?_ GE158.out) | exact HB.out)⟩
  · replace c4 := Bool.eq_false_iff.mpr c4
    subst c4
    have H1 : ((rect_Empty.f a1_0 a1_1 a1_2 a1_3).bind fun t160 => (if t160 = true then (some (0, 0, 0, 0)) else ((rect_Canonical.f (mx a0_0 a1_0) (mx a0_1 a1_1) (mn a0_2 a1_2) (mn a0_3 a1_3)).bind fun bt161 => (some (bt161.1, bt161.2.1, bt161.2.2.1, bt161.2.2.2))))) = some (r1, r2, r3, r4) := by rw [if_neg (show ¬ (false = true) by decide)] at H; exact H
    clear H
    have H := H1
    clear H1
    replace H := Option.bind_eq_some_iff.mp H
    obtain ⟨t160, A140, H⟩ := H
    replace H : (if t160 = true then (some (0, 0, 0, 0)) else ((rect_Canonical.f (mx a0_0 a1_0) (mx a0_1 a1_1) (mn a0_2 a1_2) (mn a0_3 a1_3)).bind fun bt161 => (some (bt161.1, bt161.2.1, bt161.2.2.1, bt161.2.2.2)))) = some (r1, r2, r3, r4) := H
    have A14 := Aside0.mk A140
    clear A140
    by_cases c15 : t160 = true
    · subst c15
      have H1 : (some (0, 0, 0, 0)) = some (r1, r2, r3, r4) := by rw [if_pos rfl] at H; exact H
      clear H
      have H := H1
      clear H1
      simp only [Option.some.injEq, Prod.mk.injEq] at H
      obtain ⟨rfl, rfl, rfl, rfl⟩ := H
      go_enter Try.func68, Try.ntmps68
      go_wp2_with (first | ((with_reducible refine gate_dst (N := 2) rfl ?_); refine box_event ?hg (N := 2) ?hd (cs := #[.int .i64 a0_0, .int .i64 a0_1, .int .i64 a0_2, .int .i64 a0_3]) (t := 47) ?hr ?_; (case hd => rfl); (case hg => rfl); (case hr => first | (go_simp; done) | (go_simp; rfl)); intro gb156 hg w16 hbox hb; have n0_ := Aside0.mk (below_step (by repeat (first | (with_reducible first | exact HB.out | apply below_alloc | apply pw_below_drewN | apply below_drew1) | exact HB.out)) hb); have n1_ := Aside0.mk (hbox); have n2_ := Aside0.mk ((by rw [hg]; exact (below_size (by repeat (first | (with_reducible first | exact HB.out | apply below_alloc | apply pw_below_drewN | apply below_drew1) | exact HB.out))) : w.heap.size ≤ gb156)); have n3_ := Aside0.mk ((by rw [hg]; exact (below_size (by repeat (first | (with_reducible first | exact HB.out | apply below_alloc | apply pw_below_drewN | apply below_drew1) | exact HB.out))) : w.heap.size ≤ gb156)); clear HB; have HB := n0_; have BK156 := n1_; have GW156 := n2_; have GE156 := n3_; clear n0_ n1_ n2_ n3_; clear hb hbox hg) | ((with_reducible refine gate_dst (N := 3) rfl ?_); refine box_event ?hg (N := 3) ?hd (cs := #[.int .i64 a1_0, .int .i64 a1_1, .int .i64 a1_2, .int .i64 a1_3]) (t := 47) ?hr ?_; (case hd => rfl); (case hg => rfl); (case hr => first | (go_simp; done) | (go_simp; rfl)); intro gb157 hg w17 hbox hb; have n0_ := Aside0.mk (blk_below (g := gb156) (o := .cells #[.int .i64 a0_0, .int .i64 a0_1, .int .i64 a0_2, .int .i64 a0_3] 47 (0, 0)) (by (with_reducible repeat (first | refine blk_drewN ?_ _ | refine blk_drew ?_ | refine blk_alloc ?_ _)); exact BK156.out) hb); have n1_ := Aside0.mk (below_step (by repeat (first | (with_reducible first | exact HB.out | apply below_alloc | apply pw_below_drewN | apply below_drew1 | refine below_set ?_ GE156.out) | exact HB.out)) hb); have n2_ := Aside0.mk (hbox); have n3_ := Aside0.mk ((by rw [hg]; exact (below_size (by repeat (first | (with_reducible first | exact HB.out | apply below_alloc | apply pw_below_drewN | apply below_drew1 | refine below_set ?_ GE156.out) | exact HB.out))) : w.heap.size ≤ gb157)); have n4_ := Aside0.mk ((by rw [hg]; exact (below_size (by repeat (first | (with_reducible first | exact HB.out | apply below_alloc | apply pw_below_drewN | apply below_drew1 | refine below_set ?_ GE156.out) | exact HB.out))) : w.heap.size ≤ gb157)); have n5_ := Aside0.mk ((by rw [hg]; exact Nat.ne_of_lt (blk_lt (g := gb156) (o := .cells #[.int .i64 a0_0, .int .i64 a0_1, .int .i64 a0_2, .int .i64 a0_3] 47 (0, 0)) (by (with_reducible repeat (first | refine blk_drewN ?_ _ | refine blk_drew ?_ | refine blk_alloc ?_ _)); exact BK156.out)) : gb156 ≠ gb157)); have n6_ := Aside0.mk ((by rw [hg]; exact Nat.ne_of_gt (blk_lt (g := gb156) (o := .cells #[.int .i64 a0_0, .int .i64 a0_1, .int .i64 a0_2, .int .i64 a0_3] 47 (0, 0)) (by (with_reducible repeat (first | refine blk_drewN ?_ _ | refine blk_drew ?_ | refine blk_alloc ?_ _)); exact BK156.out)) : gb157 ≠ gb156)); clear BK156; clear HB; have BK156 := n0_; have HB := n1_; have BK157 := n2_; have GW157 := n3_; have GE157 := n4_; have NB156_157 := n5_; have NB157_156 := n6_; clear n0_ n1_ n2_ n3_ n4_ n5_ n6_; clear hb hbox hg) | ((with_reducible refine gate_dst (N := 4) rfl ?_); refine box_event ?hg (N := 4) ?hd (cs := #[.int .i64 0, .int .i64 0, .int .i64 0, .int .i64 0]) (t := 47) ?hr ?_; (case hd => rfl); (case hg => rfl); (case hr => first | (go_simp; done) | (go_simp; rfl)); intro gb158 hg w18 hbox hb; have n0_ := Aside0.mk (blk_below (g := gb156) (o := .cells #[.int .i64 a0_0, .int .i64 a0_1, .int .i64 a0_2, .int .i64 a0_3] 47 (0, 0)) (by (with_reducible repeat (first | refine blk_drewN ?_ _ | refine blk_drew ?_ | refine blk_alloc ?_ _)); exact BK156.out) hb); have n1_ := Aside0.mk (blk_below (g := gb157) (o := .cells #[.int .i64 a1_0, .int .i64 a1_1, .int .i64 a1_2, .int .i64 a1_3] 47 (0, 0)) (by (with_reducible repeat (first | refine blk_drewN ?_ _ | refine blk_drew ?_ | refine blk_alloc ?_ _)); exact BK157.out) hb); have n2_ := Aside0.mk (below_step (by repeat (first | (with_reducible first | exact HB.out | apply below_alloc | apply pw_below_drewN | apply below_drew1 | refine below_set ?_ GE156.out | refine below_set ?_ GE157.out) | exact HB.out)) hb); have n3_ := Aside0.mk (hbox); have n4_ := Aside0.mk ((by rw [hg]; exact (below_size (by repeat (first | (with_reducible first | exact HB.out | apply below_alloc | apply pw_below_drewN | apply below_drew1 | refine below_set ?_ GE156.out | refine below_set ?_ GE157.out) | exact HB.out))) : w.heap.size ≤ gb158)); have n5_ := Aside0.mk ((by rw [hg]; exact (below_size (by repeat (first | (with_reducible first | exact HB.out | apply below_alloc | apply pw_below_drewN | apply below_drew1 | refine below_set ?_ GE156.out | refine below_set ?_ GE157.out) | exact HB.out))) : w.heap.size ≤ gb158)); have n6_ := Aside0.mk ((by rw [hg]; exact Nat.ne_of_lt (blk_lt (g := gb156) (o := .cells #[.int .i64 a0_0, .int .i64 a0_1, .int .i64 a0_2, .int .i64 a0_3] 47 (0, 0)) (by (with_reducible repeat (first | refine blk_drewN ?_ _ | refine blk_drew ?_ | refine blk_alloc ?_ _)); exact BK156.out)) : gb156 ≠ gb158)); have n7_ := Aside0.mk ((by rw [hg]; exact Nat.ne_of_gt (blk_lt (g := gb156) (o := .cells #[.int .i64 a0_0, .int .i64 a0_1, .int .i64 a0_2, .int .i64 a0_3] 47 (0, 0)) (by (with_reducible repeat (first | refine blk_drewN ?_ _ | refine blk_drew ?_ | refine blk_alloc ?_ _)); exact BK156.out)) : gb158 ≠ gb156)); have n8_ := Aside0.mk ((by rw [hg]; exact Nat.ne_of_lt (blk_lt (g := gb157) (o := .cells #[.int .i64 a1_0, .int .i64 a1_1, .int .i64 a1_2, .int .i64 a1_3] 47 (0, 0)) (by (with_reducible repeat (first | refine blk_drewN ?_ _ | refine blk_drew ?_ | refine blk_alloc ?_ _)); exact BK157.out)) : gb157 ≠ gb158)); have n9_ := Aside0.mk ((by rw [hg]; exact Nat.ne_of_gt (blk_lt (g := gb157) (o := .cells #[.int .i64 a1_0, .int .i64 a1_1, .int .i64 a1_2, .int .i64 a1_3] 47 (0, 0)) (by (with_reducible repeat (first | refine blk_drewN ?_ _ | refine blk_drew ?_ | refine blk_alloc ?_ _)); exact BK157.out)) : gb158 ≠ gb157)); clear BK156; clear BK157; clear HB; have BK156 := n0_; have BK157 := n1_; have HB := n2_; have BK158 := n3_; have GW158 := n4_; have GE158 := n5_; have NB156_158 := n6_; have NB158_156 := n7_; have NB157_158 := n8_; have NB158_157 := n9_; clear n0_ n1_ n2_ n3_ n4_ n5_ n6_ n7_ n8_ n9_; clear hb hbox hg; have hnb19 := NB156_157.out; have hnc19 := NB157_156.out; have hnb20 := NB156_158.out; have hnc20 := NB158_156.out; have hcz21_0 : w18.cell? ⟨gb156, 0, none⟩ = some (.int .i64 a0_0) := (blk_cell BK156.out 0).trans rfl; have hcz21_1 : w18.cell? ⟨gb156, 1, none⟩ = some (.int .i64 a0_1) := (blk_cell BK156.out 1).trans rfl; have hcz21_2 : w18.cell? ⟨gb156, 2, none⟩ = some (.int .i64 a0_2) := (blk_cell BK156.out 2).trans rfl; have hcz21_3 : w18.cell? ⟨gb156, 3, none⟩ = some (.int .i64 a0_3) := (blk_cell BK156.out 3).trans rfl; have hfz21_0 := blk_frozen BK156.out 0; have hfz21_1 := blk_frozen BK156.out 1; have hfz21_2 := blk_frozen BK156.out 2; have hfz21_3 := blk_frozen BK156.out 3) | ((with_reducible refine gate_callee (f := 55) rfl ?_); refine goesL_ (some 6) rfl rfl Try.func55 (by kernel_rfl) rfl #[.agg #[.int .i64 a0_0, .int .i64 a0_1, .int .i64 a0_2, .int .i64 a0_3]] rfl (by (try simp only [List.map_toArray, List.map_cons, List.map_nil]); first | done | rfl | (simp only [List.length_drop, List.length_take]; rfl)) ?_; (with_reducible refine (rect_Empty.calls a0_0 a0_1 a0_2 a0_3 false _ A3.out).mono ?_); rintro e w22 ⟨rfl, hb⟩; refine ⟨_, rfl, ?_⟩; have n0_ := Aside0.mk (blk_below (g := gb156) (o := .cells #[.int .i64 a0_0, .int .i64 a0_1, .int .i64 a0_2, .int .i64 a0_3] 47 (0, 0)) (by (with_reducible repeat (first | refine blk_drewN ?_ _ | refine blk_drew ?_ | refine blk_alloc ?_ _)); exact BK156.out) hb); have n1_ := Aside0.mk (blk_below (g := gb157) (o := .cells #[.int .i64 a1_0, .int .i64 a1_1, .int .i64 a1_2, .int .i64 a1_3] 47 (0, 0)) (by (with_reducible repeat (first | refine blk_drewN ?_ _ | refine blk_drew ?_ | refine blk_alloc ?_ _)); exact BK157.out) hb); have n2_ := Aside0.mk (blk_below (g := gb158) (o := .cells #[.int .i64 0, .int .i64 0, .int .i64 0, .int .i64 0] 47 (0, 0)) (by (with_reducible repeat (first | refine blk_drewN ?_ _ | refine blk_drew ?_ | refine blk_alloc ?_ _)); exact BK158.out) hb); have n3_ := Aside0.mk (below_step (by repeat (first | (with_reducible first | exact HB.out | apply below_alloc | apply pw_below_drewN | apply below_drew1 | refine below_set ?_ GE156.out | refine below_set ?_ GE157.out | refine below_set ?_ GE158.out) | exact HB.out)) hb); clear BK156; clear BK157; clear BK158; clear HB; have BK156 := n0_; have BK157 := n1_; have BK158 := n2_; have HB := n3_; clear n0_ n1_ n2_ n3_; (try clear hb); (try clear hb2); (try clear hk); (try clear hi); have hnb23 := NB157_158.out; have hnc23 := NB158_157.out; have hcz24_0 : w22.cell? ⟨gb157, 0, none⟩ = some (.int .i64 a1_0) := (blk_cell BK157.out 0).trans rfl; have hcz24_1 : w22.cell? ⟨gb157, 1, none⟩ = some (.int .i64 a1_1) := (blk_cell BK157.out 1).trans rfl; have hcz24_2 : w22.cell? ⟨gb157, 2, none⟩ = some (.int .i64 a1_2) := (blk_cell BK157.out 2).trans rfl; have hcz24_3 : w22.cell? ⟨gb157, 3, none⟩ = some (.int .i64 a1_3) := (blk_cell BK157.out 3).trans rfl; have hfz24_0 := blk_frozen BK157.out 0; have hfz24_1 := blk_frozen BK157.out 1; have hfz24_2 := blk_frozen BK157.out 2; have hfz24_3 := blk_frozen BK157.out 3) | (go_at_call 55; (with_reducible refine (rect_Empty.calls a1_0 a1_1 a1_2 a1_3 true _ A14.out).mono ?_); rintro e w25 ⟨rfl, hb⟩; have n0_ := Aside0.mk (blk_below (g := gb156) (o := .cells #[.int .i64 a0_0, .int .i64 a0_1, .int .i64 a0_2, .int .i64 a0_3] 47 (0, 0)) (by (with_reducible repeat (first | refine blk_drewN ?_ _ | refine blk_drew ?_ | refine blk_alloc ?_ _)); exact BK156.out) hb); have n1_ := Aside0.mk (blk_below (g := gb157) (o := .cells #[.int .i64 a1_0, .int .i64 a1_1, .int .i64 a1_2, .int .i64 a1_3] 47 (0, 0)) (by (with_reducible repeat (first | refine blk_drewN ?_ _ | refine blk_drew ?_ | refine blk_alloc ?_ _)); exact BK157.out) hb); have n2_ := Aside0.mk (blk_below (g := gb158) (o := .cells #[.int .i64 0, .int .i64 0, .int .i64 0, .int .i64 0] 47 (0, 0)) (by (with_reducible repeat (first | refine blk_drewN ?_ _ | refine blk_drew ?_ | refine blk_alloc ?_ _)); exact BK158.out) hb); have n3_ := Aside0.mk (below_step (by repeat (first | (with_reducible first | exact HB.out | apply below_alloc | apply pw_below_drewN | apply below_drew1 | refine below_set ?_ GE156.out | refine below_set ?_ GE157.out | refine below_set ?_ GE158.out) | exact HB.out)) hb); clear BK156; clear BK157; clear BK158; clear HB; have BK156 := n0_; have BK157 := n1_; have BK158 := n2_; have HB := n3_; clear n0_ n1_ n2_ n3_; (try clear hb); (try clear hb2); (try clear hk); (try clear hi); have hcz26_0 : w25.cell? ⟨gb158, 0, none⟩ = some (.int .i64 0) := (blk_cell BK158.out 0).trans rfl; have hcz26_1 : w25.cell? ⟨gb158, 1, none⟩ = some (.int .i64 0) := (blk_cell BK158.out 1).trans rfl; have hcz26_2 : w25.cell? ⟨gb158, 2, none⟩ = some (.int .i64 0) := (blk_cell BK158.out 2).trans rfl; have hcz26_3 : w25.cell? ⟨gb158, 3, none⟩ = some (.int .i64 0) := (blk_cell BK158.out 3).trans rfl; have hfz26_0 := blk_frozen BK158.out 0; have hfz26_1 := blk_frozen BK158.out 1; have hfz26_2 := blk_frozen BK158.out 2; have hfz26_3 := blk_frozen BK158.out 3))
      refine bodyPost_ret (results_cell_row rfl _ _ gb158 47 #[.int .i64 0, .int .i64 0, .int .i64 0, .int .i64 0] (0, 0) _ rfl (by (with_reducible repeat (first | refine blk_drewN ?_ _ | refine blk_drew ?_ | refine blk_alloc ?_ _)); refine blk_put (cs := #[.int .i64 0, .int .i64 0, .int .i64 0, .int .i64 0]) ?_ 3 _ rfl; (with_reducible repeat (first | refine blk_drewN ?_ _ | refine blk_drew ?_ | refine blk_alloc ?_ _)); refine blk_put (cs := #[.int .i64 0, .int .i64 0, .int .i64 0, .int .i64 0]) ?_ 2 _ rfl; (with_reducible repeat (first | refine blk_drewN ?_ _ | refine blk_drew ?_ | refine blk_alloc ?_ _)); refine blk_put (cs := #[.int .i64 0, .int .i64 0, .int .i64 0, .int .i64 0]) ?_ 1 _ rfl; (with_reducible repeat (first | refine blk_drewN ?_ _ | refine blk_drew ?_ | refine blk_alloc ?_ _)); refine blk_put (cs := #[.int .i64 0, .int .i64 0, .int .i64 0, .int .i64 0]) ?_ 0 _ rfl; (with_reducible repeat (first | refine blk_drewN ?_ _ | refine blk_drew ?_ | refine blk_alloc ?_ _)); exact BK158.out) Try.underlying47 rfl (by kernel_rfl)) rfl ?_
      exact ⟨by first | rfl | (simp [errW_none, errW_some] <;> rfl) | (simp [*, errW_none, errW_some] <;> rfl), by repeat (first | (with_reducible first | exact HB.out | apply below_alloc | apply pw_below_drewN | apply below_drew1 | refine below_set ?_ GE156.out | refine below_set ?_ GE157.out | refine below_set ?_ GE158.out) | exact HB.out)⟩
    · replace c15 := Bool.eq_false_iff.mpr c15
      subst c15
      have H1 : ((rect_Canonical.f (mx a0_0 a1_0) (mx a0_1 a1_1) (mn a0_2 a1_2) (mn a0_3 a1_3)).bind fun bt161 => (some (bt161.1, bt161.2.1, bt161.2.2.1, bt161.2.2.2))) = some (r1, r2, r3, r4) := by rw [if_neg (show ¬ (false = true) by decide)] at H; exact H
      clear H
      have H := H1
      clear H1
      obtain ⟨ji27, hji27⟩ : ∃ j_ : Int, (mx a0_0 a1_0) = j_ := ⟨_, rfl⟩
      replace H : ((rect_Canonical.f (ji27) (mx a0_1 a1_1) (mn a0_2 a1_2) (mn a0_3 a1_3)).bind fun bt161 => (some (bt161.1, bt161.2.1, bt161.2.2.1, bt161.2.2.2))) = some (r1, r2, r3, r4) := by first | (rw [hji27] at H; exact H) | (simp only [hji27] at H ⊢; exact H)
      (try rw [hji27] at A3)
      (try rw [hji27] at A14)
      have hji27_ : (if a0_0 < a1_0 then a1_0 else a0_0) = ji27 := hji27
      obtain ⟨ji28, hji28⟩ : ∃ j_ : Int, (mx a0_1 a1_1) = j_ := ⟨_, rfl⟩
      replace H : ((rect_Canonical.f (ji27) (ji28) (mn a0_2 a1_2) (mn a0_3 a1_3)).bind fun bt161 => (some (bt161.1, bt161.2.1, bt161.2.2.1, bt161.2.2.2))) = some (r1, r2, r3, r4) := by first | (rw [hji28] at H; exact H) | (simp only [hji28] at H ⊢; exact H)
      (try rw [hji28] at A3)
      (try rw [hji28] at A14)
      have hji28_ : (if a0_1 < a1_1 then a1_1 else a0_1) = ji28 := hji28
      obtain ⟨ji29, hji29⟩ : ∃ j_ : Int, (mn a0_2 a1_2) = j_ := ⟨_, rfl⟩
      replace H : ((rect_Canonical.f (ji27) (ji28) (ji29) (mn a0_3 a1_3)).bind fun bt161 => (some (bt161.1, bt161.2.1, bt161.2.2.1, bt161.2.2.2))) = some (r1, r2, r3, r4) := by first | (rw [hji29] at H; exact H) | (simp only [hji29] at H ⊢; exact H)
      (try rw [hji29] at A3)
      (try rw [hji29] at A14)
      have hji29_ : (if a1_2 < a0_2 then a1_2 else a0_2) = ji29 := hji29
      obtain ⟨ji30, hji30⟩ : ∃ j_ : Int, (mn a0_3 a1_3) = j_ := ⟨_, rfl⟩
      replace H : ((rect_Canonical.f (ji27) (ji28) (ji29) (ji30)).bind fun bt161 => (some (bt161.1, bt161.2.1, bt161.2.2.1, bt161.2.2.2))) = some (r1, r2, r3, r4) := by first | (rw [hji30] at H; exact H) | (simp only [hji30] at H ⊢; exact H)
      (try rw [hji30] at A3)
      (try rw [hji30] at A14)
      have hji30_ : (if a1_3 < a0_3 then a1_3 else a0_3) = ji30 := hji30
      replace H := Option.bind_eq_some_iff.mp H
      obtain ⟨⟨t161, t162, t163, t164⟩, A310, H⟩ := H
      replace H : (some (t161, t162, t163, t164)) = some (r1, r2, r3, r4) := H
      have A31 := Aside0.mk A310
      clear A310
      simp only [Option.some.injEq, Prod.mk.injEq] at H
      obtain ⟨rfl, rfl, rfl, rfl⟩ := H
      go_enter Try.func68, Try.ntmps68
      go_wp2_with (first | ((with_reducible refine gate_dst (N := 2) rfl ?_); refine box_event ?hg (N := 2) ?hd (cs := #[.int .i64 a0_0, .int .i64 a0_1, .int .i64 a0_2, .int .i64 a0_3]) (t := 47) ?hr ?_; (case hd => rfl); (case hg => rfl); (case hr => first | (go_simp; done) | (go_simp; rfl)); intro gb156 hg w32 hbox hb; have n0_ := Aside0.mk (below_step (by repeat (first | (with_reducible first | exact HB.out | apply below_alloc | apply pw_below_drewN | apply below_drew1) | exact HB.out)) hb); have n1_ := Aside0.mk (hbox); have n2_ := Aside0.mk ((by rw [hg]; exact (below_size (by repeat (first | (with_reducible first | exact HB.out | apply below_alloc | apply pw_below_drewN | apply below_drew1) | exact HB.out))) : w.heap.size ≤ gb156)); have n3_ := Aside0.mk ((by rw [hg]; exact (below_size (by repeat (first | (with_reducible first | exact HB.out | apply below_alloc | apply pw_below_drewN | apply below_drew1) | exact HB.out))) : w.heap.size ≤ gb156)); clear HB; have HB := n0_; have BK156 := n1_; have GW156 := n2_; have GE156 := n3_; clear n0_ n1_ n2_ n3_; clear hb hbox hg) | ((with_reducible refine gate_dst (N := 3) rfl ?_); refine box_event ?hg (N := 3) ?hd (cs := #[.int .i64 a1_0, .int .i64 a1_1, .int .i64 a1_2, .int .i64 a1_3]) (t := 47) ?hr ?_; (case hd => rfl); (case hg => rfl); (case hr => first | (go_simp; done) | (go_simp; rfl)); intro gb157 hg w33 hbox hb; have n0_ := Aside0.mk (blk_below (g := gb156) (o := .cells #[.int .i64 a0_0, .int .i64 a0_1, .int .i64 a0_2, .int .i64 a0_3] 47 (0, 0)) (by (with_reducible repeat (first | refine blk_drewN ?_ _ | refine blk_drew ?_ | refine blk_alloc ?_ _)); exact BK156.out) hb); have n1_ := Aside0.mk (below_step (by repeat (first | (with_reducible first | exact HB.out | apply below_alloc | apply pw_below_drewN | apply below_drew1 | refine below_set ?_ GE156.out) | exact HB.out)) hb); have n2_ := Aside0.mk (hbox); have n3_ := Aside0.mk ((by rw [hg]; exact (below_size (by repeat (first | (with_reducible first | exact HB.out | apply below_alloc | apply pw_below_drewN | apply below_drew1 | refine below_set ?_ GE156.out) | exact HB.out))) : w.heap.size ≤ gb157)); have n4_ := Aside0.mk ((by rw [hg]; exact (below_size (by repeat (first | (with_reducible first | exact HB.out | apply below_alloc | apply pw_below_drewN | apply below_drew1 | refine below_set ?_ GE156.out) | exact HB.out))) : w.heap.size ≤ gb157)); have n5_ := Aside0.mk ((by rw [hg]; exact Nat.ne_of_lt (blk_lt (g := gb156) (o := .cells #[.int .i64 a0_0, .int .i64 a0_1, .int .i64 a0_2, .int .i64 a0_3] 47 (0, 0)) (by (with_reducible repeat (first | refine blk_drewN ?_ _ | refine blk_drew ?_ | refine blk_alloc ?_ _)); exact BK156.out)) : gb156 ≠ gb157)); have n6_ := Aside0.mk ((by rw [hg]; exact Nat.ne_of_gt (blk_lt (g := gb156) (o := .cells #[.int .i64 a0_0, .int .i64 a0_1, .int .i64 a0_2, .int .i64 a0_3] 47 (0, 0)) (by (with_reducible repeat (first | refine blk_drewN ?_ _ | refine blk_drew ?_ | refine blk_alloc ?_ _)); exact BK156.out)) : gb157 ≠ gb156)); clear BK156; clear HB; have BK156 := n0_; have HB := n1_; have BK157 := n2_; have GW157 := n3_; have GE157 := n4_; have NB156_157 := n5_; have NB157_156 := n6_; clear n0_ n1_ n2_ n3_ n4_ n5_ n6_; clear hb hbox hg) | ((with_reducible refine gate_dst (N := 4) rfl ?_); refine box_event ?hg (N := 4) ?hd (cs := #[.int .i64 0, .int .i64 0, .int .i64 0, .int .i64 0]) (t := 47) ?hr ?_; (case hd => rfl); (case hg => rfl); (case hr => first | (go_simp; done) | (go_simp; rfl)); intro gb158 hg w34 hbox hb; have n0_ := Aside0.mk (blk_below (g := gb156) (o := .cells #[.int .i64 a0_0, .int .i64 a0_1, .int .i64 a0_2, .int .i64 a0_3] 47 (0, 0)) (by (with_reducible repeat (first | refine blk_drewN ?_ _ | refine blk_drew ?_ | refine blk_alloc ?_ _)); exact BK156.out) hb); have n1_ := Aside0.mk (blk_below (g := gb157) (o := .cells #[.int .i64 a1_0, .int .i64 a1_1, .int .i64 a1_2, .int .i64 a1_3] 47 (0, 0)) (by (with_reducible repeat (first | refine blk_drewN ?_ _ | refine blk_drew ?_ | refine blk_alloc ?_ _)); exact BK157.out) hb); have n2_ := Aside0.mk (below_step (by repeat (first | (with_reducible first | exact HB.out | apply below_alloc | apply pw_below_drewN | apply below_drew1 | refine below_set ?_ GE156.out | refine below_set ?_ GE157.out) | exact HB.out)) hb); have n3_ := Aside0.mk (hbox); have n4_ := Aside0.mk ((by rw [hg]; exact (below_size (by repeat (first | (with_reducible first | exact HB.out | apply below_alloc | apply pw_below_drewN | apply below_drew1 | refine below_set ?_ GE156.out | refine below_set ?_ GE157.out) | exact HB.out))) : w.heap.size ≤ gb158)); have n5_ := Aside0.mk ((by rw [hg]; exact (below_size (by repeat (first | (with_reducible first | exact HB.out | apply below_alloc | apply pw_below_drewN | apply below_drew1 | refine below_set ?_ GE156.out | refine below_set ?_ GE157.out) | exact HB.out))) : w.heap.size ≤ gb158)); have n6_ := Aside0.mk ((by rw [hg]; exact Nat.ne_of_lt (blk_lt (g := gb156) (o := .cells #[.int .i64 a0_0, .int .i64 a0_1, .int .i64 a0_2, .int .i64 a0_3] 47 (0, 0)) (by (with_reducible repeat (first | refine blk_drewN ?_ _ | refine blk_drew ?_ | refine blk_alloc ?_ _)); exact BK156.out)) : gb156 ≠ gb158)); have n7_ := Aside0.mk ((by rw [hg]; exact Nat.ne_of_gt (blk_lt (g := gb156) (o := .cells #[.int .i64 a0_0, .int .i64 a0_1, .int .i64 a0_2, .int .i64 a0_3] 47 (0, 0)) (by (with_reducible repeat (first | refine blk_drewN ?_ _ | refine blk_drew ?_ | refine blk_alloc ?_ _)); exact BK156.out)) : gb158 ≠ gb156)); have n8_ := Aside0.mk ((by rw [hg]; exact Nat.ne_of_lt (blk_lt (g := gb157) (o := .cells #[.int .i64 a1_0, .int .i64 a1_1, .int .i64 a1_2, .int .i64 a1_3] 47 (0, 0)) (by (with_reducible repeat (first | refine blk_drewN ?_ _ | refine blk_drew ?_ | refine blk_alloc ?_ _)); exact BK157.out)) : gb157 ≠ gb158)); have n9_ := Aside0.mk ((by rw [hg]; exact Nat.ne_of_gt (blk_lt (g := gb157) (o := .cells #[.int .i64 a1_0, .int .i64 a1_1, .int .i64 a1_2, .int .i64 a1_3] 47 (0, 0)) (by (with_reducible repeat (first | refine blk_drewN ?_ _ | refine blk_drew ?_ | refine blk_alloc ?_ _)); exact BK157.out)) : gb158 ≠ gb157)); clear BK156; clear BK157; clear HB; have BK156 := n0_; have BK157 := n1_; have HB := n2_; have BK158 := n3_; have GW158 := n4_; have GE158 := n5_; have NB156_158 := n6_; have NB158_156 := n7_; have NB157_158 := n8_; have NB158_157 := n9_; clear n0_ n1_ n2_ n3_ n4_ n5_ n6_ n7_ n8_ n9_; clear hb hbox hg; have hnb35 := NB156_157.out; have hnc35 := NB157_156.out; have hnb36 := NB156_158.out; have hnc36 := NB158_156.out; have hcz37_0 : w34.cell? ⟨gb156, 0, none⟩ = some (.int .i64 a0_0) := (blk_cell BK156.out 0).trans rfl; have hcz37_1 : w34.cell? ⟨gb156, 1, none⟩ = some (.int .i64 a0_1) := (blk_cell BK156.out 1).trans rfl; have hcz37_2 : w34.cell? ⟨gb156, 2, none⟩ = some (.int .i64 a0_2) := (blk_cell BK156.out 2).trans rfl; have hcz37_3 : w34.cell? ⟨gb156, 3, none⟩ = some (.int .i64 a0_3) := (blk_cell BK156.out 3).trans rfl; have hfz37_0 := blk_frozen BK156.out 0; have hfz37_1 := blk_frozen BK156.out 1; have hfz37_2 := blk_frozen BK156.out 2; have hfz37_3 := blk_frozen BK156.out 3) | ((with_reducible refine gate_callee (f := 55) rfl ?_); refine goesL_ (some 6) rfl rfl Try.func55 (by kernel_rfl) rfl #[.agg #[.int .i64 a0_0, .int .i64 a0_1, .int .i64 a0_2, .int .i64 a0_3]] rfl (by (try simp only [List.map_toArray, List.map_cons, List.map_nil]); first | done | rfl | (simp only [List.length_drop, List.length_take]; rfl)) ?_; (with_reducible refine (rect_Empty.calls a0_0 a0_1 a0_2 a0_3 false _ A3.out).mono ?_); rintro e w38 ⟨rfl, hb⟩; refine ⟨_, rfl, ?_⟩; have n0_ := Aside0.mk (blk_below (g := gb156) (o := .cells #[.int .i64 a0_0, .int .i64 a0_1, .int .i64 a0_2, .int .i64 a0_3] 47 (0, 0)) (by (with_reducible repeat (first | refine blk_drewN ?_ _ | refine blk_drew ?_ | refine blk_alloc ?_ _)); exact BK156.out) hb); have n1_ := Aside0.mk (blk_below (g := gb157) (o := .cells #[.int .i64 a1_0, .int .i64 a1_1, .int .i64 a1_2, .int .i64 a1_3] 47 (0, 0)) (by (with_reducible repeat (first | refine blk_drewN ?_ _ | refine blk_drew ?_ | refine blk_alloc ?_ _)); exact BK157.out) hb); have n2_ := Aside0.mk (blk_below (g := gb158) (o := .cells #[.int .i64 0, .int .i64 0, .int .i64 0, .int .i64 0] 47 (0, 0)) (by (with_reducible repeat (first | refine blk_drewN ?_ _ | refine blk_drew ?_ | refine blk_alloc ?_ _)); exact BK158.out) hb); have n3_ := Aside0.mk (below_step (by repeat (first | (with_reducible first | exact HB.out | apply below_alloc | apply pw_below_drewN | apply below_drew1 | refine below_set ?_ GE156.out | refine below_set ?_ GE157.out | refine below_set ?_ GE158.out) | exact HB.out)) hb); clear BK156; clear BK157; clear BK158; clear HB; have BK156 := n0_; have BK157 := n1_; have BK158 := n2_; have HB := n3_; clear n0_ n1_ n2_ n3_; (try clear hb); (try clear hb2); (try clear hk); (try clear hi); have hnb39 := NB157_158.out; have hnc39 := NB158_157.out; have hcz40_0 : w38.cell? ⟨gb157, 0, none⟩ = some (.int .i64 a1_0) := (blk_cell BK157.out 0).trans rfl; have hcz40_1 : w38.cell? ⟨gb157, 1, none⟩ = some (.int .i64 a1_1) := (blk_cell BK157.out 1).trans rfl; have hcz40_2 : w38.cell? ⟨gb157, 2, none⟩ = some (.int .i64 a1_2) := (blk_cell BK157.out 2).trans rfl; have hcz40_3 : w38.cell? ⟨gb157, 3, none⟩ = some (.int .i64 a1_3) := (blk_cell BK157.out 3).trans rfl; have hfz40_0 := blk_frozen BK157.out 0; have hfz40_1 := blk_frozen BK157.out 1; have hfz40_2 := blk_frozen BK157.out 2; have hfz40_3 := blk_frozen BK157.out 3) | (go_at_call 55; (with_reducible refine (rect_Empty.calls a1_0 a1_1 a1_2 a1_3 false _ A14.out).mono ?_); rintro e w41 ⟨rfl, hb⟩; have n0_ := Aside0.mk (blk_below (g := gb156) (o := .cells #[.int .i64 a0_0, .int .i64 a0_1, .int .i64 a0_2, .int .i64 a0_3] 47 (0, 0)) (by (with_reducible repeat (first | refine blk_drewN ?_ _ | refine blk_drew ?_ | refine blk_alloc ?_ _)); exact BK156.out) hb); have n1_ := Aside0.mk (blk_below (g := gb157) (o := .cells #[.int .i64 a1_0, .int .i64 a1_1, .int .i64 a1_2, .int .i64 a1_3] 47 (0, 0)) (by (with_reducible repeat (first | refine blk_drewN ?_ _ | refine blk_drew ?_ | refine blk_alloc ?_ _)); exact BK157.out) hb); have n2_ := Aside0.mk (blk_below (g := gb158) (o := .cells #[.int .i64 0, .int .i64 0, .int .i64 0, .int .i64 0] 47 (0, 0)) (by (with_reducible repeat (first | refine blk_drewN ?_ _ | refine blk_drew ?_ | refine blk_alloc ?_ _)); exact BK158.out) hb); have n3_ := Aside0.mk (below_step (by repeat (first | (with_reducible first | exact HB.out | apply below_alloc | apply pw_below_drewN | apply below_drew1 | refine below_set ?_ GE156.out | refine below_set ?_ GE157.out | refine below_set ?_ GE158.out) | exact HB.out)) hb); clear BK156; clear BK157; clear BK158; clear HB; have BK156 := n0_; have BK157 := n1_; have BK158 := n2_; have HB := n3_; clear n0_ n1_ n2_ n3_; (try clear hb); (try clear hb2); (try clear hk); (try clear hi); have hcz42_0 : w41.cell? ⟨gb156, 0, none⟩ = some (.int .i64 a0_0) := (blk_cell BK156.out 0).trans rfl; have hcz42_1 : w41.cell? ⟨gb156, 1, none⟩ = some (.int .i64 a0_1) := (blk_cell BK156.out 1).trans rfl; have hcz42_2 : w41.cell? ⟨gb156, 2, none⟩ = some (.int .i64 a0_2) := (blk_cell BK156.out 2).trans rfl; have hcz42_3 : w41.cell? ⟨gb156, 3, none⟩ = some (.int .i64 a0_3) := (blk_cell BK156.out 3).trans rfl; have hfz42_0 := blk_frozen BK156.out 0; have hfz42_1 := blk_frozen BK156.out 1; have hfz42_2 := blk_frozen BK156.out 2; have hfz42_3 := blk_frozen BK156.out 3; have hcz43_0 : w41.cell? ⟨gb157, 0, none⟩ = some (.int .i64 a1_0) := (blk_cell BK157.out 0).trans rfl; have hcz43_1 : w41.cell? ⟨gb157, 1, none⟩ = some (.int .i64 a1_1) := (blk_cell BK157.out 1).trans rfl; have hcz43_2 : w41.cell? ⟨gb157, 2, none⟩ = some (.int .i64 a1_2) := (blk_cell BK157.out 2).trans rfl; have hcz43_3 : w41.cell? ⟨gb157, 3, none⟩ = some (.int .i64 a1_3) := (blk_cell BK157.out 3).trans rfl; have hfz43_0 := blk_frozen BK157.out 0; have hfz43_1 := blk_frozen BK157.out 1; have hfz43_2 := blk_frozen BK157.out 2; have hfz43_3 := blk_frozen BK157.out 3) | ((with_reducible refine gate_callee (f := 67) rfl ?_); refine goesL_ (some 33) rfl rfl Try.func67 (by kernel_rfl) rfl #[.agg #[.int .i64 ji27, .int .i64 ji28, .int .i64 ji29, .int .i64 ji30]] rfl (by (try simp only [List.map_toArray, List.map_cons, List.map_nil]); first | done | (simp only [hji27, hji28, hji29, hji30]; rfl) | rfl | (simp only [List.length_drop, List.length_take]; rfl)) ?_; (with_reducible refine (rect_Canonical.calls ji27 ji28 ji29 ji30 t161 t162 t163 t164 _ A31.out).mono ?_); rintro e w44 ⟨rfl, hb⟩; refine ⟨_, rfl, ?_⟩; have n0_ := Aside0.mk (blk_below (g := gb156) (o := .cells #[.int .i64 a0_0, .int .i64 a0_1, .int .i64 a0_2, .int .i64 a0_3] 47 (0, 0)) (by (with_reducible repeat (first | refine blk_drewN ?_ _ | refine blk_drew ?_ | refine blk_alloc ?_ _)); exact BK156.out) hb); have n1_ := Aside0.mk (blk_below (g := gb157) (o := .cells #[.int .i64 a1_0, .int .i64 a1_1, .int .i64 a1_2, .int .i64 a1_3] 47 (0, 0)) (by (with_reducible repeat (first | refine blk_drewN ?_ _ | refine blk_drew ?_ | refine blk_alloc ?_ _)); exact BK157.out) hb); have n2_ := Aside0.mk (blk_below (g := gb158) (o := .cells #[.int .i64 0, .int .i64 0, .int .i64 0, .int .i64 0] 47 (0, 0)) (by (with_reducible repeat (first | refine blk_drewN ?_ _ | refine blk_drew ?_ | refine blk_alloc ?_ _)); exact BK158.out) hb); have n3_ := Aside0.mk (below_step (by repeat (first | (with_reducible first | exact HB.out | apply below_alloc | apply pw_below_drewN | apply below_drew1 | refine below_set ?_ GE156.out | refine below_set ?_ GE157.out | refine below_set ?_ GE158.out) | exact HB.out)) hb); clear BK156; clear BK157; clear BK158; clear HB; have BK156 := n0_; have BK157 := n1_; have BK158 := n2_; have HB := n3_; clear n0_ n1_ n2_ n3_; (try clear hb); (try clear hb2); (try clear hk); (try clear hi); have hcz45_0 : w44.cell? ⟨gb158, 0, none⟩ = some (.int .i64 0) := (blk_cell BK158.out 0).trans rfl; have hcz45_1 : w44.cell? ⟨gb158, 1, none⟩ = some (.int .i64 0) := (blk_cell BK158.out 1).trans rfl; have hcz45_2 : w44.cell? ⟨gb158, 2, none⟩ = some (.int .i64 0) := (blk_cell BK158.out 2).trans rfl; have hcz45_3 : w44.cell? ⟨gb158, 3, none⟩ = some (.int .i64 0) := (blk_cell BK158.out 3).trans rfl; have hfz45_0 := blk_frozen BK158.out 0; have hfz45_1 := blk_frozen BK158.out 1; have hfz45_2 := blk_frozen BK158.out 2; have hfz45_3 := blk_frozen BK158.out 3))
      refine bodyPost_ret (results_cell_row rfl _ _ gb158 47 #[.int .i64 t161, .int .i64 t162, .int .i64 t163, .int .i64 t164] (0, 0) _ rfl (by (with_reducible repeat (first | refine blk_drewN ?_ _ | refine blk_drew ?_ | refine blk_alloc ?_ _)); refine blk_put (cs := #[.int .i64 t161, .int .i64 t162, .int .i64 t163, .int .i64 0]) ?_ 3 _ rfl; (with_reducible repeat (first | refine blk_drewN ?_ _ | refine blk_drew ?_ | refine blk_alloc ?_ _)); refine blk_put (cs := #[.int .i64 t161, .int .i64 t162, .int .i64 0, .int .i64 0]) ?_ 2 _ rfl; (with_reducible repeat (first | refine blk_drewN ?_ _ | refine blk_drew ?_ | refine blk_alloc ?_ _)); refine blk_put (cs := #[.int .i64 t161, .int .i64 0, .int .i64 0, .int .i64 0]) ?_ 1 _ rfl; (with_reducible repeat (first | refine blk_drewN ?_ _ | refine blk_drew ?_ | refine blk_alloc ?_ _)); refine blk_put (cs := #[.int .i64 0, .int .i64 0, .int .i64 0, .int .i64 0]) ?_ 0 _ rfl; (with_reducible repeat (first | refine blk_drewN ?_ _ | refine blk_drew ?_ | refine blk_alloc ?_ _)); exact BK158.out) Try.underlying47 rfl (by kernel_rfl)) rfl ?_
      exact ⟨by first | rfl | (simp [errW_none, errW_some] <;> rfl) | (simp only [← hji27, ← hji28, ← hji29, ← hji30]; first | rfl | (simp [errW_none, errW_some] <;> rfl)) | (simp [*, errW_none, errW_some] <;> rfl), by repeat (first | (with_reducible first | exact HB.out | apply below_alloc | apply pw_below_drewN | apply below_drew1 | refine below_set ?_ GE156.out | refine below_set ?_ GE157.out | refine below_set ?_ GE158.out) | exact HB.out)⟩
end Go.Proofs.Ytmockeaiccpogaa.All
end
section
namespace Go.Proofs.Ytmockeaiccpogaa.All
open Go.RowKit Go.Proofs.YtmockeaiccpogaaW.PrintWords Go.Proofs.YtmockeaiccpogaaW.PrintLast Go.Proofs.YtmockeaiccpogaaW.PrintMore
attribute [local go_sem] max2_int min2_int max_two min_two max_three min_three max_four min_four
set_option linter.unusedVariables false
set_option linter.unusedSimpArgs false
attribute [local go_sem high] eqA47
def rect_Within.f (a0_0 : Int) (a0_1 : Int) (a0_2 : Int) (a0_3 : Int) (a1_0 : Int) (a1_1 : Int) (a1_2 : Int) (a1_3 : Int) : Option (Bool) := (rect_Canonical.f a0_0 a0_1 a0_2 a0_3).bind fun bt167 => ((rect_Intersect.f bt167.1 bt167.2.1 bt167.2.2.1 bt167.2.2.2 a1_0 a1_1 a1_2 a1_3).bind fun bt171 => (some (bt167.1 == bt171.1 && (bt167.2.1 == bt171.2.1 && (bt167.2.2.1 == bt171.2.2.1 && (bt167.2.2.2 == bt171.2.2.2))))))
set_option maxHeartbeats 8000000 in
set_option maxRecDepth 100000 in
theorem rect_Within.calls (a0_0 : Int) (a0_1 : Int) (a0_2 : Int) (a0_3 : Int) (a1_0 : Int) (a1_1 : Int) (a1_2 : Int) (a1_3 : Int) (r : Bool) (w : World) (h : rect_Within.f a0_0 a0_1 a0_2 a0_3 a1_0 a1_1 a1_2 a1_3 = some r) :
    Calls Try.prog 56 #[.agg #[.int .i64 a0_0, .int .i64 a0_1, .int .i64 a0_2, .int .i64 a0_3], .agg #[.int .i64 a1_0, .int .i64 a1_1, .int .i64 a1_2, .int .i64 a1_3]] w fun e w' => e = .returned (.bool r) ∧ Below w.heap.size w w' := by
  have hu47 := Try.underlying47
  have HB := Aside0.mk (Below.refl w.heap.size w)
  have H : ((rect_Canonical.f a0_0 a0_1 a0_2 a0_3).bind fun bt167 => ((rect_Intersect.f bt167.1 bt167.2.1 bt167.2.2.1 bt167.2.2.2 a1_0 a1_1 a1_2 a1_3).bind fun bt171 => (some (bt167.1 == bt171.1 && (bt167.2.1 == bt171.2.1 && (bt167.2.2.1 == bt171.2.2.1 && (bt167.2.2.2 == bt171.2.2.2))))))) = some r := h
  clear h
  replace H := Option.bind_eq_some_iff.mp H
  obtain ⟨⟨t167, t168, t169, t170⟩, A30, H⟩ := H
  replace H : ((rect_Intersect.f t167 t168 t169 t170 a1_0 a1_1 a1_2 a1_3).bind fun bt171 => (some (t167 == bt171.1 && (t168 == bt171.2.1 && (t169 == bt171.2.2.1 && (t170 == bt171.2.2.2)))))) = some r := H
  have A3 := Aside0.mk A30
  clear A30
  replace H := Option.bind_eq_some_iff.mp H
  obtain ⟨⟨t171, t172, t173, t174⟩, A40, H⟩ := H
  replace H : (some (t167 == t171 && (t168 == t172 && (t169 == t173 && (t170 == t174))))) = some r := H
  have A4 := Aside0.mk A40
  clear A40
  obtain rfl := Option.some.inj H
  go_enter Try.func56, Try.ntmps56
  try go_wp2_with (first | ((with_reducible refine gate_dst (N := 2) rfl ?_); refine box_event ?hg (N := 2) ?hd (cs := #[.int .i64 a0_0, .int .i64 a0_1, .int .i64 a0_2, .int .i64 a0_3]) (t := 47) ?hr ?_; (case hd => rfl); (case hg => rfl); (case hr => first | (go_simp; done) | (go_simp; rfl)); intro gb165 hg w5 hbox hb; have n0_ := Aside0.mk (below_step (by repeat (first | (with_reducible first | exact HB.out | apply below_alloc | apply pw_below_drewN | apply below_drew1) | exact HB.out)) hb); have n1_ := Aside0.mk (hbox); have n2_ := Aside0.mk ((by rw [hg]; exact (below_size (by repeat (first | (with_reducible first | exact HB.out | apply below_alloc | apply pw_below_drewN | apply below_drew1) | exact HB.out))) : w.heap.size ≤ gb165)); have n3_ := Aside0.mk ((by rw [hg]; exact (below_size (by repeat (first | (with_reducible first | exact HB.out | apply below_alloc | apply pw_below_drewN | apply below_drew1) | exact HB.out))) : w.heap.size ≤ gb165)); clear HB; have HB := n0_; have BK165 := n1_; have GW165 := n2_; have GE165 := n3_; clear n0_ n1_ n2_ n3_; clear hb hbox hg) | ((with_reducible refine gate_dst (N := 3) rfl ?_); refine box_event ?hg (N := 3) ?hd (cs := #[.int .i64 a1_0, .int .i64 a1_1, .int .i64 a1_2, .int .i64 a1_3]) (t := 47) ?hr ?_; (case hd => rfl); (case hg => rfl); (case hr => first | (go_simp; done) | (go_simp; rfl)); intro gb166 hg w6 hbox hb; have n0_ := Aside0.mk (blk_below (g := gb165) (o := .cells #[.int .i64 a0_0, .int .i64 a0_1, .int .i64 a0_2, .int .i64 a0_3] 47 (0, 0)) (by (with_reducible repeat (first | refine blk_drewN ?_ _ | refine blk_drew ?_ | refine blk_alloc ?_ _)); exact BK165.out) hb); have n1_ := Aside0.mk (below_step (by repeat (first | (with_reducible first | exact HB.out | apply below_alloc | apply pw_below_drewN | apply below_drew1 | refine below_set ?_ GE165.out) | exact HB.out)) hb); have n2_ := Aside0.mk (hbox); have n3_ := Aside0.mk ((by rw [hg]; exact (below_size (by repeat (first | (with_reducible first | exact HB.out | apply below_alloc | apply pw_below_drewN | apply below_drew1 | refine below_set ?_ GE165.out) | exact HB.out))) : w.heap.size ≤ gb166)); have n4_ := Aside0.mk ((by rw [hg]; exact (below_size (by repeat (first | (with_reducible first | exact HB.out | apply below_alloc | apply pw_below_drewN | apply below_drew1 | refine below_set ?_ GE165.out) | exact HB.out))) : w.heap.size ≤ gb166)); have n5_ := Aside0.mk ((by rw [hg]; exact Nat.ne_of_lt (blk_lt (g := gb165) (o := .cells #[.int .i64 a0_0, .int .i64 a0_1, .int .i64 a0_2, .int .i64 a0_3] 47 (0, 0)) (by (with_reducible repeat (first | refine blk_drewN ?_ _ | refine blk_drew ?_ | refine blk_alloc ?_ _)); exact BK165.out)) : gb165 ≠ gb166)); have n6_ := Aside0.mk ((by rw [hg]; exact Nat.ne_of_gt (blk_lt (g := gb165) (o := .cells #[.int .i64 a0_0, .int .i64 a0_1, .int .i64 a0_2, .int .i64 a0_3] 47 (0, 0)) (by (with_reducible repeat (first | refine blk_drewN ?_ _ | refine blk_drew ?_ | refine blk_alloc ?_ _)); exact BK165.out)) : gb166 ≠ gb165)); clear BK165; clear HB; have BK165 := n0_; have HB := n1_; have BK166 := n2_; have GW166 := n3_; have GE166 := n4_; have NB165_166 := n5_; have NB166_165 := n6_; clear n0_ n1_ n2_ n3_ n4_ n5_ n6_; clear hb hbox hg; have hnb7 := NB165_166.out; have hnc7 := NB166_165.out; have hcz8_0 : w6.cell? ⟨gb165, 0, none⟩ = some (.int .i64 a0_0) := (blk_cell BK165.out 0).trans rfl; have hcz8_1 : w6.cell? ⟨gb165, 1, none⟩ = some (.int .i64 a0_1) := (blk_cell BK165.out 1).trans rfl; have hcz8_2 : w6.cell? ⟨gb165, 2, none⟩ = some (.int .i64 a0_2) := (blk_cell BK165.out 2).trans rfl; have hcz8_3 : w6.cell? ⟨gb165, 3, none⟩ = some (.int .i64 a0_3) := (blk_cell BK165.out 3).trans rfl; have hfz8_0 := blk_frozen BK165.out 0; have hfz8_1 := blk_frozen BK165.out 1; have hfz8_2 := blk_frozen BK165.out 2; have hfz8_3 := blk_frozen BK165.out 3) | ((with_reducible refine gate_callee (f := 67) rfl ?_); refine goesL_ (some 6) rfl rfl Try.func67 (by kernel_rfl) rfl #[.agg #[.int .i64 a0_0, .int .i64 a0_1, .int .i64 a0_2, .int .i64 a0_3]] rfl (by (try simp only [List.map_toArray, List.map_cons, List.map_nil]); first | done | rfl | (simp only [List.length_drop, List.length_take]; rfl)) ?_; (with_reducible refine (rect_Canonical.calls a0_0 a0_1 a0_2 a0_3 t167 t168 t169 t170 _ A3.out).mono ?_); rintro e w9 ⟨rfl, hb⟩; refine ⟨_, rfl, ?_⟩; have n0_ := Aside0.mk (blk_below (g := gb165) (o := .cells #[.int .i64 a0_0, .int .i64 a0_1, .int .i64 a0_2, .int .i64 a0_3] 47 (0, 0)) (by (with_reducible repeat (first | refine blk_drewN ?_ _ | refine blk_drew ?_ | refine blk_alloc ?_ _)); exact BK165.out) hb); have n1_ := Aside0.mk (blk_below (g := gb166) (o := .cells #[.int .i64 a1_0, .int .i64 a1_1, .int .i64 a1_2, .int .i64 a1_3] 47 (0, 0)) (by (with_reducible repeat (first | refine blk_drewN ?_ _ | refine blk_drew ?_ | refine blk_alloc ?_ _)); exact BK166.out) hb); have n2_ := Aside0.mk (below_step (by repeat (first | (with_reducible first | exact HB.out | apply below_alloc | apply pw_below_drewN | apply below_drew1 | refine below_set ?_ GE165.out | refine below_set ?_ GE166.out) | exact HB.out)) hb); clear BK165; clear BK166; clear HB; have BK165 := n0_; have BK166 := n1_; have HB := n2_; clear n0_ n1_ n2_; (try clear hb); (try clear hb2); (try clear hk); (try clear hi); have hcz10_0 : w9.cell? ⟨gb165, 0, none⟩ = some (.int .i64 a0_0) := (blk_cell BK165.out 0).trans rfl; have hcz10_1 : w9.cell? ⟨gb165, 1, none⟩ = some (.int .i64 a0_1) := (blk_cell BK165.out 1).trans rfl; have hcz10_2 : w9.cell? ⟨gb165, 2, none⟩ = some (.int .i64 a0_2) := (blk_cell BK165.out 2).trans rfl; have hcz10_3 : w9.cell? ⟨gb165, 3, none⟩ = some (.int .i64 a0_3) := (blk_cell BK165.out 3).trans rfl; have hfz10_0 := blk_frozen BK165.out 0; have hfz10_1 := blk_frozen BK165.out 1; have hfz10_2 := blk_frozen BK165.out 2; have hfz10_3 := blk_frozen BK165.out 3))
  have n0_ : Aside0 (((((w9.setCell ⟨gb165, 0, none⟩ (.int .i64 t167)).setCell ⟨gb165, 1, none⟩ (.int .i64 t168)).setCell ⟨gb165, 2, none⟩ (.int .i64 t169)).setCell ⟨gb165, 3, none⟩ (.int .i64 t170)).heap[gb165]? = some (.cells #[.int .i64 t167, .int .i64 t168, .int .i64 t169, .int .i64 t170] 47 (0, 0))) := ⟨by (with_reducible repeat (first | refine blk_drewN ?_ _ | refine blk_drew ?_ | refine blk_alloc ?_ _)); refine blk_put (cs := #[.int .i64 t167, .int .i64 t168, .int .i64 t169, .int .i64 a0_3]) ?_ 3 _ rfl; (with_reducible repeat (first | refine blk_drewN ?_ _ | refine blk_drew ?_ | refine blk_alloc ?_ _)); refine blk_put (cs := #[.int .i64 t167, .int .i64 t168, .int .i64 a0_2, .int .i64 a0_3]) ?_ 2 _ rfl; (with_reducible repeat (first | refine blk_drewN ?_ _ | refine blk_drew ?_ | refine blk_alloc ?_ _)); refine blk_put (cs := #[.int .i64 t167, .int .i64 a0_1, .int .i64 a0_2, .int .i64 a0_3]) ?_ 1 _ rfl; (with_reducible repeat (first | refine blk_drewN ?_ _ | refine blk_drew ?_ | refine blk_alloc ?_ _)); refine blk_put (cs := #[.int .i64 a0_0, .int .i64 a0_1, .int .i64 a0_2, .int .i64 a0_3]) ?_ 0 _ rfl; (with_reducible repeat (first | refine blk_drewN ?_ _ | refine blk_drew ?_ | refine blk_alloc ?_ _)); exact BK165.out⟩
  have n1_ : Aside0 (((((w9.setCell ⟨gb165, 0, none⟩ (.int .i64 t167)).setCell ⟨gb165, 1, none⟩ (.int .i64 t168)).setCell ⟨gb165, 2, none⟩ (.int .i64 t169)).setCell ⟨gb165, 3, none⟩ (.int .i64 t170)).heap[gb166]? = some (.cells #[.int .i64 a1_0, .int .i64 a1_1, .int .i64 a1_2, .int .i64 a1_3] 47 (0, 0))) := ⟨by (with_reducible repeat (first | refine blk_drewN ?_ _ | refine blk_drew ?_ | refine blk_alloc ?_ _)); refine blk_far ?_ NB166_165.out _; (with_reducible repeat (first | refine blk_drewN ?_ _ | refine blk_drew ?_ | refine blk_alloc ?_ _)); refine blk_far ?_ NB166_165.out _; (with_reducible repeat (first | refine blk_drewN ?_ _ | refine blk_drew ?_ | refine blk_alloc ?_ _)); refine blk_far ?_ NB166_165.out _; (with_reducible repeat (first | refine blk_drewN ?_ _ | refine blk_drew ?_ | refine blk_alloc ?_ _)); refine blk_far ?_ NB166_165.out _; (with_reducible repeat (first | refine blk_drewN ?_ _ | refine blk_drew ?_ | refine blk_alloc ?_ _)); exact BK166.out⟩
  have n2_ : Aside0 (Below w.heap.size w ((((w9.setCell ⟨gb165, 0, none⟩ (.int .i64 t167)).setCell ⟨gb165, 1, none⟩ (.int .i64 t168)).setCell ⟨gb165, 2, none⟩ (.int .i64 t169)).setCell ⟨gb165, 3, none⟩ (.int .i64 t170))) := ⟨by repeat (first | (with_reducible first | exact HB.out | apply below_alloc | apply pw_below_drewN | apply below_drew1 | refine below_set ?_ GE165.out | refine below_set ?_ GE166.out) | exact HB.out)⟩
  (try clear BK165)
  (try clear BK166)
  (try clear HB)
  generalize ((((w9.setCell ⟨gb165, 0, none⟩ (.int .i64 t167)).setCell ⟨gb165, 1, none⟩ (.int .i64 t168)).setCell ⟨gb165, 2, none⟩ (.int .i64 t169)).setCell ⟨gb165, 3, none⟩ (.int .i64 t170)) = w11 at n0_ n1_ n2_ ⊢
  have BK165 := n0_
  have BK166 := n1_
  have HB := n2_
  clear n0_ n1_ n2_
  have n0_ := Aside0.mk (blk_drew BK165.out)
  have n1_ := Aside0.mk (blk_drew BK166.out)
  have n2_ := Aside0.mk (below_drew1 HB.out)
  clear BK165
  clear BK166
  clear HB
  have BK165 := n0_
  have BK166 := n1_
  have HB := n2_
  clear n0_ n1_ n2_
  refine start_ (n := 6) (S := fun w' => w'.cell? ⟨gb165, 0, none⟩ = some (.int .i64 t167) ∧ w'.cell? ⟨gb165, 1, none⟩ = some (.int .i64 t168) ∧ w'.cell? ⟨gb165, 2, none⟩ = some (.int .i64 t169) ∧ w'.cell? ⟨gb165, 3, none⟩ = some (.int .i64 t170) ∧ w'.cell? ⟨gb166, 0, none⟩ = some (.int .i64 a1_0) ∧ w'.cell? ⟨gb166, 1, none⟩ = some (.int .i64 a1_1) ∧ w'.cell? ⟨gb166, 2, none⟩ = some (.int .i64 a1_2) ∧ w'.cell? ⟨gb166, 3, none⟩ = some (.int .i64 a1_3)) (ds := []) #[false, false, false, false, false, false] (by kernel_rfl) rfl rfl ⟨(blk_cell BK165.out 0).trans rfl, (blk_cell BK165.out 1).trans rfl, (blk_cell BK165.out 2).trans rfl, (blk_cell BK165.out 3).trans rfl, (blk_cell BK166.out 0).trans rfl, (blk_cell BK166.out 1).trans rfl, (blk_cell BK166.out 2).trans rfl, (blk_cell BK166.out 3).trans rfl⟩ (fun hHeld => ?_)
  generalize w11.drew = w12 at BK165 BK166 HB hHeld ⊢
  refine take_ (i := 0) (N := some 7) (v := ?_) (a' := ?_) #[true, false, false, false, false, false] rfl rfl (by kernel_rfl) (fun _ _ _ h => h) (Or.inl ⟨by rfl, ?_⟩) hHeld ?_ ?_
  rotate_left
  · rintro w' ⟨s0, s1, s2, s3, s4, s5, s6, s7⟩
    go_simp
    with_reducible rfl
  rotate_left
  · simp only [Act.put, List.setIfInBounds_toArray, List.set_cons_zero, List.set_cons_succ, i64_w, i32_w]
    rfl
  refine take_ (i := 1) (N := some 8) (v := ?_) (a' := ?_) #[true, true, false, false, false, false] rfl rfl (by kernel_rfl) (fun _ _ _ h => h) (Or.inl ⟨by rfl, ?_⟩) hHeld ?_ ?_
  rotate_left
  · rintro w' ⟨s0, s1, s2, s3, s4, s5, s6, s7⟩
    go_simp
    with_reducible rfl
  rotate_left
  · simp only [Act.put, List.setIfInBounds_toArray, List.set_cons_zero, List.set_cons_succ, i64_w, i32_w]
    rfl
  refine take_ (i := 2) (N := some 9) (v := ?_) (a' := ?_) #[true, true, true, false, false, false] rfl rfl (by kernel_rfl) (fun _ _ _ h => h) (Or.inl ⟨by rfl, ?_⟩) hHeld ?_ ?_
  rotate_left
  · rintro w' ⟨s0, s1, s2, s3, s4, s5, s6, s7⟩
    go_simp
    with_reducible rfl
  rotate_left
  · simp only [Act.put, List.setIfInBounds_toArray, List.set_cons_zero, List.set_cons_succ, i64_w, i32_w]
    rfl
  refine one_ (i := 3) (N := some 10) #[true, true, true, true, false, false] rfl rfl (by kernel_rfl) (by decide) (fun K hK => ?_)
  refine goes_ Try.func68 (by kernel_rfl) rfl #[.agg #[.int .i64 t167, .int .i64 t168, .int .i64 t169, .int .i64 t170], .agg #[.int .i64 a1_0, .int .i64 a1_1, .int .i64 a1_2, .int .i64 a1_3]] (by rfl) rfl rfl (by (try simp only [List.map_toArray, List.map_cons, List.map_nil]); first | done | rfl | (simp only [List.length_drop, List.length_take]; rfl)) ?_
  with_reducible refine (rect_Intersect.calls t167 t168 t169 t170 a1_0 a1_1 a1_2 a1_3 t171 t172 t173 t174 _ A4.out).mono ?_
  rintro e w13 ⟨rfl, hb⟩
  refine ⟨_, rfl, ?_⟩
  have n0_ := Aside0.mk (blk_below (g := gb165) (o := .cells #[.int .i64 t167, .int .i64 t168, .int .i64 t169, .int .i64 t170] 47 (0, 0)) (by (with_reducible repeat (first | refine blk_drewN ?_ _ | refine blk_drew ?_ | refine blk_alloc ?_ _)); exact BK165.out) hb)
  have n1_ := Aside0.mk (blk_below (g := gb166) (o := .cells #[.int .i64 a1_0, .int .i64 a1_1, .int .i64 a1_2, .int .i64 a1_3] 47 (0, 0)) (by (with_reducible repeat (first | refine blk_drewN ?_ _ | refine blk_drew ?_ | refine blk_alloc ?_ _)); exact BK166.out) hb)
  have n2_ := Aside0.mk (below_step (by repeat (first | (with_reducible first | exact HB.out | apply below_alloc | apply pw_below_drewN | apply below_drew1 | refine below_set ?_ GE165.out | refine below_set ?_ GE166.out) | exact HB.out)) hb)
  clear BK165
  clear BK166
  clear HB
  have BK165 := n0_
  have BK166 := n1_
  have HB := n2_
  clear n0_ n1_ n2_
  (try clear hb)
  (try clear hb2)
  (try clear hk)
  (try clear hi)
  refine hK.out _ _ ⟨(blk_cell BK165.out 0).trans rfl, (blk_cell BK165.out 1).trans rfl, (blk_cell BK165.out 2).trans rfl, (blk_cell BK165.out 3).trans rfl, (blk_cell BK166.out 0).trans rfl, (blk_cell BK166.out 1).trans rfl, (blk_cell BK166.out 2).trans rfl, (blk_cell BK166.out 3).trans rfl⟩ (fun hHeld => ?_)
  clear hK K
  refine norm_ (a' := ?_) ?_ ?_
  rotate_left
  · show Act.put _ (some 10) _ = _
    simp only [Act.put, List.setIfInBounds_toArray, List.set_cons_zero, List.set_cons_succ, i64_w, i32_w]
    rfl
  refine pure_ (i := 4) (N := some 11) (v := ?_) (a' := ?_) #[true, true, true, true, true, false] rfl rfl (by kernel_rfl) (fun _ _ _ h => h) (Or.inl ⟨by rfl, ?_⟩) ?_ ?_
  rotate_left
  · intro w'
    go_simp
    with_reducible rfl
  rotate_left
  · simp only [Act.put, List.setIfInBounds_toArray, List.set_cons_zero, List.set_cons_succ, i64_w, i32_w]
    rfl
  refine pure_ (i := 5) (N := some 4) (v := ?_) (a' := ?_) #[true, true, true, true, true, true] rfl rfl (by kernel_rfl) (fun _ _ _ h => h) (Or.inl ⟨by rfl, ?_⟩) ?_ ?_
  rotate_left
  · intro w'
    go_simp
    with_reducible rfl
  rotate_left
  · simp only [Act.put, List.setIfInBounds_toArray, List.set_cons_zero, List.set_cons_succ, i64_w, i32_w]
    rfl
  refine done_ (by kernel_rfl) ?_
  try go_wp2
  go_ret
  exact ⟨by first | rfl | (simp [errW_none, errW_some] <;> rfl) | (simp [*, errW_none, errW_some] <;> rfl), by repeat (first | (with_reducible first | exact HB.out | apply below_alloc | apply pw_below_drewN | apply below_drew1 | refine below_set ?_ GE165.out | refine below_set ?_ GE166.out) | exact HB.out)⟩
end Go.Proofs.Ytmockeaiccpogaa.All
end
section
namespace Go.Proofs.Ytmockeaiccpogaa.All
open Go.RowKit Go.Proofs.YtmockeaiccpogaaW.PrintWords Go.Proofs.YtmockeaiccpogaaW.PrintLast Go.Proofs.YtmockeaiccpogaaW.PrintMore
attribute [local go_sem] max2_int min2_int max_two min_two max_three min_three max_four min_four
set_option linter.unusedVariables false
set_option linter.unusedSimpArgs false
section
open Go.Proofs.YtmockeaiccpogaaHand Go.Proofs.YtmockeaiccpogaaSq
theorem buffer_row.calls (W H y fr tt : Int) (ad : Addr) (n c lo hi : Nat) (w : World) (h1 : wrap64 (wrap64 (y * W) + fr) = lo) (h2 : wrap64 (wrap64 (y * W) + tt) = hi) (hlt : lo < hi) (hc : hi ≤ c) :
    Calls Try.prog 57 #[.agg #[.int .i64 W, .int .i64 H, .slice (some ad) n c], .int .i64 y, .int .i64 fr, .int .i64 tt] w fun e w' => e = .returned (.slice (some (ad.add (lo * 4))) (hi - lo) (hi - lo)) ∧ Below w.heap.size w w' := by
  have q1 : (0 : Int) ≤ (lo : Int) := by omega
  have q2 : (lo : Int) ≤ (hi : Int) := by omega
  have q3 : (hi : Int) ≤ (hi : Int) := by omega
  have q4 : (hi : Int) ≤ (c : Int) := by omega
  have q5 : ¬ hi = lo := by omega
  have q6 : ¬ (hi : Int) = (lo : Int) := by omega
  go_enter Try.func57, Try.ntmps57
  go_wp2
  go_ret
  exact ⟨rfl, below_alloc (Below.refl _ _) _⟩
theorem retBuf {W : World} {g : Nat} (h : W.heap[g]? = some (.cells #[.int .i64 0, .int .i64 0, .slice none 0 0] 27 (0, 0))) (n m : Int) (v : Value) :
    (((W.setCell ⟨g, 0, none⟩ (.int .i64 n)).setCell ⟨g, 1, none⟩ (.int .i64 m)).setCell ⟨g, 2, none⟩ v).heap[g]? = some (.cells #[.int .i64 n, .int .i64 m, v] 27 (0, 0)) :=
  blk_put (cs := #[.int .i64 n, .int .i64 m, .slice none 0 0]) (blk_put (cs := #[.int .i64 n, .int .i64 0, .slice none 0 0]) (blk_put (cs := #[.int .i64 0, .int .i64 0, .slice none 0 0]) h 0 _ rfl) 1 _ rfl) 2 _ rfl
theorem retBufR {W : World} {g : Nat} {n m : Int} {v u : Value} {base : Nat} {l : List S43} (h : W.heap[g]? = some (.cells #[.int .i64 0, .int .i64 0, .slice none 0 0] 27 (0, 0))) (hu : Kd.R k43 43 W base (fun _ => True) u l) :
    Kd.R k43 43 (((W.setCell ⟨g, 0, none⟩ (.int .i64 n)).setCell ⟨g, 1, none⟩ (.int .i64 m)).setCell ⟨g, 2, none⟩ v) base (fun _ => True) u l := by
  have q1 := Kd.R_mono (Kd.R_far (p := ⟨g, 0, none⟩) (Kd.R_types hu h (by decide)) (fun _ hk => hk.2) (.int .i64 n)) (ok' := fun _ => True) (fun _ hk => trivial)
  have h1 := blk_put (cs := #[.int .i64 0, .int .i64 0, .slice none 0 0]) h 0 (.int .i64 n) rfl
  have q2 := Kd.R_mono (Kd.R_far (p := ⟨g, 1, none⟩) (Kd.R_types q1 h1 (by decide)) (fun _ hk => hk.2) (.int .i64 m)) (ok' := fun _ => True) (fun _ hk => trivial)
  have h2 := blk_put (cs := #[.int .i64 n, .int .i64 0, .slice none 0 0]) h1 1 (.int .i64 m) rfl
  exact Kd.R_mono (Kd.R_far (p := ⟨g, 2, none⟩) (Kd.R_types q2 h2 (by decide)) (fun _ hk => hk.2) _) (fun _ hk => trivial)
def over {α : Type} (l : List α) (lo : Nat) (s : List α) : List α := l.take lo ++ s ++ l.drop (lo + s.length)
theorem over_length {α : Type} (l : List α) (lo : Nat) (s : List α) (h : lo + s.length ≤ l.length) : (over l lo s).length = l.length := by
  unfold over
  simp
  omega
def pcells (s : List S43) : List Value := s.flatMap fun p => [.int .u8 p.f0, .int .u8 p.f1, .int .u8 p.f2, .int .u8 p.f3]
theorem pcells_length (s : List S43) : (pcells s).length = s.length * 4 := by
  induction s with
  | nil => rfl
  | cons p s ih => simp only [pcells, List.flatMap_cons, List.length_append, List.length_cons, List.length_nil] at *; omega
theorem pcells_one (s : List S43) : ∀ v ∈ pcells s, v.oneCell' = true := by
  intro v hv
  unfold pcells at hv
  simp only [List.mem_flatMap, List.mem_cons, List.not_mem_nil, or_false] at hv
  obtain ⟨p, _, h⟩ := hv
  rcases h with rfl | rfl | rfl | rfl <;> rfl
theorem pcells_at {s : List S43} {W : World} {ad : Addr} {n : Nat} (h : Kd.C k43 W (some ad) n s) : ∀ j v, (pcells s)[j]? = some v → W.cell? (ad.add j) = some v := by
  intro j v hj
  have hjl : j < s.length * 4 := by rw [← pcells_length]; exact (List.getElem?_eq_some_iff.1 hj).1
  obtain ⟨ad', e, hc⟩ := h.2.2 (by have := h.1; omega)
  injection e with e
  subst e
  have hq : j / 4 < s.length := by omega
  obtain ⟨c, _, hk, hcell⟩ := hc (j / 4) s[j / 4] (List.getElem?_eq_getElem hq)
  obtain rfl := k43_open hk
  have key : ∀ (s : List S43) (q r : Nat) (hq : q < s.length), r < 4 → (pcells s)[q * 4 + r]? = [Value.int .u8 s[q].f0, .int .u8 s[q].f1, .int .u8 s[q].f2, .int .u8 s[q].f3][r]? := by
    intro s
    induction s with
    | nil => intro q r hq; simp at hq
    | cons p s ih =>
      intro q r hq hr
      have e : pcells (p :: s) = [Value.int .u8 p.f0, .int .u8 p.f1, .int .u8 p.f2, .int .u8 p.f3] ++ pcells s := rfl
      cases q with
      | zero => rw [e, List.getElem?_append_left (by simp; omega)]; simp
      | succ q =>
        rw [e, List.getElem?_append_right (by simp; omega)]
        have := ih q r (by simpa using hq) hr
        simp only [List.length_cons, List.length_nil, List.getElem_cons_succ]
        rw [← this]
        congr 1
        omega
  have e2 := key s (j / 4) (j % 4) hq (Nat.mod_lt _ (by decide))
  have ej : j / 4 * 4 + j % 4 = j := by omega
  rw [ej, hj] at e2
  have := hcell (j % 4) v e2.symm
  rw [show k43.sz = 4 from rfl, ej] at this
  exact this
theorem R_over {W : World} {g base n cap : Nat} : ∀ (s : List S43) (l : List S43) (lo : Nat) (W : World), Kd.R k43 43 W base (fun _ => True) (.slice (some ⟨g, 0, none⟩) n cap) l → lo + s.length ≤ n →
    Kd.R k43 43 (W.setCells g (lo * 4) (pcells s)) base (fun _ => True) (.slice (some ⟨g, 0, none⟩) n cap) (over l lo s) ∧ W.grownBy (W.setCells g (lo * 4) (pcells s)) (some g)
  | [], l, lo, W, h, _ => ⟨by unfold over; simpa [pcells, World.setCells] using h, World.grownBy.refl W _⟩
  | p :: s, l, lo, W, h, hl => by
    have hn := (Kd.R_reads' h).1
    simp only [List.length_cons] at hl
    obtain ⟨c, hcl, hM, hcc, hfr⟩ := Kd.R_elem h z43 (lo : Int) (by omega) (by omega)
    have h1 := Kd.R_seg h (lo : Int) (by omega) (by omega) (seg := [.int .u8 p.f0, .int .u8 p.f1, .int .u8 p.f2, .int .u8 p.f3]) (j := 0) hcl hcc (show 0 + 4 ≤ 4 from by decide) (x' := p) (okp := fun k => True ∧ k ≠ g) (by rw [List.drop_eq_nil_of_le (by rw [hcl]; exact Nat.le_refl _)]; exact k43_mkM _ _ _ p) (fun _ hk => hk)
    simp only [Int.toNat_natCast, Nat.add_zero] at h1
    have h2 := R_over (W := W) s (l.set lo p) (lo + 1) _ h1.1 (by omega)
    have e : W.setCells g (lo * 4) (pcells (p :: s)) = (W.setCells g (lo * 4) [.int .u8 p.f0, .int .u8 p.f1, .int .u8 p.f2, .int .u8 p.f3]).setCells g ((lo + 1) * 4) (pcells s) := by
      rw [Nat.succ_mul]
      rfl
    rw [e]
    have e2 : over (l.set lo p) (lo + 1) s = over l lo (p :: s) := by
      unfold over
      have hlt : lo < l.length := by omega
      rw [List.length_cons, List.drop_set_of_lt (by omega), List.take_succ_eq_append_getElem (by simpa using hlt), List.take_set_of_le (by omega)]
      simp [Nat.add_assoc, Nat.add_comm 1]
    rw [e2] at h2
    exact ⟨h2.1, h1.2.trans h2.2⟩
theorem copy_run {W : World} {ty : TypeId} {g lo dLen dCap sLen sCap base n cap : Nat} {sa : Addr} {l sr : List S43} (hR : Kd.R k43 43 W base (fun _ => True) (.slice (some ⟨g, 0, none⟩) n cap) l) (hC : ∀ j v, (pcells sr)[j]? = some v → W.cell? (sa.add j) = some v) (hn : sr.length = Nat.min sLen dLen) (hfit : lo + sr.length ≤ n) :
    (Builtin.copy_ #[25, 25] ty #[.slice (some ⟨g, lo * 4, none⟩) dLen dCap, .slice (some sa) sLen sCap]).run Try.prog W = .ok (goInt sr.length) (W.setCells g (lo * 4) (pcells sr)) := by
  have hl := run_loadCells_list (P := Try.prog) W sa (pcells sr) hC
  rw [pcells_length] at hl
  have hnl := (Kd.R_reads' hR).1
  have hcell : ∀ j, j < (pcells sr).length → (W.cell? ⟨g, lo * 4 + 0 + j, none⟩).isSome = true ∧ W.frozen? ⟨g, lo * 4 + 0 + j, none⟩ = false := by
    intro j hj
    rw [pcells_length] at hj
    obtain ⟨c, hcl, _, hcc, hfr⟩ := Kd.R_elem hR z43 ((lo + j / 4 : Nat) : Int) (by omega) (by omega)
    simp only [Int.toNat_natCast, show k43.sz = 4 from rfl] at hcc hfr hcl
    have e : lo * 4 + 0 + j = (lo + j / 4) * 4 + j % 4 := by omega
    rw [e]
    exact ⟨by rw [hcc (j % 4) _ (List.getElem?_eq_getElem (by omega))]; rfl, hfr (j % 4)⟩
  have hst := run_storeCells_cells (P := Try.prog) g (lo * 4) (pcells sr) 0 W (fun j hj => (hcell j hj).1) (fun j hj => (hcell j hj).2) (pcells_one sr)
  have hi := info43
  cases hq : Try.prog.info? 43 with
  | none => rw [hq] at hi; cases hi
  | some i =>
    rw [hq] at hi
    simp only [Option.map_some, Option.some.injEq, Prod.mk.injEq] at hi
    simp [Builtin.copy_, run_underlying Try.underlying25, Builtin.lenOf, Builtin.firstCells, sizeOf, typeInfo, hq, hi, ← hn, hl, hst]
theorem copyR {ops : Array Oper} {rest : List Oper} {o : Oper} {a : Act} {Q : Exit → Act → World → Prop} {W : World} (hgd : o.guard = none) (d s : Operand) (ho : o.op = .call { callee := .builtin .copy, args := #[d, s], argTypes := #[25, 25] })
    {g lo dLen dCap sLen sCap base n cap : Nat} {sa : Addr} {l sr : List S43} (hd : a.eval d = .slice (some ⟨g, lo * 4, none⟩) dLen dCap) (hs : a.eval s = .slice (some sa) sLen sCap)
    (hR : Kd.R k43 43 W base (fun _ => True) (.slice (some ⟨g, 0, none⟩) n cap) l) (hC : ∀ j v, (pcells sr)[j]? = some v → W.cell? (sa.add j) = some v) (hn : sr.length = Nat.min sLen dLen) (hfit : lo + sr.length ≤ n)
    (h : ∀ w', Kd.R k43 43 w' base (fun _ => True) (.slice (some ⟨g, 0, none⟩) n cap) (over l lo sr) → W.grownBy w' (some g) → wpList Try.prog ops Q rest (a.put o.dst (goInt sr.length)) w') : wpList Try.prog ops Q (o :: rest) a W := by
  refine wpList_plain hgd fun K hK => ?_
  have hrun := copy_run (ty := o.type) (dCap := dCap) (sCap := sCap) hR hC hn hfit
  unfold Oper.wp
  simp [execOp, ho, resolve, invoke, builtin, hd, hs, hrun, Result.andThen]
  exact hK _ _ (h _ (R_over (W := W) sr l lo W hR hfit).1 (R_over (W := W) sr l lo W hR hfit).2)
theorem goesV_ {P : Program} {ops : Array Oper} {Q : Exit → Act → World → Prop} {oi : Oper} {N : Option Tmp} {a : Act} {w : World} {K : Act → World → Prop} {f : FuncId} {fn : Func} {t : Tmp} {ars : Array Operand} {ts : Array TypeId} {caps : Array Value} (hf : P.funcs[f]? = some fn) (hname : (fn.name == "runtime.NumGoroutine") = false) (hb : fn.body.isSome = true) (args : Array Value)
    (hw : Region.wanted oi (yielded ops a.tmps) = true) (hN : oi.dst = N) (hop : oi.op = .call { callee := .value (.tmp t), args := ars, argTypes := ts }) (hv : a.eval (.tmp t) = .func (.func f) #[] caps) (hargs : ars.map a.eval ++ caps = args)
    (h : Calls P f args w fun e w' => ∃ v, e = .returned v ∧ K (a.put N v) w') : if Region.wanted oi (yielded ops a.tmps) = true then Oper.wp P oi a w K Q else K (a.put N undef) w := by
  refine call_ f args hw hN ?_ h
  have he := enters_ hf hname hb args w
  unfold execOp
  simp [hop, resolve, Deferred.ofValue, invoke, hv, hargs, he]
theorem midC {W : World} {ad : Addr} {l : List S43} {c lo n : Nat} (h : Kd.C k43 W (some ad) l.length l) (hn : 0 < n) (hle : lo + n ≤ l.length) (hc : l.length ≤ c) : Kd.C k43 W (some (ad.add (lo * 4))) n ((l.drop lo).take n) := by
  have q := Kd.C_mid (lo := lo) (hi := lo + n) h (by omega) hle hc
  rw [if_neg (by omega), List.drop_take, Nat.add_sub_cancel_left] at q
  have e : ((l.drop lo).take n).length = n := by rw [List.length_take, List.length_drop]; omega
  rw [e] at q
  exact q
end
end Go.Proofs.Ytmockeaiccpogaa.All
end
section
namespace Go.Proofs.Ytmockeaiccpogaa.All
open Go.Proofs.YtmockeaiccpogaaSq
open Go.RowKit Go.Proofs.YtmockeaiccpogaaW.PrintWords Go.Proofs.YtmockeaiccpogaaW.PrintLast Go.Proofs.YtmockeaiccpogaaW.PrintMore
attribute [local go_sem] max2_int min2_int max_two min_two max_three min_three max_four min_four
set_option linter.unusedVariables false
set_option linter.unusedSimpArgs false
section
open Go.Proofs.YtmockeaiccpogaaHand Go.Proofs.YtmockeaiccpogaaSq
def buffer_Crop.rows (l : List S43) (W x0 y0 n k : Nat) : List S43 := (List.range k).flatMap fun j => (l.drop ((y0 + j) * W + x0)).take n
theorem buffer_Crop.rows_succ (l : List S43) (W x0 y0 n k : Nat) : buffer_Crop.rows l W x0 y0 n (k + 1) = buffer_Crop.rows l W x0 y0 n k ++ (l.drop ((y0 + k) * W + x0)).take n := by
  unfold buffer_Crop.rows
  rw [List.range_succ, List.flatMap_append]
  simp
def buffer_Crop.f (a0_0 a0_1 : Int) (l : List S43) (r0 r1 r2 r3 : Int) : Option (Int × Int × List S43 × Int) :=
  (buffer_Valid.f a0_0 a0_1 l).bind fun s1 => if s1 = true then (rect_Empty.f r0 r1 r2 r3).bind fun s2 => if s2 = true then some (0, 0, [], 6) else (rect_Within.f r0 r1 r2 r3 0 0 a0_0 a0_1).bind fun s3 => if s3 = true then (if (0 ≤ r0 ∧ r0 < r2 ∧ r2 ≤ a0_0) ∧ (0 ≤ r1 ∧ r1 < r3 ∧ r3 ≤ a0_1) then some (r2 - r0, r3 - r1, buffer_Crop.rows l a0_0.toNat r0.toNat r1.toNat (r2 - r0).toNat (r3 - r1).toNat, 0) else none) else some (0, 0, [], 6) else some (0, 0, [], 15)
theorem buffer_Crop.rows_le (l : List S43) (W x0 y0 n k : Nat) : (buffer_Crop.rows l W x0 y0 n k).length ≤ k * n := by
  induction k with
  | zero => simp [buffer_Crop.rows]
  | succ k ih =>
    rw [buffer_Crop.rows_succ, List.length_append, Nat.succ_mul]
    exact Nat.add_le_add ih (by rw [List.length_take]; exact Nat.min_le_left _ _)
theorem buffer_Crop.w64 {x : Int} (h : -9223372036854775808 ≤ x) (h' : x ≤ 9223372036854775807) : wrap64 x = x := by unfold wrap64; omega
theorem buffer_Crop.idx2 {p x0 n : Nat} (b1 : p + x0 + n ≤ 65536) : wrap64 (wrap64 (p : Int) + x0) = ((p + x0 : Nat) : Int) ∧ wrap64 (wrap64 (p : Int) + (x0 + n)) = ((p + x0 + n : Nat) : Int) := by
  have e1 : wrap64 (p : Int) = p := buffer_Crop.w64 (by omega) (by omega)
  have e2 : wrap64 ((p : Int) + x0) = p + x0 := buffer_Crop.w64 (by omega) (by omega)
  have e3 : wrap64 ((p : Int) + (x0 + n)) = p + (x0 + n) := buffer_Crop.w64 (by omega) (by omega)
  rw [e1, e2, e3]
  constructor <;> omega
theorem buffer_Crop.idx {a0_0 a0_1 a1_0 a1_1 a1_2 a1_3 : Int} {L : Nat} (hq : (0 ≤ a1_0 ∧ a1_0 < a1_2 ∧ a1_2 ≤ a0_0) ∧ (0 ≤ a1_1 ∧ a1_1 < a1_3 ∧ a1_3 ≤ a0_1)) (hW : 1 ≤ a0_0 ∧ a0_0 ≤ 256) (hH : 1 ≤ a0_1 ∧ a0_1 ≤ 256) (hl : (L : Int) = a0_0 * a0_1) {W x0 y0 n m k : Nat}
    (hN : x0 = a1_0.toNat ∧ y0 = a1_1.toNat ∧ n = (a1_2 - a1_0).toNat ∧ m = (a1_3 - a1_1).toNat ∧ W = a0_0.toNat) (hk : k < m) :
    wrap64 (wrap64 ((a1_1 + k) * a0_0) + a1_0) = (((y0 + k) * W + x0 : Nat) : Int) ∧ wrap64 (wrap64 ((a1_1 + k) * a0_0) + a1_2) = (((y0 + k) * W + x0 + n : Nat) : Int) ∧ (y0 + k) * W + x0 + n ≤ L ∧ L ≤ 65536 := by
  obtain ⟨e1, e2, e3, e4, e5⟩ := hN
  obtain ⟨H, eH⟩ : ∃ H : Nat, a0_1 = H := ⟨a0_1.toNat, by omega⟩
  have eW : a0_0 = W := by omega
  have f1 : a1_0 = x0 := by omega
  have f2 : a1_1 = y0 := by omega
  have f3 : a1_2 = x0 + n := by omega
  subst eH
  have hL : L = W * H := by rw [eW, ← Int.natCast_mul] at hl; exact Int.ofNat.inj hl
  have m1 : (y0 + k + 1) * W ≤ H * W := Nat.mul_le_mul_right W (by omega)
  have m2 : W * H ≤ 256 * 256 := Nat.mul_le_mul (by omega) (by omega)
  rw [Nat.mul_comm H W, Nat.succ_mul] at m1
  have ep : (a1_1 + k) * a0_0 = (((y0 + k) * W : Nat) : Int) := by rw [f2, eW, Int.natCast_mul, Int.natCast_add]
  rw [ep]
  clear ep hl
  generalize (y0 + k) * W = p at *
  generalize W * H = q at *
  have b1 : p + x0 + n ≤ 65536 := by omega
  have b2 : p + x0 + n ≤ L := by omega
  have b3 : L ≤ 65536 := by omega
  obtain ⟨g1, g2⟩ := buffer_Crop.idx2 b1
  rw [f1, f3]
  exact ⟨g1, g2, b2, b3⟩
theorem buffer_Crop.mid {W : World} {ad : Addr} {l : List S43} {c lo n : Nat} (h : Kd.C k43 W (some ad) l.length l) (hn : 0 < n) (hle : lo + n ≤ l.length) (hc : l.length ≤ c) : Kd.C k43 W (some (ad.add (lo * 4))) n ((l.drop lo).take n) := by
  have q := Kd.C_mid (lo := lo) (hi := lo + n) h (by omega) hle hc
  rw [if_neg (by omega), List.drop_take, Nat.add_sub_cancel_left] at q
  have e : ((l.drop lo).take n).length = n := by rw [List.length_take, List.length_drop]; omega
  rw [e] at q
  exact q
def buffer_Crop.St (w : World) (a0_0 a0_1 : Int) (A0_2 : Option Addr) (c0_2 : Nat) (l0_2 : List S43) (a1_0 a1_1 a1_2 a1_3 : Int) (W : World) : Prop :=
  W.heap[w.heap.size]? = some (.cells #[.int .i64 a0_0, .int .i64 a0_1, .slice A0_2 l0_2.length c0_2] 27 (0, 0)) ∧ W.heap[w.heap.size + 1]? = some (.cells #[.int .i64 a1_0, .int .i64 a1_1, .int .i64 a1_2, .int .i64 a1_3] 47 (0, 0)) ∧ W.heap[w.heap.size + 1 + 1]? = some (.cells #[.int .i64 0, .int .i64 0, .slice none 0 0] 27 (0, 0)) ∧ Below w.heap.size w W
theorem buffer_Crop.St.below {w : World} {a0_0 a0_1 : Int} {A0_2 : Option Addr} {c0_2 : Nat} {l0_2 : List S43} {a1_0 a1_1 a1_2 a1_3 : Int} {W W2 : World} (h : Aside0 (buffer_Crop.St w a0_0 a0_1 A0_2 c0_2 l0_2 a1_0 a1_1 a1_2 a1_3 W)) (hb : Below W.heap.size W W2) : Aside0 (buffer_Crop.St w a0_0 a0_1 A0_2 c0_2 l0_2 a1_0 a1_1 a1_2 a1_3 W2) :=
  ⟨blk_below h.out.1 hb, blk_below h.out.2.1 hb, blk_below h.out.2.2.1 hb, below_step h.out.2.2.2 hb⟩
theorem buffer_Crop.St.cells {w : World} {a0_0 a0_1 : Int} {A0_2 : Option Addr} {c0_2 : Nat} {l0_2 : List S43} {a1_0 a1_1 a1_2 a1_3 : Int} {W : World} (h : Aside0 (buffer_Crop.St w a0_0 a0_1 A0_2 c0_2 l0_2 a1_0 a1_1 a1_2 a1_3 W)) :
    W.cell? ⟨w.heap.size, 0, none⟩ = some (.int .i64 a0_0) ∧ W.cell? ⟨w.heap.size, 1, none⟩ = some (.int .i64 a0_1) ∧ W.cell? ⟨w.heap.size, 2, none⟩ = some (.slice A0_2 l0_2.length c0_2) ∧ W.cell? ⟨w.heap.size + 1, 0, none⟩ = some (.int .i64 a1_0) ∧ W.cell? ⟨w.heap.size + 1, 1, none⟩ = some (.int .i64 a1_1) ∧ W.cell? ⟨w.heap.size + 1, 2, none⟩ = some (.int .i64 a1_2) ∧ W.cell? ⟨w.heap.size + 1, 3, none⟩ = some (.int .i64 a1_3) :=
  ⟨(blk_cell h.out.1 0).trans rfl, (blk_cell h.out.1 1).trans rfl, (blk_cell h.out.1 2).trans rfl, (blk_cell h.out.2.1 0).trans rfl, (blk_cell h.out.2.1 1).trans rfl, (blk_cell h.out.2.1 2).trans rfl, (blk_cell h.out.2.1 3).trans rfl⟩
theorem buffer_Crop.St.zero {w : World} {a0_0 a0_1 : Int} {A0_2 : Option Addr} {c0_2 : Nat} {l0_2 : List S43} {a1_0 a1_1 a1_2 a1_3 : Int} {W : World} (h : Aside0 (buffer_Crop.St w a0_0 a0_1 A0_2 c0_2 l0_2 a1_0 a1_1 a1_2 a1_3 W)) :
    (W.cell? ⟨w.heap.size + 1 + 1, 0, none⟩ = some (.int .i64 0) ∧ W.cell? ⟨w.heap.size + 1 + 1, 1, none⟩ = some (.int .i64 0) ∧ W.cell? ⟨w.heap.size + 1 + 1, 2, none⟩ = some (.slice none 0 0)) ∧ W.frozen? ⟨w.heap.size + 1 + 1, 0, none⟩ = false ∧ W.frozen? ⟨w.heap.size + 1 + 1, 1, none⟩ = false ∧ W.frozen? ⟨w.heap.size + 1 + 1, 2, none⟩ = false :=
  ⟨⟨(blk_cell h.out.2.2.1 0).trans rfl, (blk_cell h.out.2.2.1 1).trans rfl, (blk_cell h.out.2.2.1 2).trans rfl⟩, blk_frozen h.out.2.2.1 0, blk_frozen h.out.2.2.1 1, blk_frozen h.out.2.2.1 2⟩
theorem buffer_Crop.St.set {w : World} {a0_0 a0_1 : Int} {A0_2 : Option Addr} {c0_2 : Nat} {l0_2 : List S43} {a1_0 a1_1 a1_2 a1_3 : Int} {W : World} (h : Aside0 (buffer_Crop.St w a0_0 a0_1 A0_2 c0_2 l0_2 a1_0 a1_1 a1_2 a1_3 W)) {g : Nat} (hg : w.heap.size + 1 + 1 < g) (j : Nat) (v : Value) : Aside0 (buffer_Crop.St w a0_0 a0_1 A0_2 c0_2 l0_2 a1_0 a1_1 a1_2 a1_3 (W.setCell ⟨g, j, none⟩ v)) :=
  ⟨blk_far h.out.1 (p := ⟨g, j, none⟩) (by simp only; omega) _, blk_far h.out.2.1 (p := ⟨g, j, none⟩) (by simp only; omega) _, blk_far h.out.2.2.1 (p := ⟨g, j, none⟩) (by simp only; omega) _, below_set h.out.2.2.2 (by omega)⟩
theorem buffer_Crop.St.grown {w : World} {a0_0 a0_1 : Int} {A0_2 : Option Addr} {c0_2 : Nat} {l0_2 : List S43} {a1_0 a1_1 a1_2 a1_3 : Int} {W W2 : World} (h : Aside0 (buffer_Crop.St w a0_0 a0_1 A0_2 c0_2 l0_2 a1_0 a1_1 a1_2 a1_3 W)) {base : Nat} {ok : Nat → Prop} {v : Value} {xs : List S43} (hu : Kd.R k43 43 W base ok v xs) (hg : W.grownBy W2 v.ownBlock) (hb : Below w.heap.size w W2) : Aside0 (buffer_Crop.St w a0_0 a0_1 A0_2 c0_2 l0_2 a1_0 a1_1 a1_2 a1_3 W2) :=
  ⟨blk_grown h.out.1 hg (Kd.R_ne hu h.out.1 (by decide)), blk_grown h.out.2.1 hg (Kd.R_ne hu h.out.2.1 (by decide)), blk_grown h.out.2.2.1 hg (Kd.R_ne hu h.out.2.2.1 (by decide)), hb⟩
theorem buffer_Crop.oc {w : World} {a0_0 a0_1 : Int} {A0_2 : Option Addr} {c0_2 : Nat} {l0_2 : List S43} {a1_0 a1_1 a1_2 a1_3 : Int} {W : World} (h : Aside0 (buffer_Crop.St w a0_0 a0_1 A0_2 c0_2 l0_2 a1_0 a1_1 a1_2 a1_3 W)) {g6 : Nat} {n m : Int} {u : Value} (hO : Aside0 (W.heap[g6]? = some (.cells #[.int .i64 n, .int .i64 m, u] 27 (0, 0)))) :
    W.cell? ⟨w.heap.size, 0, none⟩ = some (.int .i64 a0_0) ∧ W.cell? ⟨w.heap.size, 1, none⟩ = some (.int .i64 a0_1) ∧ W.cell? ⟨w.heap.size, 2, none⟩ = some (.slice A0_2 l0_2.length c0_2) ∧ W.cell? ⟨w.heap.size + 1, 0, none⟩ = some (.int .i64 a1_0) ∧ W.cell? ⟨w.heap.size + 1, 1, none⟩ = some (.int .i64 a1_1) ∧ W.cell? ⟨w.heap.size + 1, 2, none⟩ = some (.int .i64 a1_2) ∧ W.cell? ⟨w.heap.size + 1, 3, none⟩ = some (.int .i64 a1_3) ∧ W.cell? ⟨g6, 2, none⟩ = some u :=
  ⟨(blk_cell h.out.1 0).trans rfl, (blk_cell h.out.1 1).trans rfl, (blk_cell h.out.1 2).trans rfl, (blk_cell h.out.2.1 0).trans rfl, (blk_cell h.out.2.1 1).trans rfl, (blk_cell h.out.2.1 2).trans rfl, (blk_cell h.out.2.1 3).trans rfl, (blk_cell hO.out 2).trans rfl⟩
set_option maxHeartbeats 4000000 in
theorem buffer_Crop.calls (a0_0 a0_1 : Int) (A0_2 : Option Addr) (c0_2 : Nat) (l0_2 : List S43) (a1_0 a1_1 a1_2 a1_3 : Int) (r1 r2 : Int) (r3 : List S43) (r4 : Int) (w : World) (hr0_2 : Kd.C k43 w A0_2 l0_2.length l0_2) (hc0_2 : l0_2.length ≤ c0_2) (h : buffer_Crop.f a0_0 a0_1 l0_2 a1_0 a1_1 a1_2 a1_3 = some (r1, r2, r3, r4)) :
    Calls Try.prog 30 #[.agg #[.int .i64 a0_0, .int .i64 a0_1, .slice A0_2 l0_2.length c0_2], .agg #[.int .i64 a1_0, .int .i64 a1_1, .int .i64 a1_2, .int .i64 a1_3]] w fun e w' => ∃ v2_ : Value, e = .returned (.tuple #[.agg #[.int .i64 r1, .int .i64 r2, v2_], .int .i64 r4]) ∧ Kd.R k43 43 w' w.heap.size (fun _ => True) v2_ r3 ∧ Below w.heap.size w w' := by
  replace h := Option.bind_eq_some_iff.mp h
  obtain ⟨s1, hs1, h⟩ := h
  have hs := Aside0.mk hs1
  clear hs1
  go_enter Try.func30, Try.ntmps30
  go_wp2_with fail
  obtain ⟨hA0, hB0, hC0, hD0⟩ := allocs3 w (Obj.cells #[.int .i64 a0_0, .int .i64 a0_1, .slice A0_2 l0_2.length c0_2] 27) (Obj.cells #[.int .i64 a1_0, .int .i64 a1_1, .int .i64 a1_2, .int .i64 a1_3] 47) (Obj.cells #[.int .i64 0, .int .i64 0, .slice none 0 0] 27)
  generalize ((w.alloc (Obj.cells #[.int .i64 a0_0, .int .i64 a0_1, .slice A0_2 l0_2.length c0_2] 27)).alloc (Obj.cells #[.int .i64 a1_0, .int .i64 a1_1, .int .i64 a1_2, .int .i64 a1_3] 47)).alloc (Obj.cells #[.int .i64 0, .int .i64 0, .slice none 0 0] 27) = V at hA0 hB0 hC0 hD0 ⊢
  have hS : Aside0 (buffer_Crop.St w a0_0 a0_1 A0_2 c0_2 l0_2 a1_0 a1_1 a1_2 a1_3 V) := ⟨hA0, hB0, hC0, hD0⟩
  have hR := Aside0.mk hr0_2
  clear hA0 hB0 hC0 hD0 hr0_2
  refine (buffer_Valid.calls a0_0 a0_1 A0_2 c0_2 l0_2 s1 V (Kd.C_below hR.out hS.out.2.2.2) hc0_2 hs.out).mono ?_
  rintro e w1 ⟨rfl, hb1⟩
  replace hS := buffer_Crop.St.below hS hb1
  clear hb1
  cases s1 with
  | false =>
    obtain ⟨rfl, rfl, rfl, rfl⟩ : 0 = r1 ∧ 0 = r2 ∧ [] = r3 ∧ 15 = r4 := by simpa using h
    clear h
    obtain ⟨⟨z0, z1, z2⟩, f0, f1, f2⟩ := buffer_Crop.St.zero hS
    go_wp2
    refine bodyPost_ret (results_ct rfl _ _ (w.heap.size + 1 + 1) 27 #[.int .i64 0, .int .i64 0, .slice none 0 0] (0, 0) _ rfl (retBuf hS.out.2.2.1 0 0 _) Try.underlying27 rfl (by kernel_rfl)) rfl ⟨_, rfl, Kd.R_nil _ _ _ _ _, below_set (below_set (below_set hS.out.2.2.2 (by omega)) (by omega)) (by omega)⟩
  | true =>
    rw [if_pos rfl] at h
    replace h := Option.bind_eq_some_iff.mp h
    obtain ⟨s2, hs2, h⟩ := h
    have hs' := Aside0.mk hs2
    clear hs2
    try go_wp2_with fail
    replace hS : Aside0 (buffer_Crop.St w a0_0 a0_1 A0_2 c0_2 l0_2 a1_0 a1_1 a1_2 a1_3 w1.drew) := buffer_Crop.St.below hS (below_drew (Below.refl _ _))
    cases s2 with
    | true =>
      obtain ⟨rfl, rfl, rfl, rfl⟩ : 0 = r1 ∧ 0 = r2 ∧ [] = r3 ∧ 6 = r4 := by simpa using h
      clear h
      refine start_ (n := 10) (S := fun w' => w'.cell? ⟨w.heap.size, 0, none⟩ = some (.int .i64 a0_0) ∧ w'.cell? ⟨w.heap.size, 1, none⟩ = some (.int .i64 a0_1) ∧ w'.cell? ⟨w.heap.size, 2, none⟩ = some (.slice A0_2 l0_2.length c0_2) ∧ w'.cell? ⟨w.heap.size + 1, 0, none⟩ = some (.int .i64 a1_0) ∧ w'.cell? ⟨w.heap.size + 1, 1, none⟩ = some (.int .i64 a1_1) ∧ w'.cell? ⟨w.heap.size + 1, 2, none⟩ = some (.int .i64 a1_2) ∧ w'.cell? ⟨w.heap.size + 1, 3, none⟩ = some (.int .i64 a1_3)) (ds := []) #[false, false, false, false, false, false, false, false, false, false] (by kernel_rfl) rfl rfl (buffer_Crop.St.cells hS) (fun hHeld => ?_)
      have HT_ : Aside0 (rtab .any (opsOf Try.f30 3) = rtab .any (opsOf Try.f30 3)) := ⟨rfl⟩
      refine take_ (i := 0) (N := some 14) (v := ?_) (a' := ?_) #[true, false, false, false, false, false, false, false, false, false] rfl rfl (take_of HT_.out (by kernel_rfl)) (fun _ _ _ h => h) (Or.inl ⟨by rfl, ?_⟩) hHeld ?_ ?_
      rotate_left
      · rintro w' ⟨s0, s1, s2, s3, s4, s5, s6⟩
        go_simp
        with_reducible rfl
      rotate_left
      · simp only [Act.put, List.setIfInBounds_toArray, List.set_cons_zero, List.set_cons_succ, i64_w, i32_w]
        rfl
      refine one_ (i := 1) (N := some 15) #[true, true, false, false, false, false, false, false, false, false] rfl rfl (one_of HT_.out (by kernel_rfl)) (by decide) (fun K hK => ?_)
      refine goes_ Try.func55 (by kernel_rfl) rfl #[.agg #[.int .i64 a1_0, .int .i64 a1_1, .int .i64 a1_2, .int .i64 a1_3]] (by rfl) rfl rfl (by (try simp only [List.map_toArray, List.map_cons, List.map_nil]); first | done | rfl) ?_
      refine (rect_Empty.calls a1_0 a1_1 a1_2 a1_3 true _ hs'.out).mono ?_
      rintro e w2 ⟨rfl, hb1⟩
      refine ⟨_, rfl, ?_⟩
      replace hS := buffer_Crop.St.below hS hb1
      clear hb1
      refine hK.out _ _ (buffer_Crop.St.cells hS) (fun hHeld => ?_)
      clear hK K
      refine norm_ (a' := ?_) ?_ ?_
      rotate_left
      · show Act.put _ (some 15) _ = _
        simp only [Act.put, List.setIfInBounds_toArray, List.set_cons_zero, List.set_cons_succ, i64_w, i32_w]
        rfl
      refine pv_ 2 16 #[true, true, true, false, false, false, false, false, false, false] HT_ ?_
      refine pu_ 3 17 #[true, true, true, true, false, false, false, false, false, false] HT_ ?_
      refine pu_ 4 18 #[true, true, true, true, true, false, false, false, false, false] HT_ ?_
      refine pu_ 5 19 #[true, true, true, true, true, true, false, false, false, false] HT_ ?_
      refine pu_ 6 20 #[true, true, true, true, true, true, true, false, false, false] HT_ ?_
      refine pu_ 7 21 #[true, true, true, true, true, true, true, true, false, false] HT_ ?_
      refine pv_ 8 22 #[true, true, true, true, true, true, true, true, true, false] HT_ ?_
      refine pv_ 9 13 #[true, true, true, true, true, true, true, true, true, true] HT_ ?_
      refine done_ (done_of HT_.out (by kernel_rfl)) ?_
      obtain ⟨⟨z0, z1, z2⟩, f0, f1, f2⟩ := buffer_Crop.St.zero hS
      go_wp2
      refine bodyPost_ret (results_ct rfl _ _ (w.heap.size + 1 + 1) 27 #[.int .i64 0, .int .i64 0, .slice none 0 0] (0, 0) _ rfl (retBuf hS.out.2.2.1 0 0 _) Try.underlying27 rfl (by kernel_rfl)) rfl ⟨_, rfl, Kd.R_nil _ _ _ _ _, below_set (below_set (below_set hS.out.2.2.2 (by omega)) (by omega)) (by omega)⟩
    | false =>
      rw [if_neg (by simp)] at h
      replace h := Option.bind_eq_some_iff.mp h
      obtain ⟨s3, hs3, h⟩ := h
      have hs2' := Aside0.mk hs3
      clear hs3
      cases s3 with
      | false =>
        obtain ⟨rfl, rfl, rfl, rfl⟩ : 0 = r1 ∧ 0 = r2 ∧ [] = r3 ∧ 6 = r4 := by simpa using h
        clear h
        first | (go_region_held3 (fun w' => w'.cell? ⟨w.heap.size, 0, none⟩ = some (.int .i64 a0_0) ∧ w'.cell? ⟨w.heap.size, 1, none⟩ = some (.int .i64 a0_1) ∧ w'.cell? ⟨w.heap.size, 2, none⟩ = some (.slice A0_2 l0_2.length c0_2) ∧ w'.cell? ⟨w.heap.size + 1, 0, none⟩ = some (.int .i64 a1_0) ∧ w'.cell? ⟨w.heap.size + 1, 1, none⟩ = some (.int .i64 a1_1) ∧ w'.cell? ⟨w.heap.size + 1, 2, none⟩ = some (.int .i64 a1_2) ∧ w'.cell? ⟨w.heap.size + 1, 3, none⟩ = some (.int .i64 a1_3)) (exact buffer_Crop.St.cells hS) (first | (go_at_call 55; refine (rect_Empty.calls a1_0 a1_1 a1_2 a1_3 false _ hs'.out).mono ?_; rintro e w2 ⟨rfl, hb1⟩; replace hS := buffer_Crop.St.below hS hb1; clear hb1) | (go_at_call 43; refine (buffer_frame.calls a0_0 a0_1 A0_2 c0_2 l0_2 0 0 a0_0 a0_1 _ (Kd.C_below hR.out hS.out.2.2.2) hc0_2 rfl).mono ?_; rintro e w2 ⟨rfl, hb1⟩; replace hS := buffer_Crop.St.below hS hb1; clear hb1) | (go_at_call 56; refine (rect_Within.calls a1_0 a1_1 a1_2 a1_3 0 0 a0_0 a0_1 false _ hs2'.out).mono ?_; rintro e w2 ⟨rfl, hb1⟩; replace hS := buffer_Crop.St.below hS hb1; clear hb1))) | fail
        obtain ⟨⟨z0, z1, z2⟩, f0, f1, f2⟩ := buffer_Crop.St.zero hS
        go_wp2
        refine bodyPost_ret (results_ct rfl _ _ (w.heap.size + 1 + 1) 27 #[.int .i64 0, .int .i64 0, .slice none 0 0] (0, 0) _ rfl (retBuf hS.out.2.2.1 0 0 _) Try.underlying27 rfl (by kernel_rfl)) rfl ⟨_, rfl, Kd.R_nil _ _ _ _ _, below_set (below_set (below_set hS.out.2.2.2 (by omega)) (by omega)) (by omega)⟩
      | true =>
        rw [if_pos rfl] at h
        by_cases hq : (0 ≤ a1_0 ∧ a1_0 < a1_2 ∧ a1_2 ≤ a0_0) ∧ (0 ≤ a1_1 ∧ a1_1 < a1_3 ∧ a1_3 ≤ a0_1)
        · rw [if_pos hq] at h
          obtain ⟨rfl, rfl, rfl, rfl⟩ : a1_2 - a1_0 = r1 ∧ a1_3 - a1_1 = r2 ∧ buffer_Crop.rows l0_2 a0_0.toNat a1_0.toNat a1_1.toNat (a1_2 - a1_0).toNat (a1_3 - a1_1).toNat = r3 ∧ 0 = r4 := by simpa using h
          clear h
          first | (go_region_held3 (fun w' => w'.cell? ⟨w.heap.size, 0, none⟩ = some (.int .i64 a0_0) ∧ w'.cell? ⟨w.heap.size, 1, none⟩ = some (.int .i64 a0_1) ∧ w'.cell? ⟨w.heap.size, 2, none⟩ = some (.slice A0_2 l0_2.length c0_2) ∧ w'.cell? ⟨w.heap.size + 1, 0, none⟩ = some (.int .i64 a1_0) ∧ w'.cell? ⟨w.heap.size + 1, 1, none⟩ = some (.int .i64 a1_1) ∧ w'.cell? ⟨w.heap.size + 1, 2, none⟩ = some (.int .i64 a1_2) ∧ w'.cell? ⟨w.heap.size + 1, 3, none⟩ = some (.int .i64 a1_3)) (exact buffer_Crop.St.cells hS) (first | (go_at_call 55; refine (rect_Empty.calls a1_0 a1_1 a1_2 a1_3 false _ hs'.out).mono ?_; rintro e w2 ⟨rfl, hb1⟩; replace hS := buffer_Crop.St.below hS hb1; clear hb1) | (go_at_call 43; refine (buffer_frame.calls a0_0 a0_1 A0_2 c0_2 l0_2 0 0 a0_0 a0_1 _ (Kd.C_below hR.out hS.out.2.2.2) hc0_2 rfl).mono ?_; rintro e w2 ⟨rfl, hb1⟩; replace hS := buffer_Crop.St.below hS hb1; clear hb1) | (go_at_call 56; refine (rect_Within.calls a1_0 a1_1 a1_2 a1_3 0 0 a0_0 a0_1 true _ hs2'.out).mono ?_; rintro e w2 ⟨rfl, hb1⟩; replace hS := buffer_Crop.St.below hS hb1; clear hb1))) | fail
          obtain ⟨hW, hH, hl⟩ := buffer_Valid.of_valid hs.out
          have hpos : 0 < l0_2.length := by
            have := Int.mul_pos (show 0 < a0_0 by omega) (show 0 < a0_1 by omega)
            omega
          obtain ⟨ad, eA, _⟩ := hR.out.2.2 hpos
          subst eA
          have ew1 : wrap64 (a1_2 - a1_0) = a1_2 - a1_0 := by unfold wrap64; omega
          have ew2 : wrap64 (a1_3 - a1_1) = a1_3 - a1_1 := by unfold wrap64; omega
          obtain ⟨b0, b1, b2, c0, c1, c2, c3⟩ := buffer_Crop.St.cells hS
          have hS2 := buffer_Crop.St.below hS (below_alloc (Below.refl w2.heap.size w2) (Obj.cells #[Value.int IntKind.i64 (a1_2 - a1_0), Value.int IntKind.i64 (a1_3 - a1_1), Value.slice none 0 0] 27))
          obtain ⟨_, _, _, _, d1, _, d3⟩ := buffer_Crop.St.cells hS2
          have hq' := Aside0.mk hq
          have hW' := Aside0.mk hW
          have hH' := Aside0.mk hH
          have hl' := Aside0.mk hl
          obtain ⟨x0, hx0⟩ : ∃ x0, x0 = a1_0.toNat := ⟨_, rfl⟩
          obtain ⟨y0, hy0⟩ : ∃ y0, y0 = a1_1.toNat := ⟨_, rfl⟩
          obtain ⟨n, hn⟩ : ∃ n, n = (a1_2 - a1_0).toNat := ⟨_, rfl⟩
          obtain ⟨m, hm⟩ : ∃ m, m = (a1_3 - a1_1).toNat := ⟨_, rfl⟩
          obtain ⟨W, hWn⟩ : ∃ W, W = a0_0.toNat := ⟨_, rfl⟩
          have hN := Aside0.mk (And.intro hx0 (And.intro hy0 (And.intro hn (And.intro hm hWn))))
          clear hx0 hy0 hn hm hWn hq hW hH hl
          go_wp2_with fail
          clear b0 b1 b2 c0 c1 c2 c3 d1 d3
          have hO0 := blk_new w2 (Obj.cells #[Value.int IntKind.i64 (a1_2 - a1_0), Value.int IntKind.i64 (a1_3 - a1_1), Value.slice none 0 0] 27)
          have hg6 : w.heap.size + 1 + 1 < w2.heap.size := blk_lt hS.out.2.2.1
          generalize hV : w2.alloc (Obj.cells #[Value.int IntKind.i64 (a1_2 - a1_0), Value.int IntKind.i64 (a1_3 - a1_1), Value.slice none 0 0] 27) = V2 at hO0 hS2 ⊢
          clear hV hS
          generalize w2.heap.size = g6 at hO0 hg6 ⊢
          have hO := Aside0.mk hO0
          have hG := Aside0.mk hg6
          clear hO0 hg6
          go_loopw [7] (fun v w' => ∃ (k : Nat) (u : Value), k ≤ m ∧ v = .int .i64 (a1_1 + k) ∧ Aside0 (Kd.R k43 43 w' w.heap.size (fun _ => True) u (buffer_Crop.rows l0_2 W x0 y0 n k)) ∧ Aside0 (w'.heap[g6]? = some (.cells #[.int .i64 (a1_2 - a1_0), .int .i64 (a1_3 - a1_1), u] 27 (0, 0))) ∧ Aside0 (buffer_Crop.St w a0_0 a0_1 (some ad) c0_2 l0_2 a1_0 a1_1 a1_2 a1_3 w')) (fun v _ => (a1_3 - intOf v).toNat)
          case atStart => exact ⟨0, .slice none 0 0, Nat.zero_le _, by simp, ⟨Kd.R_nil _ _ _ _ _⟩, hO, hS2⟩
          case round =>
            clear hO hS2
            obtain ⟨k, u, hk, rfl, hu, hO, hS⟩ := hrel
            obtain ⟨b0, b1, b2, c0, c1, c2, c3⟩ := buffer_Crop.St.cells hS
            have hm3 : a1_3 = a1_1 + m := by have := hN.out; have := hq'.out; omega
            by_cases hlt : k < m
            · have hlt' : (a1_1 + k) < a1_3 := by omega
              obtain ⟨hlo0, hhi0, hhl0, hL0⟩ := buffer_Crop.idx hq'.out hW'.out hH'.out hl'.out hN.out hlt
              have hlo := Aside0.mk hlo0
              have hhi := Aside0.mk hhi0
              have hhl := Aside0.mk hhl0
              clear hlo0 hhi0 hhl0
              obtain ⟨lo, elo⟩ : ∃ lo, lo = (y0 + k) * W + x0 := ⟨_, rfl⟩
              obtain ⟨hi, ehi⟩ : ∃ hi, hi = lo + n := ⟨_, rfl⟩
              have hrs : Aside0 (buffer_Crop.rows l0_2 W x0 y0 n (k + 1) = buffer_Crop.rows l0_2 W x0 y0 n k ++ (l0_2.drop lo).take n) := ⟨by rw [elo]; exact buffer_Crop.rows_succ _ _ _ _ _ _⟩
              rw [← elo] at hlo hhl
              rw [← elo, ← ehi] at hhi
              rw [← ehi] at hhl
              have hnp : 0 < n := by have := hN.out; have := hq'.out; omega
              have hlt3 : Aside0 (lo < hi) := ⟨by omega⟩
              have hhc : Aside0 (hi ≤ c0_2) := ⟨Nat.le_trans hhl.out hc0_2⟩
              have hsub : hi - lo = n := by omega
              have hrow : Aside0 (∀ W', Below w.heap.size w W' → Kd.C k43 W' (some (ad.add (lo * 4))) (hi - lo) ((l0_2.drop lo).take n)) := ⟨fun W' hb => by rw [hsub]; exact buffer_Crop.mid (Kd.C_below hR.out hb) hnp (by have := hhl.out; omega) hc0_2⟩
              have hcap : Aside0 (((buffer_Crop.rows l0_2 W x0 y0 n k).length + (hi - lo)) * 4 ≤ 140737488355328) := ⟨by
                have h1 := buffer_Crop.rows_le l0_2 W x0 y0 n k
                have h2 : k * n ≤ 256 * 256 := Nat.mul_le_mul (by have := hN.out; have := hq'.out; have := hH'.out; omega) (by have := hN.out; have := hq'.out; have := hW'.out; omega)
                have := hhl.out
                omega⟩
              clear hsub hL0
              have hltm := Aside0.mk hlt
              clear elo ehi hnp hlt hm3 b0 b1 b2 c0 c2
              go_wp2_with fail
              refine start_ (n := 12) (S := fun w' => w'.cell? ⟨w.heap.size, 0, none⟩ = some (.int .i64 a0_0) ∧ w'.cell? ⟨w.heap.size, 1, none⟩ = some (.int .i64 a0_1) ∧ w'.cell? ⟨w.heap.size, 2, none⟩ = some (.slice (some ad) l0_2.length c0_2) ∧ w'.cell? ⟨w.heap.size + 1, 0, none⟩ = some (.int .i64 a1_0) ∧ w'.cell? ⟨w.heap.size + 1, 1, none⟩ = some (.int .i64 a1_1) ∧ w'.cell? ⟨w.heap.size + 1, 2, none⟩ = some (.int .i64 a1_2) ∧ w'.cell? ⟨w.heap.size + 1, 3, none⟩ = some (.int .i64 a1_3) ∧ w'.cell? ⟨g6, 2, none⟩ = some u) (ds := [11]) #[false, false, false, false, false, false, false, false, false, false, false, false] (by kernel_rfl) rfl rfl (buffer_Crop.oc hS hO) (fun hHeld => ?_)
              have HT_ : Aside0 (rtab .any (opsOf Try.f30 9) = rtab .any (opsOf Try.f30 9)) := ⟨rfl⟩
              replace hu := Aside0.mk (Kd.R_drew hu.out)
              replace hO := Aside0.mk (blk_drew hO.out)
              replace hS := buffer_Crop.St.below hS (below_drew (Below.refl _ _))
              generalize wr.drew = w3 at hu hO hS hHeld ⊢
              refine pv_ 0 43 #[true, false, false, false, false, false, false, false, false, false, false, false] HT_ ?_
              refine pv_ 3 46 #[true, false, false, true, false, false, false, false, false, false, false, false] HT_ ?_
              refine pv_ 4 47 #[true, false, false, true, true, false, false, false, false, false, false, false] HT_ ?_
              refine pv_ 6 49 #[true, false, false, true, true, false, true, false, false, false, false, false] HT_ ?_
              refine take_ (i := 1) (N := some 44) (v := ?_) (a' := ?_) #[true, true, false, true, true, false, true, false, false, false, false, false] rfl rfl (take_of HT_.out (by kernel_rfl)) (fun _ _ _ h => h) (Or.inl ⟨by rfl, ?_⟩) hHeld ?_ ?_
              rotate_left
              · rintro w' ⟨s0, s1, s2, s3, s4, s5, s6, s7⟩
                go_simp
                with_reducible rfl
              rotate_left
              · simp only [Act.put, List.setIfInBounds_toArray, List.set_cons_zero, List.set_cons_succ, i64_w, i32_w]
                rfl
              refine take_ (i := 2) (N := some 45) (v := ?_) (a' := ?_) #[true, true, true, true, true, false, true, false, false, false, false, false] rfl rfl (take_of HT_.out (by kernel_rfl)) (fun _ _ _ h => h) (Or.inl ⟨by rfl, ?_⟩) hHeld ?_ ?_
              rotate_left
              · rintro w' ⟨s0, s1, s2, s3, s4, s5, s6, s7⟩
                go_simp
                with_reducible rfl
              rotate_left
              · simp only [Act.put, List.setIfInBounds_toArray, List.set_cons_zero, List.set_cons_succ, i64_w, i32_w]
                rfl
              refine take_ (i := 5) (N := some 48) (v := ?_) (a' := ?_) #[true, true, true, true, true, true, true, false, false, false, false, false] rfl rfl (take_of HT_.out (by kernel_rfl)) (fun _ _ _ h => h) (Or.inl ⟨by rfl, ?_⟩) hHeld ?_ ?_
              rotate_left
              · rintro w' ⟨s0, s1, s2, s3, s4, s5, s6, s7⟩
                go_simp
                with_reducible rfl
              rotate_left
              · simp only [Act.put, List.setIfInBounds_toArray, List.set_cons_zero, List.set_cons_succ, i64_w, i32_w]
                rfl
              refine take_ (i := 7) (N := some 50) (v := ?_) (a' := ?_) #[true, true, true, true, true, true, true, true, false, false, false, false] rfl rfl (take_of HT_.out (by kernel_rfl)) (fun _ _ _ h => h) (Or.inl ⟨by rfl, ?_⟩) hHeld ?_ ?_
              rotate_left
              · rintro w' ⟨s0, s1, s2, s3, s4, s5, s6, s7⟩
                go_simp
                with_reducible rfl
              rotate_left
              · simp only [Act.put, List.setIfInBounds_toArray, List.set_cons_zero, List.set_cons_succ, i64_w, i32_w]
                rfl
              refine one_ (i := 8) (N := some 51) #[true, true, true, true, true, true, true, true, true, false, false, false] rfl rfl (one_of HT_.out (by kernel_rfl)) (by decide) (fun K hK => ?_)
              refine goes_ Try.func57 (by kernel_rfl) rfl #[.agg #[.int .i64 a0_0, .int .i64 a0_1, .slice (some ad) l0_2.length c0_2], .int .i64 (a1_1 + k), .int .i64 a1_0, .int .i64 a1_2] (by rfl) rfl rfl (by (try simp only [List.map_toArray, List.map_cons, List.map_nil]); first | done | rfl) ?_
              refine (buffer_row.calls a0_0 a0_1 (a1_1 + k) a1_0 a1_2 ad l0_2.length c0_2 lo hi _ hlo.out hhi.out hlt3.out hhc.out).mono ?_
              rintro e w4 ⟨rfl, hb1⟩
              refine ⟨_, rfl, ?_⟩
              replace hS := buffer_Crop.St.below hS hb1
              replace hO := Aside0.mk (blk_below hO.out hb1)
              replace hu := Aside0.mk (Kd.R_below hu.out hb1)
              clear hb1
              refine hK.out _ _ (buffer_Crop.oc hS hO) (fun hHeld => ?_)
              clear hK K
              refine norm_ (a' := ?_) ?_ ?_
              rotate_left
              · show Act.put _ (some 51) _ = _
                simp only [Act.put, List.setIfInBounds_toArray, List.set_cons_zero, List.set_cons_succ, i64_w, i32_w]
                rfl
              refine one_ (i := 9) (N := some 52) #[true, true, true, true, true, true, true, true, true, true, false, false] rfl rfl (one_of HT_.out (by kernel_rfl)) (by decide) (fun K hK => ?_)
              refine Kd.R_append_rows_step k43 (w0 := w) w.heap.size (by rfl) (.tmp 44) (.tmp 51) 25 43 (.agg #[(.int .u8 0), (.int .u8 0), (.int .u8 0), (.int .u8 0)]) 4 rfl Try.underlying25 info43 rfl (by decide) (by decide) u (buffer_Crop.rows l0_2 W x0 y0 n k) ((l0_2.drop lo).take n) (some (ad.add (lo * 4))) (hi - lo) (hi - lo) (fun _ => True) (fun _ => False) rfl rfl ?aO ?aR (fun _ _ h => h) (fun _ h => h.elim) ?aF ?aB ?aS ?aL ?_
              (case aO => exact hu.out)
              (case aR => exact hrow.out w4 hS.out.2.2.2)
              (case aF => exact fun _ _ => trivial)
              (case aB => exact hS.out.2.2.2)
              (case aS => exact hS.out.2.2.2.size)
              (case aL => exact hcap.out)
              intro v4 w5 ho hb hg hat
              rw [← hrs.out] at ho
              replace hS := buffer_Crop.St.grown hS hu.out hg hb
              replace hO := Aside0.mk (blk_grown hO.out hg (Kd.R_ne hu.out hO.out (by decide)))
              replace hu := Aside0.mk ho
              clear ho hb hg hat
              refine hK.out _ _ (buffer_Crop.oc hS hO) (fun hHeld => ?_)
              clear hK K
              refine norm_ (a' := ?_) ?_ ?_
              rotate_left
              · show Act.put _ (some 52) _ = _
                simp only [Act.put, List.setIfInBounds_toArray, List.set_cons_zero, List.set_cons_succ, i64_w, i32_w]
                rfl
              refine pv_ 10 53 #[true, true, true, true, true, true, true, true, true, true, true, false] HT_ ?_
              refine last_ (i := 11) (N := none) #[true, true, true, true, true, true, true, true, true, true, true, true] rfl rfl (one_of HT_.out (by kernel_rfl)) (by decide) (fun K hK => ?_)
              have hs26 : w5.cell? ⟨g6, 2, none⟩ = some u := (blk_cell hO.out 2).trans rfl
              have hfs26 := blk_frozen hO.out 2
              obtain ⟨Ao, co, eo⟩ := Kd.R_slice hu.out
              subst eo
              refine skip_ (w1 := ?_) (by rfl) rfl ?_ ?_
              rotate_left
              · go_simp
                rfl
              refine hK.out _ _ ?_
              clear hK K
              refine done_ (done_of HT_.out (by kernel_rfl)) ?_
              have ek : wrap64 (a1_1 + k + 1) = a1_1 + k + 1 := by have := hq'.out; have := hH'.out; unfold wrap64; omega
              try go_wp2
              go_roundw
              case measure => simp [intOf, ek]; omega
              case rel =>
                refine ⟨k + 1, .slice Ao (buffer_Crop.rows l0_2 W x0 y0 n (k + 1)).length co, hltm.out, ?_, ⟨?_⟩, ⟨?_⟩, ?_⟩
                · rw [Int.natCast_add, ← Int.add_assoc, ek]; rfl
                · exact Kd.R_mono (Kd.R_far (p := ⟨g6, 2, none⟩) (Kd.R_types hu.out hO.out (by decide)) (fun _ hk => hk.2) _) (fun _ hk => trivial)
                · exact blk_put (cs := #[.int .i64 (a1_2 - a1_0), .int .i64 (a1_3 - a1_1), u]) hO.out 2 _ rfl
                · exact buffer_Crop.St.set hS hG.out 2 _
            · obtain rfl : k = m := by omega
              have hlt' : ¬ (a1_1 + k) < a1_3 := by omega
              obtain ⟨⟨z0, z1, z2⟩, f0, f1, f2⟩ := buffer_Crop.St.zero hS
              have o0 := (blk_cell hO.out 0).trans rfl
              have o1 := (blk_cell hO.out 1).trans rfl
              have o2 := (blk_cell hO.out 2).trans rfl
              obtain ⟨Ao, co, eo⟩ := Kd.R_slice hu.out
              subst eo
              clear hm3 hlt
              go_wp2
              refine bodyPost_ret (results_ct rfl _ _ (w.heap.size + 1 + 1) 27 #[.int .i64 (a1_2 - a1_0), .int .i64 (a1_3 - a1_1), .slice Ao (buffer_Crop.rows l0_2 W x0 y0 n k).length co] (0, 0) _ rfl (retBuf hS.out.2.2.1 _ _ _) Try.underlying27 rfl (by kernel_rfl)) rfl ⟨_, rfl, ?_, below_set (below_set (below_set hS.out.2.2.2 (by omega)) (by omega)) (by omega)⟩
              obtain ⟨e1, e2, e3, e4, e5⟩ := hN.out
              rw [← e1, ← e2, ← e3, ← e4, ← e5]
              exact retBufR hS.out.2.2.1 hu.out
        · rw [if_neg hq] at h
          cases h
end
end Go.Proofs.Ytmockeaiccpogaa.All
end
section
namespace Go.Proofs.Ytmockeaiccpogaa.All
open Go.Proofs.YtmockeaiccpogaaSq
open Go.RowKit Go.Proofs.YtmockeaiccpogaaW.PrintWords Go.Proofs.YtmockeaiccpogaaW.PrintLast Go.Proofs.YtmockeaiccpogaaW.PrintMore
attribute [local go_sem] max2_int min2_int max_two min_two max_three min_three max_four min_four
set_option linter.unusedVariables false
set_option linter.unusedSimpArgs false
attribute [local go_sem high] eqA43 eqA47
def compositorlaw09_exampleHolds.f (k : Nat)  : Option (Bool) := (buffer_Decode.f k 2 1 1 4 (([1, 2, 3, 0] : List Int))).bind fun bt180 => ((buffer_Decode.f k 2 1 1 6 (([1, 2, 3, 0, 0, 0] : List Int))).bind fun bt190 => ((buffer_Decode.f k 2 1 1 4 (([1, 2, 3] : List Int))).bind fun bt200 => ((buffer_Diff.f 3 1 (([(⟨255, 255, 255, 255⟩ : S43), (⟨255, 255, 255, 255⟩ : S43), (⟨255, 255, 255, 255⟩ : S43)] : List (S43))) 3 1 (([(⟨255, 255, 255, 255⟩ : S43), (⟨0, 0, 0, 255⟩ : S43), (⟨255, 255, 255, 255⟩ : S43)] : List (S43)))).bind fun bt213 => ((buffer_Crop.f 2 2 (([(⟨255, 255, 255, 255⟩ : S43), (⟨255, 255, 255, 255⟩ : S43), (⟨255, 255, 255, 255⟩ : S43), (⟨255, 255, 255, 255⟩ : S43)] : List (S43))) 1 0 3 1).bind fun bt220 => (if bt180.2.2.2 = 0 then (if (bt180.2.2.1.length : Int) = 1 then (if 0 < (bt180.2.2.1.length : Int) then (if (((rd_T43 bt180.2.2.1 0).f0) == 3 && (((rd_T43 bt180.2.2.1 0).f1) == 2 && (((rd_T43 bt180.2.2.1 0).f2) == 1 && (((rd_T43 bt180.2.2.1 0).f3) == 255)))) = true then (if bt190.2.2.2 = 15 then (if bt200.2.2.2 = 4 then (if bt213.2 = 0 then (if (bt213.1.length : Int) = 1 then (if 0 < (bt213.1.length : Int) then (if (((rd_T47 bt213.1 0).f0) == 1 && (((rd_T47 bt213.1 0).f1) == 0 && (((rd_T47 bt213.1 0).f2) == 2 && (((rd_T47 bt213.1 0).f3) == 1)))) = true then (some (bt220.2.2.2 == 6)) else (some false)) else (none)) else (some false)) else (some false)) else (some false)) else (some false)) else (some false)) else (none)) else (some false)) else (some false))))))
theorem compositorlaw09_exampleHolds.mono : ∀ k, LeO (compositorlaw09_exampleHolds.f k ) (compositorlaw09_exampleHolds.f (k + 1) ) := by
 intro  k
 unfold compositorlaw09_exampleHolds.f
 repeat' first
   | (with_reducible exact buffer_Decode.mono _ _ _ _ _ _)
   | (with_reducible exact LeO.refl _)
   | (with_reducible exact LeO.none _)
   | (with_reducible refine LeO.ite ?_ ?_)
   | (with_reducible refine LeO.bind ?_ (fun _ => ?_))
   | exact buffer_Decode.mono _ _ _ _ _ _
   | exact LeO.none _
   | refine LeO.ite ?_ ?_
   | refine LeO.bind ?_ (fun _ => ?_)
set_option maxHeartbeats 8000000 in
set_option maxRecDepth 100000 in
theorem compositorlaw09_exampleHolds.callsT (k : Nat)  (w : World) (h : compositorlaw09_exampleHolds.f k  = some true) :
  Calls Try.prog 13 #[] w fun e w' => e = .returned (.bool true) ∧ Below w.heap.size w w' := by
 have hu43 := Try.underlying43
 have hu27 := Try.underlying27
 have hu47 := Try.underlying47
 have HB := Aside0.mk (Below.refl w.heap.size w)
 have H : ((buffer_Decode.f k 2 1 1 4 (([1, 2, 3, 0] : List Int))).bind fun bt180 => ((buffer_Decode.f k 2 1 1 6 (([1, 2, 3, 0, 0, 0] : List Int))).bind fun bt190 => ((buffer_Decode.f k 2 1 1 4 (([1, 2, 3] : List Int))).bind fun bt200 => ((buffer_Diff.f 3 1 (([(⟨255, 255, 255, 255⟩ : S43), (⟨255, 255, 255, 255⟩ : S43), (⟨255, 255, 255, 255⟩ : S43)] : List (S43))) 3 1 (([(⟨255, 255, 255, 255⟩ : S43), (⟨0, 0, 0, 255⟩ : S43), (⟨255, 255, 255, 255⟩ : S43)] : List (S43)))).bind fun bt213 => ((buffer_Crop.f 2 2 (([(⟨255, 255, 255, 255⟩ : S43), (⟨255, 255, 255, 255⟩ : S43), (⟨255, 255, 255, 255⟩ : S43), (⟨255, 255, 255, 255⟩ : S43)] : List (S43))) 1 0 3 1).bind fun bt220 => (if bt180.2.2.2 = 0 then (if (bt180.2.2.1.length : Int) = 1 then (if 0 < (bt180.2.2.1.length : Int) then (if (((rd_T43 bt180.2.2.1 0).f0) == 3 && (((rd_T43 bt180.2.2.1 0).f1) == 2 && (((rd_T43 bt180.2.2.1 0).f2) == 1 && (((rd_T43 bt180.2.2.1 0).f3) == 255)))) = true then (if bt190.2.2.2 = 15 then (if bt200.2.2.2 = 4 then (if bt213.2 = 0 then (if (bt213.1.length : Int) = 1 then (if 0 < (bt213.1.length : Int) then (if (((rd_T47 bt213.1 0).f0) == 1 && (((rd_T47 bt213.1 0).f1) == 0 && (((rd_T47 bt213.1 0).f2) == 2 && (((rd_T47 bt213.1 0).f3) == 1)))) = true then (some (bt220.2.2.2 == 6)) else (some false)) else (none)) else (some false)) else (some false)) else (some false)) else (some false)) else (some false)) else (none)) else (some false)) else (some false))))))) = some true := h
 clear h
 obtain ⟨y177, hy177⟩ : ∃ y_ : List Int, y_ = (([1, 2, 3, 0] : List Int)) := ⟨_, rfl⟩
 replace H : ((buffer_Decode.f k 2 1 1 4 y177).bind fun bt180 => ((buffer_Decode.f k 2 1 1 6 (([1, 2, 3, 0, 0, 0] : List Int))).bind fun bt190 => ((buffer_Decode.f k 2 1 1 4 (([1, 2, 3] : List Int))).bind fun bt200 => ((buffer_Diff.f 3 1 (([(⟨255, 255, 255, 255⟩ : S43), (⟨255, 255, 255, 255⟩ : S43), (⟨255, 255, 255, 255⟩ : S43)] : List (S43))) 3 1 (([(⟨255, 255, 255, 255⟩ : S43), (⟨0, 0, 0, 255⟩ : S43), (⟨255, 255, 255, 255⟩ : S43)] : List (S43)))).bind fun bt213 => ((buffer_Crop.f 2 2 (([(⟨255, 255, 255, 255⟩ : S43), (⟨255, 255, 255, 255⟩ : S43), (⟨255, 255, 255, 255⟩ : S43), (⟨255, 255, 255, 255⟩ : S43)] : List (S43))) 1 0 3 1).bind fun bt220 => (if bt180.2.2.2 = 0 then (if (bt180.2.2.1.length : Int) = 1 then (if 0 < (bt180.2.2.1.length : Int) then (if (((rd_T43 bt180.2.2.1 0).f0) == 3 && (((rd_T43 bt180.2.2.1 0).f1) == 2 && (((rd_T43 bt180.2.2.1 0).f2) == 1 && (((rd_T43 bt180.2.2.1 0).f3) == 255)))) = true then (if bt190.2.2.2 = 15 then (if bt200.2.2.2 = 4 then (if bt213.2 = 0 then (if (bt213.1.length : Int) = 1 then (if 0 < (bt213.1.length : Int) then (if (((rd_T47 bt213.1 0).f0) == 1 && (((rd_T47 bt213.1 0).f1) == 0 && (((rd_T47 bt213.1 0).f2) == 2 && (((rd_T47 bt213.1 0).f3) == 1)))) = true then (some (bt220.2.2.2 == 6)) else (some false)) else (none)) else (some false)) else (some false)) else (some false)) else (some false)) else (some false)) else (none)) else (some false)) else (some false))))))) = some true := by first | (rw [hy177]; with_reducible exact H) | (have H2_ := (Option.bind_some _ _).symm.trans H; rw [hy177]; with_reducible exact H2_) | (have H2_ := (Option.bind_some _ _).symm.trans H; with_reducible exact H2_) | with_reducible exact H | (rw [hy177]; exact H) | exact H
 have Ny177 := Aside0.mk hy177
 clear hy177
 replace H := Option.bind_eq_some_iff.mp H
 obtain ⟨⟨t180, t181, t182, t185⟩, A10, H⟩ := H
 try dsimp only at H
 have A1 := Aside0.mk A10
 clear A10
 obtain ⟨y187, hy187⟩ : ∃ y_ : List Int, y_ = (([1, 2, 3, 0, 0, 0] : List Int)) := ⟨_, rfl⟩
 replace H : ((buffer_Decode.f k 2 1 1 6 y187).bind fun bt190 => ((buffer_Decode.f k 2 1 1 4 (([1, 2, 3] : List Int))).bind fun bt200 => ((buffer_Diff.f 3 1 (([(⟨255, 255, 255, 255⟩ : S43), (⟨255, 255, 255, 255⟩ : S43), (⟨255, 255, 255, 255⟩ : S43)] : List (S43))) 3 1 (([(⟨255, 255, 255, 255⟩ : S43), (⟨0, 0, 0, 255⟩ : S43), (⟨255, 255, 255, 255⟩ : S43)] : List (S43)))).bind fun bt213 => ((buffer_Crop.f 2 2 (([(⟨255, 255, 255, 255⟩ : S43), (⟨255, 255, 255, 255⟩ : S43), (⟨255, 255, 255, 255⟩ : S43), (⟨255, 255, 255, 255⟩ : S43)] : List (S43))) 1 0 3 1).bind fun bt220 => (if t185 = 0 then (if (t182.length : Int) = 1 then (if 0 < (t182.length : Int) then (if (((rd_T43 t182 0).f0) == 3 && (((rd_T43 t182 0).f1) == 2 && (((rd_T43 t182 0).f2) == 1 && (((rd_T43 t182 0).f3) == 255)))) = true then (if bt190.2.2.2 = 15 then (if bt200.2.2.2 = 4 then (if bt213.2 = 0 then (if (bt213.1.length : Int) = 1 then (if 0 < (bt213.1.length : Int) then (if (((rd_T47 bt213.1 0).f0) == 1 && (((rd_T47 bt213.1 0).f1) == 0 && (((rd_T47 bt213.1 0).f2) == 2 && (((rd_T47 bt213.1 0).f3) == 1)))) = true then (some (bt220.2.2.2 == 6)) else (some false)) else (none)) else (some false)) else (some false)) else (some false)) else (some false)) else (some false)) else (none)) else (some false)) else (some false)))))) = some true := by first | (rw [hy187]; with_reducible exact H) | (have H2_ := (Option.bind_some _ _).symm.trans H; rw [hy187]; with_reducible exact H2_) | (have H2_ := (Option.bind_some _ _).symm.trans H; with_reducible exact H2_) | with_reducible exact H | (rw [hy187]; exact H) | exact H
 have Ny187 := Aside0.mk hy187
 clear hy187
 replace H := Option.bind_eq_some_iff.mp H
 obtain ⟨⟨t190, t191, t192, t195⟩, A20, H⟩ := H
 try dsimp only at H
 have A2 := Aside0.mk A20
 clear A20
 obtain ⟨y197, hy197⟩ : ∃ y_ : List Int, y_ = (([1, 2, 3] : List Int)) := ⟨_, rfl⟩
 replace H : ((buffer_Decode.f k 2 1 1 4 y197).bind fun bt200 => ((buffer_Diff.f 3 1 (([(⟨255, 255, 255, 255⟩ : S43), (⟨255, 255, 255, 255⟩ : S43), (⟨255, 255, 255, 255⟩ : S43)] : List (S43))) 3 1 (([(⟨255, 255, 255, 255⟩ : S43), (⟨0, 0, 0, 255⟩ : S43), (⟨255, 255, 255, 255⟩ : S43)] : List (S43)))).bind fun bt213 => ((buffer_Crop.f 2 2 (([(⟨255, 255, 255, 255⟩ : S43), (⟨255, 255, 255, 255⟩ : S43), (⟨255, 255, 255, 255⟩ : S43), (⟨255, 255, 255, 255⟩ : S43)] : List (S43))) 1 0 3 1).bind fun bt220 => (if t185 = 0 then (if (t182.length : Int) = 1 then (if 0 < (t182.length : Int) then (if (((rd_T43 t182 0).f0) == 3 && (((rd_T43 t182 0).f1) == 2 && (((rd_T43 t182 0).f2) == 1 && (((rd_T43 t182 0).f3) == 255)))) = true then (if t195 = 15 then (if bt200.2.2.2 = 4 then (if bt213.2 = 0 then (if (bt213.1.length : Int) = 1 then (if 0 < (bt213.1.length : Int) then (if (((rd_T47 bt213.1 0).f0) == 1 && (((rd_T47 bt213.1 0).f1) == 0 && (((rd_T47 bt213.1 0).f2) == 2 && (((rd_T47 bt213.1 0).f3) == 1)))) = true then (some (bt220.2.2.2 == 6)) else (some false)) else (none)) else (some false)) else (some false)) else (some false)) else (some false)) else (some false)) else (none)) else (some false)) else (some false))))) = some true := by first | (rw [hy197]; with_reducible exact H) | (have H2_ := (Option.bind_some _ _).symm.trans H; rw [hy197]; with_reducible exact H2_) | (have H2_ := (Option.bind_some _ _).symm.trans H; with_reducible exact H2_) | with_reducible exact H | (rw [hy197]; exact H) | exact H
 have Ny197 := Aside0.mk hy197
 clear hy197
 replace H := Option.bind_eq_some_iff.mp H
 obtain ⟨⟨t200, t201, t202, t205⟩, A30, H⟩ := H
 try dsimp only at H
 have A3 := Aside0.mk A30
 clear A30
 obtain ⟨y207, hy207⟩ : ∃ y_ : List (S43), y_ = (([(⟨255, 255, 255, 255⟩ : S43), (⟨255, 255, 255, 255⟩ : S43), (⟨255, 255, 255, 255⟩ : S43)] : List (S43))) := ⟨_, rfl⟩
 replace H : ((buffer_Diff.f 3 1 y207 3 1 (([(⟨255, 255, 255, 255⟩ : S43), (⟨0, 0, 0, 255⟩ : S43), (⟨255, 255, 255, 255⟩ : S43)] : List (S43)))).bind fun bt213 => ((buffer_Crop.f 2 2 (([(⟨255, 255, 255, 255⟩ : S43), (⟨255, 255, 255, 255⟩ : S43), (⟨255, 255, 255, 255⟩ : S43), (⟨255, 255, 255, 255⟩ : S43)] : List (S43))) 1 0 3 1).bind fun bt220 => (if t185 = 0 then (if (t182.length : Int) = 1 then (if 0 < (t182.length : Int) then (if (((rd_T43 t182 0).f0) == 3 && (((rd_T43 t182 0).f1) == 2 && (((rd_T43 t182 0).f2) == 1 && (((rd_T43 t182 0).f3) == 255)))) = true then (if t195 = 15 then (if t205 = 4 then (if bt213.2 = 0 then (if (bt213.1.length : Int) = 1 then (if 0 < (bt213.1.length : Int) then (if (((rd_T47 bt213.1 0).f0) == 1 && (((rd_T47 bt213.1 0).f1) == 0 && (((rd_T47 bt213.1 0).f2) == 2 && (((rd_T47 bt213.1 0).f3) == 1)))) = true then (some (bt220.2.2.2 == 6)) else (some false)) else (none)) else (some false)) else (some false)) else (some false)) else (some false)) else (some false)) else (none)) else (some false)) else (some false)))) = some true := by first | (rw [hy207]; with_reducible exact H) | (have H2_ := (Option.bind_some _ _).symm.trans H; rw [hy207]; with_reducible exact H2_) | (have H2_ := (Option.bind_some _ _).symm.trans H; with_reducible exact H2_) | with_reducible exact H | (rw [hy207]; exact H) | exact H
 have Ny207 := Aside0.mk hy207
 clear hy207
 obtain ⟨y210, hy210⟩ : ∃ y_ : List (S43), y_ = (([(⟨255, 255, 255, 255⟩ : S43), (⟨0, 0, 0, 255⟩ : S43), (⟨255, 255, 255, 255⟩ : S43)] : List (S43))) := ⟨_, rfl⟩
 replace H : ((buffer_Diff.f 3 1 y207 3 1 y210).bind fun bt213 => ((buffer_Crop.f 2 2 (([(⟨255, 255, 255, 255⟩ : S43), (⟨255, 255, 255, 255⟩ : S43), (⟨255, 255, 255, 255⟩ : S43), (⟨255, 255, 255, 255⟩ : S43)] : List (S43))) 1 0 3 1).bind fun bt220 => (if t185 = 0 then (if (t182.length : Int) = 1 then (if 0 < (t182.length : Int) then (if (((rd_T43 t182 0).f0) == 3 && (((rd_T43 t182 0).f1) == 2 && (((rd_T43 t182 0).f2) == 1 && (((rd_T43 t182 0).f3) == 255)))) = true then (if t195 = 15 then (if t205 = 4 then (if bt213.2 = 0 then (if (bt213.1.length : Int) = 1 then (if 0 < (bt213.1.length : Int) then (if (((rd_T47 bt213.1 0).f0) == 1 && (((rd_T47 bt213.1 0).f1) == 0 && (((rd_T47 bt213.1 0).f2) == 2 && (((rd_T47 bt213.1 0).f3) == 1)))) = true then (some (bt220.2.2.2 == 6)) else (some false)) else (none)) else (some false)) else (some false)) else (some false)) else (some false)) else (some false)) else (none)) else (some false)) else (some false)))) = some true := by first | (rw [hy210]; with_reducible exact H) | (have H2_ := (Option.bind_some _ _).symm.trans H; rw [hy210]; with_reducible exact H2_) | (have H2_ := (Option.bind_some _ _).symm.trans H; with_reducible exact H2_) | with_reducible exact H | (rw [hy210]; exact H) | exact H
 have Ny210 := Aside0.mk hy210
 clear hy210
 replace H := Option.bind_eq_some_iff.mp H
 obtain ⟨⟨t213, t216⟩, A40, H⟩ := H
 try dsimp only at H
 have A4 := Aside0.mk A40
 clear A40
 obtain ⟨y217, hy217⟩ : ∃ y_ : List (S43), y_ = (([(⟨255, 255, 255, 255⟩ : S43), (⟨255, 255, 255, 255⟩ : S43), (⟨255, 255, 255, 255⟩ : S43), (⟨255, 255, 255, 255⟩ : S43)] : List (S43))) := ⟨_, rfl⟩
 replace H : ((buffer_Crop.f 2 2 y217 1 0 3 1).bind fun bt220 => (if t185 = 0 then (if (t182.length : Int) = 1 then (if 0 < (t182.length : Int) then (if (((rd_T43 t182 0).f0) == 3 && (((rd_T43 t182 0).f1) == 2 && (((rd_T43 t182 0).f2) == 1 && (((rd_T43 t182 0).f3) == 255)))) = true then (if t195 = 15 then (if t205 = 4 then (if t216 = 0 then (if (t213.length : Int) = 1 then (if 0 < (t213.length : Int) then (if (((rd_T47 t213 0).f0) == 1 && (((rd_T47 t213 0).f1) == 0 && (((rd_T47 t213 0).f2) == 2 && (((rd_T47 t213 0).f3) == 1)))) = true then (some (bt220.2.2.2 == 6)) else (some false)) else (none)) else (some false)) else (some false)) else (some false)) else (some false)) else (some false)) else (none)) else (some false)) else (some false))) = some true := by first | (rw [hy217]; with_reducible exact H) | (have H2_ := (Option.bind_some _ _).symm.trans H; rw [hy217]; with_reducible exact H2_) | (have H2_ := (Option.bind_some _ _).symm.trans H; with_reducible exact H2_) | with_reducible exact H | (rw [hy217]; exact H) | exact H
 have Ny217 := Aside0.mk hy217
 clear hy217
 replace H := Option.bind_eq_some_iff.mp H
 obtain ⟨⟨t220, t221, t222, t225⟩, A50, H⟩ := H
 try dsimp only at H
 have A5 := Aside0.mk A50
 clear A50
 by_cases c6 : t185 = 0
 ·
  rw [if_pos c6] at H
  have c6b0 : (t185 == 0) = true := beq_iff_eq.mpr c6
  have c6b1 : (t185 != 0) = false := bne_eq_false_iff_eq.mpr c6
  clear c6
  by_cases c7 : (t182.length : Int) = 1
  ·
   rw [if_pos c7] at H
   have c7b0 : ((t182.length : Int) == 1) = true := beq_iff_eq.mpr c7
   have c7b1 : ((t182.length : Int) != 1) = false := bne_eq_false_iff_eq.mpr c7
   clear c7
   by_cases c8 : 0 < (t182.length : Int)
   ·
    rw [if_pos c8] at H
    have c8b0 : decide (0 < (t182.length : Int)) = true := decide_eq_true c8
    have c8b1 : decide (0 < t182.length) = true := decide_eq_true (by omega)
    clear c8
    by_cases c9 : (((rd_T43 t182 0).f0) == 3 && (((rd_T43 t182 0).f1) == 2 && (((rd_T43 t182 0).f2) == 1 && (((rd_T43 t182 0).f3) == 255)))) = true
    ·
     rw [if_pos c9] at H
     have c9b0 : (((rd_T43 t182 0).f0) == 3 && (((rd_T43 t182 0).f1) == 2 && (((rd_T43 t182 0).f2) == 1 && (((rd_T43 t182 0).f3) == 255)))) = true := c9
     (try (have c9b1 : decide (((rd_T43 t182 0).f0) = 3 && (((rd_T43 t182 0).f1) == 2 && (((rd_T43 t182 0).f2) == 1 && (((rd_T43 t182 0).f3) == 255)))) = true := by simpa using c9))
     (try (have c9b2 : (((rd_T43 t182 0).f0) == 3 && (((rd_T43 t182 0).f1) == 2 && (((rd_T43 t182 0).f2) == 1 && (((rd_T43 t182 0).f3) == 255)))) = true := by simpa using c9))
     clear c9
     by_cases c10 : t195 = 15
     ·
      rw [if_pos c10] at H
      have c10b0 : (t195 == 15) = true := beq_iff_eq.mpr c10
      have c10b1 : (t195 != 15) = false := bne_eq_false_iff_eq.mpr c10
      clear c10
      by_cases c11 : t205 = 4
      ·
       rw [if_pos c11] at H
       have c11b0 : (t205 == 4) = true := beq_iff_eq.mpr c11
       have c11b1 : (t205 != 4) = false := bne_eq_false_iff_eq.mpr c11
       clear c11
       by_cases c12 : t216 = 0
       ·
        rw [if_pos c12] at H
        have c12b0 : (t216 == 0) = true := beq_iff_eq.mpr c12
        have c12b1 : (t216 != 0) = false := bne_eq_false_iff_eq.mpr c12
        clear c12
        by_cases c13 : (t213.length : Int) = 1
        ·
         rw [if_pos c13] at H
         have c13b0 : ((t213.length : Int) == 1) = true := beq_iff_eq.mpr c13
         have c13b1 : ((t213.length : Int) != 1) = false := bne_eq_false_iff_eq.mpr c13
         clear c13
         by_cases c14 : 0 < (t213.length : Int)
         ·
          rw [if_pos c14] at H
          have c14b0 : decide (0 < (t213.length : Int)) = true := decide_eq_true c14
          have c14b1 : decide (0 < t213.length) = true := decide_eq_true (by omega)
          clear c14
          by_cases c15 : (((rd_T47 t213 0).f0) == 1 && (((rd_T47 t213 0).f1) == 0 && (((rd_T47 t213 0).f2) == 2 && (((rd_T47 t213 0).f3) == 1)))) = true
          ·
           rw [if_pos c15] at H
           have c15b0 : (((rd_T47 t213 0).f0) == 1 && (((rd_T47 t213 0).f1) == 0 && (((rd_T47 t213 0).f2) == 2 && (((rd_T47 t213 0).f3) == 1)))) = true := c15
           (try (have c15b1 : decide (((rd_T47 t213 0).f0) = 1 && (((rd_T47 t213 0).f1) == 0 && (((rd_T47 t213 0).f2) == 2 && (((rd_T47 t213 0).f3) == 1)))) = true := by simpa using c15))
           (try (have c15b2 : (((rd_T47 t213 0).f0) == 1 && (((rd_T47 t213 0).f1) == 0 && (((rd_T47 t213 0).f2) == 2 && (((rd_T47 t213 0).f3) == 1)))) = true := by simpa using c15))
           clear c15
           have Hq_ := Option.some.inj H
           go_enter Try.func13, Try.ntmps13
           go_wp2_with (first | ((with_reducible refine gate_dst (N := 1) rfl ?_); (try (refine gate_guard (by rfl) ?_; dsimp only)); refine box_event ?hg (N := 1) ?hd (cs := #[.int .u8 0, .int .u8 0, .int .u8 0, .int .u8 0]) (t := 43) ?hr ?_; (case hd => rfl); (case hg => rfl); (case hr => first | (go_simp; done) | (go_simp; rfl)); intro gb175 hg w16 hbox hb; have n0_ := hb_ HB hb; have n1_ := Aside0.mk (hbox); have n2_ := Aside0.mk ((by rw [hg]; exact (below_size (hq_ HB)) : w.heap.size ≤ gb175)); have n3_ := Aside0.mk ((by rw [hg]; exact (below_size (hq_ HB)) : w.heap.size ≤ gb175)); clear HB; have HB := n0_; have BK175 := n1_; have GW175 := n2_; have GE175 := n3_; clear n0_ n1_ n2_ n3_; clear hb hbox hg) | ((with_reducible refine gate_dst (N := 2) rfl ?_); (try (refine gate_guard (by rfl) ?_; dsimp only)); refine box_event ?hg (N := 2) ?hd (cs := #[.int .u8 0, .int .u8 0, .int .u8 0, .int .u8 0]) (t := 43) ?hr ?_; (case hd => rfl); (case hg => rfl); (case hr => first | (go_simp; done) | (go_simp; rfl)); intro gb176 hg w17 hbox hb; have n0_ := bb_ BK175 hb; have n1_ := hb_ HB hb; have n2_ := Aside0.mk (hbox); have n3_ := Aside0.mk ((by rw [hg]; exact (below_size (hq_ HB)) : w.heap.size ≤ gb176)); have n4_ := Aside0.mk ((by rw [hg]; exact (below_size (hq_ HB)) : w.heap.size ≤ gb176)); have n5_ := Aside0.mk ((by rw [hg]; exact Nat.ne_of_lt (blk_lt (g := gb175) (o := .cells #[.int .u8 0, .int .u8 0, .int .u8 0, .int .u8 0] 43 (0, 0)) (bq_ BK175)) : gb175 ≠ gb176)); have n6_ := Aside0.mk ((by rw [hg]; exact Nat.ne_of_gt (blk_lt (g := gb175) (o := .cells #[.int .u8 0, .int .u8 0, .int .u8 0, .int .u8 0] 43 (0, 0)) (bq_ BK175)) : gb176 ≠ gb175)); clear BK175; clear HB; have BK175 := n0_; have HB := n1_; have BK176 := n2_; have GW176 := n3_; have GE176 := n4_; have NB175_176 := n5_; have NB176_175 := n6_; clear n0_ n1_ n2_ n3_ n4_ n5_ n6_; clear hb hbox hg; have hnb18 := NB175_176.out; have hnc18 := NB176_175.out; have hcz19_0 : w17.cell? ⟨gb175, 0, none⟩ = some (.int .u8 0) := (blk_cell BK175.out 0).trans rfl; have hcz19_1 : w17.cell? ⟨gb175, 1, none⟩ = some (.int .u8 0) := (blk_cell BK175.out 1).trans rfl; have hcz19_2 : w17.cell? ⟨gb175, 2, none⟩ = some (.int .u8 0) := (blk_cell BK175.out 2).trans rfl; have hcz19_3 : w17.cell? ⟨gb175, 3, none⟩ = some (.int .u8 0) := (blk_cell BK175.out 3).trans rfl; have hfz19_0 := blk_frozen BK175.out 0; have hfz19_1 := blk_frozen BK175.out 1; have hfz19_2 := blk_frozen BK175.out 2; have hfz19_3 := blk_frozen BK175.out 3; have hcz20_0 : w17.cell? ⟨gb176, 0, none⟩ = some (.int .u8 0) := (blk_cell BK176.out 0).trans rfl; have hcz20_1 : w17.cell? ⟨gb176, 1, none⟩ = some (.int .u8 0) := (blk_cell BK176.out 1).trans rfl; have hcz20_2 : w17.cell? ⟨gb176, 2, none⟩ = some (.int .u8 0) := (blk_cell BK176.out 2).trans rfl; have hcz20_3 : w17.cell? ⟨gb176, 3, none⟩ = some (.int .u8 0) := (blk_cell BK176.out 3).trans rfl; have hfz20_0 := blk_frozen BK176.out 0; have hfz20_1 := blk_frozen BK176.out 1; have hfz20_2 := blk_frozen BK176.out 2; have hfz20_3 := blk_frozen BK176.out 3) | ((with_reducible refine gate_dst (N := 16) rfl ?_); (try (refine gate_guard (by rfl) ?_; dsimp only)); refine Kd.R_lit (Kd.int .u8) _ 5 ?hg (N := 16) ?hd (xs := ([1, 2, 3, 0] : List Int)) (inner := [.int .u8 1, .int .u8 2, .int .u8 3, .int .u8 0]) (ok := fun _ => True) (okp := fun _ => True) ?hr ?hp (fun _ hk => hk) trivial (Below.refl _ _) (Nat.le_refl _) (by simp) ?_; (case hd => rfl); (case hg => rfl); (case hr => first | (go_simp; done) | (go_simp; rfl)); (case hp => exact (Reps.one (show Kd.M (Kd.int .u8) _ _ _ 1 [.int .u8 1] from rfl) (Reps.one (show Kd.M (Kd.int .u8) _ _ _ 2 [.int .u8 2] from rfl) (Reps.one (show Kd.M (Kd.int .u8) _ _ _ 3 [.int .u8 3] from rfl) (Reps.one (show Kd.M (Kd.int .u8) _ _ _ 0 [.int .u8 0] from rfl) (Reps.none _ _)))))); intro v178 w21 ho22 hb hg_ hnew_; clear hg_ hnew_; (first | rw [← Ny177.out] at ho22 | (simp only [Int.reduceToNat] at ho22; rw [← Ny177.out] at ho22)); have n0_ := Aside0.mk (Kd.R_lower ho22 (below_size (hq_ HB))); have n1_ := Aside0.mk (blk_below (g := gb175) (o := .cells #[.int .u8 255, .int .u8 255, .int .u8 255, .int .u8 255] 43 (0, 0)) (by (with_reducible repeat (first | refine blk_drewN ?_ _ | refine blk_drew ?_ | refine blk_alloc ?_ _)); refine blk_far ?_ NB175_176.out _; (with_reducible repeat (first | refine blk_drewN ?_ _ | refine blk_drew ?_ | refine blk_alloc ?_ _)); refine blk_far ?_ NB175_176.out _; (with_reducible repeat (first | refine blk_drewN ?_ _ | refine blk_drew ?_ | refine blk_alloc ?_ _)); refine blk_far ?_ NB175_176.out _; (with_reducible repeat (first | refine blk_drewN ?_ _ | refine blk_drew ?_ | refine blk_alloc ?_ _)); refine blk_far ?_ NB175_176.out _; (with_reducible repeat (first | refine blk_drewN ?_ _ | refine blk_drew ?_ | refine blk_alloc ?_ _)); refine blk_put (cs := #[.int .u8 255, .int .u8 255, .int .u8 255, .int .u8 0]) ?_ 3 _ rfl; (with_reducible repeat (first | refine blk_drewN ?_ _ | refine blk_drew ?_ | refine blk_alloc ?_ _)); refine blk_put (cs := #[.int .u8 255, .int .u8 255, .int .u8 0, .int .u8 0]) ?_ 2 _ rfl; (with_reducible repeat (first | refine blk_drewN ?_ _ | refine blk_drew ?_ | refine blk_alloc ?_ _)); refine blk_put (cs := #[.int .u8 255, .int .u8 0, .int .u8 0, .int .u8 0]) ?_ 1 _ rfl; (with_reducible repeat (first | refine blk_drewN ?_ _ | refine blk_drew ?_ | refine blk_alloc ?_ _)); refine blk_put (cs := #[.int .u8 0, .int .u8 0, .int .u8 0, .int .u8 0]) ?_ 0 _ rfl; (with_reducible repeat (first | refine blk_drewN ?_ _ | refine blk_drew ?_ | refine blk_alloc ?_ _)); exact BK175.out) hb); have n2_ := Aside0.mk (blk_below (g := gb176) (o := .cells #[.int .u8 0, .int .u8 0, .int .u8 0, .int .u8 255] 43 (0, 0)) (by (with_reducible repeat (first | refine blk_drewN ?_ _ | refine blk_drew ?_ | refine blk_alloc ?_ _)); refine blk_put (cs := #[.int .u8 0, .int .u8 0, .int .u8 0, .int .u8 0]) ?_ 3 _ rfl; (with_reducible repeat (first | refine blk_drewN ?_ _ | refine blk_drew ?_ | refine blk_alloc ?_ _)); refine blk_put (cs := #[.int .u8 0, .int .u8 0, .int .u8 0, .int .u8 0]) ?_ 2 _ rfl; (with_reducible repeat (first | refine blk_drewN ?_ _ | refine blk_drew ?_ | refine blk_alloc ?_ _)); refine blk_put (cs := #[.int .u8 0, .int .u8 0, .int .u8 0, .int .u8 0]) ?_ 1 _ rfl; (with_reducible repeat (first | refine blk_drewN ?_ _ | refine blk_drew ?_ | refine blk_alloc ?_ _)); refine blk_put (cs := #[.int .u8 0, .int .u8 0, .int .u8 0, .int .u8 0]) ?_ 0 _ rfl; (with_reducible repeat (first | refine blk_drewN ?_ _ | refine blk_drew ?_ | refine blk_alloc ?_ _)); refine blk_far ?_ NB176_175.out _; (with_reducible repeat (first | refine blk_drewN ?_ _ | refine blk_drew ?_ | refine blk_alloc ?_ _)); refine blk_far ?_ NB176_175.out _; (with_reducible repeat (first | refine blk_drewN ?_ _ | refine blk_drew ?_ | refine blk_alloc ?_ _)); refine blk_far ?_ NB176_175.out _; (with_reducible repeat (first | refine blk_drewN ?_ _ | refine blk_drew ?_ | refine blk_alloc ?_ _)); refine blk_far ?_ NB176_175.out _; (with_reducible repeat (first | refine blk_drewN ?_ _ | refine blk_drew ?_ | refine blk_alloc ?_ _)); exact BK176.out) hb); have n3_ := hb_ HB hb; clear BK175; clear BK176; clear HB; have HO179 := n0_; have BK175 := n1_; have BK176 := n2_; have HB := n3_; clear n0_ n1_ n2_ n3_; clear hb ho22; obtain ⟨Ao23, co23, eo23⟩ := Kd.R_slice HO179.out; subst eo23) | ((with_reducible refine gate_callee (f := 14) rfl ?_); refine goesL_ (some 17) rfl rfl Try.func14 (by kernel_rfl) rfl #[.int .i64 2, .int .i64 1, .int .i64 1, .int .i64 4, .slice Ao23 y177.length co23] rfl (by (try simp only [List.map_toArray, List.map_cons, List.map_nil]) <;> rfl) ?_; (with_reducible refine (buffer_Decode.calls k 2 1 1 4 _ _ y177 t180 t181 t182 t185 _ ?side1 ?side2 A1.out).mono ?_); (case side1 => repeat (first | exact (Kd.R_reads' HO179.out).2.2 | (with_reducible refine Kd.C_alloc ?_ _) | (with_reducible refine Kd.C_drewN ?_ _) | (with_reducible refine Kd.C_drew ?_))); (case side2 => exact (Kd.R_reads' HO179.out).2.1); rintro e w24 ⟨v183, rfl, ho0, hb⟩; refine ⟨_, rfl, ?_⟩; have n0_ := Aside0.mk (Kd.R_below (by (with_reducible repeat (first | apply Kd.R_alloc | apply Kd.R_drewN | apply Kd.R_drew)); exact HO179.out) hb); have n1_ := Aside0.mk (Kd.R_lower (Kd.R_newB (Kd.R_newB ho0 (g := gb175) (o := .cells #[.int .u8 255, .int .u8 255, .int .u8 255, .int .u8 255] 43 (0, 0)) (bq_ BK175)) (g := gb176) (o := .cells #[.int .u8 0, .int .u8 0, .int .u8 0, .int .u8 255] 43 (0, 0)) (bq_ BK176)) (below_size (hq_ HB))); have n2_ := bb_ BK175 hb; have n3_ := bb_ BK176 hb; have n4_ := hb_ HB hb; clear HO179; clear BK175; clear BK176; clear HB; have HO179 := n0_; have HO184 := n1_; have BK175 := n2_; have BK176 := n3_; have HB := n4_; clear n0_ n1_ n2_ n3_ n4_; (try clear hb); (try clear hb2); (try clear hk); (try clear hi); (try clear ho0)) | ((with_reducible refine gate_dst (N := 3) rfl ?_); (try (refine gate_guard (by rfl) ?_; dsimp only)); refine box_event ?hg (N := 3) ?hd (cs := #[.int .i64 0, .int .i64 0, .slice none 0 0]) (t := 27) ?hr ?_; (case hd => rfl); (case hg => rfl); (case hr => first | (go_simp; done) | (go_simp; rfl)); intro gb186 hg w25 hbox hb; have n0_ := Aside0.mk (Kd.R_below (by (with_reducible repeat (first | apply Kd.R_alloc | apply Kd.R_drewN | apply Kd.R_drew)); exact HO179.out) hb); have n1_ := Aside0.mk (Kd.R_below (by (with_reducible repeat (first | apply Kd.R_alloc | apply Kd.R_drewN | apply Kd.R_drew)); exact HO184.out) hb); have n2_ := bb_ BK175 hb; have n3_ := bb_ BK176 hb; have n4_ := hb_ HB hb; have n5_ := Aside0.mk (hbox); have n6_ := Aside0.mk ((by rw [hg]; exact (below_size (hq_ HB)) : w.heap.size ≤ gb186)); have n7_ := Aside0.mk ((by rw [hg]; exact (below_size (hq_ HB)) : w.heap.size ≤ gb186)); have n8_ := Aside0.mk ((by rw [hg]; exact Nat.ne_of_lt (blk_lt (g := gb175) (o := .cells #[.int .u8 255, .int .u8 255, .int .u8 255, .int .u8 255] 43 (0, 0)) (bq_ BK175)) : gb175 ≠ gb186)); have n9_ := Aside0.mk ((by rw [hg]; exact Nat.ne_of_gt (blk_lt (g := gb175) (o := .cells #[.int .u8 255, .int .u8 255, .int .u8 255, .int .u8 255] 43 (0, 0)) (bq_ BK175)) : gb186 ≠ gb175)); have n10_ := Aside0.mk ((by rw [hg]; exact Nat.ne_of_lt (blk_lt (g := gb176) (o := .cells #[.int .u8 0, .int .u8 0, .int .u8 0, .int .u8 255] 43 (0, 0)) (bq_ BK176)) : gb176 ≠ gb186)); have n11_ := Aside0.mk ((by rw [hg]; exact Nat.ne_of_gt (blk_lt (g := gb176) (o := .cells #[.int .u8 0, .int .u8 0, .int .u8 0, .int .u8 255] 43 (0, 0)) (bq_ BK176)) : gb186 ≠ gb176)); clear HO179; clear HO184; clear BK175; clear BK176; clear HB; have HO179 := n0_; have HO184 := n1_; have BK175 := n2_; have BK176 := n3_; have HB := n4_; have BK186 := n5_; have GW186 := n6_; have GE186 := n7_; have NB175_186 := n8_; have NB186_175 := n9_; have NB176_186 := n10_; have NB186_176 := n11_; clear n0_ n1_ n2_ n3_ n4_ n5_ n6_ n7_ n8_ n9_ n10_ n11_; clear hb hbox hg; have hnb26 := NB186_175.out; have hnc26 := NB175_186.out; have hnb27 := NB186_176.out; have hnc27 := NB176_186.out; have hcz28_0 : w25.cell? ⟨gb186, 0, none⟩ = some (.int .i64 0) := (blk_cell BK186.out 0).trans rfl; have hcz28_1 : w25.cell? ⟨gb186, 1, none⟩ = some (.int .i64 0) := (blk_cell BK186.out 1).trans rfl; have hcz28_2 : w25.cell? ⟨gb186, 2, none⟩ = some (.slice none 0 0) := (blk_cell BK186.out 2).trans rfl; have hfz28_0 := blk_frozen BK186.out 0; have hfz28_1 := blk_frozen BK186.out 1; have hfz28_2 := blk_frozen BK186.out 2; obtain ⟨Ao29, co29, eo29⟩ := Kd.R_slice HO184.out; subst eo29) | ((with_reducible refine gate_dst (N := 21) rfl ?_); (try (refine gate_guard (by rfl) ?_; dsimp only)); refine Kd.R_lit (Kd.int .u8) _ 5 ?hg (N := 21) ?hd (xs := ([1, 2, 3, 0, 0, 0] : List Int)) (inner := [.int .u8 1, .int .u8 2, .int .u8 3, .int .u8 0, .int .u8 0, .int .u8 0]) (ok := fun _ => True) (okp := fun _ => True) ?hr ?hp (fun _ hk => hk) trivial (Below.refl _ _) (Nat.le_refl _) (by simp) ?_; (case hd => rfl); (case hg => rfl); (case hr => first | (go_simp; done) | (go_simp; rfl)); (case hp => exact (Reps.one (show Kd.M (Kd.int .u8) _ _ _ 1 [.int .u8 1] from rfl) (Reps.one (show Kd.M (Kd.int .u8) _ _ _ 2 [.int .u8 2] from rfl) (Reps.one (show Kd.M (Kd.int .u8) _ _ _ 3 [.int .u8 3] from rfl) (Reps.one (show Kd.M (Kd.int .u8) _ _ _ 0 [.int .u8 0] from rfl) (Reps.one (show Kd.M (Kd.int .u8) _ _ _ 0 [.int .u8 0] from rfl) (Reps.one (show Kd.M (Kd.int .u8) _ _ _ 0 [.int .u8 0] from rfl) (Reps.none _ _)))))))); intro v188 w30 ho31 hb hg_ hnew_; clear hg_ hnew_; (first | rw [← Ny187.out] at ho31 | (simp only [Int.reduceToNat] at ho31; rw [← Ny187.out] at ho31)); have n0_ := Aside0.mk (Kd.R_elder' (by (with_reducible repeat (first | apply Kd.R_alloc | apply Kd.R_drewN | apply Kd.R_drew)); exact (Kd.R_mono (Kd.R_far (p := ⟨gb186, 2, none⟩) (Kd.R_far (p := ⟨gb186, 1, none⟩) (Kd.R_far (p := ⟨gb186, 0, none⟩) (Kd.R_types HO179.out BK186.out (by decide)) (fun _ hk => hk.2) (.int .i64 t180)) (fun _ hk => hk.2) (.int .i64 t181)) (fun _ hk => hk.2) (.slice Ao29 t182.length co29)) (fun _ h_ => h_.1))) (Kd.R_base ho31) hb); have n1_ := Aside0.mk (Kd.R_below (by (with_reducible repeat (first | apply Kd.R_alloc | apply Kd.R_drewN | apply Kd.R_drew)); exact (Kd.R_mono (Kd.R_far (p := ⟨gb186, 2, none⟩) (Kd.R_far (p := ⟨gb186, 1, none⟩) (Kd.R_far (p := ⟨gb186, 0, none⟩) (Kd.R_types HO184.out BK186.out (by decide)) (fun _ hk => hk.2) (.int .i64 t180)) (fun _ hk => hk.2) (.int .i64 t181)) (fun _ hk => hk.2) (.slice Ao29 t182.length co29)) (fun _ h_ => h_.1))) hb); have n2_ := Aside0.mk (Kd.R_lower (Kd.R_new' ho31 (Kd.R_lt (by (with_reducible repeat (first | apply Kd.R_alloc | apply Kd.R_drewN | apply Kd.R_drew)); exact (Kd.R_mono (Kd.R_far (p := ⟨gb186, 2, none⟩) (Kd.R_far (p := ⟨gb186, 1, none⟩) (Kd.R_far (p := ⟨gb186, 0, none⟩) (Kd.R_types HO179.out BK186.out (by decide)) (fun _ hk => hk.2) (.int .i64 t180)) (fun _ hk => hk.2) (.int .i64 t181)) (fun _ hk => hk.2) (.slice Ao29 t182.length co29)) (fun _ h_ => h_.1))))) (below_size (hq_ HB))); have n3_ := Aside0.mk (blk_below (g := gb175) (o := .cells #[.int .u8 255, .int .u8 255, .int .u8 255, .int .u8 255] 43 (0, 0)) (by (with_reducible repeat (first | refine blk_drewN ?_ _ | refine blk_drew ?_ | refine blk_alloc ?_ _)); refine blk_far ?_ NB175_186.out _; (with_reducible repeat (first | refine blk_drewN ?_ _ | refine blk_drew ?_ | refine blk_alloc ?_ _)); refine blk_far ?_ NB175_186.out _; (with_reducible repeat (first | refine blk_drewN ?_ _ | refine blk_drew ?_ | refine blk_alloc ?_ _)); refine blk_far ?_ NB175_186.out _; (with_reducible repeat (first | refine blk_drewN ?_ _ | refine blk_drew ?_ | refine blk_alloc ?_ _)); exact BK175.out) hb); have n4_ := Aside0.mk (blk_below (g := gb176) (o := .cells #[.int .u8 0, .int .u8 0, .int .u8 0, .int .u8 255] 43 (0, 0)) (by (with_reducible repeat (first | refine blk_drewN ?_ _ | refine blk_drew ?_ | refine blk_alloc ?_ _)); refine blk_far ?_ NB176_186.out _; (with_reducible repeat (first | refine blk_drewN ?_ _ | refine blk_drew ?_ | refine blk_alloc ?_ _)); refine blk_far ?_ NB176_186.out _; (with_reducible repeat (first | refine blk_drewN ?_ _ | refine blk_drew ?_ | refine blk_alloc ?_ _)); refine blk_far ?_ NB176_186.out _; (with_reducible repeat (first | refine blk_drewN ?_ _ | refine blk_drew ?_ | refine blk_alloc ?_ _)); exact BK176.out) hb); have n5_ := Aside0.mk (blk_below (g := gb186) (o := .cells #[.int .i64 t180, .int .i64 t181, .slice Ao29 t182.length co29] 27 (0, 0)) (by (with_reducible repeat (first | refine blk_drewN ?_ _ | refine blk_drew ?_ | refine blk_alloc ?_ _)); refine blk_put (cs := #[.int .i64 t180, .int .i64 t181, .slice none 0 0]) ?_ 2 _ rfl; (with_reducible repeat (first | refine blk_drewN ?_ _ | refine blk_drew ?_ | refine blk_alloc ?_ _)); refine blk_put (cs := #[.int .i64 t180, .int .i64 0, .slice none 0 0]) ?_ 1 _ rfl; (with_reducible repeat (first | refine blk_drewN ?_ _ | refine blk_drew ?_ | refine blk_alloc ?_ _)); refine blk_put (cs := #[.int .i64 0, .int .i64 0, .slice none 0 0]) ?_ 0 _ rfl; (with_reducible repeat (first | refine blk_drewN ?_ _ | refine blk_drew ?_ | refine blk_alloc ?_ _)); exact BK186.out) hb); have n6_ := hb_ HB hb; clear HO179; clear HO184; clear BK175; clear BK176; clear BK186; clear HB; have HO179 := n0_; have HO184 := n1_; have HO189 := n2_; have BK175 := n3_; have BK176 := n4_; have BK186 := n5_; have HB := n6_; clear n0_ n1_ n2_ n3_ n4_ n5_ n6_; clear hb ho31; obtain ⟨Ao32, co32, eo32⟩ := Kd.R_slice HO189.out; subst eo32) | ((with_reducible refine gate_callee (f := 14) rfl ?_); refine goesL_ (some 22) rfl rfl Try.func14 (by kernel_rfl) rfl #[.int .i64 2, .int .i64 1, .int .i64 1, .int .i64 6, .slice Ao32 y187.length co32] rfl (by (try simp only [List.map_toArray, List.map_cons, List.map_nil]) <;> rfl) ?_; (with_reducible refine (buffer_Decode.calls k 2 1 1 6 _ _ y187 t190 t191 t192 t195 _ ?side1 ?side2 A2.out).mono ?_); (case side1 => repeat (first | exact (Kd.R_reads' HO189.out).2.2 | (with_reducible refine Kd.C_alloc ?_ _) | (with_reducible refine Kd.C_drewN ?_ _) | (with_reducible refine Kd.C_drew ?_))); (case side2 => exact (Kd.R_reads' HO189.out).2.1); rintro e w33 ⟨v193, rfl, ho0, hb⟩; refine ⟨_, rfl, ?_⟩; have n0_ := Aside0.mk (Kd.R_below (by (with_reducible repeat (first | apply Kd.R_alloc | apply Kd.R_drewN | apply Kd.R_drew)); exact HO179.out) hb); have n1_ := Aside0.mk (Kd.R_elder' (by (with_reducible repeat (first | apply Kd.R_alloc | apply Kd.R_drewN | apply Kd.R_drew)); exact HO184.out) (Kd.R_base ho0) hb); have n2_ := Aside0.mk (Kd.R_below (by (with_reducible repeat (first | apply Kd.R_alloc | apply Kd.R_drewN | apply Kd.R_drew)); exact HO189.out) hb); have n3_ := Aside0.mk (Kd.R_lower (Kd.R_newB (Kd.R_newB (Kd.R_new' ho0 (Kd.R_lt (by (with_reducible repeat (first | apply Kd.R_alloc | apply Kd.R_drewN | apply Kd.R_drew)); exact HO184.out))) (g := gb175) (o := .cells #[.int .u8 255, .int .u8 255, .int .u8 255, .int .u8 255] 43 (0, 0)) (bq_ BK175)) (g := gb176) (o := .cells #[.int .u8 0, .int .u8 0, .int .u8 0, .int .u8 255] 43 (0, 0)) (bq_ BK176)) (below_size (hq_ HB))); have n4_ := bb_ BK175 hb; have n5_ := bb_ BK176 hb; have n6_ := bb_ BK186 hb; have n7_ := hb_ HB hb; clear HO179; clear HO184; clear HO189; clear BK175; clear BK176; clear BK186; clear HB; have HO179 := n0_; have HO184 := n1_; have HO189 := n2_; have HO194 := n3_; have BK175 := n4_; have BK176 := n5_; have BK186 := n6_; have HB := n7_; clear n0_ n1_ n2_ n3_ n4_ n5_ n6_ n7_; (try clear hb); (try clear hb2); (try clear hk); (try clear hi); (try clear ho0)) | ((with_reducible refine gate_dst (N := 5) rfl ?_); (try (refine gate_guard (by rfl) ?_; dsimp only)); refine box_event ?hg (N := 5) ?hd (cs := #[.int .i64 0, .int .i64 0, .slice none 0 0]) (t := 27) ?hr ?_; (case hd => rfl); (case hg => rfl); (case hr => first | (go_simp; done) | (go_simp; rfl)); intro gb196 hg w34 hbox hb; have n0_ := Aside0.mk (Kd.R_below (by (with_reducible repeat (first | apply Kd.R_alloc | apply Kd.R_drewN | apply Kd.R_drew)); exact HO179.out) hb); have n1_ := Aside0.mk (Kd.R_below (by (with_reducible repeat (first | apply Kd.R_alloc | apply Kd.R_drewN | apply Kd.R_drew)); exact HO184.out) hb); have n2_ := Aside0.mk (Kd.R_below (by (with_reducible repeat (first | apply Kd.R_alloc | apply Kd.R_drewN | apply Kd.R_drew)); exact HO189.out) hb); have n3_ := Aside0.mk (Kd.R_below (by (with_reducible repeat (first | apply Kd.R_alloc | apply Kd.R_drewN | apply Kd.R_drew)); exact HO194.out) hb); have n4_ := bb_ BK175 hb; have n5_ := bb_ BK176 hb; have n6_ := bb_ BK186 hb; have n7_ := hb_ HB hb; have n8_ := Aside0.mk (hbox); have n9_ := Aside0.mk ((by rw [hg]; exact (below_size (hq_ HB)) : w.heap.size ≤ gb196)); have n10_ := Aside0.mk ((by rw [hg]; exact (below_size (hq_ HB)) : w.heap.size ≤ gb196)); have n11_ := Aside0.mk ((by rw [hg]; exact Nat.ne_of_lt (blk_lt (g := gb175) (o := .cells #[.int .u8 255, .int .u8 255, .int .u8 255, .int .u8 255] 43 (0, 0)) (bq_ BK175)) : gb175 ≠ gb196)); have n12_ := Aside0.mk ((by rw [hg]; exact Nat.ne_of_gt (blk_lt (g := gb175) (o := .cells #[.int .u8 255, .int .u8 255, .int .u8 255, .int .u8 255] 43 (0, 0)) (bq_ BK175)) : gb196 ≠ gb175)); have n13_ := Aside0.mk ((by rw [hg]; exact Nat.ne_of_lt (blk_lt (g := gb176) (o := .cells #[.int .u8 0, .int .u8 0, .int .u8 0, .int .u8 255] 43 (0, 0)) (bq_ BK176)) : gb176 ≠ gb196)); have n14_ := Aside0.mk ((by rw [hg]; exact Nat.ne_of_gt (blk_lt (g := gb176) (o := .cells #[.int .u8 0, .int .u8 0, .int .u8 0, .int .u8 255] 43 (0, 0)) (bq_ BK176)) : gb196 ≠ gb176)); have n15_ := Aside0.mk ((by rw [hg]; exact Nat.ne_of_lt (blk_lt (g := gb186) (o := .cells #[.int .i64 t180, .int .i64 t181, .slice Ao29 t182.length co29] 27 (0, 0)) (bq_ BK186)) : gb186 ≠ gb196)); have n16_ := Aside0.mk ((by rw [hg]; exact Nat.ne_of_gt (blk_lt (g := gb186) (o := .cells #[.int .i64 t180, .int .i64 t181, .slice Ao29 t182.length co29] 27 (0, 0)) (bq_ BK186)) : gb196 ≠ gb186)); clear HO179; clear HO184; clear HO189; clear HO194; clear BK175; clear BK176; clear BK186; clear HB; have HO179 := n0_; have HO184 := n1_; have HO189 := n2_; have HO194 := n3_; have BK175 := n4_; have BK176 := n5_; have BK186 := n6_; have HB := n7_; have BK196 := n8_; have GW196 := n9_; have GE196 := n10_; have NB175_196 := n11_; have NB196_175 := n12_; have NB176_196 := n13_; have NB196_176 := n14_; have NB186_196 := n15_; have NB196_186 := n16_; clear n0_ n1_ n2_ n3_ n4_ n5_ n6_ n7_ n8_ n9_ n10_ n11_ n12_ n13_ n14_ n15_ n16_; clear hb hbox hg; have hnb35 := NB196_175.out; have hnc35 := NB175_196.out; have hnb36 := NB196_176.out; have hnc36 := NB176_196.out; have hnb37 := NB196_186.out; have hnc37 := NB186_196.out; have hcz38_0 : w34.cell? ⟨gb196, 0, none⟩ = some (.int .i64 0) := (blk_cell BK196.out 0).trans rfl; have hcz38_1 : w34.cell? ⟨gb196, 1, none⟩ = some (.int .i64 0) := (blk_cell BK196.out 1).trans rfl; have hcz38_2 : w34.cell? ⟨gb196, 2, none⟩ = some (.slice none 0 0) := (blk_cell BK196.out 2).trans rfl; have hfz38_0 := blk_frozen BK196.out 0; have hfz38_1 := blk_frozen BK196.out 1; have hfz38_2 := blk_frozen BK196.out 2; obtain ⟨Ao39, co39, eo39⟩ := Kd.R_slice HO194.out; subst eo39) | ((with_reducible refine gate_dst (N := 26) rfl ?_); (try (refine gate_guard (by rfl) ?_; dsimp only)); refine Kd.R_lit (Kd.int .u8) _ 5 ?hg (N := 26) ?hd (xs := ([1, 2, 3] : List Int)) (inner := [.int .u8 1, .int .u8 2, .int .u8 3]) (ok := fun _ => True) (okp := fun _ => True) ?hr ?hp (fun _ hk => hk) trivial (Below.refl _ _) (Nat.le_refl _) (by simp) ?_; (case hd => rfl); (case hg => rfl); (case hr => first | (go_simp; done) | (go_simp; rfl)); (case hp => exact (Reps.one (show Kd.M (Kd.int .u8) _ _ _ 1 [.int .u8 1] from rfl) (Reps.one (show Kd.M (Kd.int .u8) _ _ _ 2 [.int .u8 2] from rfl) (Reps.one (show Kd.M (Kd.int .u8) _ _ _ 3 [.int .u8 3] from rfl) (Reps.none _ _))))); intro v198 w40 ho41 hb hg_ hnew_; clear hg_ hnew_; (first | rw [← Ny197.out] at ho41 | (simp only [Int.reduceToNat] at ho41; rw [← Ny197.out] at ho41)); have n0_ := Aside0.mk (Kd.R_elder' (by (with_reducible repeat (first | apply Kd.R_alloc | apply Kd.R_drewN | apply Kd.R_drew)); exact (Kd.R_mono (Kd.R_far (p := ⟨gb196, 2, none⟩) (Kd.R_far (p := ⟨gb196, 1, none⟩) (Kd.R_far (p := ⟨gb196, 0, none⟩) (Kd.R_types HO179.out BK196.out (by decide)) (fun _ hk => hk.2) (.int .i64 t190)) (fun _ hk => hk.2) (.int .i64 t191)) (fun _ hk => hk.2) (.slice Ao39 t192.length co39)) (fun _ h_ => h_.1))) (Kd.R_base ho41) hb); have n1_ := Aside0.mk (Kd.R_below (by (with_reducible repeat (first | apply Kd.R_alloc | apply Kd.R_drewN | apply Kd.R_drew)); exact (Kd.R_mono (Kd.R_far (p := ⟨gb196, 2, none⟩) (Kd.R_far (p := ⟨gb196, 1, none⟩) (Kd.R_far (p := ⟨gb196, 0, none⟩) (Kd.R_types HO184.out BK196.out (by decide)) (fun _ hk => hk.2) (.int .i64 t190)) (fun _ hk => hk.2) (.int .i64 t191)) (fun _ hk => hk.2) (.slice Ao39 t192.length co39)) (fun _ h_ => h_.1))) hb); have n2_ := Aside0.mk (Kd.R_elder' (by (with_reducible repeat (first | apply Kd.R_alloc | apply Kd.R_drewN | apply Kd.R_drew)); exact (Kd.R_mono (Kd.R_far (p := ⟨gb196, 2, none⟩) (Kd.R_far (p := ⟨gb196, 1, none⟩) (Kd.R_far (p := ⟨gb196, 0, none⟩) (Kd.R_types HO189.out BK196.out (by decide)) (fun _ hk => hk.2) (.int .i64 t190)) (fun _ hk => hk.2) (.int .i64 t191)) (fun _ hk => hk.2) (.slice Ao39 t192.length co39)) (fun _ h_ => h_.1))) (Kd.R_base ho41) hb); have n3_ := Aside0.mk (Kd.R_below (by (with_reducible repeat (first | apply Kd.R_alloc | apply Kd.R_drewN | apply Kd.R_drew)); exact (Kd.R_mono (Kd.R_far (p := ⟨gb196, 2, none⟩) (Kd.R_far (p := ⟨gb196, 1, none⟩) (Kd.R_far (p := ⟨gb196, 0, none⟩) (Kd.R_types HO194.out BK196.out (by decide)) (fun _ hk => hk.2) (.int .i64 t190)) (fun _ hk => hk.2) (.int .i64 t191)) (fun _ hk => hk.2) (.slice Ao39 t192.length co39)) (fun _ h_ => h_.1))) hb); have n4_ := Aside0.mk (Kd.R_lower (Kd.R_new' (Kd.R_new' ho41 (Kd.R_lt (by (with_reducible repeat (first | apply Kd.R_alloc | apply Kd.R_drewN | apply Kd.R_drew)); exact (Kd.R_mono (Kd.R_far (p := ⟨gb196, 2, none⟩) (Kd.R_far (p := ⟨gb196, 1, none⟩) (Kd.R_far (p := ⟨gb196, 0, none⟩) (Kd.R_types HO179.out BK196.out (by decide)) (fun _ hk => hk.2) (.int .i64 t190)) (fun _ hk => hk.2) (.int .i64 t191)) (fun _ hk => hk.2) (.slice Ao39 t192.length co39)) (fun _ h_ => h_.1))))) (Kd.R_lt (by (with_reducible repeat (first | apply Kd.R_alloc | apply Kd.R_drewN | apply Kd.R_drew)); exact (Kd.R_mono (Kd.R_far (p := ⟨gb196, 2, none⟩) (Kd.R_far (p := ⟨gb196, 1, none⟩) (Kd.R_far (p := ⟨gb196, 0, none⟩) (Kd.R_types HO189.out BK196.out (by decide)) (fun _ hk => hk.2) (.int .i64 t190)) (fun _ hk => hk.2) (.int .i64 t191)) (fun _ hk => hk.2) (.slice Ao39 t192.length co39)) (fun _ h_ => h_.1))))) (below_size (hq_ HB))); have n5_ := Aside0.mk (blk_below (g := gb175) (o := .cells #[.int .u8 255, .int .u8 255, .int .u8 255, .int .u8 255] 43 (0, 0)) (by (with_reducible repeat (first | refine blk_drewN ?_ _ | refine blk_drew ?_ | refine blk_alloc ?_ _)); refine blk_far ?_ NB175_196.out _; (with_reducible repeat (first | refine blk_drewN ?_ _ | refine blk_drew ?_ | refine blk_alloc ?_ _)); refine blk_far ?_ NB175_196.out _; (with_reducible repeat (first | refine blk_drewN ?_ _ | refine blk_drew ?_ | refine blk_alloc ?_ _)); refine blk_far ?_ NB175_196.out _; (with_reducible repeat (first | refine blk_drewN ?_ _ | refine blk_drew ?_ | refine blk_alloc ?_ _)); exact BK175.out) hb); have n6_ := Aside0.mk (blk_below (g := gb176) (o := .cells #[.int .u8 0, .int .u8 0, .int .u8 0, .int .u8 255] 43 (0, 0)) (by (with_reducible repeat (first | refine blk_drewN ?_ _ | refine blk_drew ?_ | refine blk_alloc ?_ _)); refine blk_far ?_ NB176_196.out _; (with_reducible repeat (first | refine blk_drewN ?_ _ | refine blk_drew ?_ | refine blk_alloc ?_ _)); refine blk_far ?_ NB176_196.out _; (with_reducible repeat (first | refine blk_drewN ?_ _ | refine blk_drew ?_ | refine blk_alloc ?_ _)); refine blk_far ?_ NB176_196.out _; (with_reducible repeat (first | refine blk_drewN ?_ _ | refine blk_drew ?_ | refine blk_alloc ?_ _)); exact BK176.out) hb); have n7_ := Aside0.mk (blk_below (g := gb186) (o := .cells #[.int .i64 t180, .int .i64 t181, .slice Ao29 t182.length co29] 27 (0, 0)) (by (with_reducible repeat (first | refine blk_drewN ?_ _ | refine blk_drew ?_ | refine blk_alloc ?_ _)); refine blk_far ?_ NB186_196.out _; (with_reducible repeat (first | refine blk_drewN ?_ _ | refine blk_drew ?_ | refine blk_alloc ?_ _)); refine blk_far ?_ NB186_196.out _; (with_reducible repeat (first | refine blk_drewN ?_ _ | refine blk_drew ?_ | refine blk_alloc ?_ _)); refine blk_far ?_ NB186_196.out _; (with_reducible repeat (first | refine blk_drewN ?_ _ | refine blk_drew ?_ | refine blk_alloc ?_ _)); exact BK186.out) hb); have n8_ := Aside0.mk (blk_below (g := gb196) (o := .cells #[.int .i64 t190, .int .i64 t191, .slice Ao39 t192.length co39] 27 (0, 0)) (by (with_reducible repeat (first | refine blk_drewN ?_ _ | refine blk_drew ?_ | refine blk_alloc ?_ _)); refine blk_put (cs := #[.int .i64 t190, .int .i64 t191, .slice none 0 0]) ?_ 2 _ rfl; (with_reducible repeat (first | refine blk_drewN ?_ _ | refine blk_drew ?_ | refine blk_alloc ?_ _)); refine blk_put (cs := #[.int .i64 t190, .int .i64 0, .slice none 0 0]) ?_ 1 _ rfl; (with_reducible repeat (first | refine blk_drewN ?_ _ | refine blk_drew ?_ | refine blk_alloc ?_ _)); refine blk_put (cs := #[.int .i64 0, .int .i64 0, .slice none 0 0]) ?_ 0 _ rfl; (with_reducible repeat (first | refine blk_drewN ?_ _ | refine blk_drew ?_ | refine blk_alloc ?_ _)); exact BK196.out) hb); have n9_ := hb_ HB hb; clear HO179; clear HO184; clear HO189; clear HO194; clear BK175; clear BK176; clear BK186; clear BK196; clear HB; have HO179 := n0_; have HO184 := n1_; have HO189 := n2_; have HO194 := n3_; have HO199 := n4_; have BK175 := n5_; have BK176 := n6_; have BK186 := n7_; have BK196 := n8_; have HB := n9_; clear n0_ n1_ n2_ n3_ n4_ n5_ n6_ n7_ n8_ n9_; clear hb ho41; obtain ⟨Ao42, co42, eo42⟩ := Kd.R_slice HO199.out; subst eo42) | ((with_reducible refine gate_callee (f := 14) rfl ?_); refine goesL_ (some 27) rfl rfl Try.func14 (by kernel_rfl) rfl #[.int .i64 2, .int .i64 1, .int .i64 1, .int .i64 4, .slice Ao42 y197.length co42] rfl (by (try simp only [List.map_toArray, List.map_cons, List.map_nil]) <;> rfl) ?_; (with_reducible refine (buffer_Decode.calls k 2 1 1 4 _ _ y197 t200 t201 t202 t205 _ ?side1 ?side2 A3.out).mono ?_); (case side1 => repeat (first | exact (Kd.R_reads' HO199.out).2.2 | (with_reducible refine Kd.C_alloc ?_ _) | (with_reducible refine Kd.C_drewN ?_ _) | (with_reducible refine Kd.C_drew ?_))); (case side2 => exact (Kd.R_reads' HO199.out).2.1); rintro e w43 ⟨v203, rfl, ho0, hb⟩; refine ⟨_, rfl, ?_⟩; have n0_ := Aside0.mk (Kd.R_below (by (with_reducible repeat (first | apply Kd.R_alloc | apply Kd.R_drewN | apply Kd.R_drew)); exact HO179.out) hb); have n1_ := Aside0.mk (Kd.R_elder' (by (with_reducible repeat (first | apply Kd.R_alloc | apply Kd.R_drewN | apply Kd.R_drew)); exact HO184.out) (Kd.R_base ho0) hb); have n2_ := Aside0.mk (Kd.R_below (by (with_reducible repeat (first | apply Kd.R_alloc | apply Kd.R_drewN | apply Kd.R_drew)); exact HO189.out) hb); have n3_ := Aside0.mk (Kd.R_elder' (by (with_reducible repeat (first | apply Kd.R_alloc | apply Kd.R_drewN | apply Kd.R_drew)); exact HO194.out) (Kd.R_base ho0) hb); have n4_ := Aside0.mk (Kd.R_below (by (with_reducible repeat (first | apply Kd.R_alloc | apply Kd.R_drewN | apply Kd.R_drew)); exact HO199.out) hb); have n5_ := Aside0.mk (Kd.R_lower (Kd.R_newB (Kd.R_newB (Kd.R_new' (Kd.R_new' ho0 (Kd.R_lt (by (with_reducible repeat (first | apply Kd.R_alloc | apply Kd.R_drewN | apply Kd.R_drew)); exact HO184.out))) (Kd.R_lt (by (with_reducible repeat (first | apply Kd.R_alloc | apply Kd.R_drewN | apply Kd.R_drew)); exact HO194.out))) (g := gb175) (o := .cells #[.int .u8 255, .int .u8 255, .int .u8 255, .int .u8 255] 43 (0, 0)) (bq_ BK175)) (g := gb176) (o := .cells #[.int .u8 0, .int .u8 0, .int .u8 0, .int .u8 255] 43 (0, 0)) (bq_ BK176)) (below_size (hq_ HB))); have n6_ := bb_ BK175 hb; have n7_ := bb_ BK176 hb; have n8_ := bb_ BK186 hb; have n9_ := bb_ BK196 hb; have n10_ := hb_ HB hb; clear HO179; clear HO184; clear HO189; clear HO194; clear HO199; clear BK175; clear BK176; clear BK186; clear BK196; clear HB; have HO179 := n0_; have HO184 := n1_; have HO189 := n2_; have HO194 := n3_; have HO199 := n4_; have HO204 := n5_; have BK175 := n6_; have BK176 := n7_; have BK186 := n8_; have BK196 := n9_; have HB := n10_; clear n0_ n1_ n2_ n3_ n4_ n5_ n6_ n7_ n8_ n9_ n10_; (try clear hb); (try clear hb2); (try clear hk); (try clear hi); (try clear ho0)) | ((with_reducible refine gate_dst (N := 7) rfl ?_); (try (refine gate_guard (by rfl) ?_; dsimp only)); refine box_event ?hg (N := 7) ?hd (cs := #[.int .i64 0, .int .i64 0, .slice none 0 0]) (t := 27) ?hr ?_; (case hd => rfl); (case hg => rfl); (case hr => first | (go_simp; done) | (go_simp; rfl)); intro gb206 hg w44 hbox hb; have n0_ := Aside0.mk (Kd.R_below (by (with_reducible repeat (first | apply Kd.R_alloc | apply Kd.R_drewN | apply Kd.R_drew)); exact HO179.out) hb); have n1_ := Aside0.mk (Kd.R_below (by (with_reducible repeat (first | apply Kd.R_alloc | apply Kd.R_drewN | apply Kd.R_drew)); exact HO184.out) hb); have n2_ := Aside0.mk (Kd.R_below (by (with_reducible repeat (first | apply Kd.R_alloc | apply Kd.R_drewN | apply Kd.R_drew)); exact HO189.out) hb); have n3_ := Aside0.mk (Kd.R_below (by (with_reducible repeat (first | apply Kd.R_alloc | apply Kd.R_drewN | apply Kd.R_drew)); exact HO194.out) hb); have n4_ := Aside0.mk (Kd.R_below (by (with_reducible repeat (first | apply Kd.R_alloc | apply Kd.R_drewN | apply Kd.R_drew)); exact HO199.out) hb); have n5_ := Aside0.mk (Kd.R_below (by (with_reducible repeat (first | apply Kd.R_alloc | apply Kd.R_drewN | apply Kd.R_drew)); exact HO204.out) hb); have n6_ := bb_ BK175 hb; have n7_ := bb_ BK176 hb; have n8_ := bb_ BK186 hb; have n9_ := bb_ BK196 hb; have n10_ := hb_ HB hb; have n11_ := Aside0.mk (hbox); have n12_ := Aside0.mk ((by rw [hg]; exact (below_size (hq_ HB)) : w.heap.size ≤ gb206)); have n13_ := Aside0.mk ((by rw [hg]; exact (below_size (hq_ HB)) : w.heap.size ≤ gb206)); have n14_ := Aside0.mk ((by rw [hg]; exact Nat.ne_of_lt (blk_lt (g := gb175) (o := .cells #[.int .u8 255, .int .u8 255, .int .u8 255, .int .u8 255] 43 (0, 0)) (bq_ BK175)) : gb175 ≠ gb206)); have n15_ := Aside0.mk ((by rw [hg]; exact Nat.ne_of_gt (blk_lt (g := gb175) (o := .cells #[.int .u8 255, .int .u8 255, .int .u8 255, .int .u8 255] 43 (0, 0)) (bq_ BK175)) : gb206 ≠ gb175)); have n16_ := Aside0.mk ((by rw [hg]; exact Nat.ne_of_lt (blk_lt (g := gb176) (o := .cells #[.int .u8 0, .int .u8 0, .int .u8 0, .int .u8 255] 43 (0, 0)) (bq_ BK176)) : gb176 ≠ gb206)); have n17_ := Aside0.mk ((by rw [hg]; exact Nat.ne_of_gt (blk_lt (g := gb176) (o := .cells #[.int .u8 0, .int .u8 0, .int .u8 0, .int .u8 255] 43 (0, 0)) (bq_ BK176)) : gb206 ≠ gb176)); have n18_ := Aside0.mk ((by rw [hg]; exact Nat.ne_of_lt (blk_lt (g := gb186) (o := .cells #[.int .i64 t180, .int .i64 t181, .slice Ao29 t182.length co29] 27 (0, 0)) (bq_ BK186)) : gb186 ≠ gb206)); have n19_ := Aside0.mk ((by rw [hg]; exact Nat.ne_of_gt (blk_lt (g := gb186) (o := .cells #[.int .i64 t180, .int .i64 t181, .slice Ao29 t182.length co29] 27 (0, 0)) (bq_ BK186)) : gb206 ≠ gb186)); have n20_ := Aside0.mk ((by rw [hg]; exact Nat.ne_of_lt (blk_lt (g := gb196) (o := .cells #[.int .i64 t190, .int .i64 t191, .slice Ao39 t192.length co39] 27 (0, 0)) (bq_ BK196)) : gb196 ≠ gb206)); have n21_ := Aside0.mk ((by rw [hg]; exact Nat.ne_of_gt (blk_lt (g := gb196) (o := .cells #[.int .i64 t190, .int .i64 t191, .slice Ao39 t192.length co39] 27 (0, 0)) (bq_ BK196)) : gb206 ≠ gb196)); clear HO179; clear HO184; clear HO189; clear HO194; clear HO199; clear HO204; clear BK175; clear BK176; clear BK186; clear BK196; clear HB; have HO179 := n0_; have HO184 := n1_; have HO189 := n2_; have HO194 := n3_; have HO199 := n4_; have HO204 := n5_; have BK175 := n6_; have BK176 := n7_; have BK186 := n8_; have BK196 := n9_; have HB := n10_; have BK206 := n11_; have GW206 := n12_; have GE206 := n13_; have NB175_206 := n14_; have NB206_175 := n15_; have NB176_206 := n16_; have NB206_176 := n17_; have NB186_206 := n18_; have NB206_186 := n19_; have NB196_206 := n20_; have NB206_196 := n21_; clear n0_ n1_ n2_ n3_ n4_ n5_ n6_ n7_ n8_ n9_ n10_ n11_ n12_ n13_ n14_ n15_ n16_ n17_ n18_ n19_ n20_ n21_; clear hb hbox hg; have hnb45 := NB206_175.out; have hnc45 := NB175_206.out; have hnb46 := NB206_176.out; have hnc46 := NB176_206.out; have hnb47 := NB206_186.out; have hnc47 := NB186_206.out; have hnb48 := NB206_196.out; have hnc48 := NB196_206.out; have hcz49_0 : w44.cell? ⟨gb206, 0, none⟩ = some (.int .i64 0) := (blk_cell BK206.out 0).trans rfl; have hcz49_1 : w44.cell? ⟨gb206, 1, none⟩ = some (.int .i64 0) := (blk_cell BK206.out 1).trans rfl; have hcz49_2 : w44.cell? ⟨gb206, 2, none⟩ = some (.slice none 0 0) := (blk_cell BK206.out 2).trans rfl; have hfz49_0 := blk_frozen BK206.out 0; have hfz49_1 := blk_frozen BK206.out 1; have hfz49_2 := blk_frozen BK206.out 2; obtain ⟨Ao50, co50, eo50⟩ := Kd.R_slice HO204.out; subst eo50; have hcz51_0 : w44.cell? ⟨gb175, 0, none⟩ = some (.int .u8 255) := (blk_cell BK175.out 0).trans rfl; have hcz51_1 : w44.cell? ⟨gb175, 1, none⟩ = some (.int .u8 255) := (blk_cell BK175.out 1).trans rfl; have hcz51_2 : w44.cell? ⟨gb175, 2, none⟩ = some (.int .u8 255) := (blk_cell BK175.out 2).trans rfl; have hcz51_3 : w44.cell? ⟨gb175, 3, none⟩ = some (.int .u8 255) := (blk_cell BK175.out 3).trans rfl; have hfz51_0 := blk_frozen BK175.out 0; have hfz51_1 := blk_frozen BK175.out 1; have hfz51_2 := blk_frozen BK175.out 2; have hfz51_3 := blk_frozen BK175.out 3) | ((with_reducible refine gate_dst (N := 34) rfl ?_); (try (refine gate_guard (by rfl) ?_; dsimp only)); refine Kd.R_lit k43 _ 43 ?hg (N := 34) ?hd (xs := ([(⟨255, 255, 255, 255⟩ : S43), (⟨255, 255, 255, 255⟩ : S43), (⟨255, 255, 255, 255⟩ : S43)] : List (S43))) (inner := [.int .u8 255, .int .u8 255, .int .u8 255, .int .u8 255, .int .u8 255, .int .u8 255, .int .u8 255, .int .u8 255, .int .u8 255, .int .u8 255, .int .u8 255, .int .u8 255]) (ok := fun _ => True) (okp := fun _ => True) ?hr ?hp (fun _ hk => hk) trivial (Below.refl _ _) (Nat.le_refl _) (by simp) ?_; (case hd => rfl); (case hg => rfl); (case hr => first | (go_simp; done) | (go_simp; rfl)); (case hp => exact (Reps.c4 (show Kd.M k43 _ _ _ (⟨255, 255, 255, 255⟩ : S43) [.int .u8 255, .int .u8 255, .int .u8 255, .int .u8 255] from (k43_mkM _ _ _ (⟨255, 255, 255, 255⟩ : S43) )) (Reps.c4 (show Kd.M k43 _ _ _ (⟨255, 255, 255, 255⟩ : S43) [.int .u8 255, .int .u8 255, .int .u8 255, .int .u8 255] from (k43_mkM _ _ _ (⟨255, 255, 255, 255⟩ : S43) )) (Reps.c4 (show Kd.M k43 _ _ _ (⟨255, 255, 255, 255⟩ : S43) [.int .u8 255, .int .u8 255, .int .u8 255, .int .u8 255] from (k43_mkM _ _ _ (⟨255, 255, 255, 255⟩ : S43) )) (Reps.none _ _))))); intro v208 w52 ho53 hb hg_ hnew_; clear hg_ hnew_; (first | rw [← Ny207.out] at ho53 | (simp only [Int.reduceToNat] at ho53; rw [← Ny207.out] at ho53)); have n0_ := Aside0.mk (Kd.R_below (by (with_reducible repeat (first | apply Kd.R_alloc | apply Kd.R_drewN | apply Kd.R_drew)); exact (Kd.R_mono (Kd.R_far (p := ⟨gb206, 2, none⟩) (Kd.R_far (p := ⟨gb206, 1, none⟩) (Kd.R_far (p := ⟨gb206, 0, none⟩) (Kd.R_types HO179.out BK206.out (by decide)) (fun _ hk => hk.2) (.int .i64 t200)) (fun _ hk => hk.2) (.int .i64 t201)) (fun _ hk => hk.2) (.slice Ao50 t202.length co50)) (fun _ h_ => h_.1))) hb); have n1_ := Aside0.mk (Kd.R_elder' (by (with_reducible repeat (first | apply Kd.R_alloc | apply Kd.R_drewN | apply Kd.R_drew)); exact (Kd.R_mono (Kd.R_far (p := ⟨gb206, 2, none⟩) (Kd.R_far (p := ⟨gb206, 1, none⟩) (Kd.R_far (p := ⟨gb206, 0, none⟩) (Kd.R_types HO184.out BK206.out (by decide)) (fun _ hk => hk.2) (.int .i64 t200)) (fun _ hk => hk.2) (.int .i64 t201)) (fun _ hk => hk.2) (.slice Ao50 t202.length co50)) (fun _ h_ => h_.1))) (Kd.R_base ho53) hb); have n2_ := Aside0.mk (Kd.R_below (by (with_reducible repeat (first | apply Kd.R_alloc | apply Kd.R_drewN | apply Kd.R_drew)); exact (Kd.R_mono (Kd.R_far (p := ⟨gb206, 2, none⟩) (Kd.R_far (p := ⟨gb206, 1, none⟩) (Kd.R_far (p := ⟨gb206, 0, none⟩) (Kd.R_types HO189.out BK206.out (by decide)) (fun _ hk => hk.2) (.int .i64 t200)) (fun _ hk => hk.2) (.int .i64 t201)) (fun _ hk => hk.2) (.slice Ao50 t202.length co50)) (fun _ h_ => h_.1))) hb); have n3_ := Aside0.mk (Kd.R_elder' (by (with_reducible repeat (first | apply Kd.R_alloc | apply Kd.R_drewN | apply Kd.R_drew)); exact (Kd.R_mono (Kd.R_far (p := ⟨gb206, 2, none⟩) (Kd.R_far (p := ⟨gb206, 1, none⟩) (Kd.R_far (p := ⟨gb206, 0, none⟩) (Kd.R_types HO194.out BK206.out (by decide)) (fun _ hk => hk.2) (.int .i64 t200)) (fun _ hk => hk.2) (.int .i64 t201)) (fun _ hk => hk.2) (.slice Ao50 t202.length co50)) (fun _ h_ => h_.1))) (Kd.R_base ho53) hb); have n4_ := Aside0.mk (Kd.R_below (by (with_reducible repeat (first | apply Kd.R_alloc | apply Kd.R_drewN | apply Kd.R_drew)); exact (Kd.R_mono (Kd.R_far (p := ⟨gb206, 2, none⟩) (Kd.R_far (p := ⟨gb206, 1, none⟩) (Kd.R_far (p := ⟨gb206, 0, none⟩) (Kd.R_types HO199.out BK206.out (by decide)) (fun _ hk => hk.2) (.int .i64 t200)) (fun _ hk => hk.2) (.int .i64 t201)) (fun _ hk => hk.2) (.slice Ao50 t202.length co50)) (fun _ h_ => h_.1))) hb); have n5_ := Aside0.mk (Kd.R_elder' (by (with_reducible repeat (first | apply Kd.R_alloc | apply Kd.R_drewN | apply Kd.R_drew)); exact (Kd.R_mono (Kd.R_far (p := ⟨gb206, 2, none⟩) (Kd.R_far (p := ⟨gb206, 1, none⟩) (Kd.R_far (p := ⟨gb206, 0, none⟩) (Kd.R_types HO204.out BK206.out (by decide)) (fun _ hk => hk.2) (.int .i64 t200)) (fun _ hk => hk.2) (.int .i64 t201)) (fun _ hk => hk.2) (.slice Ao50 t202.length co50)) (fun _ h_ => h_.1))) (Kd.R_base ho53) hb); have n6_ := Aside0.mk (Kd.R_lower (Kd.R_newB (Kd.R_newB (Kd.R_new' (Kd.R_new' (Kd.R_new' ho53 (Kd.R_lt (by (with_reducible repeat (first | apply Kd.R_alloc | apply Kd.R_drewN | apply Kd.R_drew)); exact (Kd.R_mono (Kd.R_far (p := ⟨gb206, 2, none⟩) (Kd.R_far (p := ⟨gb206, 1, none⟩) (Kd.R_far (p := ⟨gb206, 0, none⟩) (Kd.R_types HO184.out BK206.out (by decide)) (fun _ hk => hk.2) (.int .i64 t200)) (fun _ hk => hk.2) (.int .i64 t201)) (fun _ hk => hk.2) (.slice Ao50 t202.length co50)) (fun _ h_ => h_.1))))) (Kd.R_lt (by (with_reducible repeat (first | apply Kd.R_alloc | apply Kd.R_drewN | apply Kd.R_drew)); exact (Kd.R_mono (Kd.R_far (p := ⟨gb206, 2, none⟩) (Kd.R_far (p := ⟨gb206, 1, none⟩) (Kd.R_far (p := ⟨gb206, 0, none⟩) (Kd.R_types HO194.out BK206.out (by decide)) (fun _ hk => hk.2) (.int .i64 t200)) (fun _ hk => hk.2) (.int .i64 t201)) (fun _ hk => hk.2) (.slice Ao50 t202.length co50)) (fun _ h_ => h_.1))))) (Kd.R_lt (by (with_reducible repeat (first | apply Kd.R_alloc | apply Kd.R_drewN | apply Kd.R_drew)); exact (Kd.R_mono (Kd.R_far (p := ⟨gb206, 2, none⟩) (Kd.R_far (p := ⟨gb206, 1, none⟩) (Kd.R_far (p := ⟨gb206, 0, none⟩) (Kd.R_types HO204.out BK206.out (by decide)) (fun _ hk => hk.2) (.int .i64 t200)) (fun _ hk => hk.2) (.int .i64 t201)) (fun _ hk => hk.2) (.slice Ao50 t202.length co50)) (fun _ h_ => h_.1))))) (g := gb175) (o := .cells #[.int .u8 255, .int .u8 255, .int .u8 255, .int .u8 255] 43 (0, 0)) (by (with_reducible repeat (first | refine blk_drewN ?_ _ | refine blk_drew ?_ | refine blk_alloc ?_ _)); refine blk_far ?_ NB175_206.out _; (with_reducible repeat (first | refine blk_drewN ?_ _ | refine blk_drew ?_ | refine blk_alloc ?_ _)); refine blk_far ?_ NB175_206.out _; (with_reducible repeat (first | refine blk_drewN ?_ _ | refine blk_drew ?_ | refine blk_alloc ?_ _)); refine blk_far ?_ NB175_206.out _; (with_reducible repeat (first | refine blk_drewN ?_ _ | refine blk_drew ?_ | refine blk_alloc ?_ _)); exact BK175.out)) (g := gb176) (o := .cells #[.int .u8 0, .int .u8 0, .int .u8 0, .int .u8 255] 43 (0, 0)) (by (with_reducible repeat (first | refine blk_drewN ?_ _ | refine blk_drew ?_ | refine blk_alloc ?_ _)); refine blk_far ?_ NB176_206.out _; (with_reducible repeat (first | refine blk_drewN ?_ _ | refine blk_drew ?_ | refine blk_alloc ?_ _)); refine blk_far ?_ NB176_206.out _; (with_reducible repeat (first | refine blk_drewN ?_ _ | refine blk_drew ?_ | refine blk_alloc ?_ _)); refine blk_far ?_ NB176_206.out _; (with_reducible repeat (first | refine blk_drewN ?_ _ | refine blk_drew ?_ | refine blk_alloc ?_ _)); exact BK176.out)) (below_size (hq_ HB))); have n7_ := Aside0.mk (blk_below (g := gb175) (o := .cells #[.int .u8 255, .int .u8 255, .int .u8 255, .int .u8 255] 43 (0, 0)) (by (with_reducible repeat (first | refine blk_drewN ?_ _ | refine blk_drew ?_ | refine blk_alloc ?_ _)); refine blk_far ?_ NB175_206.out _; (with_reducible repeat (first | refine blk_drewN ?_ _ | refine blk_drew ?_ | refine blk_alloc ?_ _)); refine blk_far ?_ NB175_206.out _; (with_reducible repeat (first | refine blk_drewN ?_ _ | refine blk_drew ?_ | refine blk_alloc ?_ _)); refine blk_far ?_ NB175_206.out _; (with_reducible repeat (first | refine blk_drewN ?_ _ | refine blk_drew ?_ | refine blk_alloc ?_ _)); exact BK175.out) hb); have n8_ := Aside0.mk (blk_below (g := gb176) (o := .cells #[.int .u8 0, .int .u8 0, .int .u8 0, .int .u8 255] 43 (0, 0)) (by (with_reducible repeat (first | refine blk_drewN ?_ _ | refine blk_drew ?_ | refine blk_alloc ?_ _)); refine blk_far ?_ NB176_206.out _; (with_reducible repeat (first | refine blk_drewN ?_ _ | refine blk_drew ?_ | refine blk_alloc ?_ _)); refine blk_far ?_ NB176_206.out _; (with_reducible repeat (first | refine blk_drewN ?_ _ | refine blk_drew ?_ | refine blk_alloc ?_ _)); refine blk_far ?_ NB176_206.out _; (with_reducible repeat (first | refine blk_drewN ?_ _ | refine blk_drew ?_ | refine blk_alloc ?_ _)); exact BK176.out) hb); have n9_ := Aside0.mk (blk_below (g := gb186) (o := .cells #[.int .i64 t180, .int .i64 t181, .slice Ao29 t182.length co29] 27 (0, 0)) (by (with_reducible repeat (first | refine blk_drewN ?_ _ | refine blk_drew ?_ | refine blk_alloc ?_ _)); refine blk_far ?_ NB186_206.out _; (with_reducible repeat (first | refine blk_drewN ?_ _ | refine blk_drew ?_ | refine blk_alloc ?_ _)); refine blk_far ?_ NB186_206.out _; (with_reducible repeat (first | refine blk_drewN ?_ _ | refine blk_drew ?_ | refine blk_alloc ?_ _)); refine blk_far ?_ NB186_206.out _; (with_reducible repeat (first | refine blk_drewN ?_ _ | refine blk_drew ?_ | refine blk_alloc ?_ _)); exact BK186.out) hb); have n10_ := Aside0.mk (blk_below (g := gb196) (o := .cells #[.int .i64 t190, .int .i64 t191, .slice Ao39 t192.length co39] 27 (0, 0)) (by (with_reducible repeat (first | refine blk_drewN ?_ _ | refine blk_drew ?_ | refine blk_alloc ?_ _)); refine blk_far ?_ NB196_206.out _; (with_reducible repeat (first | refine blk_drewN ?_ _ | refine blk_drew ?_ | refine blk_alloc ?_ _)); refine blk_far ?_ NB196_206.out _; (with_reducible repeat (first | refine blk_drewN ?_ _ | refine blk_drew ?_ | refine blk_alloc ?_ _)); refine blk_far ?_ NB196_206.out _; (with_reducible repeat (first | refine blk_drewN ?_ _ | refine blk_drew ?_ | refine blk_alloc ?_ _)); exact BK196.out) hb); have n11_ := Aside0.mk (blk_below (g := gb206) (o := .cells #[.int .i64 t200, .int .i64 t201, .slice Ao50 t202.length co50] 27 (0, 0)) (by (with_reducible repeat (first | refine blk_drewN ?_ _ | refine blk_drew ?_ | refine blk_alloc ?_ _)); refine blk_put (cs := #[.int .i64 t200, .int .i64 t201, .slice none 0 0]) ?_ 2 _ rfl; (with_reducible repeat (first | refine blk_drewN ?_ _ | refine blk_drew ?_ | refine blk_alloc ?_ _)); refine blk_put (cs := #[.int .i64 t200, .int .i64 0, .slice none 0 0]) ?_ 1 _ rfl; (with_reducible repeat (first | refine blk_drewN ?_ _ | refine blk_drew ?_ | refine blk_alloc ?_ _)); refine blk_put (cs := #[.int .i64 0, .int .i64 0, .slice none 0 0]) ?_ 0 _ rfl; (with_reducible repeat (first | refine blk_drewN ?_ _ | refine blk_drew ?_ | refine blk_alloc ?_ _)); exact BK206.out) hb); have n12_ := hb_ HB hb; clear HO179; clear HO184; clear HO189; clear HO194; clear HO199; clear HO204; clear BK175; clear BK176; clear BK186; clear BK196; clear BK206; clear HB; have HO179 := n0_; have HO184 := n1_; have HO189 := n2_; have HO194 := n3_; have HO199 := n4_; have HO204 := n5_; have HO209 := n6_; have BK175 := n7_; have BK176 := n8_; have BK186 := n9_; have BK196 := n10_; have BK206 := n11_; have HB := n12_; clear n0_ n1_ n2_ n3_ n4_ n5_ n6_ n7_ n8_ n9_ n10_ n11_ n12_; clear hb ho53; obtain ⟨Ao54, co54, eo54⟩ := Kd.R_slice HO209.out; subst eo54; have hcz55_0 : w52.cell? ⟨gb175, 0, none⟩ = some (.int .u8 255) := (blk_cell BK175.out 0).trans rfl; have hcz55_1 : w52.cell? ⟨gb175, 1, none⟩ = some (.int .u8 255) := (blk_cell BK175.out 1).trans rfl; have hcz55_2 : w52.cell? ⟨gb175, 2, none⟩ = some (.int .u8 255) := (blk_cell BK175.out 2).trans rfl; have hcz55_3 : w52.cell? ⟨gb175, 3, none⟩ = some (.int .u8 255) := (blk_cell BK175.out 3).trans rfl; have hfz55_0 := blk_frozen BK175.out 0; have hfz55_1 := blk_frozen BK175.out 1; have hfz55_2 := blk_frozen BK175.out 2; have hfz55_3 := blk_frozen BK175.out 3; have hcz56_0 : w52.cell? ⟨gb176, 0, none⟩ = some (.int .u8 0) := (blk_cell BK176.out 0).trans rfl; have hcz56_1 : w52.cell? ⟨gb176, 1, none⟩ = some (.int .u8 0) := (blk_cell BK176.out 1).trans rfl; have hcz56_2 : w52.cell? ⟨gb176, 2, none⟩ = some (.int .u8 0) := (blk_cell BK176.out 2).trans rfl; have hcz56_3 : w52.cell? ⟨gb176, 3, none⟩ = some (.int .u8 255) := (blk_cell BK176.out 3).trans rfl; have hfz56_0 := blk_frozen BK176.out 0; have hfz56_1 := blk_frozen BK176.out 1; have hfz56_2 := blk_frozen BK176.out 2; have hfz56_3 := blk_frozen BK176.out 3) | ((with_reducible refine gate_dst (N := 39) rfl ?_); (try (refine gate_guard (by rfl) ?_; dsimp only)); refine Kd.R_lit k43 _ 43 ?hg (N := 39) ?hd (xs := ([(⟨255, 255, 255, 255⟩ : S43), (⟨0, 0, 0, 255⟩ : S43), (⟨255, 255, 255, 255⟩ : S43)] : List (S43))) (inner := [.int .u8 255, .int .u8 255, .int .u8 255, .int .u8 255, .int .u8 0, .int .u8 0, .int .u8 0, .int .u8 255, .int .u8 255, .int .u8 255, .int .u8 255, .int .u8 255]) (ok := fun _ => True) (okp := fun _ => True) ?hr ?hp (fun _ hk => hk) trivial (Below.refl _ _) (Nat.le_refl _) (by simp) ?_; (case hd => rfl); (case hg => rfl); (case hr => first | (go_simp; done) | (go_simp; rfl)); (case hp => exact (Reps.c4 (show Kd.M k43 _ _ _ (⟨255, 255, 255, 255⟩ : S43) [.int .u8 255, .int .u8 255, .int .u8 255, .int .u8 255] from (k43_mkM _ _ _ (⟨255, 255, 255, 255⟩ : S43) )) (Reps.c4 (show Kd.M k43 _ _ _ (⟨0, 0, 0, 255⟩ : S43) [.int .u8 0, .int .u8 0, .int .u8 0, .int .u8 255] from (k43_mkM _ _ _ (⟨0, 0, 0, 255⟩ : S43) )) (Reps.c4 (show Kd.M k43 _ _ _ (⟨255, 255, 255, 255⟩ : S43) [.int .u8 255, .int .u8 255, .int .u8 255, .int .u8 255] from (k43_mkM _ _ _ (⟨255, 255, 255, 255⟩ : S43) )) (Reps.none _ _))))); intro v211 w57 ho58 hb hg_ hnew_; clear hg_ hnew_; (first | rw [← Ny210.out] at ho58 | (simp only [Int.reduceToNat] at ho58; rw [← Ny210.out] at ho58)); have n0_ := Aside0.mk (Kd.R_below (by (with_reducible repeat (first | apply Kd.R_alloc | apply Kd.R_drewN | apply Kd.R_drew)); exact HO179.out) hb); have n1_ := Aside0.mk (Kd.R_elder' (by (with_reducible repeat (first | apply Kd.R_alloc | apply Kd.R_drewN | apply Kd.R_drew)); exact HO184.out) (Kd.R_base ho58) hb); have n2_ := Aside0.mk (Kd.R_below (by (with_reducible repeat (first | apply Kd.R_alloc | apply Kd.R_drewN | apply Kd.R_drew)); exact HO189.out) hb); have n3_ := Aside0.mk (Kd.R_elder' (by (with_reducible repeat (first | apply Kd.R_alloc | apply Kd.R_drewN | apply Kd.R_drew)); exact HO194.out) (Kd.R_base ho58) hb); have n4_ := Aside0.mk (Kd.R_below (by (with_reducible repeat (first | apply Kd.R_alloc | apply Kd.R_drewN | apply Kd.R_drew)); exact HO199.out) hb); have n5_ := Aside0.mk (Kd.R_elder' (by (with_reducible repeat (first | apply Kd.R_alloc | apply Kd.R_drewN | apply Kd.R_drew)); exact HO204.out) (Kd.R_base ho58) hb); have n6_ := Aside0.mk (Kd.R_elder' (by (with_reducible repeat (first | apply Kd.R_alloc | apply Kd.R_drewN | apply Kd.R_drew)); exact HO209.out) (Kd.R_base ho58) hb); have n7_ := Aside0.mk (Kd.R_lower (Kd.R_newB (Kd.R_newB (Kd.R_new' (Kd.R_new' (Kd.R_new' (Kd.R_new' ho58 (Kd.R_lt (by (with_reducible repeat (first | apply Kd.R_alloc | apply Kd.R_drewN | apply Kd.R_drew)); exact HO184.out))) (Kd.R_lt (by (with_reducible repeat (first | apply Kd.R_alloc | apply Kd.R_drewN | apply Kd.R_drew)); exact HO194.out))) (Kd.R_lt (by (with_reducible repeat (first | apply Kd.R_alloc | apply Kd.R_drewN | apply Kd.R_drew)); exact HO204.out))) (Kd.R_lt (by (with_reducible repeat (first | apply Kd.R_alloc | apply Kd.R_drewN | apply Kd.R_drew)); exact HO209.out))) (g := gb175) (o := .cells #[.int .u8 255, .int .u8 255, .int .u8 255, .int .u8 255] 43 (0, 0)) (bq_ BK175)) (g := gb176) (o := .cells #[.int .u8 0, .int .u8 0, .int .u8 0, .int .u8 255] 43 (0, 0)) (bq_ BK176)) (below_size (hq_ HB))); have n8_ := bb_ BK175 hb; have n9_ := bb_ BK176 hb; have n10_ := bb_ BK186 hb; have n11_ := bb_ BK196 hb; have n12_ := bb_ BK206 hb; have n13_ := hb_ HB hb; clear HO179; clear HO184; clear HO189; clear HO194; clear HO199; clear HO204; clear HO209; clear BK175; clear BK176; clear BK186; clear BK196; clear BK206; clear HB; have HO179 := n0_; have HO184 := n1_; have HO189 := n2_; have HO194 := n3_; have HO199 := n4_; have HO204 := n5_; have HO209 := n6_; have HO212 := n7_; have BK175 := n8_; have BK176 := n9_; have BK186 := n10_; have BK196 := n11_; have BK206 := n12_; have HB := n13_; clear n0_ n1_ n2_ n3_ n4_ n5_ n6_ n7_ n8_ n9_ n10_ n11_ n12_ n13_; clear hb ho58; obtain ⟨Ao59, co59, eo59⟩ := Kd.R_slice HO212.out; subst eo59) | ((with_reducible refine gate_callee (f := 17) rfl ?_); refine goesL_ (some 41) rfl rfl Try.func17 (by kernel_rfl) rfl #[.agg #[.int .i64 3, .int .i64 1, .slice Ao54 y207.length co54], .agg #[.int .i64 3, .int .i64 1, .slice Ao59 y210.length co59]] rfl (by (try simp only [List.map_toArray, List.map_cons, List.map_nil]) <;> rfl) ?_; (with_reducible refine (buffer_Diff.calls 3 1 _ _ y207 3 1 _ _ y210 t213 t216 _ ?side1 ?side2 ?side3 ?side4 A4.out).mono ?_); (case side1 => repeat (first | exact (Kd.R_reads' HO209.out).2.2 | (with_reducible refine Kd.C_alloc ?_ _) | (with_reducible refine Kd.C_drewN ?_ _) | (with_reducible refine Kd.C_drew ?_))); (case side2 => exact (Kd.R_reads' HO209.out).2.1); (case side3 => repeat (first | exact (Kd.R_reads' HO212.out).2.2 | (with_reducible refine Kd.C_alloc ?_ _) | (with_reducible refine Kd.C_drewN ?_ _) | (with_reducible refine Kd.C_drew ?_))); (case side4 => exact (Kd.R_reads' HO212.out).2.1); rintro e w60 ⟨v214, rfl, ho0, hb⟩; refine ⟨_, rfl, ?_⟩; have n0_ := Aside0.mk (Kd.R_below (by (with_reducible repeat (first | apply Kd.R_alloc | apply Kd.R_drewN | apply Kd.R_drew)); exact HO179.out) hb); have n1_ := Aside0.mk (Kd.R_below (by (with_reducible repeat (first | apply Kd.R_alloc | apply Kd.R_drewN | apply Kd.R_drew)); exact HO184.out) hb); have n2_ := Aside0.mk (Kd.R_below (by (with_reducible repeat (first | apply Kd.R_alloc | apply Kd.R_drewN | apply Kd.R_drew)); exact HO189.out) hb); have n3_ := Aside0.mk (Kd.R_below (by (with_reducible repeat (first | apply Kd.R_alloc | apply Kd.R_drewN | apply Kd.R_drew)); exact HO194.out) hb); have n4_ := Aside0.mk (Kd.R_below (by (with_reducible repeat (first | apply Kd.R_alloc | apply Kd.R_drewN | apply Kd.R_drew)); exact HO199.out) hb); have n5_ := Aside0.mk (Kd.R_below (by (with_reducible repeat (first | apply Kd.R_alloc | apply Kd.R_drewN | apply Kd.R_drew)); exact HO204.out) hb); have n6_ := Aside0.mk (Kd.R_below (by (with_reducible repeat (first | apply Kd.R_alloc | apply Kd.R_drewN | apply Kd.R_drew)); exact HO209.out) hb); have n7_ := Aside0.mk (Kd.R_below (by (with_reducible repeat (first | apply Kd.R_alloc | apply Kd.R_drewN | apply Kd.R_drew)); exact HO212.out) hb); have n8_ := Aside0.mk (Kd.R_lower ho0 (below_size (hq_ HB))); have n9_ := bb_ BK175 hb; have n10_ := bb_ BK176 hb; have n11_ := bb_ BK186 hb; have n12_ := bb_ BK196 hb; have n13_ := bb_ BK206 hb; have n14_ := hb_ HB hb; clear HO179; clear HO184; clear HO189; clear HO194; clear HO199; clear HO204; clear HO209; clear HO212; clear BK175; clear BK176; clear BK186; clear BK196; clear BK206; clear HB; have HO179 := n0_; have HO184 := n1_; have HO189 := n2_; have HO194 := n3_; have HO199 := n4_; have HO204 := n5_; have HO209 := n6_; have HO212 := n7_; have HO215 := n8_; have BK175 := n9_; have BK176 := n10_; have BK186 := n11_; have BK196 := n12_; have BK206 := n13_; have HB := n14_; clear n0_ n1_ n2_ n3_ n4_ n5_ n6_ n7_ n8_ n9_ n10_ n11_ n12_ n13_ n14_; (try clear hb); (try clear hb2); (try clear hk); (try clear hi); (try clear ho0); have hcz61_0 : w60.cell? ⟨gb175, 0, none⟩ = some (.int .u8 255) := (blk_cell BK175.out 0).trans rfl; have hcz61_1 : w60.cell? ⟨gb175, 1, none⟩ = some (.int .u8 255) := (blk_cell BK175.out 1).trans rfl; have hcz61_2 : w60.cell? ⟨gb175, 2, none⟩ = some (.int .u8 255) := (blk_cell BK175.out 2).trans rfl; have hcz61_3 : w60.cell? ⟨gb175, 3, none⟩ = some (.int .u8 255) := (blk_cell BK175.out 3).trans rfl; have hfz61_0 := blk_frozen BK175.out 0; have hfz61_1 := blk_frozen BK175.out 1; have hfz61_2 := blk_frozen BK175.out 2; have hfz61_3 := blk_frozen BK175.out 3) | ((with_reducible refine gate_dst (N := 49) rfl ?_); (try (refine gate_guard (by rfl) ?_; dsimp only)); refine Kd.R_lit k43 _ 43 ?hg (N := 49) ?hd (xs := ([(⟨255, 255, 255, 255⟩ : S43), (⟨255, 255, 255, 255⟩ : S43), (⟨255, 255, 255, 255⟩ : S43), (⟨255, 255, 255, 255⟩ : S43)] : List (S43))) (inner := [.int .u8 255, .int .u8 255, .int .u8 255, .int .u8 255, .int .u8 255, .int .u8 255, .int .u8 255, .int .u8 255, .int .u8 255, .int .u8 255, .int .u8 255, .int .u8 255, .int .u8 255, .int .u8 255, .int .u8 255, .int .u8 255]) (ok := fun _ => True) (okp := fun _ => True) ?hr ?hp (fun _ hk => hk) trivial (Below.refl _ _) (Nat.le_refl _) (by simp) ?_; (case hd => rfl); (case hg => rfl); (case hr => first | (go_simp; done) | (go_simp; rfl)); (case hp => exact (Reps.c4 (show Kd.M k43 _ _ _ (⟨255, 255, 255, 255⟩ : S43) [.int .u8 255, .int .u8 255, .int .u8 255, .int .u8 255] from (k43_mkM _ _ _ (⟨255, 255, 255, 255⟩ : S43) )) (Reps.c4 (show Kd.M k43 _ _ _ (⟨255, 255, 255, 255⟩ : S43) [.int .u8 255, .int .u8 255, .int .u8 255, .int .u8 255] from (k43_mkM _ _ _ (⟨255, 255, 255, 255⟩ : S43) )) (Reps.c4 (show Kd.M k43 _ _ _ (⟨255, 255, 255, 255⟩ : S43) [.int .u8 255, .int .u8 255, .int .u8 255, .int .u8 255] from (k43_mkM _ _ _ (⟨255, 255, 255, 255⟩ : S43) )) (Reps.c4 (show Kd.M k43 _ _ _ (⟨255, 255, 255, 255⟩ : S43) [.int .u8 255, .int .u8 255, .int .u8 255, .int .u8 255] from (k43_mkM _ _ _ (⟨255, 255, 255, 255⟩ : S43) )) (Reps.none _ _)))))); intro v218 w62 ho63 hb hg_ hnew_; clear hg_ hnew_; (first | rw [← Ny217.out] at ho63 | (simp only [Int.reduceToNat] at ho63; rw [← Ny217.out] at ho63)); have n0_ := Aside0.mk (Kd.R_below (by (with_reducible repeat (first | apply Kd.R_alloc | apply Kd.R_drewN | apply Kd.R_drew)); exact HO179.out) hb); have n1_ := Aside0.mk (Kd.R_elder' (by (with_reducible repeat (first | apply Kd.R_alloc | apply Kd.R_drewN | apply Kd.R_drew)); exact HO184.out) (Kd.R_base ho63) hb); have n2_ := Aside0.mk (Kd.R_below (by (with_reducible repeat (first | apply Kd.R_alloc | apply Kd.R_drewN | apply Kd.R_drew)); exact HO189.out) hb); have n3_ := Aside0.mk (Kd.R_elder' (by (with_reducible repeat (first | apply Kd.R_alloc | apply Kd.R_drewN | apply Kd.R_drew)); exact HO194.out) (Kd.R_base ho63) hb); have n4_ := Aside0.mk (Kd.R_below (by (with_reducible repeat (first | apply Kd.R_alloc | apply Kd.R_drewN | apply Kd.R_drew)); exact HO199.out) hb); have n5_ := Aside0.mk (Kd.R_elder' (by (with_reducible repeat (first | apply Kd.R_alloc | apply Kd.R_drewN | apply Kd.R_drew)); exact HO204.out) (Kd.R_base ho63) hb); have n6_ := Aside0.mk (Kd.R_elder' (by (with_reducible repeat (first | apply Kd.R_alloc | apply Kd.R_drewN | apply Kd.R_drew)); exact HO209.out) (Kd.R_base ho63) hb); have n7_ := Aside0.mk (Kd.R_elder' (by (with_reducible repeat (first | apply Kd.R_alloc | apply Kd.R_drewN | apply Kd.R_drew)); exact HO212.out) (Kd.R_base ho63) hb); have n8_ := Aside0.mk (Kd.R_below (by (with_reducible repeat (first | apply Kd.R_alloc | apply Kd.R_drewN | apply Kd.R_drew)); exact HO215.out) hb); have n9_ := Aside0.mk (Kd.R_lower (Kd.R_newB (Kd.R_newB (Kd.R_new' (Kd.R_new' (Kd.R_new' (Kd.R_new' (Kd.R_new' ho63 (Kd.R_lt (by (with_reducible repeat (first | apply Kd.R_alloc | apply Kd.R_drewN | apply Kd.R_drew)); exact HO184.out))) (Kd.R_lt (by (with_reducible repeat (first | apply Kd.R_alloc | apply Kd.R_drewN | apply Kd.R_drew)); exact HO194.out))) (Kd.R_lt (by (with_reducible repeat (first | apply Kd.R_alloc | apply Kd.R_drewN | apply Kd.R_drew)); exact HO204.out))) (Kd.R_lt (by (with_reducible repeat (first | apply Kd.R_alloc | apply Kd.R_drewN | apply Kd.R_drew)); exact HO209.out))) (Kd.R_lt (by (with_reducible repeat (first | apply Kd.R_alloc | apply Kd.R_drewN | apply Kd.R_drew)); exact HO212.out))) (g := gb175) (o := .cells #[.int .u8 255, .int .u8 255, .int .u8 255, .int .u8 255] 43 (0, 0)) (bq_ BK175)) (g := gb176) (o := .cells #[.int .u8 0, .int .u8 0, .int .u8 0, .int .u8 255] 43 (0, 0)) (bq_ BK176)) (below_size (hq_ HB))); have n10_ := bb_ BK175 hb; have n11_ := bb_ BK176 hb; have n12_ := bb_ BK186 hb; have n13_ := bb_ BK196 hb; have n14_ := bb_ BK206 hb; have n15_ := hb_ HB hb; clear HO179; clear HO184; clear HO189; clear HO194; clear HO199; clear HO204; clear HO209; clear HO212; clear HO215; clear BK175; clear BK176; clear BK186; clear BK196; clear BK206; clear HB; have HO179 := n0_; have HO184 := n1_; have HO189 := n2_; have HO194 := n3_; have HO199 := n4_; have HO204 := n5_; have HO209 := n6_; have HO212 := n7_; have HO215 := n8_; have HO219 := n9_; have BK175 := n10_; have BK176 := n11_; have BK186 := n12_; have BK196 := n13_; have BK206 := n14_; have HB := n15_; clear n0_ n1_ n2_ n3_ n4_ n5_ n6_ n7_ n8_ n9_ n10_ n11_ n12_ n13_ n14_ n15_; clear hb ho63; obtain ⟨Ao64, co64, eo64⟩ := Kd.R_slice HO219.out; subst eo64) | ((with_reducible refine gate_callee (f := 30) rfl ?_); refine goesL_ (some 52) rfl rfl Try.func30 (by kernel_rfl) rfl #[.agg #[.int .i64 2, .int .i64 2, .slice Ao64 y217.length co64], .agg #[.int .i64 1, .int .i64 0, .int .i64 3, .int .i64 1]] rfl (by (try simp only [List.map_toArray, List.map_cons, List.map_nil]) <;> rfl) ?_; (with_reducible refine (buffer_Crop.calls 2 2 _ _ y217 1 0 3 1 t220 t221 t222 t225 _ ?side1 ?side2 A5.out).mono ?_); (case side1 => repeat (first | exact (Kd.R_reads' HO219.out).2.2 | (with_reducible refine Kd.C_alloc ?_ _) | (with_reducible refine Kd.C_drewN ?_ _) | (with_reducible refine Kd.C_drew ?_))); (case side2 => exact (Kd.R_reads' HO219.out).2.1); rintro e w65 ⟨v223, rfl, ho0, hb⟩; refine ⟨_, rfl, ?_⟩; have n0_ := Aside0.mk (Kd.R_below (by (with_reducible repeat (first | apply Kd.R_alloc | apply Kd.R_drewN | apply Kd.R_drew)); exact HO179.out) hb); have n1_ := Aside0.mk (Kd.R_elder' (by (with_reducible repeat (first | apply Kd.R_alloc | apply Kd.R_drewN | apply Kd.R_drew)); exact HO184.out) (Kd.R_base ho0) hb); have n2_ := Aside0.mk (Kd.R_below (by (with_reducible repeat (first | apply Kd.R_alloc | apply Kd.R_drewN | apply Kd.R_drew)); exact HO189.out) hb); have n3_ := Aside0.mk (Kd.R_elder' (by (with_reducible repeat (first | apply Kd.R_alloc | apply Kd.R_drewN | apply Kd.R_drew)); exact HO194.out) (Kd.R_base ho0) hb); have n4_ := Aside0.mk (Kd.R_below (by (with_reducible repeat (first | apply Kd.R_alloc | apply Kd.R_drewN | apply Kd.R_drew)); exact HO199.out) hb); have n5_ := Aside0.mk (Kd.R_elder' (by (with_reducible repeat (first | apply Kd.R_alloc | apply Kd.R_drewN | apply Kd.R_drew)); exact HO204.out) (Kd.R_base ho0) hb); have n6_ := Aside0.mk (Kd.R_elder' (by (with_reducible repeat (first | apply Kd.R_alloc | apply Kd.R_drewN | apply Kd.R_drew)); exact HO209.out) (Kd.R_base ho0) hb); have n7_ := Aside0.mk (Kd.R_elder' (by (with_reducible repeat (first | apply Kd.R_alloc | apply Kd.R_drewN | apply Kd.R_drew)); exact HO212.out) (Kd.R_base ho0) hb); have n8_ := Aside0.mk (Kd.R_below (by (with_reducible repeat (first | apply Kd.R_alloc | apply Kd.R_drewN | apply Kd.R_drew)); exact HO215.out) hb); have n9_ := Aside0.mk (Kd.R_elder' (by (with_reducible repeat (first | apply Kd.R_alloc | apply Kd.R_drewN | apply Kd.R_drew)); exact HO219.out) (Kd.R_base ho0) hb); have n10_ := Aside0.mk (Kd.R_lower (Kd.R_newB (Kd.R_newB (Kd.R_new' (Kd.R_new' (Kd.R_new' (Kd.R_new' (Kd.R_new' (Kd.R_new' ho0 (Kd.R_lt (by (with_reducible repeat (first | apply Kd.R_alloc | apply Kd.R_drewN | apply Kd.R_drew)); exact HO184.out))) (Kd.R_lt (by (with_reducible repeat (first | apply Kd.R_alloc | apply Kd.R_drewN | apply Kd.R_drew)); exact HO194.out))) (Kd.R_lt (by (with_reducible repeat (first | apply Kd.R_alloc | apply Kd.R_drewN | apply Kd.R_drew)); exact HO204.out))) (Kd.R_lt (by (with_reducible repeat (first | apply Kd.R_alloc | apply Kd.R_drewN | apply Kd.R_drew)); exact HO209.out))) (Kd.R_lt (by (with_reducible repeat (first | apply Kd.R_alloc | apply Kd.R_drewN | apply Kd.R_drew)); exact HO212.out))) (Kd.R_lt (by (with_reducible repeat (first | apply Kd.R_alloc | apply Kd.R_drewN | apply Kd.R_drew)); exact HO219.out))) (g := gb175) (o := .cells #[.int .u8 255, .int .u8 255, .int .u8 255, .int .u8 255] 43 (0, 0)) (bq_ BK175)) (g := gb176) (o := .cells #[.int .u8 0, .int .u8 0, .int .u8 0, .int .u8 255] 43 (0, 0)) (bq_ BK176)) (below_size (hq_ HB))); have n11_ := bb_ BK175 hb; have n12_ := bb_ BK176 hb; have n13_ := bb_ BK186 hb; have n14_ := bb_ BK196 hb; have n15_ := bb_ BK206 hb; have n16_ := hb_ HB hb; clear HO179; clear HO184; clear HO189; clear HO194; clear HO199; clear HO204; clear HO209; clear HO212; clear HO215; clear HO219; clear BK175; clear BK176; clear BK186; clear BK196; clear BK206; clear HB; have HO179 := n0_; have HO184 := n1_; have HO189 := n2_; have HO194 := n3_; have HO199 := n4_; have HO204 := n5_; have HO209 := n6_; have HO212 := n7_; have HO215 := n8_; have HO219 := n9_; have HO224 := n10_; have BK175 := n11_; have BK176 := n12_; have BK186 := n13_; have BK196 := n14_; have BK206 := n15_; have HB := n16_; clear n0_ n1_ n2_ n3_ n4_ n5_ n6_ n7_ n8_ n9_ n10_ n11_ n12_ n13_ n14_ n15_ n16_; (try clear hb); (try clear hb2); (try clear hk); (try clear hi); (try clear ho0)) | ((with_reducible refine gate_dst (N := 11) rfl ?_); (try (refine gate_guard (by rfl) ?_; dsimp only)); refine box_event ?hg (N := 11) ?hd (cs := #[.int .i64 0, .int .i64 0, .slice none 0 0]) (t := 27) ?hr ?_; (case hd => rfl); (case hg => rfl); (case hr => first | (go_simp; done) | (go_simp; rfl)); intro gb226 hg w66 hbox hb; have n0_ := Aside0.mk (Kd.R_below (by (with_reducible repeat (first | apply Kd.R_alloc | apply Kd.R_drewN | apply Kd.R_drew)); exact HO179.out) hb); have n1_ := Aside0.mk (Kd.R_below (by (with_reducible repeat (first | apply Kd.R_alloc | apply Kd.R_drewN | apply Kd.R_drew)); exact HO184.out) hb); have n2_ := Aside0.mk (Kd.R_below (by (with_reducible repeat (first | apply Kd.R_alloc | apply Kd.R_drewN | apply Kd.R_drew)); exact HO189.out) hb); have n3_ := Aside0.mk (Kd.R_below (by (with_reducible repeat (first | apply Kd.R_alloc | apply Kd.R_drewN | apply Kd.R_drew)); exact HO194.out) hb); have n4_ := Aside0.mk (Kd.R_below (by (with_reducible repeat (first | apply Kd.R_alloc | apply Kd.R_drewN | apply Kd.R_drew)); exact HO199.out) hb); have n5_ := Aside0.mk (Kd.R_below (by (with_reducible repeat (first | apply Kd.R_alloc | apply Kd.R_drewN | apply Kd.R_drew)); exact HO204.out) hb); have n6_ := Aside0.mk (Kd.R_below (by (with_reducible repeat (first | apply Kd.R_alloc | apply Kd.R_drewN | apply Kd.R_drew)); exact HO209.out) hb); have n7_ := Aside0.mk (Kd.R_below (by (with_reducible repeat (first | apply Kd.R_alloc | apply Kd.R_drewN | apply Kd.R_drew)); exact HO212.out) hb); have n8_ := Aside0.mk (Kd.R_below (by (with_reducible repeat (first | apply Kd.R_alloc | apply Kd.R_drewN | apply Kd.R_drew)); exact HO215.out) hb); have n9_ := Aside0.mk (Kd.R_below (by (with_reducible repeat (first | apply Kd.R_alloc | apply Kd.R_drewN | apply Kd.R_drew)); exact HO219.out) hb); have n10_ := Aside0.mk (Kd.R_below (by (with_reducible repeat (first | apply Kd.R_alloc | apply Kd.R_drewN | apply Kd.R_drew)); exact HO224.out) hb); have n11_ := bb_ BK175 hb; have n12_ := bb_ BK176 hb; have n13_ := bb_ BK186 hb; have n14_ := bb_ BK196 hb; have n15_ := bb_ BK206 hb; have n16_ := hb_ HB hb; have n17_ := Aside0.mk (hbox); have n18_ := Aside0.mk ((by rw [hg]; exact (below_size (hq_ HB)) : w.heap.size ≤ gb226)); have n19_ := Aside0.mk ((by rw [hg]; exact (below_size (hq_ HB)) : w.heap.size ≤ gb226)); have n20_ := Aside0.mk ((by rw [hg]; exact Nat.ne_of_lt (blk_lt (g := gb175) (o := .cells #[.int .u8 255, .int .u8 255, .int .u8 255, .int .u8 255] 43 (0, 0)) (bq_ BK175)) : gb175 ≠ gb226)); have n21_ := Aside0.mk ((by rw [hg]; exact Nat.ne_of_gt (blk_lt (g := gb175) (o := .cells #[.int .u8 255, .int .u8 255, .int .u8 255, .int .u8 255] 43 (0, 0)) (bq_ BK175)) : gb226 ≠ gb175)); have n22_ := Aside0.mk ((by rw [hg]; exact Nat.ne_of_lt (blk_lt (g := gb176) (o := .cells #[.int .u8 0, .int .u8 0, .int .u8 0, .int .u8 255] 43 (0, 0)) (bq_ BK176)) : gb176 ≠ gb226)); have n23_ := Aside0.mk ((by rw [hg]; exact Nat.ne_of_gt (blk_lt (g := gb176) (o := .cells #[.int .u8 0, .int .u8 0, .int .u8 0, .int .u8 255] 43 (0, 0)) (bq_ BK176)) : gb226 ≠ gb176)); have n24_ := Aside0.mk ((by rw [hg]; exact Nat.ne_of_lt (blk_lt (g := gb186) (o := .cells #[.int .i64 t180, .int .i64 t181, .slice Ao29 t182.length co29] 27 (0, 0)) (bq_ BK186)) : gb186 ≠ gb226)); have n25_ := Aside0.mk ((by rw [hg]; exact Nat.ne_of_gt (blk_lt (g := gb186) (o := .cells #[.int .i64 t180, .int .i64 t181, .slice Ao29 t182.length co29] 27 (0, 0)) (bq_ BK186)) : gb226 ≠ gb186)); have n26_ := Aside0.mk ((by rw [hg]; exact Nat.ne_of_lt (blk_lt (g := gb196) (o := .cells #[.int .i64 t190, .int .i64 t191, .slice Ao39 t192.length co39] 27 (0, 0)) (bq_ BK196)) : gb196 ≠ gb226)); have n27_ := Aside0.mk ((by rw [hg]; exact Nat.ne_of_gt (blk_lt (g := gb196) (o := .cells #[.int .i64 t190, .int .i64 t191, .slice Ao39 t192.length co39] 27 (0, 0)) (bq_ BK196)) : gb226 ≠ gb196)); have n28_ := Aside0.mk ((by rw [hg]; exact Nat.ne_of_lt (blk_lt (g := gb206) (o := .cells #[.int .i64 t200, .int .i64 t201, .slice Ao50 t202.length co50] 27 (0, 0)) (bq_ BK206)) : gb206 ≠ gb226)); have n29_ := Aside0.mk ((by rw [hg]; exact Nat.ne_of_gt (blk_lt (g := gb206) (o := .cells #[.int .i64 t200, .int .i64 t201, .slice Ao50 t202.length co50] 27 (0, 0)) (bq_ BK206)) : gb226 ≠ gb206)); clear HO179; clear HO184; clear HO189; clear HO194; clear HO199; clear HO204; clear HO209; clear HO212; clear HO215; clear HO219; clear HO224; clear BK175; clear BK176; clear BK186; clear BK196; clear BK206; clear HB; have HO179 := n0_; have HO184 := n1_; have HO189 := n2_; have HO194 := n3_; have HO199 := n4_; have HO204 := n5_; have HO209 := n6_; have HO212 := n7_; have HO215 := n8_; have HO219 := n9_; have HO224 := n10_; have BK175 := n11_; have BK176 := n12_; have BK186 := n13_; have BK196 := n14_; have BK206 := n15_; have HB := n16_; have BK226 := n17_; have GW226 := n18_; have GE226 := n19_; have NB175_226 := n20_; have NB226_175 := n21_; have NB176_226 := n22_; have NB226_176 := n23_; have NB186_226 := n24_; have NB226_186 := n25_; have NB196_226 := n26_; have NB226_196 := n27_; have NB206_226 := n28_; have NB226_206 := n29_; clear n0_ n1_ n2_ n3_ n4_ n5_ n6_ n7_ n8_ n9_ n10_ n11_ n12_ n13_ n14_ n15_ n16_ n17_ n18_ n19_ n20_ n21_ n22_ n23_ n24_ n25_ n26_ n27_ n28_ n29_; clear hb hbox hg; have hnb67 := NB226_175.out; have hnc67 := NB175_226.out; have hnb68 := NB226_176.out; have hnc68 := NB176_226.out; have hnb69 := NB226_186.out; have hnc69 := NB186_226.out; have hnb70 := NB226_196.out; have hnc70 := NB196_226.out; have hnb71 := NB226_206.out; have hnc71 := NB206_226.out; have hcz72_0 : w66.cell? ⟨gb226, 0, none⟩ = some (.int .i64 0) := (blk_cell BK226.out 0).trans rfl; have hcz72_1 : w66.cell? ⟨gb226, 1, none⟩ = some (.int .i64 0) := (blk_cell BK226.out 1).trans rfl; have hcz72_2 : w66.cell? ⟨gb226, 2, none⟩ = some (.slice none 0 0) := (blk_cell BK226.out 2).trans rfl; have hfz72_0 := blk_frozen BK226.out 0; have hfz72_1 := blk_frozen BK226.out 1; have hfz72_2 := blk_frozen BK226.out 2; obtain ⟨Ao73, co73, eo73⟩ := Kd.R_slice HO224.out; subst eo73; have hcz74_0 : w66.cell? ⟨gb186, 0, none⟩ = some (.int .i64 t180) := (blk_cell BK186.out 0).trans rfl; have hcz74_1 : w66.cell? ⟨gb186, 1, none⟩ = some (.int .i64 t181) := (blk_cell BK186.out 1).trans rfl; have hcz74_2 : w66.cell? ⟨gb186, 2, none⟩ = some (.slice Ao29 t182.length co29) := (blk_cell BK186.out 2).trans rfl; have hfz74_0 := blk_frozen BK186.out 0; have hfz74_1 := blk_frozen BK186.out 1; have hfz74_2 := blk_frozen BK186.out 2; have p227 : 0 ≤ (0 : Int) := (by omega); have q227 : 0 < (t182.length : Int) := of_decide_eq_true (by first | (with_reducible assumption) | assumption); obtain ⟨ad227, e227, hx227_0, hx227_1, hx227_2, hx227_3⟩ := at_T43 (Kd.R_reads' HO184.out).2.2 0 p227 q227; cases e227; have qi227 : (0 < t182.length) = True := eq_true (by omega); (try rw [show ((0 : Int)).toNat = 0 from rfl] at hx227_0); (try rw [show 0 * 4 = 0 from rfl] at hx227_0); (try rw [Addr.add_zero'] at hx227_0); (try rw [show ((0 : Int)).toNat = 0 from rfl] at hx227_1); (try rw [show 0 * 4 = 0 from rfl] at hx227_1); (try rw [Addr.add_zero'] at hx227_1); (try rw [show ((0 : Int)).toNat = 0 from rfl] at hx227_2); (try rw [show 0 * 4 = 0 from rfl] at hx227_2); (try rw [Addr.add_zero'] at hx227_2); (try rw [show ((0 : Int)).toNat = 0 from rfl] at hx227_3); (try rw [show 0 * 4 = 0 from rfl] at hx227_3); (try rw [Addr.add_zero'] at hx227_3); have hn227_0 : ad227.block ≠ gb226 := Kd.own_blk (Kd.R_ne HO184.out BK226.out (by decide)); have hn227_1 : ad227.block ≠ gb226 := Kd.own_blk (Kd.R_ne HO184.out BK226.out (by decide)); have hn227_2 : ad227.block ≠ gb226 := Kd.own_blk (Kd.R_ne HO184.out BK226.out (by decide)); replace hx227_0 := (cell_far (p := ⟨gb226, 0, none⟩) (by first | (rw [add_block]; exact hn227_0) | (show (Addr.add _ _).block ≠ _; rw [add_block]; exact hn227_0) | exact hn227_0) (.int .i64 t220)).trans hx227_0; replace hx227_1 := (cell_far (p := ⟨gb226, 0, none⟩) (by first | (rw [add_block]; exact hn227_0) | (show (Addr.add _ _).block ≠ _; rw [add_block]; exact hn227_0) | exact hn227_0) (.int .i64 t220)).trans hx227_1; replace hx227_2 := (cell_far (p := ⟨gb226, 0, none⟩) (by first | (rw [add_block]; exact hn227_0) | (show (Addr.add _ _).block ≠ _; rw [add_block]; exact hn227_0) | exact hn227_0) (.int .i64 t220)).trans hx227_2; replace hx227_3 := (cell_far (p := ⟨gb226, 0, none⟩) (by first | (rw [add_block]; exact hn227_0) | (show (Addr.add _ _).block ≠ _; rw [add_block]; exact hn227_0) | exact hn227_0) (.int .i64 t220)).trans hx227_3; replace hx227_0 := (cell_far (p := ⟨gb226, 1, none⟩) (by first | (rw [add_block]; exact hn227_1) | (show (Addr.add _ _).block ≠ _; rw [add_block]; exact hn227_1) | exact hn227_1) (.int .i64 t221)).trans hx227_0; replace hx227_1 := (cell_far (p := ⟨gb226, 1, none⟩) (by first | (rw [add_block]; exact hn227_1) | (show (Addr.add _ _).block ≠ _; rw [add_block]; exact hn227_1) | exact hn227_1) (.int .i64 t221)).trans hx227_1; replace hx227_2 := (cell_far (p := ⟨gb226, 1, none⟩) (by first | (rw [add_block]; exact hn227_1) | (show (Addr.add _ _).block ≠ _; rw [add_block]; exact hn227_1) | exact hn227_1) (.int .i64 t221)).trans hx227_2; replace hx227_3 := (cell_far (p := ⟨gb226, 1, none⟩) (by first | (rw [add_block]; exact hn227_1) | (show (Addr.add _ _).block ≠ _; rw [add_block]; exact hn227_1) | exact hn227_1) (.int .i64 t221)).trans hx227_3; replace hx227_0 := (cell_far (p := ⟨gb226, 2, none⟩) (by first | (rw [add_block]; exact hn227_2) | (show (Addr.add _ _).block ≠ _; rw [add_block]; exact hn227_2) | exact hn227_2) (.slice Ao73 t222.length co73)).trans hx227_0; replace hx227_1 := (cell_far (p := ⟨gb226, 2, none⟩) (by first | (rw [add_block]; exact hn227_2) | (show (Addr.add _ _).block ≠ _; rw [add_block]; exact hn227_2) | exact hn227_2) (.slice Ao73 t222.length co73)).trans hx227_1; replace hx227_2 := (cell_far (p := ⟨gb226, 2, none⟩) (by first | (rw [add_block]; exact hn227_2) | (show (Addr.add _ _).block ≠ _; rw [add_block]; exact hn227_2) | exact hn227_2) (.slice Ao73 t222.length co73)).trans hx227_2; replace hx227_3 := (cell_far (p := ⟨gb226, 2, none⟩) (by first | (rw [add_block]; exact hn227_2) | (show (Addr.add _ _).block ≠ _; rw [add_block]; exact hn227_2) | exact hn227_2) (.slice Ao73 t222.length co73)).trans hx227_3; clear hn227_0; clear hn227_1; clear hn227_2; replace p227 := eq_true p227; replace q227 := eq_true q227; obtain ⟨Ao75, co75, eo75⟩ := Kd.R_slice HO215.out; subst eo75; have p228 : 0 ≤ (0 : Int) := (by omega); have q228 : 0 < (t213.length : Int) := of_decide_eq_true (by first | (with_reducible assumption) | assumption); obtain ⟨ad228, e228, hx228_0, hx228_1, hx228_2, hx228_3⟩ := at_T47 (Kd.R_reads' HO215.out).2.2 0 p228 q228; cases e228; have qi228 : (0 < t213.length) = True := eq_true (by omega); (try rw [show ((0 : Int)).toNat = 0 from rfl] at hx228_0); (try rw [show 0 * 4 = 0 from rfl] at hx228_0); (try rw [Addr.add_zero'] at hx228_0); (try rw [show ((0 : Int)).toNat = 0 from rfl] at hx228_1); (try rw [show 0 * 4 = 0 from rfl] at hx228_1); (try rw [Addr.add_zero'] at hx228_1); (try rw [show ((0 : Int)).toNat = 0 from rfl] at hx228_2); (try rw [show 0 * 4 = 0 from rfl] at hx228_2); (try rw [Addr.add_zero'] at hx228_2); (try rw [show ((0 : Int)).toNat = 0 from rfl] at hx228_3); (try rw [show 0 * 4 = 0 from rfl] at hx228_3); (try rw [Addr.add_zero'] at hx228_3); have hn228_0 : ad228.block ≠ gb226 := Kd.own_blk (Kd.R_ne HO215.out BK226.out (by decide)); have hn228_1 : ad228.block ≠ gb226 := Kd.own_blk (Kd.R_ne HO215.out BK226.out (by decide)); have hn228_2 : ad228.block ≠ gb226 := Kd.own_blk (Kd.R_ne HO215.out BK226.out (by decide)); replace hx228_0 := (cell_far (p := ⟨gb226, 0, none⟩) (by first | (rw [add_block]; exact hn228_0) | (show (Addr.add _ _).block ≠ _; rw [add_block]; exact hn228_0) | exact hn228_0) (.int .i64 t220)).trans hx228_0; replace hx228_1 := (cell_far (p := ⟨gb226, 0, none⟩) (by first | (rw [add_block]; exact hn228_0) | (show (Addr.add _ _).block ≠ _; rw [add_block]; exact hn228_0) | exact hn228_0) (.int .i64 t220)).trans hx228_1; replace hx228_2 := (cell_far (p := ⟨gb226, 0, none⟩) (by first | (rw [add_block]; exact hn228_0) | (show (Addr.add _ _).block ≠ _; rw [add_block]; exact hn228_0) | exact hn228_0) (.int .i64 t220)).trans hx228_2; replace hx228_3 := (cell_far (p := ⟨gb226, 0, none⟩) (by first | (rw [add_block]; exact hn228_0) | (show (Addr.add _ _).block ≠ _; rw [add_block]; exact hn228_0) | exact hn228_0) (.int .i64 t220)).trans hx228_3; replace hx228_0 := (cell_far (p := ⟨gb226, 1, none⟩) (by first | (rw [add_block]; exact hn228_1) | (show (Addr.add _ _).block ≠ _; rw [add_block]; exact hn228_1) | exact hn228_1) (.int .i64 t221)).trans hx228_0; replace hx228_1 := (cell_far (p := ⟨gb226, 1, none⟩) (by first | (rw [add_block]; exact hn228_1) | (show (Addr.add _ _).block ≠ _; rw [add_block]; exact hn228_1) | exact hn228_1) (.int .i64 t221)).trans hx228_1; replace hx228_2 := (cell_far (p := ⟨gb226, 1, none⟩) (by first | (rw [add_block]; exact hn228_1) | (show (Addr.add _ _).block ≠ _; rw [add_block]; exact hn228_1) | exact hn228_1) (.int .i64 t221)).trans hx228_2; replace hx228_3 := (cell_far (p := ⟨gb226, 1, none⟩) (by first | (rw [add_block]; exact hn228_1) | (show (Addr.add _ _).block ≠ _; rw [add_block]; exact hn228_1) | exact hn228_1) (.int .i64 t221)).trans hx228_3; replace hx228_0 := (cell_far (p := ⟨gb226, 2, none⟩) (by first | (rw [add_block]; exact hn228_2) | (show (Addr.add _ _).block ≠ _; rw [add_block]; exact hn228_2) | exact hn228_2) (.slice Ao73 t222.length co73)).trans hx228_0; replace hx228_1 := (cell_far (p := ⟨gb226, 2, none⟩) (by first | (rw [add_block]; exact hn228_2) | (show (Addr.add _ _).block ≠ _; rw [add_block]; exact hn228_2) | exact hn228_2) (.slice Ao73 t222.length co73)).trans hx228_1; replace hx228_2 := (cell_far (p := ⟨gb226, 2, none⟩) (by first | (rw [add_block]; exact hn228_2) | (show (Addr.add _ _).block ≠ _; rw [add_block]; exact hn228_2) | exact hn228_2) (.slice Ao73 t222.length co73)).trans hx228_2; replace hx228_3 := (cell_far (p := ⟨gb226, 2, none⟩) (by first | (rw [add_block]; exact hn228_2) | (show (Addr.add _ _).block ≠ _; rw [add_block]; exact hn228_2) | exact hn228_2) (.slice Ao73 t222.length co73)).trans hx228_3; clear hn228_0; clear hn228_1; clear hn228_2; replace p228 := eq_true p228; replace q228 := eq_true q228))
           go_ret
           exact ⟨by first | rfl | (simp [errW_none, errW_some] <;> rfl) | (simp [*, errW_none, errW_some] <;> rfl), by repeat (first | (with_reducible first | exact HB.out | apply below_alloc | apply pw_below_drewN | apply below_drew1 | refine below_set ?_ GE175.out | refine below_set ?_ GE176.out | refine below_set ?_ GE186.out | refine below_set ?_ GE196.out | refine below_set ?_ GE206.out | refine below_set ?_ GE226.out) | exact HB.out)⟩
          ·
           rw [if_neg c15] at H
           have c15b0 : (((rd_T47 t213 0).f0) == 1 && (((rd_T47 t213 0).f1) == 0 && (((rd_T47 t213 0).f2) == 2 && (((rd_T47 t213 0).f3) == 1)))) = false := by simpa using c15
           (try (have c15b1 : decide (((rd_T47 t213 0).f0) = 1 && (((rd_T47 t213 0).f1) == 0 && (((rd_T47 t213 0).f2) == 2 && (((rd_T47 t213 0).f3) == 1)))) = false := by simpa using c15))
           (try (have c15b2 : (((rd_T47 t213 0).f0) == 1 && (((rd_T47 t213 0).f1) == 0 && (((rd_T47 t213 0).f2) == 2 && (((rd_T47 t213 0).f3) == 1)))) = false := by simpa using c15))
           (try (have c15b3 : ¬ (((rd_T47 t213 0).f0) = 1 && (((rd_T47 t213 0).f1) == 0 && (((rd_T47 t213 0).f2) == 2 && (((rd_T47 t213 0).f3) == 1)))) := by simpa using c15))
           clear c15
           exact absurd H (by simp)
         ·
          rw [if_neg c14] at H
          exact absurd H (by simp)
        ·
         rw [if_neg c13] at H
         have c13b0 : ((t213.length : Int) == 1) = false := beq_eq_false_iff_ne.mpr c13
         have c13b1 : ((t213.length : Int) != 1) = true := bne_iff_ne.mpr c13
         exact absurd H (by simp)
       ·
        rw [if_neg c12] at H
        have c12b0 : (t216 == 0) = false := beq_eq_false_iff_ne.mpr c12
        have c12b1 : (t216 != 0) = true := bne_iff_ne.mpr c12
        exact absurd H (by simp)
      ·
       rw [if_neg c11] at H
       have c11b0 : (t205 == 4) = false := beq_eq_false_iff_ne.mpr c11
       have c11b1 : (t205 != 4) = true := bne_iff_ne.mpr c11
       exact absurd H (by simp)
     ·
      rw [if_neg c10] at H
      have c10b0 : (t195 == 15) = false := beq_eq_false_iff_ne.mpr c10
      have c10b1 : (t195 != 15) = true := bne_iff_ne.mpr c10
      exact absurd H (by simp)
    ·
     rw [if_neg c9] at H
     have c9b0 : (((rd_T43 t182 0).f0) == 3 && (((rd_T43 t182 0).f1) == 2 && (((rd_T43 t182 0).f2) == 1 && (((rd_T43 t182 0).f3) == 255)))) = false := by simpa using c9
     (try (have c9b1 : decide (((rd_T43 t182 0).f0) = 3 && (((rd_T43 t182 0).f1) == 2 && (((rd_T43 t182 0).f2) == 1 && (((rd_T43 t182 0).f3) == 255)))) = false := by simpa using c9))
     (try (have c9b2 : (((rd_T43 t182 0).f0) == 3 && (((rd_T43 t182 0).f1) == 2 && (((rd_T43 t182 0).f2) == 1 && (((rd_T43 t182 0).f3) == 255)))) = false := by simpa using c9))
     (try (have c9b3 : ¬ (((rd_T43 t182 0).f0) = 3 && (((rd_T43 t182 0).f1) == 2 && (((rd_T43 t182 0).f2) == 1 && (((rd_T43 t182 0).f3) == 255)))) := by simpa using c9))
     clear c9
     exact absurd H (by simp)
   ·
    rw [if_neg c8] at H
    exact absurd H (by simp)
  ·
   rw [if_neg c7] at H
   have c7b0 : ((t182.length : Int) == 1) = false := beq_eq_false_iff_ne.mpr c7
   have c7b1 : ((t182.length : Int) != 1) = true := bne_iff_ne.mpr c7
   exact absurd H (by simp)
 ·
  rw [if_neg c6] at H
  have c6b0 : (t185 == 0) = false := beq_eq_false_iff_ne.mpr c6
  have c6b1 : (t185 != 0) = true := bne_iff_ne.mpr c6
  exact absurd H (by simp)
theorem compositorlaw09_exampleHolds.always {k : Nat} {r : Bool} (h : compositorlaw09_exampleHolds.f k = some r) : r = true := by
 have up : ∀ j, compositorlaw09_exampleHolds.f (k + j) = some r := by
  intro j
  induction j with
  | zero => exact h
  | succ j ih => exact compositorlaw09_exampleHolds.mono _ _ ih
 have e : compositorlaw09_exampleHolds.f 200 = some true := by decide +kernel
 have up2 : ∀ j, compositorlaw09_exampleHolds.f (200 + j) = some true := by
  intro j
  induction j with
  | zero => exact e
  | succ j ih => exact compositorlaw09_exampleHolds.mono _ _ ih
 have h1 := up 200
 rw [Nat.add_comm, up2] at h1
 exact (Option.some.inj h1).symm
theorem compositorlaw09_exampleHolds.calls (k : Nat) (r : Bool) (w : World) (h : compositorlaw09_exampleHolds.f k = some r) :
  Calls Try.prog 13 #[] w fun e w' => e = .returned (.bool r) ∧ Below w.heap.size w w' := by
 obtain rfl := compositorlaw09_exampleHolds.always h
 exact compositorlaw09_exampleHolds.callsT (k := k) (w := w) (h := h)
end Go.Proofs.Ytmockeaiccpogaa.All
end
section
namespace Go.Proofs.Ytmockeaiccpogaa.All
open Go.RowKit Go.Proofs.YtmockeaiccpogaaW.PrintWords Go.Proofs.YtmockeaiccpogaaW.PrintLast Go.Proofs.YtmockeaiccpogaaW.PrintMore
attribute [local go_sem] max2_int min2_int max_two min_two max_three min_three max_four min_four
set_option linter.unusedVariables false
set_option linter.unusedSimpArgs false
def compositorref09_size.f (a0 : Int) (a1 : Int) : Option (Bool) := if a0 ≥ 1 then (if a0 ≤ 256 then (if a1 ≥ 1 then (some (decide (a1 ≤ 256))) else (some false)) else (some false)) else (some false)
set_option maxHeartbeats 8000000 in
set_option maxRecDepth 100000 in
theorem compositorref09_size.calls (a0 : Int) (a1 : Int) (r : Bool) (w : World) (h : compositorref09_size.f a0 a1 = some r) :
    Calls Try.prog 41 #[.int .i64 a0, .int .i64 a1] w fun e w' => e = .returned (.bool r) ∧ Drawn0 w w' := by
  have H : (if a0 ≥ 1 then (if a0 ≤ 256 then (if a1 ≥ 1 then (some (decide (a1 ≤ 256))) else (some false)) else (some false)) else (some false)) = some r := h
  clear h
  by_cases c3 : a0 ≥ 1
  · rw [if_pos c3] at H
    have c3b0 : decide (1 ≤ a0) = true := decide_eq_true c3
    clear c3
    by_cases c4 : a0 ≤ 256
    · rw [if_pos c4] at H
      have c4b0 : decide (a0 ≤ 256) = true := decide_eq_true c4
      clear c4
      by_cases c5 : a1 ≥ 1
      · rw [if_pos c5] at H
        have c5b0 : decide (1 ≤ a1) = true := decide_eq_true c5
        clear c5
        obtain rfl := Option.some.inj H
        go_enter Try.func41, Try.ntmps41
        go_wp2
        go_ret
        exact ⟨by first | rfl | (simp; done) | (simp [*]; done), by repeat (first | exact Drawn0.refl _ | apply Drawn0.step)⟩
      · rw [if_neg c5] at H
        have c5b0 : decide (1 ≤ a1) = false := decide_eq_false c5
        clear c5
        obtain rfl := Option.some.inj H
        go_enter Try.func41, Try.ntmps41
        go_wp2
        go_ret
        exact ⟨by first | rfl | (simp; done) | (simp [*]; done), by repeat (first | exact Drawn0.refl _ | apply Drawn0.step)⟩
    · rw [if_neg c4] at H
      have c4b0 : decide (a0 ≤ 256) = false := decide_eq_false c4
      clear c4
      obtain rfl := Option.some.inj H
      go_enter Try.func41, Try.ntmps41
      go_wp2
      go_ret
      exact ⟨by first | rfl | (simp; done) | (simp [*]; done), by repeat (first | exact Drawn0.refl _ | apply Drawn0.step)⟩
  · rw [if_neg c3] at H
    have c3b0 : decide (1 ≤ a0) = false := decide_eq_false c3
    clear c3
    obtain rfl := Option.some.inj H
    go_enter Try.func41, Try.ntmps41
    go_wp2
    go_ret
    exact ⟨by first | rfl | (simp; done) | (simp [*]; done), by repeat (first | exact Drawn0.refl _ | apply Drawn0.step)⟩
end Go.Proofs.Ytmockeaiccpogaa.All
end
section
namespace Go.Proofs.Ytmockeaiccpogaa.All
open Go.Proofs.YtmockeaiccpogaaSq
open Go.RowKit Go.Proofs.YtmockeaiccpogaaW.PrintWords Go.Proofs.YtmockeaiccpogaaW.PrintLast Go.Proofs.YtmockeaiccpogaaW.PrintMore
attribute [local go_sem] max2_int min2_int max_two min_two max_three min_three max_four min_four
set_option linter.unusedVariables false
set_option linter.unusedSimpArgs false
end Go.Proofs.Ytmockeaiccpogaa.All
end
section
namespace Go.Proofs.Ytmockeaiccpogaa.All
open Go.RowKit Go.Proofs.YtmockeaiccpogaaW.PrintWords Go.Proofs.YtmockeaiccpogaaW.PrintLast Go.Proofs.YtmockeaiccpogaaW.PrintMore
attribute [local go_sem] max2_int min2_int max_two min_two max_three min_three max_four min_four
set_option linter.unusedVariables false
set_option linter.unusedSimpArgs false
attribute [local go_sem high] eqA43
mutual
def compositorref09_Equal.j0 : Nat → Bool → Int → Int → List (S43) → Int → Int → List (S43) → Option (Bool)
  | 0, _, _, _, _, _, _, _ => none
  | k + 1, x26, x254000, x254001, x254002, x255000, x255001, x255002 => if x26 = true then (some false) else (compositorref09_Equal.l0 k 0 x254000 x254001 x254002 x255000 x255001 x255002)
def compositorref09_Equal.l0 : Nat → Int → Int → Int → List (S43) → Int → Int → List (S43) → Option (Bool)
  | 0, _, _, _, _, _, _, _ => none
  | k + 1, x5, x254000, x254001, x254002, x255000, x255001, x255002 => if x5 < (x254002.length : Int) then (if 0 ≤ x5 then (if x5 < (x255002.length : Int) then (if (!(((rd_T43 x254002 x5).f0) == ((rd_T43 x255002 x5).f0)) || (!(((rd_T43 x254002 x5).f1) == ((rd_T43 x255002 x5).f1)) || (!(((rd_T43 x254002 x5).f2) == ((rd_T43 x255002 x5).f2)) || (!(((rd_T43 x254002 x5).f3) == ((rd_T43 x255002 x5).f3)))))) = true then (some false) else (compositorref09_Equal.l0 k (wrap64 (x5 + 1)) x254000 x254001 x254002 x255000 x255001 x255002)) else (none)) else (none)) else (some true)
end
end Go.Proofs.Ytmockeaiccpogaa.All
end
section
namespace Go.Proofs.Ytmockeaiccpogaa.All
open Go.RowKit Go.Proofs.YtmockeaiccpogaaW.PrintWords Go.Proofs.YtmockeaiccpogaaW.PrintLast Go.Proofs.YtmockeaiccpogaaW.PrintMore
attribute [local go_sem] max2_int min2_int max_two min_two max_three min_three max_four min_four
set_option linter.unusedVariables false
set_option linter.unusedSimpArgs false
section
open Go.Proofs.YtmockeaiccpogaaHand Go.Proofs.YtmockeaiccpogaaSq
end
def compositorref08_Valid.f (a0_0 : Int) (a0_1 : Int) (a0_2 : Int) (a0_3 : Int) : Option (Bool) := if a0_0 ≤ a0_3 then (if a0_1 ≤ a0_3 then (some (decide (a0_2 ≤ a0_3))) else (some false)) else (some false)
set_option maxHeartbeats 8000000 in
set_option maxRecDepth 100000 in
theorem compositorref08_Valid.calls (a0_0 : Int) (a0_1 : Int) (a0_2 : Int) (a0_3 : Int) (r : Bool) (w : World) (h : compositorref08_Valid.f a0_0 a0_1 a0_2 a0_3 = some r) :
    Calls Try.prog 50 #[.agg #[.int .u8 a0_0, .int .u8 a0_1, .int .u8 a0_2, .int .u8 a0_3]] w fun e w' => e = .returned (.bool r) ∧ Below w.heap.size w w' := by
  have hu43 := Try.underlying43
  have HB := Aside0.mk (Below.refl w.heap.size w)
  have H : (if a0_0 ≤ a0_3 then (if a0_1 ≤ a0_3 then (some (decide (a0_2 ≤ a0_3))) else (some false)) else (some false)) = some r := h
  clear h
  by_cases c2 : a0_0 ≤ a0_3
  · rw [if_pos c2] at H
    have c2b0 : decide (a0_0 ≤ a0_3) = true := decide_eq_true c2
    clear c2
    by_cases c3 : a0_1 ≤ a0_3
    · rw [if_pos c3] at H
      have c3b0 : decide (a0_1 ≤ a0_3) = true := decide_eq_true c3
      clear c3
      obtain rfl := Option.some.inj H
      go_enter Try.func50, Try.ntmps50
      go_wp2_with (first | ((with_reducible refine gate_dst (N := 1) rfl ?_); refine box_event ?hg (N := 1) ?hd (cs := #[.int .u8 a0_0, .int .u8 a0_1, .int .u8 a0_2, .int .u8 a0_3]) (t := 43) ?hr ?_; (case hd => rfl); (case hg => rfl); (case hr => first | (go_simp; done) | (go_simp; rfl)); intro gb257 hg w4 hbox hb; have n0_ := Aside0.mk (below_step (by repeat (first | (with_reducible first | exact HB.out | apply below_alloc | apply pw_below_drewN | apply below_drew1) | exact HB.out)) hb); have n1_ := Aside0.mk (hbox); have n2_ := Aside0.mk ((by rw [hg]; exact (below_size (by repeat (first | (with_reducible first | exact HB.out | apply below_alloc | apply pw_below_drewN | apply below_drew1) | exact HB.out))) : w.heap.size ≤ gb257)); have n3_ := Aside0.mk ((by rw [hg]; exact (below_size (by repeat (first | (with_reducible first | exact HB.out | apply below_alloc | apply pw_below_drewN | apply below_drew1) | exact HB.out))) : w.heap.size ≤ gb257)); clear HB; have HB := n0_; have BK257 := n1_; have GW257 := n2_; have GE257 := n3_; clear n0_ n1_ n2_ n3_; clear hb hbox hg; have hcz5_0 : w4.cell? ⟨gb257, 0, none⟩ = some (.int .u8 a0_0) := (blk_cell BK257.out 0).trans rfl; have hcz5_1 : w4.cell? ⟨gb257, 1, none⟩ = some (.int .u8 a0_1) := (blk_cell BK257.out 1).trans rfl; have hcz5_2 : w4.cell? ⟨gb257, 2, none⟩ = some (.int .u8 a0_2) := (blk_cell BK257.out 2).trans rfl; have hcz5_3 : w4.cell? ⟨gb257, 3, none⟩ = some (.int .u8 a0_3) := (blk_cell BK257.out 3).trans rfl; have hfz5_0 := blk_frozen BK257.out 0; have hfz5_1 := blk_frozen BK257.out 1; have hfz5_2 := blk_frozen BK257.out 2; have hfz5_3 := blk_frozen BK257.out 3))
      go_ret
      exact ⟨by first | rfl | (simp [errW_none, errW_some] <;> rfl) | (simp [*, errW_none, errW_some] <;> rfl), by repeat (first | (with_reducible first | exact HB.out | apply below_alloc | apply pw_below_drewN | apply below_drew1 | refine below_set ?_ GE257.out) | exact HB.out)⟩
    · rw [if_neg c3] at H
      have c3b0 : decide (a0_1 ≤ a0_3) = false := decide_eq_false c3
      clear c3
      obtain rfl := Option.some.inj H
      go_enter Try.func50, Try.ntmps50
      go_wp2_with (first | ((with_reducible refine gate_dst (N := 1) rfl ?_); refine box_event ?hg (N := 1) ?hd (cs := #[.int .u8 a0_0, .int .u8 a0_1, .int .u8 a0_2, .int .u8 a0_3]) (t := 43) ?hr ?_; (case hd => rfl); (case hg => rfl); (case hr => first | (go_simp; done) | (go_simp; rfl)); intro gb257 hg w6 hbox hb; have n0_ := Aside0.mk (below_step (by repeat (first | (with_reducible first | exact HB.out | apply below_alloc | apply pw_below_drewN | apply below_drew1) | exact HB.out)) hb); have n1_ := Aside0.mk (hbox); have n2_ := Aside0.mk ((by rw [hg]; exact (below_size (by repeat (first | (with_reducible first | exact HB.out | apply below_alloc | apply pw_below_drewN | apply below_drew1) | exact HB.out))) : w.heap.size ≤ gb257)); have n3_ := Aside0.mk ((by rw [hg]; exact (below_size (by repeat (first | (with_reducible first | exact HB.out | apply below_alloc | apply pw_below_drewN | apply below_drew1) | exact HB.out))) : w.heap.size ≤ gb257)); clear HB; have HB := n0_; have BK257 := n1_; have GW257 := n2_; have GE257 := n3_; clear n0_ n1_ n2_ n3_; clear hb hbox hg; have hcz7_0 : w6.cell? ⟨gb257, 0, none⟩ = some (.int .u8 a0_0) := (blk_cell BK257.out 0).trans rfl; have hcz7_1 : w6.cell? ⟨gb257, 1, none⟩ = some (.int .u8 a0_1) := (blk_cell BK257.out 1).trans rfl; have hcz7_2 : w6.cell? ⟨gb257, 2, none⟩ = some (.int .u8 a0_2) := (blk_cell BK257.out 2).trans rfl; have hcz7_3 : w6.cell? ⟨gb257, 3, none⟩ = some (.int .u8 a0_3) := (blk_cell BK257.out 3).trans rfl; have hfz7_0 := blk_frozen BK257.out 0; have hfz7_1 := blk_frozen BK257.out 1; have hfz7_2 := blk_frozen BK257.out 2; have hfz7_3 := blk_frozen BK257.out 3))
      go_ret
      exact ⟨by first | rfl | (simp [errW_none, errW_some] <;> rfl) | (simp [*, errW_none, errW_some] <;> rfl), by repeat (first | (with_reducible first | exact HB.out | apply below_alloc | apply pw_below_drewN | apply below_drew1 | refine below_set ?_ GE257.out) | exact HB.out)⟩
  · rw [if_neg c2] at H
    have c2b0 : decide (a0_0 ≤ a0_3) = false := decide_eq_false c2
    clear c2
    obtain rfl := Option.some.inj H
    go_enter Try.func50, Try.ntmps50
    go_wp2_with (first | ((with_reducible refine gate_dst (N := 1) rfl ?_); refine box_event ?hg (N := 1) ?hd (cs := #[.int .u8 a0_0, .int .u8 a0_1, .int .u8 a0_2, .int .u8 a0_3]) (t := 43) ?hr ?_; (case hd => rfl); (case hg => rfl); (case hr => first | (go_simp; done) | (go_simp; rfl)); intro gb257 hg w8 hbox hb; have n0_ := Aside0.mk (below_step (by repeat (first | (with_reducible first | exact HB.out | apply below_alloc | apply pw_below_drewN | apply below_drew1) | exact HB.out)) hb); have n1_ := Aside0.mk (hbox); have n2_ := Aside0.mk ((by rw [hg]; exact (below_size (by repeat (first | (with_reducible first | exact HB.out | apply below_alloc | apply pw_below_drewN | apply below_drew1) | exact HB.out))) : w.heap.size ≤ gb257)); have n3_ := Aside0.mk ((by rw [hg]; exact (below_size (by repeat (first | (with_reducible first | exact HB.out | apply below_alloc | apply pw_below_drewN | apply below_drew1) | exact HB.out))) : w.heap.size ≤ gb257)); clear HB; have HB := n0_; have BK257 := n1_; have GW257 := n2_; have GE257 := n3_; clear n0_ n1_ n2_ n3_; clear hb hbox hg; have hcz9_0 : w8.cell? ⟨gb257, 0, none⟩ = some (.int .u8 a0_0) := (blk_cell BK257.out 0).trans rfl; have hcz9_1 : w8.cell? ⟨gb257, 1, none⟩ = some (.int .u8 a0_1) := (blk_cell BK257.out 1).trans rfl; have hcz9_2 : w8.cell? ⟨gb257, 2, none⟩ = some (.int .u8 a0_2) := (blk_cell BK257.out 2).trans rfl; have hcz9_3 : w8.cell? ⟨gb257, 3, none⟩ = some (.int .u8 a0_3) := (blk_cell BK257.out 3).trans rfl; have hfz9_0 := blk_frozen BK257.out 0; have hfz9_1 := blk_frozen BK257.out 1; have hfz9_2 := blk_frozen BK257.out 2; have hfz9_3 := blk_frozen BK257.out 3))
    go_ret
    exact ⟨by first | rfl | (simp [errW_none, errW_some] <;> rfl) | (simp [*, errW_none, errW_some] <;> rfl), by repeat (first | (with_reducible first | exact HB.out | apply below_alloc | apply pw_below_drewN | apply below_drew1 | refine below_set ?_ GE257.out) | exact HB.out)⟩
end Go.Proofs.Ytmockeaiccpogaa.All
end
section
namespace Go.Proofs.Ytmockeaiccpogaa.All
open Go.RowKit Go.Proofs.YtmockeaiccpogaaW.PrintWords Go.Proofs.YtmockeaiccpogaaW.PrintLast Go.Proofs.YtmockeaiccpogaaW.PrintMore
attribute [local go_sem] max2_int min2_int max_two min_two max_three min_three max_four min_four
set_option linter.unusedVariables false
set_option linter.unusedSimpArgs false
mutual
def compositorref09_Valid.j0 : Nat → Bool → Int → Int → List (S43) → Option (Bool)
  | 0, _, _, _, _ => none
  | k + 1, x20, x259000, x259001, x259002 => if x20 = true then (some false) else (compositorref09_Valid.l0 k 0 x259000 x259001 x259002)
def compositorref09_Valid.l0 : Nat → Int → Int → Int → List (S43) → Option (Bool)
  | 0, _, _, _, _ => none
  | k + 1, x3, x259000, x259001, x259002 => if x3 < (x259002.length : Int) then (if 0 ≤ x3 then ((compositorref08_Valid.f ((rd_T43 x259002 x3).f0) ((rd_T43 x259002 x3).f1) ((rd_T43 x259002 x3).f2) ((rd_T43 x259002 x3).f3)).bind fun t261 => (if t261 = true then (compositorref09_Valid.l0 k (wrap64 (x3 + 1)) x259000 x259001 x259002) else (some false))) else (none)) else (some true)
end
def compositorref09_Valid.f (k : Nat) (a0_0 : Int) (a0_1 : Int) (l0_2 : List (S43)) : Option (Bool) := (compositorref09_size.f a0_0 a0_1).bind fun t259 => (if t259 = true then (compositorref09_Valid.j0 k ((l0_2.length : Int) != (wrap64 (a0_0 * a0_1))) a0_0 a0_1 l0_2) else (compositorref09_Valid.j0 k true a0_0 a0_1 l0_2))
set_option maxHeartbeats 8000000 in
set_option maxRecDepth 100000 in
theorem compositorref09_Valid.calls (k : Nat) (a0_0 : Int) (a0_1 : Int) (A0_2 : Option Addr) (c0_2 : Nat) (l0_2 : List (S43)) (r : Bool) (w : World) (hr0_2 : Kd.C k43 w A0_2 l0_2.length l0_2) (hc0_2 : l0_2.length ≤ c0_2) (h : compositorref09_Valid.f k a0_0 a0_1 l0_2 = some r) :
    Calls Try.prog 25 #[.agg #[.int .i64 a0_0, .int .i64 a0_1, .slice A0_2 l0_2.length c0_2]] w fun e w' => e = .returned (.bool r) ∧ Below w.heap.size w w' := by
  have hu27 := Try.underlying27
  have hu43 := Try.underlying43
  have HR0_2 := Aside0.mk hr0_2
  have HC0_2 := Aside0.mk hc0_2
  clear hr0_2 hc0_2
  have HB := Aside0.mk (Below.refl w.heap.size w)
  have H : ((compositorref09_size.f a0_0 a0_1).bind fun t259 => (if t259 = true then (compositorref09_Valid.j0 k ((l0_2.length : Int) != (wrap64 (a0_0 * a0_1))) a0_0 a0_1 l0_2) else (compositorref09_Valid.j0 k true a0_0 a0_1 l0_2))) = some r := h
  clear h
  have HC2 := Aside0.mk H
  clear H
  go_enter Try.func25, Try.ntmps25
  go_upto_region 1 with (first | ((with_reducible refine gate_dst (N := 1) rfl ?_); (try (refine gate_guard (by rfl) ?_; dsimp only)); refine box_event ?hg (N := 1) ?hd (cs := #[.int .i64 a0_0, .int .i64 a0_1, .slice A0_2 l0_2.length c0_2]) (t := 27) ?hr ?_; (case hd => rfl); (case hg => rfl); (case hr => first | (go_simp; done) | (go_simp; rfl)); intro gb258 hg w3 hbox hb; have n0_ := Aside0.mk (below_step (by repeat (first | (with_reducible first | exact HB.out | apply below_alloc | apply pw_below_drewN | apply below_drew1) | exact HB.out)) hb); have n1_ := Aside0.mk (hbox); have n2_ := Aside0.mk ((by rw [hg]; exact (below_size (by repeat (first | (with_reducible first | exact HB.out | apply below_alloc | apply pw_below_drewN | apply below_drew1) | exact HB.out))) : w.heap.size ≤ gb258)); have n3_ := Aside0.mk ((by rw [hg]; exact (below_size (by repeat (first | (with_reducible first | exact HB.out | apply below_alloc | apply pw_below_drewN | apply below_drew1) | exact HB.out))) : w.heap.size ≤ gb258)); clear HB; have HB := n0_; have BK258 := n1_; have GW258 := n2_; have GE258 := n3_; clear n0_ n1_ n2_ n3_; clear hb hbox hg))
  (try simp only [Act.put, List.setIfInBounds_toArray, List.set_cons_zero, List.set_cons_succ])
  go_cut [20] (fun v20 wc => ∃ (kq : Nat) (x20_1 : Bool), v20 = .bool x20_1 ∧ Aside0 (compositorref09_Valid.j0 kq x20_1 a0_0 a0_1 l0_2 = some r) ∧ Aside0 (kq ≤ k) ∧ Aside0 (wc.heap[gb258]? = some (.cells #[.int .i64 a0_0, .int .i64 a0_1, (.slice A0_2 l0_2.length c0_2)] 27 (0, 0))) ∧ Aside0 (Below w.heap.size w wc))
  case first =>
    have H := HC2.out
    clear HC2
    replace H := Option.bind_eq_some_iff.mp H
    obtain ⟨t259, A40, H⟩ := H
    replace H : (if t259 = true then (compositorref09_Valid.j0 k ((l0_2.length : Int) != (wrap64 (a0_0 * a0_1))) a0_0 a0_1 l0_2) else (compositorref09_Valid.j0 k true a0_0 a0_1 l0_2)) = some r := H
    have A4 := Aside0.mk A40
    clear A40
    by_cases c5 : t259 = true
    · subst c5
      have H1 : (compositorref09_Valid.j0 k ((l0_2.length : Int) != (wrap64 (a0_0 * a0_1))) a0_0 a0_1 l0_2) = some r := by rw [if_pos rfl] at H; exact H
      clear H
      have H := H1
      clear H1
      have H' := Aside0.mk H
      clear H
      have hcz6_0 : w3.cell? ⟨gb258, 0, none⟩ = some (.int .i64 a0_0) := (blk_cell BK258.out 0).trans rfl
      have hcz6_1 : w3.cell? ⟨gb258, 1, none⟩ = some (.int .i64 a0_1) := (blk_cell BK258.out 1).trans rfl
      have hcz6_2 : w3.cell? ⟨gb258, 2, none⟩ = some (.slice A0_2 l0_2.length c0_2) := (blk_cell BK258.out 2).trans rfl
      have hfz6_0 := blk_frozen BK258.out 0
      have hfz6_1 := blk_frozen BK258.out 1
      have hfz6_2 := blk_frozen BK258.out 2
      go_wp2_with (first | ((with_reducible refine gate_callee (f := 41) rfl ?_); refine goesL_ (some 8) rfl rfl Try.func41 (by kernel_rfl) rfl #[.int .i64 a0_0, .int .i64 a0_1] rfl (by (try simp only [List.map_toArray, List.map_cons, List.map_nil]); first | done | rfl | (simp only [List.length_drop, List.length_take]; rfl)) ?_; (with_reducible refine (compositorref09_size.calls a0_0 a0_1 true _ A4.out).mono ?_); rintro e w' ⟨rfl, ⟨nd, rfl⟩⟩; refine ⟨_, rfl, ?_⟩))
      go_meet
      case rel => exact ⟨_, (((l0_2.length : Int) != (wrap64 (a0_0 * a0_1)))), (by first | rfl | (simp; done) | (simp [*]; done)), H', ⟨by first | omega | exact Nat.le_refl _⟩, ⟨by (with_reducible repeat (first | refine blk_drewN ?_ _ | refine blk_drew ?_ | refine blk_alloc ?_ _)); exact BK258.out⟩, ⟨by repeat (first | (with_reducible first | exact HB.out | apply below_alloc | apply pw_below_drewN | apply below_drew1 | refine below_set ?_ GE258.out) | exact HB.out)⟩⟩
    · replace c5 := Bool.eq_false_iff.mpr c5
      subst c5
      have H1 : (compositorref09_Valid.j0 k true a0_0 a0_1 l0_2) = some r := by rw [if_neg (show ¬ (false = true) by decide)] at H; exact H
      clear H
      have H := H1
      clear H1
      have H' := Aside0.mk H
      clear H
      have hcz7_0 : w3.cell? ⟨gb258, 0, none⟩ = some (.int .i64 a0_0) := (blk_cell BK258.out 0).trans rfl
      have hcz7_1 : w3.cell? ⟨gb258, 1, none⟩ = some (.int .i64 a0_1) := (blk_cell BK258.out 1).trans rfl
      have hcz7_2 : w3.cell? ⟨gb258, 2, none⟩ = some (.slice A0_2 l0_2.length c0_2) := (blk_cell BK258.out 2).trans rfl
      have hfz7_0 := blk_frozen BK258.out 0
      have hfz7_1 := blk_frozen BK258.out 1
      have hfz7_2 := blk_frozen BK258.out 2
      go_wp2_with (first | ((with_reducible refine gate_callee (f := 41) rfl ?_); refine goesL_ (some 8) rfl rfl Try.func41 (by kernel_rfl) rfl #[.int .i64 a0_0, .int .i64 a0_1] rfl (by (try simp only [List.map_toArray, List.map_cons, List.map_nil]); first | done | rfl | (simp only [List.length_drop, List.length_take]; rfl)) ?_; (with_reducible refine (compositorref09_size.calls a0_0 a0_1 false _ A4.out).mono ?_); rintro e w' ⟨rfl, ⟨nd, rfl⟩⟩; refine ⟨_, rfl, ?_⟩))
      go_meet
      case rel => exact ⟨_, (true), (by first | rfl | (simp; done) | (simp [*]; done)), H', ⟨by first | omega | exact Nat.le_refl _⟩, ⟨by (with_reducible repeat (first | refine blk_drewN ?_ _ | refine blk_drew ?_ | refine blk_alloc ?_ _)); exact BK258.out⟩, ⟨by repeat (first | (with_reducible first | exact HB.out | apply below_alloc | apply pw_below_drewN | apply below_drew1 | refine below_set ?_ GE258.out) | exact HB.out)⟩⟩
  case rest =>
    clear HC2
    try clear c2
    try clear p2
    try clear c4
    try clear c5
    try clear p6
    try clear hcz6_0
    try clear hcz6_1
    try clear hcz6_2
    try clear hcz7_0
    try clear hcz7_1
    try clear hcz7_2
    try clear hfz6_0
    try clear hfz6_1
    try clear hfz6_2
    try clear hfz7_0
    try clear hfz7_1
    try clear hfz7_2
    obtain ⟨kq, x20_1, rfl, HA, HJ1, BK258, HB⟩ := hcut
    cases kq with
    | zero => exact absurd HA.out (by simp [compositorref09_Valid.j0])
    | succ kj1 =>
      have H := HA.out
      clear HA
      simp only [compositorref09_Valid.j0] at H
      by_cases c8 : x20_1 = true
      · subst c8
        have H1 : (some false) = some r := by rw [if_pos rfl] at H; exact H
        clear H
        have H := H1
        clear H1
        obtain rfl := Option.some.inj H
        go_wp2
        go_ret
        exact ⟨by first | rfl | (simp [errW_none, errW_some] <;> rfl) | (simp [*, errW_none, errW_some] <;> rfl), by repeat (first | (with_reducible first | exact HB.out | apply below_alloc | apply pw_below_drewN | apply below_drew1 | refine below_set ?_ GE258.out) | exact HB.out)⟩
      · replace c8 := Bool.eq_false_iff.mpr c8
        subst c8
        have H1 : (compositorref09_Valid.l0 kj1 0 a0_0 a0_1 l0_2) = some r := by rw [if_neg (show ¬ (false = true) by decide)] at H; exact H
        clear H
        have H := H1
        clear H1
        have H' := Aside0.mk H
        clear H
        go_wp2
        go_loopg [3] kj1 (fun kq v3 w' => ∃ (x3_2 : Int), v3 = .int .i64 x3_2 ∧ Aside0 (compositorref09_Valid.l0 kq x3_2 a0_0 a0_1 l0_2 = some r) ∧ Aside0 (kq ≤ kj1) ∧ Aside0 (w'.heap[gb258]? = some (.cells #[.int .i64 a0_0, .int .i64 a0_1, (.slice A0_2 l0_2.length c0_2)] 27 (0, 0))) ∧ Aside0 (Below w.heap.size w w'))
        case atStart => exact ⟨(0), (by first | rfl | (simp; done) | (simp [*]; done)), H', ⟨Nat.le_refl _⟩, ⟨by (with_reducible repeat (first | refine blk_drewN ?_ _ | refine blk_drew ?_ | refine blk_alloc ?_ _)); exact BK258.out⟩, ⟨by repeat (first | (with_reducible first | exact HB.out | apply below_alloc | apply pw_below_drewN | apply below_drew1 | refine below_set ?_ GE258.out) | exact HB.out)⟩⟩
        case round =>
          clear H'
          try clear c2
          try clear p2
          try clear c4
          try clear c5
          try clear p6
          try clear c8
          try clear hcz6_0
          try clear hcz6_1
          try clear hcz6_2
          try clear hcz7_0
          try clear hcz7_1
          try clear hcz7_2
          try clear hfz6_0
          try clear hfz6_1
          try clear hfz6_2
          try clear hfz7_0
          try clear hfz7_1
          try clear hfz7_2
          try clear p2
          try clear p6
          obtain ⟨x3_2, rfl, HA, HK2, BK258, HB⟩ := hrel
          cases gk with
          | zero => exact absurd HA.out (by simp [compositorref09_Valid.l0])
          | succ k2 =>
            have H := HA.out
            clear HA
            simp only [compositorref09_Valid.l0] at H
            by_cases c9 : x3_2 < (l0_2.length : Int)
            · rw [if_pos c9] at H
              have c9b0 : decide (x3_2 < (l0_2.length : Int)) = true := decide_eq_true c9
              clear c9
              by_cases c10 : 0 ≤ x3_2
              · rw [if_pos c10] at H
                have c10b0 : decide (0 ≤ x3_2) = true := decide_eq_true c10
                clear c10
                replace H := Option.bind_eq_some_iff.mp H
                obtain ⟨t261, A110, H⟩ := H
                replace H : (if t261 = true then (compositorref09_Valid.l0 k2 (wrap64 (x3_2 + 1)) a0_0 a0_1 l0_2) else (some false)) = some r := H
                have A11 := Aside0.mk A110
                clear A110
                by_cases c12 : t261 = true
                · subst c12
                  have H1 : (compositorref09_Valid.l0 k2 (wrap64 (x3_2 + 1)) a0_0 a0_1 l0_2) = some r := by rw [if_pos rfl] at H; exact H
                  clear H
                  have H := H1
                  clear H1
                  have H' := Aside0.mk H
                  clear H
                  have hcz13_0 : wr.cell? ⟨gb258, 0, none⟩ = some (.int .i64 a0_0) := (blk_cell BK258.out 0).trans rfl
                  have hcz13_1 : wr.cell? ⟨gb258, 1, none⟩ = some (.int .i64 a0_1) := (blk_cell BK258.out 1).trans rfl
                  have hcz13_2 : wr.cell? ⟨gb258, 2, none⟩ = some (.slice A0_2 l0_2.length c0_2) := (blk_cell BK258.out 2).trans rfl
                  have hfz13_0 := blk_frozen BK258.out 0
                  have hfz13_1 := blk_frozen BK258.out 1
                  have hfz13_2 := blk_frozen BK258.out 2
                  have p260 : 0 ≤ (x3_2 : Int) := of_decide_eq_true (by first | (with_reducible assumption) | assumption)
                  have q260 : x3_2 < (l0_2.length : Int) := of_decide_eq_true (by first | (with_reducible assumption) | assumption)
                  obtain ⟨ad260, e260, hx260_0, hx260_1, hx260_2, hx260_3⟩ := at_T43 HR0_2.out x3_2 p260 q260
                  cases e260
                  replace hx260_0 := (HB.out.cell (World.block_lt_of_cell? w _ hx260_0)).trans hx260_0
                  replace hx260_1 := (HB.out.cell (World.block_lt_of_cell? w _ hx260_1)).trans hx260_1
                  replace hx260_2 := (HB.out.cell (World.block_lt_of_cell? w _ hx260_2)).trans hx260_2
                  replace hx260_3 := (HB.out.cell (World.block_lt_of_cell? w _ hx260_3)).trans hx260_3
                  replace p260 := eq_true p260
                  replace q260 := eq_true q260
                  go_wp2_with (first | ((with_reducible refine gate_callee (f := 50) rfl ?_); refine goesL_ (some 33) rfl rfl Try.func50 (by kernel_rfl) rfl #[.agg #[.int .u8 ((rd_T43 l0_2 x3_2).f0), .int .u8 ((rd_T43 l0_2 x3_2).f1), .int .u8 ((rd_T43 l0_2 x3_2).f2), .int .u8 ((rd_T43 l0_2 x3_2).f3)]] rfl (by (try simp only [List.map_toArray, List.map_cons, List.map_nil]); first | done | rfl | (simp only [List.length_drop, List.length_take]; rfl)) ?_; (with_reducible refine (compositorref08_Valid.calls ((rd_T43 l0_2 x3_2).f0) ((rd_T43 l0_2 x3_2).f1) ((rd_T43 l0_2 x3_2).f2) ((rd_T43 l0_2 x3_2).f3) true _ A11.out).mono ?_); rintro e w14 ⟨rfl, hb⟩; refine ⟨_, rfl, ?_⟩; have n0_ := Aside0.mk (blk_below (g := gb258) (o := .cells #[.int .i64 a0_0, .int .i64 a0_1, .slice (some ad260) l0_2.length c0_2] 27 (0, 0)) (by (with_reducible repeat (first | refine blk_drewN ?_ _ | refine blk_drew ?_ | refine blk_alloc ?_ _)); exact BK258.out) hb); have n1_ := Aside0.mk (below_step (by repeat (first | (with_reducible first | exact HB.out | apply below_alloc | apply pw_below_drewN | apply below_drew1 | refine below_set ?_ GE258.out) | exact HB.out)) hb); clear BK258; clear HB; have BK258 := n0_; have HB := n1_; clear n0_ n1_; (try clear hb); (try clear hb2); (try clear hk); (try clear hi)))
                  go_roundg k2
                  case measure => have := HJ1.out; have := HK2.out; omega
                  case rel => exact ⟨(wrap64 (x3_2 + 1)), (by first | rfl | (simp; done) | (simp [*]; done)), H', ⟨by have := HJ1.out; have := HK2.out; omega⟩, ⟨by (with_reducible repeat (first | refine blk_drewN ?_ _ | refine blk_drew ?_ | refine blk_alloc ?_ _)); exact BK258.out⟩, ⟨by repeat (first | (with_reducible first | exact HB.out | apply below_alloc | apply pw_below_drewN | apply below_drew1 | refine below_set ?_ GE258.out) | exact HB.out)⟩⟩
                · replace c12 := Bool.eq_false_iff.mpr c12
                  subst c12
                  have H1 : (some false) = some r := by rw [if_neg (show ¬ (false = true) by decide)] at H; exact H
                  clear H
                  have H := H1
                  clear H1
                  obtain rfl := Option.some.inj H
                  have hcz15_0 : wr.cell? ⟨gb258, 0, none⟩ = some (.int .i64 a0_0) := (blk_cell BK258.out 0).trans rfl
                  have hcz15_1 : wr.cell? ⟨gb258, 1, none⟩ = some (.int .i64 a0_1) := (blk_cell BK258.out 1).trans rfl
                  have hcz15_2 : wr.cell? ⟨gb258, 2, none⟩ = some (.slice A0_2 l0_2.length c0_2) := (blk_cell BK258.out 2).trans rfl
                  have hfz15_0 := blk_frozen BK258.out 0
                  have hfz15_1 := blk_frozen BK258.out 1
                  have hfz15_2 := blk_frozen BK258.out 2
                  have p260 : 0 ≤ (x3_2 : Int) := of_decide_eq_true (by first | (with_reducible assumption) | assumption)
                  have q260 : x3_2 < (l0_2.length : Int) := of_decide_eq_true (by first | (with_reducible assumption) | assumption)
                  obtain ⟨ad260, e260, hx260_0, hx260_1, hx260_2, hx260_3⟩ := at_T43 HR0_2.out x3_2 p260 q260
                  cases e260
                  replace hx260_0 := (HB.out.cell (World.block_lt_of_cell? w _ hx260_0)).trans hx260_0
                  replace hx260_1 := (HB.out.cell (World.block_lt_of_cell? w _ hx260_1)).trans hx260_1
                  replace hx260_2 := (HB.out.cell (World.block_lt_of_cell? w _ hx260_2)).trans hx260_2
                  replace hx260_3 := (HB.out.cell (World.block_lt_of_cell? w _ hx260_3)).trans hx260_3
                  replace p260 := eq_true p260
                  replace q260 := eq_true q260
                  go_wp2_with (first | ((with_reducible refine gate_callee (f := 50) rfl ?_); refine goesL_ (some 33) rfl rfl Try.func50 (by kernel_rfl) rfl #[.agg #[.int .u8 ((rd_T43 l0_2 x3_2).f0), .int .u8 ((rd_T43 l0_2 x3_2).f1), .int .u8 ((rd_T43 l0_2 x3_2).f2), .int .u8 ((rd_T43 l0_2 x3_2).f3)]] rfl (by (try simp only [List.map_toArray, List.map_cons, List.map_nil]); first | done | rfl | (simp only [List.length_drop, List.length_take]; rfl)) ?_; (with_reducible refine (compositorref08_Valid.calls ((rd_T43 l0_2 x3_2).f0) ((rd_T43 l0_2 x3_2).f1) ((rd_T43 l0_2 x3_2).f2) ((rd_T43 l0_2 x3_2).f3) false _ A11.out).mono ?_); rintro e w16 ⟨rfl, hb⟩; refine ⟨_, rfl, ?_⟩; have n0_ := Aside0.mk (blk_below (g := gb258) (o := .cells #[.int .i64 a0_0, .int .i64 a0_1, .slice (some ad260) l0_2.length c0_2] 27 (0, 0)) (by (with_reducible repeat (first | refine blk_drewN ?_ _ | refine blk_drew ?_ | refine blk_alloc ?_ _)); exact BK258.out) hb); have n1_ := Aside0.mk (below_step (by repeat (first | (with_reducible first | exact HB.out | apply below_alloc | apply pw_below_drewN | apply below_drew1 | refine below_set ?_ GE258.out) | exact HB.out)) hb); clear BK258; clear HB; have BK258 := n0_; have HB := n1_; clear n0_ n1_; (try clear hb); (try clear hb2); (try clear hk); (try clear hi)))
                  go_ret
                  exact ⟨by first | rfl | (simp [errW_none, errW_some] <;> rfl) | (simp [*, errW_none, errW_some] <;> rfl), by repeat (first | (with_reducible first | exact HB.out | apply below_alloc | apply pw_below_drewN | apply below_drew1 | refine below_set ?_ GE258.out) | exact HB.out)⟩
              · rw [if_neg c10] at H
                exact absurd H (by simp)
            · rw [if_neg c9] at H
              have c9b0 : decide (x3_2 < (l0_2.length : Int)) = false := decide_eq_false c9
              clear c9
              obtain rfl := Option.some.inj H
              have hcz17_0 : wr.cell? ⟨gb258, 0, none⟩ = some (.int .i64 a0_0) := (blk_cell BK258.out 0).trans rfl
              have hcz17_1 : wr.cell? ⟨gb258, 1, none⟩ = some (.int .i64 a0_1) := (blk_cell BK258.out 1).trans rfl
              have hcz17_2 : wr.cell? ⟨gb258, 2, none⟩ = some (.slice A0_2 l0_2.length c0_2) := (blk_cell BK258.out 2).trans rfl
              have hfz17_0 := blk_frozen BK258.out 0
              have hfz17_1 := blk_frozen BK258.out 1
              have hfz17_2 := blk_frozen BK258.out 2
              go_wp2
              go_ret
              exact ⟨by first | rfl | (simp [errW_none, errW_some] <;> rfl) | (simp [*, errW_none, errW_some] <;> rfl), by repeat (first | (with_reducible first | exact HB.out | apply below_alloc | apply pw_below_drewN | apply below_drew1 | refine below_set ?_ GE258.out) | exact HB.out)⟩
end Go.Proofs.Ytmockeaiccpogaa.All
end
section
namespace Go.Proofs.Ytmockeaiccpogaa.All
open Go.RowKit Go.Proofs.YtmockeaiccpogaaW.PrintWords Go.Proofs.YtmockeaiccpogaaW.PrintLast Go.Proofs.YtmockeaiccpogaaW.PrintMore
attribute [local go_sem] max2_int min2_int max_two min_two max_three min_three max_four min_four
set_option linter.unusedVariables false
set_option linter.unusedSimpArgs false
def compositorlaw09_small.f (a0_0 : Int) (a0_1 : Int) (l0_2 : List (S43)) : Option (Bool) := some (decide ((l0_2.length : Int) ≤ 400))
set_option maxHeartbeats 8000000 in
set_option maxRecDepth 100000 in
theorem compositorlaw09_small.calls (a0_0 : Int) (a0_1 : Int) (A0_2 : Option Addr) (c0_2 : Nat) (l0_2 : List (S43)) (r : Bool) (w : World) (hr0_2 : Kd.C k43 w A0_2 l0_2.length l0_2) (hc0_2 : l0_2.length ≤ c0_2) (h : compositorlaw09_small.f a0_0 a0_1 l0_2 = some r) :
    Calls Try.prog 22 #[.agg #[.int .i64 a0_0, .int .i64 a0_1, .slice A0_2 l0_2.length c0_2]] w fun e w' => e = .returned (.bool r) ∧ Below w.heap.size w w' := by
  have hu27 := Try.underlying27
  have HR0_2 := Aside0.mk hr0_2
  have HC0_2 := Aside0.mk hc0_2
  clear hr0_2 hc0_2
  have HB := Aside0.mk (Below.refl w.heap.size w)
  have H : (some (decide ((l0_2.length : Int) ≤ 400))) = some r := h
  clear h
  obtain rfl := Option.some.inj H
  go_enter Try.func22, Try.ntmps22
  go_wp2_with (first | ((with_reducible refine gate_dst (N := 1) rfl ?_); refine box_event ?hg (N := 1) ?hd (cs := #[.int .i64 a0_0, .int .i64 a0_1, .slice A0_2 l0_2.length c0_2]) (t := 27) ?hr ?_; (case hd => rfl); (case hg => rfl); (case hr => first | (go_simp; done) | (go_simp; rfl)); intro gb318 hg w2 hbox hb; have n0_ := Aside0.mk (below_step (by repeat (first | (with_reducible first | exact HB.out | apply below_alloc | apply pw_below_drewN | apply below_drew1) | exact HB.out)) hb); have n1_ := Aside0.mk (hbox); have n2_ := Aside0.mk ((by rw [hg]; exact (below_size (by repeat (first | (with_reducible first | exact HB.out | apply below_alloc | apply pw_below_drewN | apply below_drew1) | exact HB.out))) : w.heap.size ≤ gb318)); have n3_ := Aside0.mk ((by rw [hg]; exact (below_size (by repeat (first | (with_reducible first | exact HB.out | apply below_alloc | apply pw_below_drewN | apply below_drew1) | exact HB.out))) : w.heap.size ≤ gb318)); clear HB; have HB := n0_; have BK318 := n1_; have GW318 := n2_; have GE318 := n3_; clear n0_ n1_ n2_ n3_; clear hb hbox hg; have hcz3_0 : w2.cell? ⟨gb318, 0, none⟩ = some (.int .i64 a0_0) := (blk_cell BK318.out 0).trans rfl; have hcz3_1 : w2.cell? ⟨gb318, 1, none⟩ = some (.int .i64 a0_1) := (blk_cell BK318.out 1).trans rfl; have hcz3_2 : w2.cell? ⟨gb318, 2, none⟩ = some (.slice A0_2 l0_2.length c0_2) := (blk_cell BK318.out 2).trans rfl; have hfz3_0 := blk_frozen BK318.out 0; have hfz3_1 := blk_frozen BK318.out 1; have hfz3_2 := blk_frozen BK318.out 2))
  go_ret
  exact ⟨by first | rfl | (simp [errW_none, errW_some] <;> rfl) | (simp [*, errW_none, errW_some] <;> rfl), by repeat (first | (with_reducible first | exact HB.out | apply below_alloc | apply pw_below_drewN | apply below_drew1 | refine below_set ?_ GE318.out) | exact HB.out)⟩
end Go.Proofs.Ytmockeaiccpogaa.All
end
section
namespace Go.Proofs.Ytmockeaiccpogaa.All
open Go.RowKit Go.Proofs.YtmockeaiccpogaaW.PrintWords Go.Proofs.YtmockeaiccpogaaW.PrintLast Go.Proofs.YtmockeaiccpogaaW.PrintMore
attribute [local go_sem] max2_int min2_int max_two min_two max_three min_three max_four min_four
set_option linter.unusedVariables false
set_option linter.unusedSimpArgs false
section
open Go.Proofs.YtmockeaiccpogaaHand Go.Proofs.YtmockeaiccpogaaSq
def slices_Clone.f (l : List S43) : Option (List S43) := if l.length < 35184372088832 then some l else none
theorem slices_Clone.calls (A0 : Option Addr) (c0 : Nat) (l0 : List S43) (r : List S43) (w : World) (hr0 : Kd.C k43 w A0 l0.length l0) (hc0 : l0.length ≤ c0) (h : slices_Clone.f l0 = some r) :
    Calls Try.prog 70 #[.slice A0 l0.length c0] w fun e w' => ∃ v, e = .returned v ∧ Kd.R k43 43 w' w.heap.size (fun _ => True) v r ∧ Below w.heap.size w w' := by
  unfold slices_Clone.f at h
  split at h
  · obtain rfl := Option.some.inj h
    rename_i hl
    have e0 := fun (w : World) (n c : Nat) => Go.Lib.run_eql_slice_nil (P := Try.prog) w 25 43 none n c 0 0 Try.underlying25
    have e1 := fun (w : World) (ad : Addr) (n c : Nat) => Go.Lib.run_eql_slice_nil (P := Try.prog) w 25 43 (some ad) n c 0 0 Try.underlying25
    cases A0 with
    | none =>
      obtain rfl : l0 = [] := by
        rcases Nat.eq_zero_or_pos l0.length with h0 | h0
        · exact List.eq_nil_of_length_eq_zero h0
        · obtain ⟨ad, h, _⟩ := hr0.2.2 h0
          cases h
      clear hr0 hc0 hl h
      go_enter Try.func70, Try.ntmps70
      go_wp2
      go_ret
      exact ⟨_, rfl, Kd.R_nil _ _ _ _ _, Below.refl _ _⟩
    | some ad =>
      have hl2 := Aside0.mk hl
      have hR := Aside0.mk hr0
      clear hr0 hl h
      go_enter Try.func70, Try.ntmps70
      have hO : Aside0 (Kd.R k43 43 (w.alloc (.cells #[] 43)) w.heap.size (fun _ => True) (.slice (some ⟨w.heap.size, 0, none⟩) 0 0) []) := ⟨⟨fun _ _ => trivial, OwnRow.lit (ps := []) w w.heap.size (Reps.none _ _) (Nat.le_refl _) (by simp)⟩⟩
      have hC := Aside0.mk (Kd.C_alloc hR.out (.cells #[] 43))
      have hB := Aside0.mk (below_alloc (Below.refl w.heap.size w) (.cells #[] 43))
      go_wp2_with (first | ((with_reducible refine gate_builtin (b := .append) (xs := #[.tmp 5, .tmp 6]) rfl ?_); at_builtin; refine Kd.R_append_rows k43 (w0 := w) w.heap.size rfl (.tmp 5) (.tmp 6) 25 43 (.agg #[(.int .u8 0), (.int .u8 0), (.int .u8 0), (.int .u8 0)]) 4 rfl Try.underlying25 info43 rfl (by decide) (by decide) (.slice (some ⟨w.heap.size, 0, none⟩) 0 0) [] l0 (some ad) l0.length c0 (fun _ => True) (fun _ => False) rfl rfl ?aO ?aR (fun _ _ h => h) (fun _ h => h.elim) ?aF ?aB ?aS ?aL ?_; (case aO => exact hO.out); (case aR => exact hC.out); (case aF => exact fun _ _ => trivial); (case aB => exact hB.out); (case aS => exact hB.out.size); (case aL => have := hl2.out; simp; omega); intro v1 w1 ho hb hg hat; have hF := Aside0.mk ho; have hB1 := Aside0.mk hb; clear ho hb hg hat))
      go_ret
      exact ⟨v1, rfl, hF.out, hB1.out⟩
  · cases h
end
end Go.Proofs.Ytmockeaiccpogaa.All
end
