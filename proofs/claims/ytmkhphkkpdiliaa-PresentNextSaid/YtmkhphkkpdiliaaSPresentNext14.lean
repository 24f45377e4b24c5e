-- The texts behind this claim's law, put together by a program of this session (shake.py): what no text uses is left out. Its words are print.sh's.
import Derived.SizedLaws
import Derived.ChangeSlices
import Derived.OpenShut
import Derived.Test.YtmkhphkkpdiliaaSPresentNext13
section
namespace Go.Proofs.Ytmkhphkkpdiliaa.All
open Go.Proofs.YtmkhphkkpdiliaaSq
open Go.RowKit Go.Proofs.YtmkhphkkpdiliaaW.PrintWords Go.Proofs.YtmkhphkkpdiliaaW.PrintLast Go.Proofs.YtmkhphkkpdiliaaW.PrintMore
attribute [local go_sem] max2_int min2_int max_two min_two max_three min_three max_four min_four
set_option linter.unusedVariables false
set_option linter.unusedSimpArgs false
def compositorref23_Interval.f (k : Nat) (a0_0 : ByteArray) (a0_1 : Int) (a0_2 : Int) (a0_3 : Int) (a0_4 : Int) (a0_5 : Int) (a0_6 : Int) (a0_7 : Int) : Option (Int) := (compositorref23_Check.f k a0_0 a0_1 a0_2 a0_3 a0_4 a0_5 a0_6 a0_7).bind fun t127 => (if t127 = 0 then (if (wrap64 (2 * a0_3)) = 0 then (none) else (some (wrap64 (Int.tdiv (wrap64 (2000000000000 + a0_3)) (wrap64 (2 * a0_3)))))) else (some 0))
set_option maxHeartbeats 8000000 in
set_option maxRecDepth 100000 in
theorem compositorref23_Interval.calls (k : Nat) (a0_0 : ByteArray) (a0_1 : Int) (a0_2 : Int) (a0_3 : Int) (a0_4 : Int) (a0_5 : Int) (a0_6 : Int) (a0_7 : Int) (r : Int) (w : World) (h : compositorref23_Interval.f k a0_0 a0_1 a0_2 a0_3 a0_4 a0_5 a0_6 a0_7 = some r) :
    Calls Try.prog 14 #[.agg #[.string a0_0, .int .i64 a0_1, .int .i64 a0_2, .int .i64 a0_3, .int .i64 a0_4, .int .i64 a0_5, .int .i64 a0_6, .int .i64 a0_7]] w fun e w' => e = .returned (.int .i64 r) ∧ Below w.heap.size w w' := by
  have hu23 := Try.underlying23
  have HB := Aside0.mk (Below.refl w.heap.size w)
  have H : ((compositorref23_Check.f k a0_0 a0_1 a0_2 a0_3 a0_4 a0_5 a0_6 a0_7).bind fun t127 => (if t127 = 0 then (if (wrap64 (2 * a0_3)) = 0 then (none) else (some (wrap64 (Int.tdiv (wrap64 (2000000000000 + a0_3)) (wrap64 (2 * a0_3)))))) else (some 0))) = some r := h
  clear h
  replace H := Option.bind_eq_some_iff.mp H
  obtain ⟨t127, A20, H⟩ := H
  replace H : (if t127 = 0 then (if (wrap64 (2 * a0_3)) = 0 then (none) else (some (wrap64 (Int.tdiv (wrap64 (2000000000000 + a0_3)) (wrap64 (2 * a0_3)))))) else (some 0)) = some r := H
  have A2 := Aside0.mk A20
  clear A20
  by_cases c3 : t127 = 0
  · rw [if_pos c3] at H
    have c3b0 : (t127 == 0) = true := beq_iff_eq.mpr c3
    have c3b1 : (t127 != 0) = false := bne_eq_false_iff_eq.mpr c3
    clear c3
    by_cases c4 : (wrap64 (2 * a0_3)) = 0
    · rw [if_pos c4] at H
      exact absurd H (by simp)
    · rw [if_neg c4] at H
      have c4b0 : ((wrap64 (2 * a0_3)) == 0) = false := beq_eq_false_iff_ne.mpr c4
      have c4b1 : ((wrap64 (2 * a0_3)) != 0) = true := bne_iff_ne.mpr c4
      obtain rfl := Option.some.inj H
      go_enter Try.func14, Try.ntmps14
      go_wp2_with (first | ((with_reducible refine gate_dst (N := 1) rfl ?_); refine box_event ?hg (N := 1) ?hd (cs := #[.string a0_0, .int .i64 a0_1, .int .i64 a0_2, .int .i64 a0_3, .int .i64 a0_4, .int .i64 a0_5, .int .i64 a0_6, .int .i64 a0_7]) (t := 23) ?hr ?_; (case hd => rfl); (case hg => rfl); (case hr => first | (go_simp; done) | (go_simp; rfl)); intro gb126 hg w5 hbox hb; have n0_ := Aside0.mk (below_step (by repeat (first | (with_reducible first | exact HB.out | apply below_alloc | apply pw_below_drewN | apply below_drew1) | exact HB.out)) hb); have n1_ := Aside0.mk (hbox); have n2_ := Aside0.mk ((by rw [hg]; exact (below_size (by repeat (first | (with_reducible first | exact HB.out | apply below_alloc | apply pw_below_drewN | apply below_drew1) | exact HB.out))) : w.heap.size ≤ gb126)); have n3_ := Aside0.mk ((by rw [hg]; exact (below_size (by repeat (first | (with_reducible first | exact HB.out | apply below_alloc | apply pw_below_drewN | apply below_drew1) | exact HB.out))) : w.heap.size ≤ gb126)); clear HB; have HB := n0_; have BK126 := n1_; have GW126 := n2_; have GE126 := n3_; clear n0_ n1_ n2_ n3_; clear hb hbox hg; have hcz6_0 : w5.cell? ⟨gb126, 0, none⟩ = some (.string a0_0) := (blk_cell BK126.out 0).trans rfl; have hcz6_1 : w5.cell? ⟨gb126, 1, none⟩ = some (.int .i64 a0_1) := (blk_cell BK126.out 1).trans rfl; have hcz6_2 : w5.cell? ⟨gb126, 2, none⟩ = some (.int .i64 a0_2) := (blk_cell BK126.out 2).trans rfl; have hcz6_3 : w5.cell? ⟨gb126, 3, none⟩ = some (.int .i64 a0_3) := (blk_cell BK126.out 3).trans rfl; have hcz6_4 : w5.cell? ⟨gb126, 4, none⟩ = some (.int .i64 a0_4) := (blk_cell BK126.out 4).trans rfl; have hcz6_5 : w5.cell? ⟨gb126, 5, none⟩ = some (.int .i64 a0_5) := (blk_cell BK126.out 5).trans rfl; have hcz6_6 : w5.cell? ⟨gb126, 6, none⟩ = some (.int .i64 a0_6) := (blk_cell BK126.out 6).trans rfl; have hcz6_7 : w5.cell? ⟨gb126, 7, none⟩ = some (.int .i64 a0_7) := (blk_cell BK126.out 7).trans rfl; have hfz6_0 := blk_frozen BK126.out 0; have hfz6_1 := blk_frozen BK126.out 1; have hfz6_2 := blk_frozen BK126.out 2; have hfz6_3 := blk_frozen BK126.out 3; have hfz6_4 := blk_frozen BK126.out 4; have hfz6_5 := blk_frozen BK126.out 5; have hfz6_6 := blk_frozen BK126.out 6; have hfz6_7 := blk_frozen BK126.out 7) | ((with_reducible refine gate_callee (f := 11) rfl ?_); refine goesL_ (some 4) rfl rfl Try.func11 (by kernel_rfl) rfl #[.agg #[.string a0_0, .int .i64 a0_1, .int .i64 a0_2, .int .i64 a0_3, .int .i64 a0_4, .int .i64 a0_5, .int .i64 a0_6, .int .i64 a0_7]] rfl (by (try simp only [List.map_toArray, List.map_cons, List.map_nil]); first | done | rfl | (simp only [List.length_drop, List.length_take]; rfl)) ?_; (with_reducible refine (compositorref23_Check.calls k a0_0 a0_1 a0_2 a0_3 a0_4 a0_5 a0_6 a0_7 t127 _ A2.out).mono ?_); rintro e w7 ⟨rfl, hb⟩; refine ⟨_, rfl, ?_⟩; have n0_ := Aside0.mk (blk_below (g := gb126) (o := .cells #[.string a0_0, .int .i64 a0_1, .int .i64 a0_2, .int .i64 a0_3, .int .i64 a0_4, .int .i64 a0_5, .int .i64 a0_6, .int .i64 a0_7] 23 (0, 0)) (by (with_reducible repeat (first | refine blk_drewN ?_ _ | refine blk_drew ?_ | refine blk_alloc ?_ _)); exact BK126.out) hb); have n1_ := Aside0.mk (below_step (by repeat (first | (with_reducible first | exact HB.out | apply below_alloc | apply pw_below_drewN | apply below_drew1 | refine below_set ?_ GE126.out) | exact HB.out)) hb); clear BK126; clear HB; have BK126 := n0_; have HB := n1_; clear n0_ n1_; (try clear hb); (try clear hb2); (try clear hk); (try clear hi); have hcz8_0 : w7.cell? ⟨gb126, 0, none⟩ = some (.string a0_0) := (blk_cell BK126.out 0).trans rfl; have hcz8_1 : w7.cell? ⟨gb126, 1, none⟩ = some (.int .i64 a0_1) := (blk_cell BK126.out 1).trans rfl; have hcz8_2 : w7.cell? ⟨gb126, 2, none⟩ = some (.int .i64 a0_2) := (blk_cell BK126.out 2).trans rfl; have hcz8_3 : w7.cell? ⟨gb126, 3, none⟩ = some (.int .i64 a0_3) := (blk_cell BK126.out 3).trans rfl; have hcz8_4 : w7.cell? ⟨gb126, 4, none⟩ = some (.int .i64 a0_4) := (blk_cell BK126.out 4).trans rfl; have hcz8_5 : w7.cell? ⟨gb126, 5, none⟩ = some (.int .i64 a0_5) := (blk_cell BK126.out 5).trans rfl; have hcz8_6 : w7.cell? ⟨gb126, 6, none⟩ = some (.int .i64 a0_6) := (blk_cell BK126.out 6).trans rfl; have hcz8_7 : w7.cell? ⟨gb126, 7, none⟩ = some (.int .i64 a0_7) := (blk_cell BK126.out 7).trans rfl; have hfz8_0 := blk_frozen BK126.out 0; have hfz8_1 := blk_frozen BK126.out 1; have hfz8_2 := blk_frozen BK126.out 2; have hfz8_3 := blk_frozen BK126.out 3; have hfz8_4 := blk_frozen BK126.out 4; have hfz8_5 := blk_frozen BK126.out 5; have hfz8_6 := blk_frozen BK126.out 6; have hfz8_7 := blk_frozen BK126.out 7))
      go_ret
      exact ⟨by first | rfl | (simp [errW_none, errW_some] <;> rfl) | (simp [*, errW_none, errW_some] <;> rfl), by repeat (first | (with_reducible first | exact HB.out | apply below_alloc | apply pw_below_drewN | apply below_drew1 | refine below_set ?_ GE126.out) | exact HB.out)⟩
  · rw [if_neg c3] at H
    have c3b0 : (t127 == 0) = false := beq_eq_false_iff_ne.mpr c3
    have c3b1 : (t127 != 0) = true := bne_iff_ne.mpr c3
    obtain rfl := Option.some.inj H
    go_enter Try.func14, Try.ntmps14
    go_wp2_with (first | ((with_reducible refine gate_dst (N := 1) rfl ?_); refine box_event ?hg (N := 1) ?hd (cs := #[.string a0_0, .int .i64 a0_1, .int .i64 a0_2, .int .i64 a0_3, .int .i64 a0_4, .int .i64 a0_5, .int .i64 a0_6, .int .i64 a0_7]) (t := 23) ?hr ?_; (case hd => rfl); (case hg => rfl); (case hr => first | (go_simp; done) | (go_simp; rfl)); intro gb126 hg w9 hbox hb; have n0_ := Aside0.mk (below_step (by repeat (first | (with_reducible first | exact HB.out | apply below_alloc | apply pw_below_drewN | apply below_drew1) | exact HB.out)) hb); have n1_ := Aside0.mk (hbox); have n2_ := Aside0.mk ((by rw [hg]; exact (below_size (by repeat (first | (with_reducible first | exact HB.out | apply below_alloc | apply pw_below_drewN | apply below_drew1) | exact HB.out))) : w.heap.size ≤ gb126)); have n3_ := Aside0.mk ((by rw [hg]; exact (below_size (by repeat (first | (with_reducible first | exact HB.out | apply below_alloc | apply pw_below_drewN | apply below_drew1) | exact HB.out))) : w.heap.size ≤ gb126)); clear HB; have HB := n0_; have BK126 := n1_; have GW126 := n2_; have GE126 := n3_; clear n0_ n1_ n2_ n3_; clear hb hbox hg; have hcz10_0 : w9.cell? ⟨gb126, 0, none⟩ = some (.string a0_0) := (blk_cell BK126.out 0).trans rfl; have hcz10_1 : w9.cell? ⟨gb126, 1, none⟩ = some (.int .i64 a0_1) := (blk_cell BK126.out 1).trans rfl; have hcz10_2 : w9.cell? ⟨gb126, 2, none⟩ = some (.int .i64 a0_2) := (blk_cell BK126.out 2).trans rfl; have hcz10_3 : w9.cell? ⟨gb126, 3, none⟩ = some (.int .i64 a0_3) := (blk_cell BK126.out 3).trans rfl; have hcz10_4 : w9.cell? ⟨gb126, 4, none⟩ = some (.int .i64 a0_4) := (blk_cell BK126.out 4).trans rfl; have hcz10_5 : w9.cell? ⟨gb126, 5, none⟩ = some (.int .i64 a0_5) := (blk_cell BK126.out 5).trans rfl; have hcz10_6 : w9.cell? ⟨gb126, 6, none⟩ = some (.int .i64 a0_6) := (blk_cell BK126.out 6).trans rfl; have hcz10_7 : w9.cell? ⟨gb126, 7, none⟩ = some (.int .i64 a0_7) := (blk_cell BK126.out 7).trans rfl; have hfz10_0 := blk_frozen BK126.out 0; have hfz10_1 := blk_frozen BK126.out 1; have hfz10_2 := blk_frozen BK126.out 2; have hfz10_3 := blk_frozen BK126.out 3; have hfz10_4 := blk_frozen BK126.out 4; have hfz10_5 := blk_frozen BK126.out 5; have hfz10_6 := blk_frozen BK126.out 6; have hfz10_7 := blk_frozen BK126.out 7) | ((with_reducible refine gate_callee (f := 11) rfl ?_); refine goesL_ (some 4) rfl rfl Try.func11 (by kernel_rfl) rfl #[.agg #[.string a0_0, .int .i64 a0_1, .int .i64 a0_2, .int .i64 a0_3, .int .i64 a0_4, .int .i64 a0_5, .int .i64 a0_6, .int .i64 a0_7]] rfl (by (try simp only [List.map_toArray, List.map_cons, List.map_nil]); first | done | rfl | (simp only [List.length_drop, List.length_take]; rfl)) ?_; (with_reducible refine (compositorref23_Check.calls k a0_0 a0_1 a0_2 a0_3 a0_4 a0_5 a0_6 a0_7 t127 _ A2.out).mono ?_); rintro e w11 ⟨rfl, hb⟩; refine ⟨_, rfl, ?_⟩; have n0_ := Aside0.mk (blk_below (g := gb126) (o := .cells #[.string a0_0, .int .i64 a0_1, .int .i64 a0_2, .int .i64 a0_3, .int .i64 a0_4, .int .i64 a0_5, .int .i64 a0_6, .int .i64 a0_7] 23 (0, 0)) (by (with_reducible repeat (first | refine blk_drewN ?_ _ | refine blk_drew ?_ | refine blk_alloc ?_ _)); exact BK126.out) hb); have n1_ := Aside0.mk (below_step (by repeat (first | (with_reducible first | exact HB.out | apply below_alloc | apply pw_below_drewN | apply below_drew1 | refine below_set ?_ GE126.out) | exact HB.out)) hb); clear BK126; clear HB; have BK126 := n0_; have HB := n1_; clear n0_ n1_; (try clear hb); (try clear hb2); (try clear hk); (try clear hi)))
    go_ret
    exact ⟨by first | rfl | (simp [errW_none, errW_some] <;> rfl) | (simp [*, errW_none, errW_some] <;> rfl), by repeat (first | (with_reducible first | exact HB.out | apply below_alloc | apply pw_below_drewN | apply below_drew1 | refine below_set ?_ GE126.out) | exact HB.out)⟩
section
open Go.Proofs.YtmkhphkkpdiliaaHand Go.Proofs.YtmkhphkkpdiliaaSq
def compositorlaw30_PresentNext.f (k : Nat) (a0_0 : ByteArray) (a0_1 a0_2 a0_3 a0_4 a0_5 a0_6 a0_7 : Int) (a1 : Int) : Option Bool := (output_Check.f a0_0 a0_1 a0_2 a0_3 a0_4 a0_5 a0_6 a0_7).bind fun e => if e = 0 then (output_Interval.f a0_0 a0_1 a0_2 a0_3 a0_4 a0_5 a0_6 a0_7).bind fun iv => (compositorref23_Interval.f k a0_0 a0_1 a0_2 a0_3 a0_4 a0_5 a0_6 a0_7).bind fun d => if iv = d ∧ 1 ≤ iv then (if a1 < 0 then some true else if a1 > 1152921504606846976 then some true else if nextOf iv a1 > a1 ∧ nextOf iv a1 ≤ wrap64 (a1 + iv) ∧ Int.tmod (nextOf iv a1) iv = 0 then some true else none) else none else (compositorref23_Check.f k a0_0 a0_1 a0_2 a0_3 a0_4 a0_5 a0_6 a0_7).bind fun c => if e = c then some true else none
set_option maxHeartbeats 8000000 in
set_option maxRecDepth 100000 in
theorem compositorlaw30_PresentNext.calls (k : Nat) (a0_0 : ByteArray) (a0_1 : Int) (a0_2 : Int) (a0_3 : Int) (a0_4 : Int) (a0_5 : Int) (a0_6 : Int) (a0_7 : Int) (a1 : Int) (w : World) (h : compositorlaw30_PresentNext.f k a0_0 a0_1 a0_2 a0_3 a0_4 a0_5 a0_6 a0_7 a1 = some true) :
    Calls Try.prog 3 #[.agg #[.string a0_0, .int .i64 a0_1, .int .i64 a0_2, .int .i64 a0_3, .int .i64 a0_4, .int .i64 a0_5, .int .i64 a0_6, .int .i64 a0_7], .int .i64 a1] w fun e w' => e = .returned (.bool true) ∧ Below w.heap.size w w' := by
  have hu23 := Try.underlying23
  have hu24 := Try.underlying24
  have HB := Aside0.mk (Below.refl w.heap.size w)
  unfold compositorlaw30_PresentNext.f at h
  obtain ⟨e, C, h⟩ := Option.bind_eq_some_iff.mp h
  have hC := Aside0.mk C
  clear C
  by_cases h0 : e = 0
  · subst h0
    rw [if_pos rfl] at h
    obtain ⟨iv, I, h⟩ := Option.bind_eq_some_iff.mp h
    obtain ⟨d, D, h⟩ := Option.bind_eq_some_iff.mp h
    have hI := Aside0.mk I
    have hD := Aside0.mk D
    clear I D
    by_cases h1 : iv = d ∧ 1 ≤ iv
    · rw [if_pos h1] at h
      obtain ⟨rfl, hiv⟩ := h1
      have hiv' := Aside0.mk hiv
      by_cases h2 : a1 < 0
      · have q1 : decide (a1 < 0) = true := decide_eq_true h2
        clear h
        go_enter Try.func3, Try.ntmps3
        go_wp2_with (first | ((with_reducible refine gate_dst (N := 2) rfl ?_); refine box_event ?hg (N := 2) ?hd (cs := #[.string a0_0, .int .i64 a0_1, .int .i64 a0_2, .int .i64 a0_3, .int .i64 a0_4, .int .i64 a0_5, .int .i64 a0_6, .int .i64 a0_7]) (t := 23) ?hr ?_; (case hd => rfl); (case hg => rfl); (case hr => first | (go_simp; done) | (go_simp; rfl)); intro gB hg w9 hbox hb; have n0_ := Aside0.mk (below_step (by repeat (first | (with_reducible first | exact HB.out | apply below_alloc | apply pw_below_drewN | apply below_drew1) | exact HB.out)) hb); clear HB; have HB := n0_; clear n0_; have BK := Aside0.mk hbox; clear hb hbox hg; have hcz_0 : w9.cell? ⟨gB, 0, none⟩ = some (.string a0_0) := (blk_cell BK.out 0).trans rfl; have fcz_0 := blk_frozen BK.out 0; have hcz_1 : w9.cell? ⟨gB, 1, none⟩ = some (.int .i64 a0_1) := (blk_cell BK.out 1).trans rfl; have fcz_1 := blk_frozen BK.out 1; have hcz_2 : w9.cell? ⟨gB, 2, none⟩ = some (.int .i64 a0_2) := (blk_cell BK.out 2).trans rfl; have fcz_2 := blk_frozen BK.out 2; have hcz_3 : w9.cell? ⟨gB, 3, none⟩ = some (.int .i64 a0_3) := (blk_cell BK.out 3).trans rfl; have fcz_3 := blk_frozen BK.out 3; have hcz_4 : w9.cell? ⟨gB, 4, none⟩ = some (.int .i64 a0_4) := (blk_cell BK.out 4).trans rfl; have fcz_4 := blk_frozen BK.out 4; have hcz_5 : w9.cell? ⟨gB, 5, none⟩ = some (.int .i64 a0_5) := (blk_cell BK.out 5).trans rfl; have fcz_5 := blk_frozen BK.out 5; have hcz_6 : w9.cell? ⟨gB, 6, none⟩ = some (.int .i64 a0_6) := (blk_cell BK.out 6).trans rfl; have fcz_6 := blk_frozen BK.out 6; have hcz_7 : w9.cell? ⟨gB, 7, none⟩ = some (.int .i64 a0_7) := (blk_cell BK.out 7).trans rfl; have fcz_7 := blk_frozen BK.out 7) | (go_at_call 10; (with_reducible refine (new_ok a0_0 a0_1 a0_2 a0_3 a0_4 a0_5 a0_6 a0_7 _ _ hC.out hI.out).mono ?_); rintro e w10 ⟨g, rfl, hgb, hgl, hb⟩; have GB := Aside0.mk hgb; clear hgb hgl; have n0_ := Aside0.mk (below_step (by repeat (first | (with_reducible first | exact HB.out | apply below_alloc | apply pw_below_drewN | apply below_drew1) | exact HB.out)) hb); have n1_ := Aside0.mk (blk_below (g := gB) (o := .cells #[.string a0_0, .int .i64 a0_1, .int .i64 a0_2, .int .i64 a0_3, .int .i64 a0_4, .int .i64 a0_5, .int .i64 a0_6, .int .i64 a0_7] 23 (0, 0)) (by ((with_reducible repeat (first | refine blk_drewN ?_ _ | refine blk_drew ?_ | refine blk_alloc ?_ _)); exact BK.out)) hb); clear HB BK; have HB := n0_; have BK := n1_; clear n0_ n1_ hb; have hca_0 : w10.cell? ⟨gB, 0, none⟩ = some (.string a0_0) := (blk_cell BK.out 0).trans rfl; have fca_0 := blk_frozen BK.out 0; have hca_1 : w10.cell? ⟨gB, 1, none⟩ = some (.int .i64 a0_1) := (blk_cell BK.out 1).trans rfl; have fca_1 := blk_frozen BK.out 1; have hca_2 : w10.cell? ⟨gB, 2, none⟩ = some (.int .i64 a0_2) := (blk_cell BK.out 2).trans rfl; have fca_2 := blk_frozen BK.out 2; have hca_3 : w10.cell? ⟨gB, 3, none⟩ = some (.int .i64 a0_3) := (blk_cell BK.out 3).trans rfl; have fca_3 := blk_frozen BK.out 3; have hca_4 : w10.cell? ⟨gB, 4, none⟩ = some (.int .i64 a0_4) := (blk_cell BK.out 4).trans rfl; have fca_4 := blk_frozen BK.out 4; have hca_5 : w10.cell? ⟨gB, 5, none⟩ = some (.int .i64 a0_5) := (blk_cell BK.out 5).trans rfl; have fca_5 := blk_frozen BK.out 5; have hca_6 : w10.cell? ⟨gB, 6, none⟩ = some (.int .i64 a0_6) := (blk_cell BK.out 6).trans rfl; have fca_6 := blk_frozen BK.out 6; have hca_7 : w10.cell? ⟨gB, 7, none⟩ = some (.int .i64 a0_7) := (blk_cell BK.out 7).trans rfl; have fca_7 := blk_frozen BK.out 7) | (go_at_call 12; (with_reducible refine (example30 _).mono ?_); rintro e w12 ⟨rfl, hb⟩; have n0_ := Aside0.mk (below_step (by repeat (first | (with_reducible first | exact HB.out | apply below_alloc | apply pw_below_drewN | apply below_drew1) | exact HB.out)) hb); clear HB; have HB := n0_; clear n0_ hb))
        go_ret
        exact ⟨rfl, (by repeat (first | (with_reducible first | exact HB.out | apply below_alloc | apply pw_below_drewN | apply below_drew1) | exact HB.out))⟩
      · rw [if_neg h2] at h
        have q1 : decide (a1 < 0) = false := decide_eq_false h2
        by_cases h3 : a1 > 1152921504606846976
        · have q2 : decide (1152921504606846976 < a1) = true := decide_eq_true h3
          clear h
          go_enter Try.func3, Try.ntmps3
          go_wp2_with (first | ((with_reducible refine gate_dst (N := 2) rfl ?_); refine box_event ?hg (N := 2) ?hd (cs := #[.string a0_0, .int .i64 a0_1, .int .i64 a0_2, .int .i64 a0_3, .int .i64 a0_4, .int .i64 a0_5, .int .i64 a0_6, .int .i64 a0_7]) (t := 23) ?hr ?_; (case hd => rfl); (case hg => rfl); (case hr => first | (go_simp; done) | (go_simp; rfl)); intro gB hg w9 hbox hb; have n0_ := Aside0.mk (below_step (by repeat (first | (with_reducible first | exact HB.out | apply below_alloc | apply pw_below_drewN | apply below_drew1) | exact HB.out)) hb); clear HB; have HB := n0_; clear n0_; have BK := Aside0.mk hbox; clear hb hbox hg; have hcz_0 : w9.cell? ⟨gB, 0, none⟩ = some (.string a0_0) := (blk_cell BK.out 0).trans rfl; have fcz_0 := blk_frozen BK.out 0; have hcz_1 : w9.cell? ⟨gB, 1, none⟩ = some (.int .i64 a0_1) := (blk_cell BK.out 1).trans rfl; have fcz_1 := blk_frozen BK.out 1; have hcz_2 : w9.cell? ⟨gB, 2, none⟩ = some (.int .i64 a0_2) := (blk_cell BK.out 2).trans rfl; have fcz_2 := blk_frozen BK.out 2; have hcz_3 : w9.cell? ⟨gB, 3, none⟩ = some (.int .i64 a0_3) := (blk_cell BK.out 3).trans rfl; have fcz_3 := blk_frozen BK.out 3; have hcz_4 : w9.cell? ⟨gB, 4, none⟩ = some (.int .i64 a0_4) := (blk_cell BK.out 4).trans rfl; have fcz_4 := blk_frozen BK.out 4; have hcz_5 : w9.cell? ⟨gB, 5, none⟩ = some (.int .i64 a0_5) := (blk_cell BK.out 5).trans rfl; have fcz_5 := blk_frozen BK.out 5; have hcz_6 : w9.cell? ⟨gB, 6, none⟩ = some (.int .i64 a0_6) := (blk_cell BK.out 6).trans rfl; have fcz_6 := blk_frozen BK.out 6; have hcz_7 : w9.cell? ⟨gB, 7, none⟩ = some (.int .i64 a0_7) := (blk_cell BK.out 7).trans rfl; have fcz_7 := blk_frozen BK.out 7) | (go_at_call 10; (with_reducible refine (new_ok a0_0 a0_1 a0_2 a0_3 a0_4 a0_5 a0_6 a0_7 _ _ hC.out hI.out).mono ?_); rintro e w10 ⟨g, rfl, hgb, hgl, hb⟩; have GB := Aside0.mk hgb; clear hgb hgl; have n0_ := Aside0.mk (below_step (by repeat (first | (with_reducible first | exact HB.out | apply below_alloc | apply pw_below_drewN | apply below_drew1) | exact HB.out)) hb); have n1_ := Aside0.mk (blk_below (g := gB) (o := .cells #[.string a0_0, .int .i64 a0_1, .int .i64 a0_2, .int .i64 a0_3, .int .i64 a0_4, .int .i64 a0_5, .int .i64 a0_6, .int .i64 a0_7] 23 (0, 0)) (by ((with_reducible repeat (first | refine blk_drewN ?_ _ | refine blk_drew ?_ | refine blk_alloc ?_ _)); exact BK.out)) hb); clear HB BK; have HB := n0_; have BK := n1_; clear n0_ n1_ hb; have hca_0 : w10.cell? ⟨gB, 0, none⟩ = some (.string a0_0) := (blk_cell BK.out 0).trans rfl; have fca_0 := blk_frozen BK.out 0; have hca_1 : w10.cell? ⟨gB, 1, none⟩ = some (.int .i64 a0_1) := (blk_cell BK.out 1).trans rfl; have fca_1 := blk_frozen BK.out 1; have hca_2 : w10.cell? ⟨gB, 2, none⟩ = some (.int .i64 a0_2) := (blk_cell BK.out 2).trans rfl; have fca_2 := blk_frozen BK.out 2; have hca_3 : w10.cell? ⟨gB, 3, none⟩ = some (.int .i64 a0_3) := (blk_cell BK.out 3).trans rfl; have fca_3 := blk_frozen BK.out 3; have hca_4 : w10.cell? ⟨gB, 4, none⟩ = some (.int .i64 a0_4) := (blk_cell BK.out 4).trans rfl; have fca_4 := blk_frozen BK.out 4; have hca_5 : w10.cell? ⟨gB, 5, none⟩ = some (.int .i64 a0_5) := (blk_cell BK.out 5).trans rfl; have fca_5 := blk_frozen BK.out 5; have hca_6 : w10.cell? ⟨gB, 6, none⟩ = some (.int .i64 a0_6) := (blk_cell BK.out 6).trans rfl; have fca_6 := blk_frozen BK.out 6; have hca_7 : w10.cell? ⟨gB, 7, none⟩ = some (.int .i64 a0_7) := (blk_cell BK.out 7).trans rfl; have fca_7 := blk_frozen BK.out 7) | (go_at_call 12; (with_reducible refine (example30 _).mono ?_); rintro e w12 ⟨rfl, hb⟩; have n0_ := Aside0.mk (below_step (by repeat (first | (with_reducible first | exact HB.out | apply below_alloc | apply pw_below_drewN | apply below_drew1) | exact HB.out)) hb); clear HB; have HB := n0_; clear n0_ hb))
          go_ret
          exact ⟨rfl, (by repeat (first | (with_reducible first | exact HB.out | apply below_alloc | apply pw_below_drewN | apply below_drew1) | exact HB.out))⟩
        · rw [if_neg h3] at h
          have q2 : decide (1152921504606846976 < a1) = false := decide_eq_false h3
          by_cases h4 : nextOf iv a1 > a1 ∧ nextOf iv a1 ≤ wrap64 (a1 + iv) ∧ Int.tmod (nextOf iv a1) iv = 0
          · have hX := Aside0.mk h4
            clear h h4 h2 h3
            go_enter Try.func3, Try.ntmps3
            go_wp2_with (first | ((with_reducible refine gate_dst (N := 2) rfl ?_); refine box_event ?hg (N := 2) ?hd (cs := #[.string a0_0, .int .i64 a0_1, .int .i64 a0_2, .int .i64 a0_3, .int .i64 a0_4, .int .i64 a0_5, .int .i64 a0_6, .int .i64 a0_7]) (t := 23) ?hr ?_; (case hd => rfl); (case hg => rfl); (case hr => first | (go_simp; done) | (go_simp; rfl)); intro gB hg w9 hbox hb; have n0_ := Aside0.mk (below_step (by repeat (first | (with_reducible first | exact HB.out | apply below_alloc | apply pw_below_drewN | apply below_drew1) | exact HB.out)) hb); clear HB; have HB := n0_; clear n0_; have BK := Aside0.mk hbox; clear hb hbox hg; have hcz_0 : w9.cell? ⟨gB, 0, none⟩ = some (.string a0_0) := (blk_cell BK.out 0).trans rfl; have fcz_0 := blk_frozen BK.out 0; have hcz_1 : w9.cell? ⟨gB, 1, none⟩ = some (.int .i64 a0_1) := (blk_cell BK.out 1).trans rfl; have fcz_1 := blk_frozen BK.out 1; have hcz_2 : w9.cell? ⟨gB, 2, none⟩ = some (.int .i64 a0_2) := (blk_cell BK.out 2).trans rfl; have fcz_2 := blk_frozen BK.out 2; have hcz_3 : w9.cell? ⟨gB, 3, none⟩ = some (.int .i64 a0_3) := (blk_cell BK.out 3).trans rfl; have fcz_3 := blk_frozen BK.out 3; have hcz_4 : w9.cell? ⟨gB, 4, none⟩ = some (.int .i64 a0_4) := (blk_cell BK.out 4).trans rfl; have fcz_4 := blk_frozen BK.out 4; have hcz_5 : w9.cell? ⟨gB, 5, none⟩ = some (.int .i64 a0_5) := (blk_cell BK.out 5).trans rfl; have fcz_5 := blk_frozen BK.out 5; have hcz_6 : w9.cell? ⟨gB, 6, none⟩ = some (.int .i64 a0_6) := (blk_cell BK.out 6).trans rfl; have fcz_6 := blk_frozen BK.out 6; have hcz_7 : w9.cell? ⟨gB, 7, none⟩ = some (.int .i64 a0_7) := (blk_cell BK.out 7).trans rfl; have fcz_7 := blk_frozen BK.out 7) | (go_at_call 10; (with_reducible refine (new_ok a0_0 a0_1 a0_2 a0_3 a0_4 a0_5 a0_6 a0_7 _ _ hC.out hI.out).mono ?_); rintro e w10 ⟨g, rfl, hgb, hgl, hb⟩; have GB := Aside0.mk hgb; clear hgb hgl; have n0_ := Aside0.mk (below_step (by repeat (first | (with_reducible first | exact HB.out | apply below_alloc | apply pw_below_drewN | apply below_drew1) | exact HB.out)) hb); have n1_ := Aside0.mk (blk_below (g := gB) (o := .cells #[.string a0_0, .int .i64 a0_1, .int .i64 a0_2, .int .i64 a0_3, .int .i64 a0_4, .int .i64 a0_5, .int .i64 a0_6, .int .i64 a0_7] 23 (0, 0)) (by ((with_reducible repeat (first | refine blk_drewN ?_ _ | refine blk_drew ?_ | refine blk_alloc ?_ _)); exact BK.out)) hb); clear HB BK; have HB := n0_; have BK := n1_; clear n0_ n1_ hb; have hca_0 : w10.cell? ⟨gB, 0, none⟩ = some (.string a0_0) := (blk_cell BK.out 0).trans rfl; have fca_0 := blk_frozen BK.out 0; have hca_1 : w10.cell? ⟨gB, 1, none⟩ = some (.int .i64 a0_1) := (blk_cell BK.out 1).trans rfl; have fca_1 := blk_frozen BK.out 1; have hca_2 : w10.cell? ⟨gB, 2, none⟩ = some (.int .i64 a0_2) := (blk_cell BK.out 2).trans rfl; have fca_2 := blk_frozen BK.out 2; have hca_3 : w10.cell? ⟨gB, 3, none⟩ = some (.int .i64 a0_3) := (blk_cell BK.out 3).trans rfl; have fca_3 := blk_frozen BK.out 3; have hca_4 : w10.cell? ⟨gB, 4, none⟩ = some (.int .i64 a0_4) := (blk_cell BK.out 4).trans rfl; have fca_4 := blk_frozen BK.out 4; have hca_5 : w10.cell? ⟨gB, 5, none⟩ = some (.int .i64 a0_5) := (blk_cell BK.out 5).trans rfl; have fca_5 := blk_frozen BK.out 5; have hca_6 : w10.cell? ⟨gB, 6, none⟩ = some (.int .i64 a0_6) := (blk_cell BK.out 6).trans rfl; have fca_6 := blk_frozen BK.out 6; have hca_7 : w10.cell? ⟨gB, 7, none⟩ = some (.int .i64 a0_7) := (blk_cell BK.out 7).trans rfl; have fca_7 := blk_frozen BK.out 7) | (go_at_call 12; (with_reducible refine (example30 _).mono ?_); rintro e w12 ⟨rfl, hb⟩; have n0_ := Aside0.mk (below_step (by repeat (first | (with_reducible first | exact HB.out | apply below_alloc | apply pw_below_drewN | apply below_drew1) | exact HB.out)) hb); clear HB; have HB := n0_; clear n0_ hb))
            go_region_held3 (fun w' => w'.cell? ⟨gB, 0, none⟩ = some (.string a0_0) ∧ w'.cell? ⟨gB, 1, none⟩ = some (.int .i64 a0_1) ∧ w'.cell? ⟨gB, 2, none⟩ = some (.int .i64 a0_2) ∧ w'.cell? ⟨gB, 3, none⟩ = some (.int .i64 a0_3) ∧ w'.cell? ⟨gB, 4, none⟩ = some (.int .i64 a0_4) ∧ w'.cell? ⟨gB, 5, none⟩ = some (.int .i64 a0_5) ∧ w'.cell? ⟨gB, 6, none⟩ = some (.int .i64 a0_6) ∧ w'.cell? ⟨gB, 7, none⟩ = some (.int .i64 a0_7)) (exact ⟨(blk_cell BK.out 0).trans rfl, (blk_cell BK.out 1).trans rfl, (blk_cell BK.out 2).trans rfl, (blk_cell BK.out 3).trans rfl, (blk_cell BK.out 4).trans rfl, (blk_cell BK.out 5).trans rfl, (blk_cell BK.out 6).trans rfl, (blk_cell BK.out 7).trans rfl⟩) (first | (go_at_call 13; (with_reducible refine (next_ok _ g iv a1 ?hx ?hy hiv'.out).mono ?_); (case hx => exact (blk_cell GB.out 0).trans rfl); (case hy => exact blk_frozen GB.out 0); rintro e w' ⟨rfl, ⟨nd2, rfl⟩⟩) | (go_at_call 14; (with_reducible refine (compositorref23_Interval.calls k a0_0 a0_1 a0_2 a0_3 a0_4 a0_5 a0_6 a0_7 _ _ hD.out).mono ?_); rintro e w11 ⟨rfl, hb⟩; have n1_ := bb_ BK hb; have n0_ := Aside0.mk (below_step (by repeat (first | (with_reducible first | exact HB.out | apply below_alloc | apply pw_below_drewN | apply below_drew1) | exact HB.out)) hb); clear HB BK; have HB := n0_; have BK := n1_; clear n0_ n1_ hb))
            generalize hn : nextOf iv a1 = n at *
            have hX1 := hX.out
            have r1 : decide (a1 < n) = true := decide_eq_true hX1.1
            have r2 : decide (n ≤ wrap64 (a1 + iv)) = true := decide_eq_true hX1.2.1
            have r3 : Int.tmod n iv = 0 := hX1.2.2
            have r4 : ¬ iv = 0 := by have := hiv'.out; omega
            clear hX1 hn
            go_wp2_with (first | (go_at_call 12; (with_reducible refine (example30 _).mono ?_); rintro e w12 ⟨rfl, hb⟩; have n0_ := Aside0.mk (below_step (by repeat (first | (with_reducible first | exact HB.out | apply below_alloc | apply pw_below_drewN | apply below_drew1) | exact HB.out)) hb); clear HB; have HB := n0_; clear n0_ hb))
            go_ret
            exact ⟨rfl, HB.out⟩
          · rw [if_neg h4] at h
            cases h
    · rw [if_neg h1] at h
      cases h
  · rw [if_neg h0] at h
    obtain ⟨c, D, h⟩ := Option.bind_eq_some_iff.mp h
    by_cases he : e = c
    · subst he
      have hD := Aside0.mk D
      have hr : Aside0 (e ≠ 0) := ⟨h0⟩
      clear h D
      go_enter Try.func3, Try.ntmps3
      go_wp2_with (first | ((with_reducible refine gate_dst (N := 2) rfl ?_); refine box_event ?hg (N := 2) ?hd (cs := #[.string a0_0, .int .i64 a0_1, .int .i64 a0_2, .int .i64 a0_3, .int .i64 a0_4, .int .i64 a0_5, .int .i64 a0_6, .int .i64 a0_7]) (t := 23) ?hr ?_; (case hd => rfl); (case hg => rfl); (case hr => first | (go_simp; done) | (go_simp; rfl)); intro gB hg w9 hbox hb; have n0_ := Aside0.mk (below_step (by repeat (first | (with_reducible first | exact HB.out | apply below_alloc | apply pw_below_drewN | apply below_drew1) | exact HB.out)) hb); clear HB; have HB := n0_; clear n0_; have BK := Aside0.mk hbox; clear hb hbox hg; have hcz_0 : w9.cell? ⟨gB, 0, none⟩ = some (.string a0_0) := (blk_cell BK.out 0).trans rfl; have fcz_0 := blk_frozen BK.out 0; have hcz_1 : w9.cell? ⟨gB, 1, none⟩ = some (.int .i64 a0_1) := (blk_cell BK.out 1).trans rfl; have fcz_1 := blk_frozen BK.out 1; have hcz_2 : w9.cell? ⟨gB, 2, none⟩ = some (.int .i64 a0_2) := (blk_cell BK.out 2).trans rfl; have fcz_2 := blk_frozen BK.out 2; have hcz_3 : w9.cell? ⟨gB, 3, none⟩ = some (.int .i64 a0_3) := (blk_cell BK.out 3).trans rfl; have fcz_3 := blk_frozen BK.out 3; have hcz_4 : w9.cell? ⟨gB, 4, none⟩ = some (.int .i64 a0_4) := (blk_cell BK.out 4).trans rfl; have fcz_4 := blk_frozen BK.out 4; have hcz_5 : w9.cell? ⟨gB, 5, none⟩ = some (.int .i64 a0_5) := (blk_cell BK.out 5).trans rfl; have fcz_5 := blk_frozen BK.out 5; have hcz_6 : w9.cell? ⟨gB, 6, none⟩ = some (.int .i64 a0_6) := (blk_cell BK.out 6).trans rfl; have fcz_6 := blk_frozen BK.out 6; have hcz_7 : w9.cell? ⟨gB, 7, none⟩ = some (.int .i64 a0_7) := (blk_cell BK.out 7).trans rfl; have fcz_7 := blk_frozen BK.out 7) | (go_at_call 10; (with_reducible refine (new_bad a0_0 a0_1 a0_2 a0_3 a0_4 a0_5 a0_6 a0_7 _ _ hC.out hr.out).mono ?_); rintro e w10 ⟨rfl, hb⟩; have n0_ := Aside0.mk (below_step (by repeat (first | (with_reducible first | exact HB.out | apply below_alloc | apply pw_below_drewN | apply below_drew1) | exact HB.out)) hb); have n1_ := Aside0.mk (blk_below (g := gB) (o := .cells #[.string a0_0, .int .i64 a0_1, .int .i64 a0_2, .int .i64 a0_3, .int .i64 a0_4, .int .i64 a0_5, .int .i64 a0_6, .int .i64 a0_7] 23 (0, 0)) (by ((with_reducible repeat (first | refine blk_drewN ?_ _ | refine blk_drew ?_ | refine blk_alloc ?_ _)); exact BK.out)) hb); clear HB BK; have HB := n0_; have BK := n1_; clear n0_ n1_ hb; have hca_0 : w10.cell? ⟨gB, 0, none⟩ = some (.string a0_0) := (blk_cell BK.out 0).trans rfl; have fca_0 := blk_frozen BK.out 0; have hca_1 : w10.cell? ⟨gB, 1, none⟩ = some (.int .i64 a0_1) := (blk_cell BK.out 1).trans rfl; have fca_1 := blk_frozen BK.out 1; have hca_2 : w10.cell? ⟨gB, 2, none⟩ = some (.int .i64 a0_2) := (blk_cell BK.out 2).trans rfl; have fca_2 := blk_frozen BK.out 2; have hca_3 : w10.cell? ⟨gB, 3, none⟩ = some (.int .i64 a0_3) := (blk_cell BK.out 3).trans rfl; have fca_3 := blk_frozen BK.out 3; have hca_4 : w10.cell? ⟨gB, 4, none⟩ = some (.int .i64 a0_4) := (blk_cell BK.out 4).trans rfl; have fca_4 := blk_frozen BK.out 4; have hca_5 : w10.cell? ⟨gB, 5, none⟩ = some (.int .i64 a0_5) := (blk_cell BK.out 5).trans rfl; have fca_5 := blk_frozen BK.out 5; have hca_6 : w10.cell? ⟨gB, 6, none⟩ = some (.int .i64 a0_6) := (blk_cell BK.out 6).trans rfl; have fca_6 := blk_frozen BK.out 6; have hca_7 : w10.cell? ⟨gB, 7, none⟩ = some (.int .i64 a0_7) := (blk_cell BK.out 7).trans rfl; have fca_7 := blk_frozen BK.out 7) | (go_at_call 11; (with_reducible refine (compositorref23_Check.calls k a0_0 a0_1 a0_2 a0_3 a0_4 a0_5 a0_6 a0_7 _ _ hD.out).mono ?_); rintro e w11 ⟨rfl, hb⟩; have n0_ := Aside0.mk (below_step (by repeat (first | (with_reducible first | exact HB.out | apply below_alloc | apply pw_below_drewN | apply below_drew1) | exact HB.out)) hb); clear HB; have HB := n0_; clear n0_ hb) | (go_at_call 12; (with_reducible refine (example30 _).mono ?_); rintro e w12 ⟨rfl, hb⟩; have n0_ := Aside0.mk (below_step (by repeat (first | (with_reducible first | exact HB.out | apply below_alloc | apply pw_below_drewN | apply below_drew1) | exact HB.out)) hb); clear HB; have HB := n0_; clear n0_ hb))
      go_ret
      exact ⟨by first | rfl | simp [hr.out], (by repeat (first | (with_reducible first | exact HB.out | apply below_alloc | apply pw_below_drewN | apply below_drew1) | exact HB.out))⟩
    · rw [if_neg he] at h
      cases h
end
end Go.Proofs.Ytmkhphkkpdiliaa.All
end
section
namespace Go.Proofs.Ytmkhphkkpdiliaa.All
open Go.RowKit Go.Proofs.YtmkhphkkpdiliaaW.PrintWords Go.Proofs.YtmkhphkkpdiliaaW.PrintLast Go.Proofs.YtmkhphkkpdiliaaW.PrintMore
attribute [local go_sem] max2_int min2_int max_two min_two max_three min_three max_four min_four
set_option linter.unusedVariables false
set_option linter.unusedSimpArgs false
section
open Go.Proofs.YtmkhphkkpdiliaaHand Go.Proofs.YtmkhphkkpdiliaaSq
end
end Go.Proofs.Ytmkhphkkpdiliaa.All
end
section
namespace Go.Proofs.Ytmkhphkkpdiliaa.All
open Go.RowKit Go.Proofs.YtmkhphkkpdiliaaW.PrintWords Go.Proofs.YtmkhphkkpdiliaaW.PrintLast Go.Proofs.YtmkhphkkpdiliaaW.PrintMore
set_option linter.unusedVariables false
structure S23 where
  f0 : ByteArray
  f1 : Int
  f2 : Int
  f3 : Int
  f4 : Int
  f5 : Int
  f6 : Int
  f7 : Int
def k23 : Kd S23 := Kd.iso (Kd.pair Kd.string (Kd.pair (Kd.int .i64) (Kd.pair (Kd.int .i64) (Kd.pair (Kd.int .i64) (Kd.pair (Kd.int .i64) (Kd.pair (Kd.int .i64) (Kd.pair (Kd.int .i64) (Kd.int .i64)))))))) (fun x : S23 => (x.f0, x.f1, x.f2, x.f3, x.f4, x.f5, x.f6, x.f7))
theorem k23_open {w : World} {x : S23} {cs : List Value} (h : k23.K w x cs) : cs = [.string x.f0, .int .i64 x.f1, .int .i64 x.f2, .int .i64 x.f3, .int .i64 x.f4, .int .i64 x.f5, .int .i64 x.f6, .int .i64 x.f7] := by
  obtain ⟨_, _, rfl, rfl, ⟨_, _, rfl, rfl, ⟨_, _, rfl, rfl, ⟨_, _, rfl, rfl, ⟨_, _, rfl, rfl, ⟨_, _, rfl, rfl, ⟨_, _, rfl, rfl, rfl⟩⟩⟩⟩⟩⟩⟩ := h
  exact rfl
end Go.Proofs.Ytmkhphkkpdiliaa.All
end
section
namespace Go.Proofs.Ytmkhphkkpdiliaa.Pure
open Go.RowKit Go.Proofs.YtmkhphkkpdiliaaW.PrintWords Go.Proofs.YtmkhphkkpdiliaaW.PrintMore Go.Proofs.Ytmkhphkkpdiliaa.All
set_option linter.unusedVariables false
set_option linter.unusedSimpArgs false
theorem valid_eq (a : Int) : compositorref07_Valid.f a = transform_Valid.f a := by
  unfold compositorref07_Valid.f transform_Valid.f
  split
  · refine congrArg some (Bool.eq_iff_iff.mpr ?_)
    rw [decide_eq_true_eq, decide_eq_true_eq]
    omega
  · rfl
theorem mode_eq (n s : Int) : compositorref23_mode.f n s = output_Check.sz n s := rfl
theorem size7_eq (a b c : Int) : compositorref07_Size.f a b c = transform_Size.f a b c := by
  unfold compositorref07_Size.f transform_Size.f compositorref07_clean.f transform_normal.f
  rw [valid_eq]
theorem tsize (a b c : Int) (hb : 1 ≤ b ∧ b ≤ 256) (hc : 1 ≤ c ∧ c ≤ 256) : ∃ p q, transform_Size.f a b c = some (p, q) ∧ (1 ≤ p ∧ p ≤ 256) ∧ (1 ≤ q ∧ q ≤ 256) := by
  unfold transform_Size.f transform_normal.f transform_Valid.f
  split <;> simp only [Option.bind_some]
  · split <;> simp only [Option.bind_some]
    · split
      · exact ⟨_, _, rfl, hc, hb⟩
      · exact ⟨_, _, rfl, hb, hc⟩
    · split
      · exact ⟨_, _, rfl, hc, hb⟩
      · exact ⟨_, _, rfl, hb, hc⟩
  · split <;> simp only [Option.bind_some]
    · split
      · exact ⟨_, _, rfl, hc, hb⟩
      · exact ⟨_, _, rfl, hb, hc⟩
    · split
      · exact ⟨_, _, rfl, hc, hb⟩
      · exact ⟨_, _, rfl, hb, hc⟩
theorem sz_true {n s : Int} (h : output_Check.sz n s = some true) : 1 ≤ n ∧ n ≤ 256 := by
  unfold output_Check.sz at h
  split at h
  · split at h
    · exact ⟨by omega, by omega⟩
    · cases h
  · cases h
theorem sz_some (n s : Int) (hs : 1 ≤ s) : ∃ r, output_Check.sz n s = some r := by
  unfold output_Check.sz
  split
  · split
    · rw [if_neg (by omega)]; exact ⟨_, rfl⟩
    · exact ⟨_, rfl⟩
  · exact ⟨_, rfl⟩
theorem rv1 (a : Int) : rect_valid.f a = some (decide (-16384 ≤ a ∧ a ≤ 16384)) := by
  unfold rect_valid.f
  by_cases h1 : a ≥ -16384
  · rw [if_pos h1]
    refine congrArg some (Bool.eq_iff_iff.mpr ?_)
    rw [decide_eq_true_eq, decide_eq_true_eq]
    omega
  · rw [if_neg h1, decide_eq_false (by omega)]
theorem rv4 (a b c d : Int) : rect_Valid.f a b c d = some (decide ((-16384 ≤ a ∧ a ≤ 16384) ∧ (-16384 ≤ b ∧ b ≤ 16384) ∧ (-16384 ≤ c ∧ c ≤ 16384) ∧ (-16384 ≤ d ∧ d ≤ 16384))) := by
  unfold rect_Valid.f
  rw [rv1, rv1, rv1, rv1]
  by_cases h1 : -16384 ≤ a ∧ a ≤ 16384 <;> by_cases h2 : -16384 ≤ b ∧ b ≤ 16384 <;> by_cases h3 : -16384 ≤ c ∧ c ≤ 16384 <;> by_cases h4 : -16384 ≤ d ∧ d ≤ 16384 <;> simp [h1, h2, h3, h4]
theorem pl_eq (a : Int) : output_Check.pl a = some (decide (-16384 ≤ a ∧ a ≤ 16384)) := rv1 a
theorem last_eq (X Y p q s : Int) (hs : 1 ≤ s ∧ s ≤ 4) (hp : 1 ≤ p ∧ p ≤ 256) (hq : 1 ≤ q ∧ q ≤ 256) :
    (if X < (-16384) then (some 6) else (if X > (wrap64 (16384 - (wrap64 (Int.tdiv p s)))) then (some 6) else (if Y < (-16384) then (some 6) else (if Y > (wrap64 (16384 - (wrap64 (Int.tdiv q s)))) then (some 6) else (some (0 : Int)))))) =
    ((output_Check.pl X).bind fun p1 => if p1 = true then (output_Check.pl Y).bind fun p2 => if p2 = true then (rect_Valid.f X Y (wrap64 (X + (wrap64 (Int.tdiv p s)))) (wrap64 (Y + (wrap64 (Int.tdiv q s))))).bind fun b => if b = true then some 0 else some 6 else some 6 else some 6) := by
  have e1 : Int.tdiv p s = p / s := Int.tdiv_eq_ediv_of_nonneg (by omega)
  have e2 : Int.tdiv q s = q / s := Int.tdiv_eq_ediv_of_nonneg (by omega)
  have h1 : 0 ≤ p / s := Int.ediv_nonneg (by omega) (by omega)
  have h2 : p / s ≤ p := Int.ediv_le_self _ (by omega)
  have h3 : 0 ≤ q / s := Int.ediv_nonneg (by omega) (by omega)
  have h4 : q / s ≤ q := Int.ediv_le_self _ (by omega)
  rw [e1, e2]
  generalize p / s = P at *
  generalize q / s = Q at *
  have w1 : wrap64 P = P := by unfold wrap64; omega
  have w2 : wrap64 Q = Q := by unfold wrap64; omega
  have w3 : wrap64 (16384 - P) = 16384 - P := by unfold wrap64; omega
  have w4 : wrap64 (16384 - Q) = 16384 - Q := by unfold wrap64; omega
  rw [w1, w2, w3, w4, pl_eq, pl_eq, rv4, Option.bind_some, Option.bind_some, Option.bind_some]
  clear w1 w2 w3 w4 e1 e2
  by_cases a1 : X < -16384
  · rw [if_pos a1, if_neg (by rw [decide_eq_false (by omega)]; decide)]
  rw [if_neg a1]
  by_cases a2 : X > 16384 - P
  · rw [if_pos a2]
    by_cases a3 : X ≤ 16384
    · have w5 : wrap64 (X + P) = X + P := by unfold wrap64; omega
      rw [w5, if_pos (decide_eq_true ⟨by omega, a3⟩)]
      by_cases a4 : -16384 ≤ Y ∧ Y ≤ 16384
      · rw [if_pos (decide_eq_true a4), if_neg (by rw [decide_eq_false (by omega)]; decide)]
      · rw [if_neg (by rw [decide_eq_false a4]; decide)]
    · rw [if_neg (by rw [decide_eq_false (by omega)]; decide)]
  rw [if_neg a2, if_pos (decide_eq_true (show -16384 ≤ X ∧ X ≤ 16384 by omega))]
  by_cases b1 : Y < -16384
  · rw [if_pos b1, if_neg (by rw [decide_eq_false (by omega)]; decide)]
  rw [if_neg b1]
  by_cases b3 : Y ≤ 16384
  · have w5 : wrap64 (X + P) = X + P := by unfold wrap64; omega
    have w6 : wrap64 (Y + Q) = Y + Q := by unfold wrap64; omega
    rw [w5, w6, if_pos (decide_eq_true (show -16384 ≤ Y ∧ Y ≤ 16384 by omega))]
    clear w5 w6
    by_cases b2 : Y > 16384 - Q
    · rw [if_pos b2, if_neg (by rw [decide_eq_false (by omega)]; decide)]
    · rw [if_neg b2, if_pos (decide_eq_true (by omega))]
  · rw [if_pos (by omega), if_neg (by rw [decide_eq_false (by omega)]; decide)]
theorem check_eq (o : ByteArray) (W H R s t X Y : Int) (k : Nat) (hk : 2 ≤ k) : compositorref23_Check.f k o W H R s t X Y = output_Check.f o W H R s t X Y := by
  obtain ⟨k, rfl⟩ : ∃ j, k = j + 1 + 1 := ⟨k - 2, by omega⟩
  have j0t : compositorref23_Check.j0 (k + 1 + 1) true o W H R s t X Y = some 2 := by rw [compositorref23_Check.j0, if_pos rfl]
  have j1t : compositorref23_Check.j1 (k + 1) true o W H R s t X Y = some 6 := by rw [compositorref23_Check.j1, if_pos rfl]
  unfold compositorref23_Check.f output_Check.f
  by_cases h0 : (o.size : Int) = 0
  · rw [if_pos h0, if_pos (by omega), j0t]
  rw [if_neg h0, if_neg (by omega)]
  by_cases h1 : (o.size : Int) > 32
  · rw [if_pos h1, if_pos h1, j0t]
  rw [if_neg h1, if_neg h1, valid_eq]
  obtain ⟨v, hv⟩ : ∃ v, transform_Valid.f t = some v := by unfold transform_Valid.f; split <;> exact ⟨_, rfl⟩
  rw [hv, Option.bind_some, Option.bind_some]
  cases v with
  | false => rw [if_neg Bool.false_ne_true, if_neg Bool.false_ne_true, j0t]
  | true =>
    rw [if_pos rfl, if_pos rfl]
    by_cases h2 : s < 1
    · rw [if_pos h2, if_pos h2, j0t]
    rw [if_neg h2, if_neg h2]
    by_cases h3 : s > 4
    · rw [if_pos h3, decide_eq_true h3, j0t]
    rw [if_neg h3, decide_eq_false h3, compositorref23_Check.j0, if_neg Bool.false_ne_true, mode_eq, mode_eq]
    obtain ⟨a, ha⟩ := sz_some W s (by omega)
    obtain ⟨b, hb⟩ := sz_some H s (by omega)
    rw [ha, hb, Option.bind_some, Option.bind_some, Option.bind_some, Option.bind_some]
    cases a with
    | false => rw [if_neg Bool.false_ne_true, if_neg Bool.false_ne_true, j1t]
    | true =>
      rw [if_pos rfl, if_pos rfl]
      cases b with
      | false => rw [if_neg Bool.false_ne_true, if_neg Bool.false_ne_true, j1t]
      | true =>
        rw [if_pos rfl, if_pos rfl]
        by_cases h4 : R < 1000
        · rw [if_pos h4, if_pos h4, j1t]
        rw [if_neg h4, if_neg h4]
        by_cases h5 : R > 240000
        · rw [if_pos h5, decide_eq_true h5, j1t]
        rw [if_neg h5, decide_eq_false h5, compositorref23_Check.j1, if_neg Bool.false_ne_true]
        obtain ⟨p, q, hpq, hp, hq⟩ := tsize t W H (sz_true ha) (sz_true hb)
        unfold compositorref23_size.f output_logical.f
        rw [size7_eq, hpq, Option.bind_some, Option.bind_some, if_neg (show ¬ s = 0 by omega), if_neg (show ¬ s = 0 by omega)]
        simp only [Option.bind_some]
        exact last_eq X Y p q s (by omega) hp hq
theorem check_some (o : ByteArray) (W H R s t X Y : Int) : ∃ r, output_Check.f o W H R s t X Y = some r ∧ (r = 0 → 1000 ≤ R ∧ R ≤ 240000) := by
  unfold output_Check.f
  by_cases h0 : (o.size : Int) = 0
  · rw [if_pos h0]; exact ⟨_, rfl, fun h => absurd h (by decide)⟩
  rw [if_neg h0]
  by_cases h1 : (o.size : Int) > 32
  · rw [if_pos h1]; exact ⟨_, rfl, fun h => absurd h (by decide)⟩
  rw [if_neg h1]
  obtain ⟨v, hv⟩ : ∃ v, transform_Valid.f t = some v := by unfold transform_Valid.f; split <;> exact ⟨_, rfl⟩
  rw [hv, Option.bind_some]
  cases v with
  | false => rw [if_neg Bool.false_ne_true]; exact ⟨_, rfl, fun h => absurd h (by decide)⟩
  | true =>
    rw [if_pos rfl]
    by_cases h2 : s < 1
    · rw [if_pos h2]; exact ⟨_, rfl, fun h => absurd h (by decide)⟩
    rw [if_neg h2]
    by_cases h3 : s > 4
    · rw [if_pos h3]; exact ⟨_, rfl, fun h => absurd h (by decide)⟩
    rw [if_neg h3]
    obtain ⟨a, ha⟩ := sz_some W s (by omega)
    obtain ⟨b, hb⟩ := sz_some H s (by omega)
    rw [ha, hb, Option.bind_some, Option.bind_some]
    cases a with
    | false => rw [if_neg Bool.false_ne_true]; exact ⟨_, rfl, fun h => absurd h (by decide)⟩
    | true =>
      rw [if_pos rfl]
      cases b with
      | false => rw [if_neg Bool.false_ne_true]; exact ⟨_, rfl, fun h => absurd h (by decide)⟩
      | true =>
        rw [if_pos rfl]
        by_cases h4 : R < 1000
        · rw [if_pos h4]; exact ⟨_, rfl, fun h => absurd h (by decide)⟩
        rw [if_neg h4]
        by_cases h5 : R > 240000
        · rw [if_pos h5]; exact ⟨_, rfl, fun h => absurd h (by decide)⟩
        rw [if_neg h5]
        obtain ⟨p, q, hpq, hp, hq⟩ := tsize t W H (sz_true ha) (sz_true hb)
        unfold output_logical.f
        rw [hpq, Option.bind_some, if_neg (show ¬ s = 0 by omega)]
        simp only [Option.bind_some]
        rw [← last_eq X Y p q s (by omega) hp hq]
        repeat' split
        all_goals exact ⟨_, rfl, fun _ => ⟨by omega, by omega⟩⟩
theorem interval_some (o : ByteArray) (W H R s t X Y : Int) (h : output_Check.f o W H R s t X Y = some 0) : output_Interval.f o W H R s t X Y = some (wrap64 (Int.tdiv (wrap64 (2000000000000 + R)) (wrap64 (2 * R)))) := by
  obtain ⟨r, h1, h2⟩ := check_some o W H R s t X Y
  rw [h] at h1
  obtain ⟨hr1, hr2⟩ := h2 (Option.some.inj h1).symm
  unfold output_Interval.f
  rw [h, Option.bind_some, if_pos rfl, if_neg]
  unfold wrap64
  omega
theorem interval_ref (o : ByteArray) (W H R s t X Y : Int) (k : Nat) (hk : 2 ≤ k) : compositorref23_Interval.f k o W H R s t X Y = output_Interval.f o W H R s t X Y := by
  unfold compositorref23_Interval.f output_Interval.f
  rw [check_eq _ _ _ _ _ _ _ _ k hk]
theorem iv_range (R : Int) (h1 : 1000 ≤ R) (h2 : R ≤ 240000) : 1 ≤ wrap64 (Int.tdiv (wrap64 (2000000000000 + R)) (wrap64 (2 * R))) ∧ wrap64 (Int.tdiv (wrap64 (2000000000000 + R)) (wrap64 (2 * R))) ≤ 1000000001 := by
  have e1 : wrap64 (2000000000000 + R) = 2000000000000 + R := by unfold wrap64; omega
  have e2 : wrap64 (2 * R) = 2 * R := by unfold wrap64; omega
  rw [e1, e2, Int.tdiv_eq_ediv_of_nonneg (by omega)]
  clear e1 e2
  have p1 : 1 ≤ (2000000000000 + R) / (2 * R) := Int.le_ediv_of_mul_le (by omega) (by omega)
  have p2 : (2000000000000 + R) / (2 * R) ≤ 1000000001 := Int.ediv_le_of_le_mul (by omega) (by omega)
  generalize (2000000000000 + R) / (2 * R) = q at p1 p2 ⊢
  have e3 : wrap64 q = q := by unfold wrap64; omega
  rw [e3]
  exact ⟨p1, p2⟩
theorem interval_pos (o : ByteArray) (W H R s t X Y : Int) (h : output_Check.f o W H R s t X Y = some 0) : ∃ iv, output_Interval.f o W H R s t X Y = some iv ∧ 1 ≤ iv ∧ iv ≤ 1000000001 := by
  obtain ⟨r, h1, h2⟩ := check_some o W H R s t X Y
  rw [h] at h1
  obtain ⟨hr1, hr2⟩ := h2 (Option.some.inj h1).symm
  exact ⟨_, interval_some o W H R s t X Y h, iv_range R hr1 hr2⟩
theorem mnmx (a : Int) (ha : 0 ≤ a) (hb : a ≤ 4611686018427387904) : mn (mx a 0) 4611686018427387904 = a := by unfold mn mx; omega
theorem next_val (iv a : Int) (h1 : 1 ≤ iv) (h2 : iv ≤ 1000000001) (ha : 0 ≤ a) (hb : a ≤ 4611686018427387904) : nextOf iv a = (a / iv + 1) * iv ∧ a < (a / iv + 1) * iv ∧ (a / iv + 1) * iv ≤ a + iv := by
  have q1 : a / iv * iv ≤ a := Int.ediv_mul_le a (by omega)
  have q2 : a < (a / iv + 1) * iv := Int.lt_ediv_add_one_mul_self a (by omega)
  have q3 : (a / iv + 1) * iv = a / iv * iv + iv := by rw [Int.add_mul, Int.one_mul]
  have q4 : 0 ≤ a / iv := Int.ediv_nonneg ha (by omega)
  have q5 : a / iv ≤ a := Int.ediv_le_self _ ha
  refine ⟨?_, q2, by omega⟩
  unfold nextOf
  rw [mnmx a ha hb, Int.tdiv_eq_ediv_of_nonneg ha]
  have w1 : wrap64 (a / iv) = a / iv := by unfold wrap64; omega
  have w2 : wrap64 (a / iv + 1) = a / iv + 1 := by unfold wrap64; omega
  rw [w1, w2]
  clear w1 w2
  generalize (a / iv + 1) * iv = p at q2 q3 ⊢
  unfold wrap64
  omega
theorem nextlaw (o : ByteArray) (W H R s t X Y n : Int) : compositorlaw30_PresentNext.f 2 o W H R s t X Y n = some true := by
  obtain ⟨r, h1, h2⟩ := check_some o W H R s t X Y
  unfold compositorlaw30_PresentNext.f
  rw [check_eq o W H R s t X Y 2 (Nat.le_refl _), interval_ref o W H R s t X Y 2 (Nat.le_refl _), h1, Option.bind_some]
  by_cases h0 : r = 0
  · subst h0
    obtain ⟨iv, hi, p1, p2⟩ := interval_pos o W H R s t X Y h1
    rw [if_pos rfl, hi, Option.bind_some, Option.bind_some, if_pos ⟨rfl, p1⟩]
    by_cases a1 : n < 0
    · rw [if_pos a1]
    rw [if_neg a1]
    by_cases a2 : n > 1152921504606846976
    · rw [if_pos a2]
    rw [if_neg a2]
    obtain ⟨n1, n2, n3⟩ := next_val iv n p1 p2 (by omega) (by omega)
    have e : wrap64 (n + iv) = n + iv := by unfold wrap64; omega
    rw [n1, e, if_pos]
    refine ⟨n2, n3, ?_⟩
    rw [Int.tmod_eq_emod_of_nonneg (by omega)]
    exact Int.mul_emod_left _ _
  · rw [if_neg h0, Option.bind_some, if_pos rfl]
theorem PresentNext (x0 : S23) (x1 : Int) (ok0 : (x0.f0.size ≤ 140737488351232) ∧ ((Lit.int .i64 x0.f1).wf = true) ∧ ((Lit.int .i64 x0.f2).wf = true) ∧ ((Lit.int .i64 x0.f3).wf = true) ∧ ((Lit.int .i64 x0.f4).wf = true) ∧ ((Lit.int .i64 x0.f5).wf = true) ∧ ((Lit.int .i64 x0.f6).wf = true) ∧ ((Lit.int .i64 x0.f7).wf = true)) (ok1 : (Lit.int .i64 x1).wf = true) :
    ∃ k, compositorlaw30_PresentNext.f k x0.f0 x0.f1 x0.f2 x0.f3 x0.f4 x0.f5 x0.f6 x0.f7 x1 = some true := by
  exact ⟨2, nextlaw _ _ _ _ _ _ _ _ _⟩
end Go.Proofs.Ytmkhphkkpdiliaa.Pure
end
section
namespace Go.Proofs.YtmkhphkkpdiliaaOpens
open Go.ChangeShapes Go.WideShapes Go.RowKit Go.Proofs.YtmkhphkkpdiliaaW.PrintWords
section
variable {H : Type} {enc : TypeId × Value → H} {P : Program} {W : World}
def Opens {α : Type} (enc : TypeId × Value → H) (P : Program) (W : World) (t : TypeId) (d : Kd α) (ok : α → Prop) : Prop :=
  ∀ fuel cs y, DataW.trod enc P W 0 (fun _ => true) true fuel t cs = some y → (∀ n ∈ y.1.weights P t, n ≤ reachBytes) → ∃ x, d.K W x cs ∧ ok x
theorem opens_int {t : TypeId} {k : IntKind} (ht : P.underlying t = some (.int k)) : Opens enc P W t (Kd.int k) (fun x => (Lit.int k x).wf = true) := by
  intro fuel cs y h _
  obtain ⟨n, rfl, _, hw⟩ := DataW.trod_int ht h
  exact ⟨n, rfl, hw⟩
theorem opens_string {t : TypeId} (ht : P.underlying t = some .string) : Opens enc P W t Kd.string (fun s => s.size ≤ 140737488351232) := by
  intro fuel cs y h hz
  obtain ⟨s, rfl, rfl, _⟩ := DataW.trod_string ht h
  refine ⟨s, rfl, ?_⟩
  have := hz s.data.toList.length (by simp [DataW.weights])
  rw [Array.length_toList] at this
  exact this
def OpensFs {α : Type} (enc : TypeId × Value → H) (P : Program) (W : World) (fs : List Field) (off : Nat) (d : Kd α) (ok : α → Prop) : Prop :=
  ∀ (n : Nat) (cs : List Value) (xs : List (DataW H × List MemPlace)), cs.length = off + d.sz →
    xs.length = fs.length → (∀ (i : Nat) (f : Field), fs[i]? = some f → DataW.trod enc P W 0 (fun _ => true) true n f.type ((cs.drop f.offset).take (P.cellsOf f.type)) = xs[i]?) →
    (∀ m ∈ DataW.weightsEach P (fs.map (·.type)) (xs.map (·.1)), m ≤ reachBytes) → ∃ x, d.K W x (cs.drop off) ∧ ok x
theorem opensFs_last {α : Type} {f : Field} {off : Nat} {d : Kd α} {ok : α → Prop} (ho : f.offset = off) (hc : P.cellsOf f.type = d.sz) (h : Opens enc P W f.type d ok) : OpensFs enc P W [f] off d ok := by
  intro n cs xs hcs hx ht hz
  match xs, hx with
  | [x0], _ =>
    have h0 := ht 0 f rfl
    rw [ho, hc, List.take_of_length_le (by rw [List.length_drop]; omega)] at h0
    exact h n _ x0 (by simpa using h0) (fun m hm => hz m (by simp [DataW.weightsEach, hm]))
theorem opensFs_cons {α β : Type} {f : Field} {fs : List Field} {off : Nat} {d : Kd α} {d' : Kd β} {ok : α → Prop} {ok' : β → Prop} (ho : f.offset = off) (hc : P.cellsOf f.type = d.sz) (h : Opens enc P W f.type d ok)
    (hr : OpensFs enc P W fs (off + d.sz) d' ok') : OpensFs enc P W (f :: fs) off (Kd.pair d d') (fun x => ok x.1 ∧ ok' x.2) := by
  intro n cs xs hcs hx ht hz
  have hcs' : cs.length = off + (d.sz + d'.sz) := hcs
  match xs, hx with
  | x0 :: xs, hx =>
    have h0 := ht 0 f rfl
    rw [ho, hc] at h0
    obtain ⟨x, hK, hok⟩ := h n _ x0 (by simpa using h0) (fun m hm => hz m (by simp [DataW.weightsEach, hm]))
    obtain ⟨x', hK', hok'⟩ := hr n cs xs (by omega) (by simpa using hx) (fun i g hg => by simpa using ht (i + 1) g (by simpa using hg)) (fun m hm => hz m (by simp only [List.map_cons, DataW.weightsEach, List.mem_append]; exact .inr hm))
    refine ⟨(x, x'), ⟨_, _, ?_, hK, hK'⟩, hok, hok'⟩
    rw [← List.drop_drop, List.take_append_drop]
theorem opens_struct {α : Type} {t : TypeId} {fs : Array Field} {d : Kd α} {ok : α → Prop} (ht : P.underlying t = some (.struct fs)) (hc : P.cellsOf t = d.sz) (h : OpensFs enc P W fs.toList 0 d ok) : Opens enc P W t d ok := by
  intro fuel cs y hy hz
  obtain ⟨xs, n, _, rfl, hl, hlen, hf⟩ := DataW.trod_struct ht hy
  obtain ⟨x, hK, hok⟩ := h n cs xs (by omega) (by simpa using hlen) (fun i f hi => hf i f (by simpa using hi)) (fun m hm => hz m (by simp only [DataW.weights, ht]; exact hm))
  exact ⟨x, by simpa using hK, hok⟩
theorem opens_iso {α β : Type} {t : TypeId} {d : Kd α} {ok : α → Prop} (f : β → α) (g : α → β) (hfg : ∀ x, f (g x) = x) (h : Opens enc P W t d ok) : Opens enc P W t (Kd.iso d f) (fun y => ok (f y)) := by
  intro fuel cs y hy hz
  obtain ⟨x, hK, hok⟩ := h fuel cs y hy hz
  exact ⟨g x, by show d.K W (f (g x)) cs; rw [hfg]; exact hK, by show ok (f (g x)); rw [hfg]; exact hok⟩
theorem opens_imp {α : Type} {t : TypeId} {d : Kd α} {ok ok' : α → Prop} (h : Opens enc P W t d ok) (hi : ∀ x, ok x → ok' x) : Opens enc P W t d ok' := by
  intro fuel cs y hy hz
  obtain ⟨x, hK, hok⟩ := h fuel cs y hy hz
  exact ⟨x, hK, hi x hok⟩
theorem opens_arg {α : Type} {ts : List TypeId} {ds : List (DataW H)} {j : Nat} {t : TypeId} {v : Value} {dt : DataW H} {ps : List MemPlace} {d : Kd α} {ok : α → Prop} (h : Opens enc P W t d ok)
    (hsz : (DataW.weightsEach P ts ds).all (· ≤ reachBytes) = true) (ht : ts[j]? = some t) (hd : ds[j]? = some dt) (hr : DataW.Trod enc P W 0 (fun _ => true) true t v dt ps) : ∃ x, d.K W x v.cells.toList ∧ ok x := by
  obtain ⟨fuel, hf⟩ := hr
  exact h fuel _ _ hf (fun n hn => by simpa using List.all_eq_true.1 hsz n (DataW.weights_mem_each ht hd n hn))
end
theorem arr_of {cs : Array Value} {l : List Value} (h : (Value.agg cs).cells.toList = l) : cs = l.toArray := by
  have h' : cs.toList = l := h
  rw [← h', Array.toArray_toList]
theorem int_of {k : IntKind} {s x : Int} {W : World} (h : (Kd.int k).K W x (Value.int k s).cells.toList) : x = s := by
  have h' : (Value.int k s).cells.toList = [.int k x] := h
  simpa [Value.cells, eq_comm] using h'
end Go.Proofs.YtmkhphkkpdiliaaOpens
end
