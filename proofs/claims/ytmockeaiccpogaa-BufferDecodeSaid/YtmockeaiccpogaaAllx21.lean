-- Written by a program of this session, which runs the kit's print.py and puts in functions that this session typed. Not trusted: Lean checks it.
import Derived.Test.YtmockeaiccpogaaAllx0
import Derived.Test.YtmockeaiccpogaaAllx6
import Derived.Test.YtmockeaiccpogaaAllx17
import Derived.Test.YtmockeaiccpogaaAllx19
import Derived.Test.YtmockeaiccpogaaAllx20
namespace Go.Proofs.Ytmockeaiccpogaa.All
open Go.RowKit Go.Proofs.YtmockeaiccpogaaW.PrintWords Go.Proofs.YtmockeaiccpogaaW.PrintLast Go.Proofs.YtmockeaiccpogaaW.PrintMore
attribute [local go_sem] max2_int min2_int max_two min_two max_three min_three max_four min_four   -- for this text's walks alone
set_option linter.unusedVariables false
set_option linter.unusedSimpArgs false

/-! ### compositorlaw09_BufferDecode: function 3 -/
section
open Go.Proofs.YtmockeaiccpogaaHand Go.Proofs.YtmockeaiccpogaaSq
def compositorlaw09_BufferDecode.f (k : Nat) (a0_0 a0_1 a0_2 a0_3 : Int) (l1 : List Int) : Option Bool :=
  if (l1.length : Int) > 4000 then compositorlaw09_exampleHolds.f k else (buffer_Decode.f k a0_0 a0_1 a0_2 a0_3 l1).bind fun b => (compositorref09_Decode.f k a0_0 a0_1 a0_2 a0_3 l1).bind fun c => if b.2.2.2 = c.2.2.2 then (compositorref09_Equal.f k b.1 b.2.1 b.2.2.1 c.1 c.2.1 c.2.2.1).bind fun q => if q = true then compositorlaw09_exampleHolds.f k else some false else some false
set_option maxHeartbeats 4000000 in
theorem compositorlaw09_BufferDecode.calls (k : Nat) (a0_0 a0_1 a0_2 a0_3 : Int) (A1 : Option Addr) (c1 : Nat) (l1 : List Int) (w : World) (hr1 : Kd.C (Kd.int .u8) w A1 l1.length l1) (hc1 : l1.length ≤ c1) (h : compositorlaw09_BufferDecode.f k a0_0 a0_1 a0_2 a0_3 l1 = some true) :
    Calls Try.prog 3 #[.agg #[.int .i64 a0_0, .int .i64 a0_1, .int .i64 a0_2, .int .i64 a0_3], .slice A1 l1.length c1] w fun e w' => e = .returned (.bool true) ∧ Below w.heap.size w w' := by
  unfold compositorlaw09_BufferDecode.f at h
  by_cases hq : (l1.length : Int) > 4000
  · rw [if_pos hq] at h
    have hh := Aside0.mk h
    clear h
    go_enter Try.func3, Try.ntmps3
    go_wp2_with fail
    refine (compositorlaw09_exampleHolds.calls k true _ hh.out).mono ?_
    rintro e w1 ⟨rfl, hb1⟩
    go_wp2
    go_ret
    exact ⟨rfl, below_step (below_alloc (Below.refl _ _) _) hb1⟩
  · rw [if_neg hq] at h
    obtain ⟨b, hb, h⟩ := Option.bind_eq_some_iff.mp h
    obtain ⟨c, hc, h⟩ := Option.bind_eq_some_iff.mp h
    obtain ⟨b1, b2, b3, b4⟩ := b
    obtain ⟨c1', c2', c3', c4'⟩ := c
    simp only at h hb hc
    by_cases he : b4 = c4'
    · rw [if_pos he] at h
      subst he
      obtain ⟨q, hq2, h⟩ := Option.bind_eq_some_iff.mp h
      cases q with
      | false => simp at h
      | true =>
        rw [if_pos rfl] at h
        have hhb := Aside0.mk hb
        have hhc := Aside0.mk hc
        have hhq := Aside0.mk hq2
        have hhe := Aside0.mk h
        have hR := Aside0.mk hr1
        clear h hb hc hq2 hr1
        go_enter Try.func3, Try.ntmps3
        go_wp2_with fail
        obtain ⟨hA0, hB0⟩ := allocs1 w (Obj.cells #[.int .i64 a0_0, .int .i64 a0_1, .int .i64 a0_2, .int .i64 a0_3] 22)
        generalize w.alloc (Obj.cells #[.int .i64 a0_0, .int .i64 a0_1, .int .i64 a0_2, .int .i64 a0_3] 22) = V at hA0 hB0 ⊢
        refine (buffer_Decode.calls k a0_0 a0_1 a0_2 a0_3 A1 c1 l1 b1 b2 b3 b4 V (Kd.C_below hR.out hB0) hc1 hhb.out).mono ?_
        rintro e w1 ⟨v1, rfl, hv1, hb1⟩
        obtain ⟨Ab, cb, eb⟩ := Kd.R_slice hv1
        subst eb
        have hA := Aside0.mk (blk_alloc (blk_below hA0 hb1) (Obj.cells #[.int .i64 b1, .int .i64 b2, .slice Ab b3.length cb] 27))
        have hB := Aside0.mk (below_alloc (below_step hB0 hb1) (Obj.cells #[.int .i64 b1, .int .i64 b2, .slice Ab b3.length cb] 27))
        have hU := Aside0.mk (Kd.R_alloc hv1 (Obj.cells #[.int .i64 b1, .int .i64 b2, .slice Ab b3.length cb] 27))
        have hO := Aside0.mk (blk_new w1 (Obj.cells #[.int .i64 b1, .int .i64 b2, .slice Ab b3.length cb] 27))
        clear hA0 hB0 hv1 hb1
        have x0 := (blk_cell hA.out 0).trans rfl
        have x1 := (blk_cell hA.out 1).trans rfl
        have x2 := (blk_cell hA.out 2).trans rfl
        have x3 := (blk_cell hA.out 3).trans rfl
        go_wp2_with fail
        generalize w1.alloc (Obj.cells #[.int .i64 b1, .int .i64 b2, .slice Ab b3.length cb] 27) = V2 at hA hB hU hO ⊢
        clear x0 x1 x2 x3
        refine (compositorref09_Decode.calls k a0_0 a0_1 a0_2 a0_3 A1 c1 l1 c1' c2' c3' b4 V2 (Kd.C_below hR.out hB.out) hc1 hhc.out).mono ?_
        rintro e w2 ⟨v2, rfl, hv2, hb2⟩
        obtain ⟨Ac, cc, ec⟩ := Kd.R_slice hv2
        subst ec
        replace hO := Aside0.mk (blk_alloc (blk_below hO.out hb2) (Obj.cells #[.int .i64 c1', .int .i64 c2', .slice Ac c3'.length cc] 27))
        replace hU := Aside0.mk (Kd.R_alloc (Kd.R_below hU.out hb2) (Obj.cells #[.int .i64 c1', .int .i64 c2', .slice Ac c3'.length cc] 27))
        replace hB := Aside0.mk (below_alloc (below_step hB.out hb2) (Obj.cells #[.int .i64 c1', .int .i64 c2', .slice Ac c3'.length cc] 27))
        have hU2 := Aside0.mk (Kd.R_alloc hv2 (Obj.cells #[.int .i64 c1', .int .i64 c2', .slice Ac c3'.length cc] 27))
        have hO2 := Aside0.mk (blk_new w2 (Obj.cells #[.int .i64 c1', .int .i64 c2', .slice Ac c3'.length cc] 27))
        clear hA hv2 hb2
        have x0 := (blk_cell hO.out 0).trans rfl
        have x1 := (blk_cell hO.out 1).trans rfl
        have x2 := (blk_cell hO.out 2).trans rfl
        have y0 := (blk_cell hO2.out 0).trans rfl
        have y1 := (blk_cell hO2.out 1).trans rfl
        have y2 := (blk_cell hO2.out 2).trans rfl
        go_wp2_with fail
        clear x0 x1 x2 y0 y1 y2
        obtain ⟨Ab', cb', eb', hlb, hCb⟩ := Kd.R_reads hU.out
        obtain ⟨Ac', cc', ec', hlc, hCc⟩ := Kd.R_reads hU2.out
        injection eb' with e1 e2 e3
        injection ec' with e4 e5 e6
        subst e1 e3 e4 e6
        refine (compositorref09_Equal.calls k b1 b2 Ab cb b3 c1' c2' Ac cc c3' true _ hCb hlb hCc hlc hhq.out).mono ?_
        rintro e w3 ⟨rfl, hb3⟩
        replace hB := Aside0.mk (below_step hB.out hb3)
        clear hb3 hCb hCc
        go_wp2_with fail
        refine (compositorlaw09_exampleHolds.calls k true _ hhe.out).mono ?_
        rintro e w4 ⟨rfl, hb4⟩
        go_wp2
        go_ret
        exact ⟨rfl, below_step hB.out hb4⟩
    · rw [if_neg he] at h
      cases h
end


/-! ### compositorref08_Valid: function 50 -/
def compositorref08_Valid.f (a0_0 : Int) (a0_1 : Int) (a0_2 : Int) (a0_3 : Int) : Option (Bool) := if a0_0 ≤ a0_3 then (if a0_1 ≤ a0_3 then (some (decide (a0_2 ≤ a0_3))) else (some false)) else (some false)
set_option maxHeartbeats 8000000 in
set_option maxRecDepth 100000 in
theorem compositorref08_Valid.calls (a0_0 : Int) (a0_1 : Int) (a0_2 : Int) (a0_3 : Int) (r : Bool) (w : World) (h : compositorref08_Valid.f a0_0 a0_1 a0_2 a0_3 = some r) :
    Calls Try.prog 50 #[.agg #[.int .u8 a0_0, .int .u8 a0_1, .int .u8 a0_2, .int .u8 a0_3]] w fun e w' => e = .returned (.bool r) ∧ Below w.heap.size w w' := by
  have hu43 := Try.underlying43
  have HB := Aside0.mk (Below.refl w.heap.size w)
  have H : (if a0_0 ≤ a0_3 then (if a0_1 ≤ a0_3 then (some (decide (a0_2 ≤ a0_3))) else (some false)) else (some false)) = some r := h
  clear h
  by_cases c2 : a0_0 ≤ a0_3
  · rw [if_pos c2] at H
    have c2b0 : decide (a0_0 ≤ a0_3) = true := decide_eq_true c2
    clear c2
    by_cases c3 : a0_1 ≤ a0_3
    · rw [if_pos c3] at H
      have c3b0 : decide (a0_1 ≤ a0_3) = true := decide_eq_true c3
      clear c3
      obtain rfl := Option.some.inj H
      go_enter Try.func50, Try.ntmps50
      go_wp2_with (first | ((with_reducible refine gate_dst (N := 1) rfl ?_); refine box_event ?hg (N := 1) ?hd (cs := #[.int .u8 a0_0, .int .u8 a0_1, .int .u8 a0_2, .int .u8 a0_3]) (t := 43) ?hr ?_; (case hd => rfl); (case hg => rfl); (case hr => first | (go_simp; done) | (go_simp; rfl)); intro gb257 hg w4 hbox hb; have n0_ := Aside0.mk (below_step (by repeat (first | (with_reducible first | exact HB.out | apply below_alloc | apply pw_below_drewN | apply below_drew1) | exact HB.out)) hb); have n1_ := Aside0.mk (hbox); have n2_ := Aside0.mk ((by rw [hg]; exact (below_size (by repeat (first | (with_reducible first | exact HB.out | apply below_alloc | apply pw_below_drewN | apply below_drew1) | exact HB.out))) : w.heap.size ≤ gb257)); have n3_ := Aside0.mk ((by rw [hg]; exact (below_size (by repeat (first | (with_reducible first | exact HB.out | apply below_alloc | apply pw_below_drewN | apply below_drew1) | exact HB.out))) : w.heap.size ≤ gb257)); clear HB; have HB := n0_; have BK257 := n1_; have GW257 := n2_; have GE257 := n3_; clear n0_ n1_ n2_ n3_; clear hb hbox hg; have hcz5_0 : w4.cell? ⟨gb257, 0, none⟩ = some (.int .u8 a0_0) := (blk_cell BK257.out 0).trans rfl; have hcz5_1 : w4.cell? ⟨gb257, 1, none⟩ = some (.int .u8 a0_1) := (blk_cell BK257.out 1).trans rfl; have hcz5_2 : w4.cell? ⟨gb257, 2, none⟩ = some (.int .u8 a0_2) := (blk_cell BK257.out 2).trans rfl; have hcz5_3 : w4.cell? ⟨gb257, 3, none⟩ = some (.int .u8 a0_3) := (blk_cell BK257.out 3).trans rfl; have hfz5_0 := blk_frozen BK257.out 0; have hfz5_1 := blk_frozen BK257.out 1; have hfz5_2 := blk_frozen BK257.out 2; have hfz5_3 := blk_frozen BK257.out 3))
      go_ret
      exact ⟨by first | rfl | (simp [errW_none, errW_some] <;> rfl) | (simp [*, errW_none, errW_some] <;> rfl), by repeat (first | (with_reducible first | exact HB.out | apply below_alloc | apply pw_below_drewN | apply below_drew1 | refine below_set ?_ GE257.out) | exact HB.out)⟩
    · rw [if_neg c3] at H
      have c3b0 : decide (a0_1 ≤ a0_3) = false := decide_eq_false c3
      clear c3
      obtain rfl := Option.some.inj H
      go_enter Try.func50, Try.ntmps50
      go_wp2_with (first | ((with_reducible refine gate_dst (N := 1) rfl ?_); refine box_event ?hg (N := 1) ?hd (cs := #[.int .u8 a0_0, .int .u8 a0_1, .int .u8 a0_2, .int .u8 a0_3]) (t := 43) ?hr ?_; (case hd => rfl); (case hg => rfl); (case hr => first | (go_simp; done) | (go_simp; rfl)); intro gb257 hg w6 hbox hb; have n0_ := Aside0.mk (below_step (by repeat (first | (with_reducible first | exact HB.out | apply below_alloc | apply pw_below_drewN | apply below_drew1) | exact HB.out)) hb); have n1_ := Aside0.mk (hbox); have n2_ := Aside0.mk ((by rw [hg]; exact (below_size (by repeat (first | (with_reducible first | exact HB.out | apply below_alloc | apply pw_below_drewN | apply below_drew1) | exact HB.out))) : w.heap.size ≤ gb257)); have n3_ := Aside0.mk ((by rw [hg]; exact (below_size (by repeat (first | (with_reducible first | exact HB.out | apply below_alloc | apply pw_below_drewN | apply below_drew1) | exact HB.out))) : w.heap.size ≤ gb257)); clear HB; have HB := n0_; have BK257 := n1_; have GW257 := n2_; have GE257 := n3_; clear n0_ n1_ n2_ n3_; clear hb hbox hg; have hcz7_0 : w6.cell? ⟨gb257, 0, none⟩ = some (.int .u8 a0_0) := (blk_cell BK257.out 0).trans rfl; have hcz7_1 : w6.cell? ⟨gb257, 1, none⟩ = some (.int .u8 a0_1) := (blk_cell BK257.out 1).trans rfl; have hcz7_2 : w6.cell? ⟨gb257, 2, none⟩ = some (.int .u8 a0_2) := (blk_cell BK257.out 2).trans rfl; have hcz7_3 : w6.cell? ⟨gb257, 3, none⟩ = some (.int .u8 a0_3) := (blk_cell BK257.out 3).trans rfl; have hfz7_0 := blk_frozen BK257.out 0; have hfz7_1 := blk_frozen BK257.out 1; have hfz7_2 := blk_frozen BK257.out 2; have hfz7_3 := blk_frozen BK257.out 3))
      go_ret
      exact ⟨by first | rfl | (simp [errW_none, errW_some] <;> rfl) | (simp [*, errW_none, errW_some] <;> rfl), by repeat (first | (with_reducible first | exact HB.out | apply below_alloc | apply pw_below_drewN | apply below_drew1 | refine below_set ?_ GE257.out) | exact HB.out)⟩
  · rw [if_neg c2] at H
    have c2b0 : decide (a0_0 ≤ a0_3) = false := decide_eq_false c2
    clear c2
    obtain rfl := Option.some.inj H
    go_enter Try.func50, Try.ntmps50
    go_wp2_with (first | ((with_reducible refine gate_dst (N := 1) rfl ?_); refine box_event ?hg (N := 1) ?hd (cs := #[.int .u8 a0_0, .int .u8 a0_1, .int .u8 a0_2, .int .u8 a0_3]) (t := 43) ?hr ?_; (case hd => rfl); (case hg => rfl); (case hr => first | (go_simp; done) | (go_simp; rfl)); intro gb257 hg w8 hbox hb; have n0_ := Aside0.mk (below_step (by repeat (first | (with_reducible first | exact HB.out | apply below_alloc | apply pw_below_drewN | apply below_drew1) | exact HB.out)) hb); have n1_ := Aside0.mk (hbox); have n2_ := Aside0.mk ((by rw [hg]; exact (below_size (by repeat (first | (with_reducible first | exact HB.out | apply below_alloc | apply pw_below_drewN | apply below_drew1) | exact HB.out))) : w.heap.size ≤ gb257)); have n3_ := Aside0.mk ((by rw [hg]; exact (below_size (by repeat (first | (with_reducible first | exact HB.out | apply below_alloc | apply pw_below_drewN | apply below_drew1) | exact HB.out))) : w.heap.size ≤ gb257)); clear HB; have HB := n0_; have BK257 := n1_; have GW257 := n2_; have GE257 := n3_; clear n0_ n1_ n2_ n3_; clear hb hbox hg; have hcz9_0 : w8.cell? ⟨gb257, 0, none⟩ = some (.int .u8 a0_0) := (blk_cell BK257.out 0).trans rfl; have hcz9_1 : w8.cell? ⟨gb257, 1, none⟩ = some (.int .u8 a0_1) := (blk_cell BK257.out 1).trans rfl; have hcz9_2 : w8.cell? ⟨gb257, 2, none⟩ = some (.int .u8 a0_2) := (blk_cell BK257.out 2).trans rfl; have hcz9_3 : w8.cell? ⟨gb257, 3, none⟩ = some (.int .u8 a0_3) := (blk_cell BK257.out 3).trans rfl; have hfz9_0 := blk_frozen BK257.out 0; have hfz9_1 := blk_frozen BK257.out 1; have hfz9_2 := blk_frozen BK257.out 2; have hfz9_3 := blk_frozen BK257.out 3))
    go_ret
    exact ⟨by first | rfl | (simp [errW_none, errW_some] <;> rfl) | (simp [*, errW_none, errW_some] <;> rfl), by repeat (first | (with_reducible first | exact HB.out | apply below_alloc | apply pw_below_drewN | apply below_drew1 | refine below_set ?_ GE257.out) | exact HB.out)⟩

end Go.Proofs.Ytmockeaiccpogaa.All
