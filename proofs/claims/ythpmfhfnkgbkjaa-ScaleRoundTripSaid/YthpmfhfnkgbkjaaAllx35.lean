-- Written by a program of this session, which runs the kit's print.py and puts in functions that this session typed. Not trusted: Lean checks it.
import Derived.Test.YthpmfhfnkgbkjaaHand
import Derived.Test.YthpmfhfnkgbkjaaAllx0
import Derived.Test.YthpmfhfnkgbkjaaAllx5
import Derived.Test.YthpmfhfnkgbkjaaAllx9
import Derived.Test.YthpmfhfnkgbkjaaAllx11
import Derived.Test.YthpmfhfnkgbkjaaAllx12
import Derived.Test.YthpmfhfnkgbkjaaAllx13
import Derived.Test.YthpmfhfnkgbkjaaAllx14
import Derived.Test.YthpmfhfnkgbkjaaAllx19
import Derived.Test.YthpmfhfnkgbkjaaAllx21
namespace Go.Proofs.Ythpmfhfnkgbkjaa.All
open Go.Proofs.YthpmfhfnkgbkjaaSq
open Go.RowKit Go.Proofs.YthpmfhfnkgbkjaaW.PrintWords Go.Proofs.YthpmfhfnkgbkjaaW.PrintLast Go.Proofs.YthpmfhfnkgbkjaaW.PrintMore
attribute [local go_sem] max2_int min2_int max_two min_two max_three min_three max_four min_four   -- for this text's walks alone
set_option linter.unusedVariables false
set_option linter.unusedSimpArgs false

/-! ### compositorlaw10_ScaleRoundTrip: function 7 -/
mutual
def compositorlaw10_ScaleRoundTrip.j0 : Nat → Int → Bool → Int → Int → List (S43) → Option (Bool)
 | 0, _, _, _, _, _ => none
 | k + 1, x1, x46, x415000, x415001, x415002 => if x46 = true then ((compositorlaw10_exampleHolds.f k).bind fun t417 => (some t417)) else ((scale_Enlarge.f x415000 x415001 x415002 x1).bind fun bt418 => ((scale_Shrink.f bt418.1 bt418.2.1 bt418.2.2.1 x1).bind fun bt425 => (if bt418.2.2.2 = 0 then (if bt425.2.2.2 = 0 then (if bt418.1 = (wrap64 (x415000 * x1)) then (if bt418.2.1 = (wrap64 (x415001 * x1)) then ((compositorlaw10_same.f k bt425.1 bt425.2.1 bt425.2.2.1 x415000 x415001 x415002).bind fun t432 => (compositorlaw10_ScaleRoundTrip.j1 k (!t432) x415000 x415001 x415002 bt418.1 bt418.2.1 bt418.2.2.1)) else (compositorlaw10_ScaleRoundTrip.j1 k true x415000 x415001 x415002 bt418.1 bt418.2.1 bt418.2.2.1)) else (compositorlaw10_ScaleRoundTrip.j1 k true x415000 x415001 x415002 bt418.1 bt418.2.1 bt418.2.2.1)) else (compositorlaw10_ScaleRoundTrip.j1 k true x415000 x415001 x415002 bt418.1 bt418.2.1 bt418.2.2.1)) else (compositorlaw10_ScaleRoundTrip.j1 k true x415000 x415001 x415002 bt418.1 bt418.2.1 bt418.2.2.1))))
def compositorlaw10_ScaleRoundTrip.j1 : Nat → Bool → Int → Int → List (S43) → Int → Int → List (S43) → Option (Bool)
 | 0, _, _, _, _, _, _, _ => none
 | k + 1, x89, x415000, x415001, x415002, x425000, x425001, x425002 => if x89 = true then (some false) else ((scale_Nearest.f x425000 x425001 x425002 x415000 x415001).bind fun bt433 => ((scale_Box.f x425000 x425001 x425002 x415000 x415001).bind fun bt440 => ((scale_Nearest.f x415000 x415001 x415002 x425000 x425001).bind fun bt447 => ((scale_Box.f x415000 x415001 x415002 x425000 x425001).bind fun bt454 => ((compositorlaw10_same.f k bt433.1 bt433.2.1 bt433.2.2.1 x415000 x415001 x415002).bind fun t461 => (if t461 = true then ((compositorlaw10_same.f k bt440.1 bt440.2.1 bt440.2.2.1 x415000 x415001 x415002).bind fun t462 => (if t462 = true then ((compositorlaw10_same.f k bt447.1 bt447.2.1 bt447.2.2.1 x425000 x425001 x425002).bind fun t463 => (if t463 = true then ((compositorlaw10_same.f k bt454.1 bt454.2.1 bt454.2.2.1 x425000 x425001 x425002).bind fun t464 => (if t464 = true then ((compositorlaw10_exampleHolds.f k).bind fun t465 => (some t465)) else (some false))) else (some false))) else (some false))) else (some false)))))))
end
def compositorlaw10_ScaleRoundTrip.f (k : Nat) (a0_0 : Int) (a0_1 : Int) (l0_2 : List (S43)) (a1 : Int) : Option (Bool) := (compositorlaw10_small.f a0_0 a0_1 l0_2 1 1).bind fun t415 => (if t415 = true then ((compositorref10_Valid.f k a0_0 a0_1 l0_2).bind fun t416 => (if t416 = true then (if a1 < 1 then (compositorlaw10_ScaleRoundTrip.j0 k a1 true a0_0 a0_1 l0_2) else (if a1 > 4 then (compositorlaw10_ScaleRoundTrip.j0 k a1 true a0_0 a0_1 l0_2) else (if (wrap64 (a0_0 * a1)) > 256 then (compositorlaw10_ScaleRoundTrip.j0 k a1 true a0_0 a0_1 l0_2) else (compositorlaw10_ScaleRoundTrip.j0 k a1 (decide ((wrap64 (a0_1 * a1)) > 256)) a0_0 a0_1 l0_2)))) else (compositorlaw10_ScaleRoundTrip.j0 k a1 true a0_0 a0_1 l0_2))) else (compositorlaw10_ScaleRoundTrip.j0 k a1 true a0_0 a0_1 l0_2))
theorem compositorlaw10_ScaleRoundTrip.mono_l : ∀ k, (∀ y0 y1 y2 y3 y4, LeO (compositorlaw10_ScaleRoundTrip.j0 k y0 y1 y2 y3 y4) (compositorlaw10_ScaleRoundTrip.j0 (k + 1) y0 y1 y2 y3 y4)) ∧ (∀ y0 y1 y2 y3 y4 y5 y6, LeO (compositorlaw10_ScaleRoundTrip.j1 k y0 y1 y2 y3 y4 y5 y6) (compositorlaw10_ScaleRoundTrip.j1 (k + 1) y0 y1 y2 y3 y4 y5 y6))
 | 0 => ⟨fun _ _ _ _ _ r h => by simp [compositorlaw10_ScaleRoundTrip.j0] at h, fun _ _ _ _ _ _ _ r h => by simp [compositorlaw10_ScaleRoundTrip.j1] at h⟩
 | k + 1 => by
  obtain ⟨ih0, ih1⟩ := compositorlaw10_ScaleRoundTrip.mono_l k
  refine ⟨?_, ?_⟩
  ·
   intro y0 y1 y2 y3 y4
   unfold compositorlaw10_ScaleRoundTrip.j0
   repeat' first
   | (with_reducible exact ih0 _ _ _ _ _)
   | (with_reducible exact ih1 _ _ _ _ _ _ _)
   | (with_reducible exact compositorlaw10_exampleHolds.mono _)
   | (with_reducible exact compositorlaw10_same.mono _ _ _ _ _ _ _)
   | (with_reducible exact compositorref10_Valid.mono _ _ _ _)
   | (with_reducible exact LeO.refl _)
   | (with_reducible exact LeO.none _)
   | (with_reducible refine LeO.ite ?_ ?_)
   | (with_reducible refine LeO.bind ?_ (fun _ => ?_))
   | exact ih0 _ _ _ _ _
   | exact ih1 _ _ _ _ _ _ _
   | exact compositorlaw10_exampleHolds.mono _
   | exact compositorlaw10_same.mono _ _ _ _ _ _ _
   | exact compositorref10_Valid.mono _ _ _ _
   | exact LeO.none _
   | refine LeO.ite ?_ ?_
   | refine LeO.bind ?_ (fun _ => ?_)
  ·
   intro y0 y1 y2 y3 y4 y5 y6
   unfold compositorlaw10_ScaleRoundTrip.j1
   repeat' first
   | (with_reducible exact ih0 _ _ _ _ _)
   | (with_reducible exact ih1 _ _ _ _ _ _ _)
   | (with_reducible exact compositorlaw10_exampleHolds.mono _)
   | (with_reducible exact compositorlaw10_same.mono _ _ _ _ _ _ _)
   | (with_reducible exact compositorref10_Valid.mono _ _ _ _)
   | (with_reducible exact LeO.refl _)
   | (with_reducible exact LeO.none _)
   | (with_reducible refine LeO.ite ?_ ?_)
   | (with_reducible refine LeO.bind ?_ (fun _ => ?_))
   | exact ih0 _ _ _ _ _
   | exact ih1 _ _ _ _ _ _ _
   | exact compositorlaw10_exampleHolds.mono _
   | exact compositorlaw10_same.mono _ _ _ _ _ _ _
   | exact compositorref10_Valid.mono _ _ _ _
   | exact LeO.none _
   | refine LeO.ite ?_ ?_
   | refine LeO.bind ?_ (fun _ => ?_)
theorem compositorlaw10_ScaleRoundTrip.mono : ∀ a0 a1 a2 a3 k, LeO (compositorlaw10_ScaleRoundTrip.f k a0 a1 a2 a3) (compositorlaw10_ScaleRoundTrip.f (k + 1) a0 a1 a2 a3) := by
 intro a0 a1 a2 a3 k
 obtain ⟨ih0, ih1⟩ := compositorlaw10_ScaleRoundTrip.mono_l k
 unfold compositorlaw10_ScaleRoundTrip.f
 repeat' first
   | (with_reducible exact ih0 _ _ _ _ _)
   | (with_reducible exact ih1 _ _ _ _ _ _ _)
   | (with_reducible exact compositorlaw10_exampleHolds.mono _)
   | (with_reducible exact compositorlaw10_same.mono _ _ _ _ _ _ _)
   | (with_reducible exact compositorref10_Valid.mono _ _ _ _)
   | (with_reducible exact LeO.refl _)
   | (with_reducible exact LeO.none _)
   | (with_reducible refine LeO.ite ?_ ?_)
   | (with_reducible refine LeO.bind ?_ (fun _ => ?_))
   | exact ih0 _ _ _ _ _
   | exact ih1 _ _ _ _ _ _ _
   | exact compositorlaw10_exampleHolds.mono _
   | exact compositorlaw10_same.mono _ _ _ _ _ _ _
   | exact compositorref10_Valid.mono _ _ _ _
   | exact LeO.none _
   | refine LeO.ite ?_ ?_
   | refine LeO.bind ?_ (fun _ => ?_)
set_option maxHeartbeats 8000000 in
set_option maxRecDepth 100000 in
theorem compositorlaw10_ScaleRoundTrip.calls (k : Nat) (a0_0 : Int) (a0_1 : Int) (A0_2 : Option Addr) (c0_2 : Nat) (l0_2 : List (S43)) (a1 : Int) (w : World) (hr0_2 : Kd.C k43 w A0_2 l0_2.length l0_2) (hc0_2 : l0_2.length ≤ c0_2) (h : compositorlaw10_ScaleRoundTrip.f k a0_0 a0_1 l0_2 a1 = some true) :
  Calls Try.prog 7 #[.agg #[.int .i64 a0_0, .int .i64 a0_1, .slice A0_2 l0_2.length c0_2], .int .i64 a1] w fun e w' => e = .returned (.bool true) ∧ Below w.heap.size w w' := by
 have hu24 := Try.underlying24
 have HR0_2 := Aside0.mk hr0_2
 have HC0_2 := Aside0.mk hc0_2
 clear hr0_2 hc0_2
 have HB := Aside0.mk (Below.refl w.heap.size w)
 have H : ((compositorlaw10_small.f a0_0 a0_1 l0_2 1 1).bind fun t415 => (if t415 = true then ((compositorref10_Valid.f k a0_0 a0_1 l0_2).bind fun t416 => (if t416 = true then (if a1 < 1 then (compositorlaw10_ScaleRoundTrip.j0 k a1 true a0_0 a0_1 l0_2) else (if a1 > 4 then (compositorlaw10_ScaleRoundTrip.j0 k a1 true a0_0 a0_1 l0_2) else (if (wrap64 (a0_0 * a1)) > 256 then (compositorlaw10_ScaleRoundTrip.j0 k a1 true a0_0 a0_1 l0_2) else (compositorlaw10_ScaleRoundTrip.j0 k a1 (decide ((wrap64 (a0_1 * a1)) > 256)) a0_0 a0_1 l0_2)))) else (compositorlaw10_ScaleRoundTrip.j0 k a1 true a0_0 a0_1 l0_2))) else (compositorlaw10_ScaleRoundTrip.j0 k a1 true a0_0 a0_1 l0_2))) = some true := h
 clear h
 have HC3 := Aside0.mk H
 clear H
 go_enter Try.func7, Try.ntmps7
 go_upto_region 1 with (first | ((with_reducible refine gate_dst (N := 2) rfl ?_); refine box_event ?hg (N := 2) ?hd (cs := #[.int .i64 a0_0, .int .i64 a0_1, .slice A0_2 l0_2.length c0_2]) (t := 24) ?hr ?_; (case hd => rfl); (case hg => rfl); (case hr => first | (go_simp; done) | (go_simp; rfl)); intro gb414 hg w4 hbox hb; have n0_ := hb_ HB hb; have n1_ := Aside0.mk (hbox); have n2_ := Aside0.mk ((by rw [hg]; exact (below_size (hq_ HB)) : w.heap.size ≤ gb414)); have n3_ := Aside0.mk ((by rw [hg]; exact (below_size (hq_ HB)) : w.heap.size ≤ gb414)); clear HB; have HB := n0_; have BK414 := n1_; have GW414 := n2_; have GE414 := n3_; clear n0_ n1_ n2_ n3_; clear hb hbox hg))
 (try simp only [Act.put, List.setIfInBounds_toArray, List.set_cons_zero, List.set_cons_succ])
 go_cut [46] (fun v46 wc => ∃ (kq : Nat) (x46_2 : Bool), v46 = .bool x46_2 ∧ Aside0 (compositorlaw10_ScaleRoundTrip.j0 kq a1 x46_2 a0_0 a0_1 l0_2 = some true) ∧ Aside0 (kq ≤ k) ∧ Aside0 (wc.heap[gb414]? = some (.cells #[.int .i64 a0_0, .int .i64 a0_1, (.slice A0_2 l0_2.length c0_2)] 24 (0, 0))) ∧ Aside0 (Below w.heap.size w wc))
 case first =>
  have H := HC3.out
  clear HC3
  replace H := Option.bind_eq_some_iff.mp H
  obtain ⟨t415, A50, H⟩ := H
  try dsimp only at H
  have A5 := Aside0.mk A50
  clear A50
  by_cases c6 : t415 = true
  ·
   subst c6
   have H1 : ((compositorref10_Valid.f k a0_0 a0_1 l0_2).bind fun t416 => (if t416 = true then (if a1 < 1 then (compositorlaw10_ScaleRoundTrip.j0 k a1 true a0_0 a0_1 l0_2) else (if a1 > 4 then (compositorlaw10_ScaleRoundTrip.j0 k a1 true a0_0 a0_1 l0_2) else (if (wrap64 (a0_0 * a1)) > 256 then (compositorlaw10_ScaleRoundTrip.j0 k a1 true a0_0 a0_1 l0_2) else (compositorlaw10_ScaleRoundTrip.j0 k a1 (decide ((wrap64 (a0_1 * a1)) > 256)) a0_0 a0_1 l0_2)))) else (compositorlaw10_ScaleRoundTrip.j0 k a1 true a0_0 a0_1 l0_2))) = some true := by rw [if_pos rfl] at H; exact H
   clear H
   have H := H1
   clear H1
   replace H := Option.bind_eq_some_iff.mp H
   obtain ⟨t416, A70, H⟩ := H
   try dsimp only at H
   have A7 := Aside0.mk A70
   clear A70
   by_cases c8 : t416 = true
   ·
    subst c8
    have H1 : (if a1 < 1 then (compositorlaw10_ScaleRoundTrip.j0 k a1 true a0_0 a0_1 l0_2) else (if a1 > 4 then (compositorlaw10_ScaleRoundTrip.j0 k a1 true a0_0 a0_1 l0_2) else (if (wrap64 (a0_0 * a1)) > 256 then (compositorlaw10_ScaleRoundTrip.j0 k a1 true a0_0 a0_1 l0_2) else (compositorlaw10_ScaleRoundTrip.j0 k a1 (decide ((wrap64 (a0_1 * a1)) > 256)) a0_0 a0_1 l0_2)))) = some true := by rw [if_pos rfl] at H; exact H
    clear H
    have H := H1
    clear H1
    by_cases c9 : a1 < 1
    ·
     rw [if_pos c9] at H
     have c9b0 : decide (a1 < 1) = true := decide_eq_true c9
     clear c9
     (first | rw [c9b0] | (simp only [i64_w, i32_w]; rw [c9b0]) | skip)
     have H' := Aside0.mk H
     clear H
     have hcz10_0 : w4.cell? ⟨gb414, 0, none⟩ = some (.int .i64 a0_0) := (blk_cell BK414.out 0).trans rfl
     have hcz10_1 : w4.cell? ⟨gb414, 1, none⟩ = some (.int .i64 a0_1) := (blk_cell BK414.out 1).trans rfl
     have hcz10_2 : w4.cell? ⟨gb414, 2, none⟩ = some (.slice A0_2 l0_2.length c0_2) := (blk_cell BK414.out 2).trans rfl
     have hfz10_0 := blk_frozen BK414.out 0
     have hfz10_1 := blk_frozen BK414.out 1
     have hfz10_2 := blk_frozen BK414.out 2
     go_wp2_with (first | ((with_reducible refine gate_callee (f := 11) rfl ?_); refine goesL_ (some 18) rfl rfl Try.func11 (by kernel_rfl) rfl #[.agg #[.int .i64 a0_0, .int .i64 a0_1, .slice A0_2 l0_2.length c0_2], .int .i64 1, .int .i64 1] rfl (by (try simp only [List.map_toArray, List.map_cons, List.map_nil]) <;> rfl) ?_; (with_reducible refine (compositorlaw10_small.calls a0_0 a0_1 _ _ l0_2 1 1 true _ ?side1 ?side2 A5.out).mono ?_); (case side1 => repeat (first | exact (Kd.C_below HR0_2.out HB.out) | (with_reducible refine Kd.C_alloc ?_ _) | (with_reducible refine Kd.C_drewN ?_ _) | (with_reducible refine Kd.C_drew ?_))); (case side2 => exact HC0_2.out); rintro e w11 ⟨rfl, hb⟩; refine ⟨_, rfl, ?_⟩; have n0_ := bb_ BK414 hb; have n1_ := hb_ HB hb; clear BK414; clear HB; have BK414 := n0_; have HB := n1_; clear n0_ n1_; (try clear hb); (try clear hb2); (try clear hk); (try clear hi); have hcz12_0 : w11.cell? ⟨gb414, 0, none⟩ = some (.int .i64 a0_0) := (blk_cell BK414.out 0).trans rfl; have hcz12_1 : w11.cell? ⟨gb414, 1, none⟩ = some (.int .i64 a0_1) := (blk_cell BK414.out 1).trans rfl; have hcz12_2 : w11.cell? ⟨gb414, 2, none⟩ = some (.slice A0_2 l0_2.length c0_2) := (blk_cell BK414.out 2).trans rfl; have hfz12_0 := blk_frozen BK414.out 0; have hfz12_1 := blk_frozen BK414.out 1; have hfz12_2 := blk_frozen BK414.out 2) | (go_at_call 24; (with_reducible refine (compositorref10_Valid.calls k a0_0 a0_1 _ _ l0_2 true _ ?side1 ?side2 A7.out).mono ?_); (case side1 => repeat (first | exact (Kd.C_below HR0_2.out HB.out) | (with_reducible refine Kd.C_alloc ?_ _) | (with_reducible refine Kd.C_drewN ?_ _) | (with_reducible refine Kd.C_drew ?_))); (case side2 => exact HC0_2.out); rintro e w13 ⟨rfl, hb⟩; have n0_ := bb_ BK414 hb; have n1_ := hb_ HB hb; clear BK414; clear HB; have BK414 := n0_; have HB := n1_; clear n0_ n1_; (try clear hb); (try clear hb2); (try clear hk); (try clear hi)))
     go_meet
     case rel => exact ⟨_, (true), (by first | rfl | (simp; done) | (simp [*]; done)), H', ⟨by first | omega | exact Nat.le_refl _⟩, bf_ BK414, ⟨by repeat (first | (with_reducible first | exact HB.out | apply below_alloc | apply pw_below_drewN | apply below_drew1 | refine below_set ?_ GE414.out) | exact HB.out)⟩⟩
    ·
     rw [if_neg c9] at H
     have c9b0 : decide (a1 < 1) = false := decide_eq_false c9
     clear c9
     (first | rw [c9b0] | (simp only [i64_w, i32_w]; rw [c9b0]) | skip)
     by_cases c14 : a1 > 4
     ·
      rw [if_pos c14] at H
      have c14b0 : decide (4 < a1) = true := decide_eq_true c14
      clear c14
      have H' := Aside0.mk H
      clear H
      have hcz15_0 : w4.cell? ⟨gb414, 0, none⟩ = some (.int .i64 a0_0) := (blk_cell BK414.out 0).trans rfl
      have hcz15_1 : w4.cell? ⟨gb414, 1, none⟩ = some (.int .i64 a0_1) := (blk_cell BK414.out 1).trans rfl
      have hcz15_2 : w4.cell? ⟨gb414, 2, none⟩ = some (.slice A0_2 l0_2.length c0_2) := (blk_cell BK414.out 2).trans rfl
      have hfz15_0 := blk_frozen BK414.out 0
      have hfz15_1 := blk_frozen BK414.out 1
      have hfz15_2 := blk_frozen BK414.out 2
      go_wp2_with (first | ((with_reducible refine gate_callee (f := 11) rfl ?_); refine goesL_ (some 18) rfl rfl Try.func11 (by kernel_rfl) rfl #[.agg #[.int .i64 a0_0, .int .i64 a0_1, .slice A0_2 l0_2.length c0_2], .int .i64 1, .int .i64 1] rfl (by (try simp only [List.map_toArray, List.map_cons, List.map_nil]) <;> rfl) ?_; (with_reducible refine (compositorlaw10_small.calls a0_0 a0_1 _ _ l0_2 1 1 true _ ?side1 ?side2 A5.out).mono ?_); (case side1 => repeat (first | exact (Kd.C_below HR0_2.out HB.out) | (with_reducible refine Kd.C_alloc ?_ _) | (with_reducible refine Kd.C_drewN ?_ _) | (with_reducible refine Kd.C_drew ?_))); (case side2 => exact HC0_2.out); rintro e w16 ⟨rfl, hb⟩; refine ⟨_, rfl, ?_⟩; have n0_ := bb_ BK414 hb; have n1_ := hb_ HB hb; clear BK414; clear HB; have BK414 := n0_; have HB := n1_; clear n0_ n1_; (try clear hb); (try clear hb2); (try clear hk); (try clear hi); have hcz17_0 : w16.cell? ⟨gb414, 0, none⟩ = some (.int .i64 a0_0) := (blk_cell BK414.out 0).trans rfl; have hcz17_1 : w16.cell? ⟨gb414, 1, none⟩ = some (.int .i64 a0_1) := (blk_cell BK414.out 1).trans rfl; have hcz17_2 : w16.cell? ⟨gb414, 2, none⟩ = some (.slice A0_2 l0_2.length c0_2) := (blk_cell BK414.out 2).trans rfl; have hfz17_0 := blk_frozen BK414.out 0; have hfz17_1 := blk_frozen BK414.out 1; have hfz17_2 := blk_frozen BK414.out 2) | (go_at_call 24; (with_reducible refine (compositorref10_Valid.calls k a0_0 a0_1 _ _ l0_2 true _ ?side1 ?side2 A7.out).mono ?_); (case side1 => repeat (first | exact (Kd.C_below HR0_2.out HB.out) | (with_reducible refine Kd.C_alloc ?_ _) | (with_reducible refine Kd.C_drewN ?_ _) | (with_reducible refine Kd.C_drew ?_))); (case side2 => exact HC0_2.out); rintro e w18 ⟨rfl, hb⟩; have n0_ := bb_ BK414 hb; have n1_ := hb_ HB hb; clear BK414; clear HB; have BK414 := n0_; have HB := n1_; clear n0_ n1_; (try clear hb); (try clear hb2); (try clear hk); (try clear hi)))
      go_meet
      case rel => exact ⟨_, (true), (by first | rfl | (simp; done) | (simp [*]; done)), H', ⟨by first | omega | exact Nat.le_refl _⟩, bf_ BK414, ⟨by repeat (first | (with_reducible first | exact HB.out | apply below_alloc | apply pw_below_drewN | apply below_drew1 | refine below_set ?_ GE414.out) | exact HB.out)⟩⟩
     ·
      rw [if_neg c14] at H
      have c14b0 : decide (4 < a1) = false := decide_eq_false c14
      clear c14
      by_cases c19 : (wrap64 (a0_0 * a1)) > 256
      ·
       rw [if_pos c19] at H
       have c19b0 : decide (256 < (wrap64 (a0_0 * a1))) = true := decide_eq_true c19
       clear c19
       have H' := Aside0.mk H
       clear H
       have hcz20_0 : w4.cell? ⟨gb414, 0, none⟩ = some (.int .i64 a0_0) := (blk_cell BK414.out 0).trans rfl
       have hcz20_1 : w4.cell? ⟨gb414, 1, none⟩ = some (.int .i64 a0_1) := (blk_cell BK414.out 1).trans rfl
       have hcz20_2 : w4.cell? ⟨gb414, 2, none⟩ = some (.slice A0_2 l0_2.length c0_2) := (blk_cell BK414.out 2).trans rfl
       have hfz20_0 := blk_frozen BK414.out 0
       have hfz20_1 := blk_frozen BK414.out 1
       have hfz20_2 := blk_frozen BK414.out 2
       go_wp2_with (first | ((with_reducible refine gate_callee (f := 11) rfl ?_); refine goesL_ (some 18) rfl rfl Try.func11 (by kernel_rfl) rfl #[.agg #[.int .i64 a0_0, .int .i64 a0_1, .slice A0_2 l0_2.length c0_2], .int .i64 1, .int .i64 1] rfl (by (try simp only [List.map_toArray, List.map_cons, List.map_nil]) <;> rfl) ?_; (with_reducible refine (compositorlaw10_small.calls a0_0 a0_1 _ _ l0_2 1 1 true _ ?side1 ?side2 A5.out).mono ?_); (case side1 => repeat (first | exact (Kd.C_below HR0_2.out HB.out) | (with_reducible refine Kd.C_alloc ?_ _) | (with_reducible refine Kd.C_drewN ?_ _) | (with_reducible refine Kd.C_drew ?_))); (case side2 => exact HC0_2.out); rintro e w21 ⟨rfl, hb⟩; refine ⟨_, rfl, ?_⟩; have n0_ := bb_ BK414 hb; have n1_ := hb_ HB hb; clear BK414; clear HB; have BK414 := n0_; have HB := n1_; clear n0_ n1_; (try clear hb); (try clear hb2); (try clear hk); (try clear hi); have hcz22_0 : w21.cell? ⟨gb414, 0, none⟩ = some (.int .i64 a0_0) := (blk_cell BK414.out 0).trans rfl; have hcz22_1 : w21.cell? ⟨gb414, 1, none⟩ = some (.int .i64 a0_1) := (blk_cell BK414.out 1).trans rfl; have hcz22_2 : w21.cell? ⟨gb414, 2, none⟩ = some (.slice A0_2 l0_2.length c0_2) := (blk_cell BK414.out 2).trans rfl; have hfz22_0 := blk_frozen BK414.out 0; have hfz22_1 := blk_frozen BK414.out 1; have hfz22_2 := blk_frozen BK414.out 2) | (go_at_call 24; (with_reducible refine (compositorref10_Valid.calls k a0_0 a0_1 _ _ l0_2 true _ ?side1 ?side2 A7.out).mono ?_); (case side1 => repeat (first | exact (Kd.C_below HR0_2.out HB.out) | (with_reducible refine Kd.C_alloc ?_ _) | (with_reducible refine Kd.C_drewN ?_ _) | (with_reducible refine Kd.C_drew ?_))); (case side2 => exact HC0_2.out); rintro e w23 ⟨rfl, hb⟩; have n0_ := bb_ BK414 hb; have n1_ := hb_ HB hb; clear BK414; clear HB; have BK414 := n0_; have HB := n1_; clear n0_ n1_; (try clear hb); (try clear hb2); (try clear hk); (try clear hi); have hcz24_0 : w23.cell? ⟨gb414, 0, none⟩ = some (.int .i64 a0_0) := (blk_cell BK414.out 0).trans rfl; have hcz24_1 : w23.cell? ⟨gb414, 1, none⟩ = some (.int .i64 a0_1) := (blk_cell BK414.out 1).trans rfl; have hcz24_2 : w23.cell? ⟨gb414, 2, none⟩ = some (.slice A0_2 l0_2.length c0_2) := (blk_cell BK414.out 2).trans rfl; have hfz24_0 := blk_frozen BK414.out 0; have hfz24_1 := blk_frozen BK414.out 1; have hfz24_2 := blk_frozen BK414.out 2))
       go_meet
       case rel => exact ⟨_, (true), (by first | rfl | (simp; done) | (simp [*]; done)), H', ⟨by first | omega | exact Nat.le_refl _⟩, bf_ BK414, ⟨by repeat (first | (with_reducible first | exact HB.out | apply below_alloc | apply pw_below_drewN | apply below_drew1 | refine below_set ?_ GE414.out) | exact HB.out)⟩⟩
      ·
       rw [if_neg c19] at H
       have c19b0 : decide (256 < (wrap64 (a0_0 * a1))) = false := decide_eq_false c19
       clear c19
       have H' := Aside0.mk H
       clear H
       have hcz25_0 : w4.cell? ⟨gb414, 0, none⟩ = some (.int .i64 a0_0) := (blk_cell BK414.out 0).trans rfl
       have hcz25_1 : w4.cell? ⟨gb414, 1, none⟩ = some (.int .i64 a0_1) := (blk_cell BK414.out 1).trans rfl
       have hcz25_2 : w4.cell? ⟨gb414, 2, none⟩ = some (.slice A0_2 l0_2.length c0_2) := (blk_cell BK414.out 2).trans rfl
       have hfz25_0 := blk_frozen BK414.out 0
       have hfz25_1 := blk_frozen BK414.out 1
       have hfz25_2 := blk_frozen BK414.out 2
       go_wp2_with (first | ((with_reducible refine gate_callee (f := 11) rfl ?_); refine goesL_ (some 18) rfl rfl Try.func11 (by kernel_rfl) rfl #[.agg #[.int .i64 a0_0, .int .i64 a0_1, .slice A0_2 l0_2.length c0_2], .int .i64 1, .int .i64 1] rfl (by (try simp only [List.map_toArray, List.map_cons, List.map_nil]) <;> rfl) ?_; (with_reducible refine (compositorlaw10_small.calls a0_0 a0_1 _ _ l0_2 1 1 true _ ?side1 ?side2 A5.out).mono ?_); (case side1 => repeat (first | exact (Kd.C_below HR0_2.out HB.out) | (with_reducible refine Kd.C_alloc ?_ _) | (with_reducible refine Kd.C_drewN ?_ _) | (with_reducible refine Kd.C_drew ?_))); (case side2 => exact HC0_2.out); rintro e w26 ⟨rfl, hb⟩; refine ⟨_, rfl, ?_⟩; have n0_ := bb_ BK414 hb; have n1_ := hb_ HB hb; clear BK414; clear HB; have BK414 := n0_; have HB := n1_; clear n0_ n1_; (try clear hb); (try clear hb2); (try clear hk); (try clear hi); have hcz27_0 : w26.cell? ⟨gb414, 0, none⟩ = some (.int .i64 a0_0) := (blk_cell BK414.out 0).trans rfl; have hcz27_1 : w26.cell? ⟨gb414, 1, none⟩ = some (.int .i64 a0_1) := (blk_cell BK414.out 1).trans rfl; have hcz27_2 : w26.cell? ⟨gb414, 2, none⟩ = some (.slice A0_2 l0_2.length c0_2) := (blk_cell BK414.out 2).trans rfl; have hfz27_0 := blk_frozen BK414.out 0; have hfz27_1 := blk_frozen BK414.out 1; have hfz27_2 := blk_frozen BK414.out 2) | (go_at_call 24; (with_reducible refine (compositorref10_Valid.calls k a0_0 a0_1 _ _ l0_2 true _ ?side1 ?side2 A7.out).mono ?_); (case side1 => repeat (first | exact (Kd.C_below HR0_2.out HB.out) | (with_reducible refine Kd.C_alloc ?_ _) | (with_reducible refine Kd.C_drewN ?_ _) | (with_reducible refine Kd.C_drew ?_))); (case side2 => exact HC0_2.out); rintro e w28 ⟨rfl, hb⟩; have n0_ := bb_ BK414 hb; have n1_ := hb_ HB hb; clear BK414; clear HB; have BK414 := n0_; have HB := n1_; clear n0_ n1_; (try clear hb); (try clear hb2); (try clear hk); (try clear hi); have hcz29_0 : w28.cell? ⟨gb414, 0, none⟩ = some (.int .i64 a0_0) := (blk_cell BK414.out 0).trans rfl; have hcz29_1 : w28.cell? ⟨gb414, 1, none⟩ = some (.int .i64 a0_1) := (blk_cell BK414.out 1).trans rfl; have hcz29_2 : w28.cell? ⟨gb414, 2, none⟩ = some (.slice A0_2 l0_2.length c0_2) := (blk_cell BK414.out 2).trans rfl; have hfz29_0 := blk_frozen BK414.out 0; have hfz29_1 := blk_frozen BK414.out 1; have hfz29_2 := blk_frozen BK414.out 2))
       go_meet
       case rel => exact ⟨_, (decide ((wrap64 (a0_1 * a1)) > 256)), (by first | rfl | (simp; done) | (simp [*]; done)), H', ⟨by first | omega | exact Nat.le_refl _⟩, bf_ BK414, ⟨by repeat (first | (with_reducible first | exact HB.out | apply below_alloc | apply pw_below_drewN | apply below_drew1 | refine below_set ?_ GE414.out) | exact HB.out)⟩⟩
   ·
    replace c8 := Bool.eq_false_iff.mpr c8
    subst c8
    have H1 : (compositorlaw10_ScaleRoundTrip.j0 k a1 true a0_0 a0_1 l0_2) = some true := by rw [if_neg (show ¬ (false = true) by decide)] at H; exact H
    clear H
    have H := H1
    clear H1
    have H' := Aside0.mk H
    clear H
    have hcz30_0 : w4.cell? ⟨gb414, 0, none⟩ = some (.int .i64 a0_0) := (blk_cell BK414.out 0).trans rfl
    have hcz30_1 : w4.cell? ⟨gb414, 1, none⟩ = some (.int .i64 a0_1) := (blk_cell BK414.out 1).trans rfl
    have hcz30_2 : w4.cell? ⟨gb414, 2, none⟩ = some (.slice A0_2 l0_2.length c0_2) := (blk_cell BK414.out 2).trans rfl
    have hfz30_0 := blk_frozen BK414.out 0
    have hfz30_1 := blk_frozen BK414.out 1
    have hfz30_2 := blk_frozen BK414.out 2
    go_wp2_with (first | ((with_reducible refine gate_callee (f := 11) rfl ?_); refine goesL_ (some 18) rfl rfl Try.func11 (by kernel_rfl) rfl #[.agg #[.int .i64 a0_0, .int .i64 a0_1, .slice A0_2 l0_2.length c0_2], .int .i64 1, .int .i64 1] rfl (by (try simp only [List.map_toArray, List.map_cons, List.map_nil]) <;> rfl) ?_; (with_reducible refine (compositorlaw10_small.calls a0_0 a0_1 _ _ l0_2 1 1 true _ ?side1 ?side2 A5.out).mono ?_); (case side1 => repeat (first | exact (Kd.C_below HR0_2.out HB.out) | (with_reducible refine Kd.C_alloc ?_ _) | (with_reducible refine Kd.C_drewN ?_ _) | (with_reducible refine Kd.C_drew ?_))); (case side2 => exact HC0_2.out); rintro e w31 ⟨rfl, hb⟩; refine ⟨_, rfl, ?_⟩; have n0_ := bb_ BK414 hb; have n1_ := hb_ HB hb; clear BK414; clear HB; have BK414 := n0_; have HB := n1_; clear n0_ n1_; (try clear hb); (try clear hb2); (try clear hk); (try clear hi); have hcz32_0 : w31.cell? ⟨gb414, 0, none⟩ = some (.int .i64 a0_0) := (blk_cell BK414.out 0).trans rfl; have hcz32_1 : w31.cell? ⟨gb414, 1, none⟩ = some (.int .i64 a0_1) := (blk_cell BK414.out 1).trans rfl; have hcz32_2 : w31.cell? ⟨gb414, 2, none⟩ = some (.slice A0_2 l0_2.length c0_2) := (blk_cell BK414.out 2).trans rfl; have hfz32_0 := blk_frozen BK414.out 0; have hfz32_1 := blk_frozen BK414.out 1; have hfz32_2 := blk_frozen BK414.out 2) | (go_at_call 24; (with_reducible refine (compositorref10_Valid.calls k a0_0 a0_1 _ _ l0_2 false _ ?side1 ?side2 A7.out).mono ?_); (case side1 => repeat (first | exact (Kd.C_below HR0_2.out HB.out) | (with_reducible refine Kd.C_alloc ?_ _) | (with_reducible refine Kd.C_drewN ?_ _) | (with_reducible refine Kd.C_drew ?_))); (case side2 => exact HC0_2.out); rintro e w33 ⟨rfl, hb⟩; have n0_ := bb_ BK414 hb; have n1_ := hb_ HB hb; clear BK414; clear HB; have BK414 := n0_; have HB := n1_; clear n0_ n1_; (try clear hb); (try clear hb2); (try clear hk); (try clear hi)))
    go_meet
    case rel => exact ⟨_, (true), (by first | rfl | (simp; done) | (simp [*]; done)), H', ⟨by first | omega | exact Nat.le_refl _⟩, bf_ BK414, ⟨by repeat (first | (with_reducible first | exact HB.out | apply below_alloc | apply pw_below_drewN | apply below_drew1 | refine below_set ?_ GE414.out) | exact HB.out)⟩⟩
  ·
   replace c6 := Bool.eq_false_iff.mpr c6
   subst c6
   have H1 : (compositorlaw10_ScaleRoundTrip.j0 k a1 true a0_0 a0_1 l0_2) = some true := by rw [if_neg (show ¬ (false = true) by decide)] at H; exact H
   clear H
   have H := H1
   clear H1
   have H' := Aside0.mk H
   clear H
   have hcz34_0 : w4.cell? ⟨gb414, 0, none⟩ = some (.int .i64 a0_0) := (blk_cell BK414.out 0).trans rfl
   have hcz34_1 : w4.cell? ⟨gb414, 1, none⟩ = some (.int .i64 a0_1) := (blk_cell BK414.out 1).trans rfl
   have hcz34_2 : w4.cell? ⟨gb414, 2, none⟩ = some (.slice A0_2 l0_2.length c0_2) := (blk_cell BK414.out 2).trans rfl
   have hfz34_0 := blk_frozen BK414.out 0
   have hfz34_1 := blk_frozen BK414.out 1
   have hfz34_2 := blk_frozen BK414.out 2
   go_wp2_with (first | ((with_reducible refine gate_callee (f := 11) rfl ?_); refine goesL_ (some 18) rfl rfl Try.func11 (by kernel_rfl) rfl #[.agg #[.int .i64 a0_0, .int .i64 a0_1, .slice A0_2 l0_2.length c0_2], .int .i64 1, .int .i64 1] rfl (by (try simp only [List.map_toArray, List.map_cons, List.map_nil]) <;> rfl) ?_; (with_reducible refine (compositorlaw10_small.calls a0_0 a0_1 _ _ l0_2 1 1 false _ ?side1 ?side2 A5.out).mono ?_); (case side1 => repeat (first | exact (Kd.C_below HR0_2.out HB.out) | (with_reducible refine Kd.C_alloc ?_ _) | (with_reducible refine Kd.C_drewN ?_ _) | (with_reducible refine Kd.C_drew ?_))); (case side2 => exact HC0_2.out); rintro e w35 ⟨rfl, hb⟩; refine ⟨_, rfl, ?_⟩; have n0_ := bb_ BK414 hb; have n1_ := hb_ HB hb; clear BK414; clear HB; have BK414 := n0_; have HB := n1_; clear n0_ n1_; (try clear hb); (try clear hb2); (try clear hk); (try clear hi)))
   go_meet
   case rel => exact ⟨_, (true), (by first | rfl | (simp; done) | (simp [*]; done)), H', ⟨by first | omega | exact Nat.le_refl _⟩, bf_ BK414, ⟨by repeat (first | (with_reducible first | exact HB.out | apply below_alloc | apply pw_below_drewN | apply below_drew1 | refine below_set ?_ GE414.out) | exact HB.out)⟩⟩
 case rest =>
  clear HC3
  try clear c1
  try clear p2
  try clear c6
  try clear p6
  try clear c7
  try clear c8
  try clear c9
  try clear c9b0
  try clear c11
  try clear c14
  try clear c14b0
  try clear c19
  try clear c19b0
  try clear hcz10_0
  try clear hcz10_1
  try clear hcz10_2
  try clear hcz12_0
  try clear hcz12_1
  try clear hcz12_2
  try clear hcz15_0
  try clear hcz15_1
  try clear hcz15_2
  try clear hcz17_0
  try clear hcz17_1
  try clear hcz17_2
  try clear hcz20_0
  try clear hcz20_1
  try clear hcz20_2
  try clear hcz22_0
  try clear hcz22_1
  try clear hcz22_2
  try clear hcz24_0
  try clear hcz24_1
  try clear hcz24_2
  try clear hcz25_0
  try clear hcz25_1
  try clear hcz25_2
  try clear hcz27_0
  try clear hcz27_1
  try clear hcz27_2
  try clear hcz29_0
  try clear hcz29_1
  try clear hcz29_2
  try clear hcz30_0
  try clear hcz30_1
  try clear hcz30_2
  try clear hcz32_0
  try clear hcz32_1
  try clear hcz32_2
  try clear hcz34_0
  try clear hcz34_1
  try clear hcz34_2
  try clear hfz10_0
  try clear hfz10_1
  try clear hfz10_2
  try clear hfz12_0
  try clear hfz12_1
  try clear hfz12_2
  try clear hfz15_0
  try clear hfz15_1
  try clear hfz15_2
  try clear hfz17_0
  try clear hfz17_1
  try clear hfz17_2
  try clear hfz20_0
  try clear hfz20_1
  try clear hfz20_2
  try clear hfz22_0
  try clear hfz22_1
  try clear hfz22_2
  try clear hfz24_0
  try clear hfz24_1
  try clear hfz24_2
  try clear hfz25_0
  try clear hfz25_1
  try clear hfz25_2
  try clear hfz27_0
  try clear hfz27_1
  try clear hfz27_2
  try clear hfz29_0
  try clear hfz29_1
  try clear hfz29_2
  try clear hfz30_0
  try clear hfz30_1
  try clear hfz30_2
  try clear hfz32_0
  try clear hfz32_1
  try clear hfz32_2
  try clear hfz34_0
  try clear hfz34_1
  try clear hfz34_2
  obtain ⟨kq, x46_2, rfl, HA, HJ2, BK414, HB⟩ := hcut
  cases kq with
  | zero => exact absurd HA.out (by simp [compositorlaw10_ScaleRoundTrip.j0])
  | succ kj2 =>
   have H := HA.out
   clear HA
   simp only [compositorlaw10_ScaleRoundTrip.j0] at H
   by_cases c36 : x46_2 = true
   ·
    subst c36
    have H1 : ((compositorlaw10_exampleHolds.f kj2).bind fun t417 => (some t417)) = some true := by rw [if_pos rfl] at H; exact H
    clear H
    have H := H1
    clear H1
    replace H := Option.bind_eq_some_iff.mp H
    obtain ⟨t417, A370, H⟩ := H
    try dsimp only at H
    have A37 := Aside0.mk A370
    clear A370
    have Hq_ := Option.some.inj H
    go_wp2_with (first | ((with_reducible refine gate_callee (f := 12) rfl ?_); refine goesL_ (some 47) rfl rfl Try.func12 (by kernel_rfl) rfl #[] rfl (by (try simp only [List.map_toArray, List.map_cons, List.map_nil]) <;> rfl) ?_; (with_reducible refine (compositorlaw10_exampleHolds.calls kj2  t417 _ A37.out).mono ?_); rintro e w38 ⟨rfl, hb⟩; refine ⟨_, rfl, ?_⟩; have n0_ := bb_ BK414 hb; have n1_ := hb_ HB hb; clear BK414; clear HB; have BK414 := n0_; have HB := n1_; clear n0_ n1_; (try clear hb); (try clear hb2); (try clear hk); (try clear hi)))
    go_ret
    exact ⟨by first | rfl | (simp [errW_none, errW_some] <;> rfl) | (simp [*, errW_none, errW_some] <;> rfl), by repeat (first | (with_reducible first | exact HB.out | apply below_alloc | apply pw_below_drewN | apply below_drew1 | refine below_set ?_ GE414.out) | exact HB.out)⟩
   ·
    replace c36 := Bool.eq_false_iff.mpr c36
    subst c36
    have H1 : ((scale_Enlarge.f a0_0 a0_1 l0_2 a1).bind fun bt418 => ((scale_Shrink.f bt418.1 bt418.2.1 bt418.2.2.1 a1).bind fun bt425 => (if bt418.2.2.2 = 0 then (if bt425.2.2.2 = 0 then (if bt418.1 = (wrap64 (a0_0 * a1)) then (if bt418.2.1 = (wrap64 (a0_1 * a1)) then ((compositorlaw10_same.f kj2 bt425.1 bt425.2.1 bt425.2.2.1 a0_0 a0_1 l0_2).bind fun t432 => (compositorlaw10_ScaleRoundTrip.j1 kj2 (!t432) a0_0 a0_1 l0_2 bt418.1 bt418.2.1 bt418.2.2.1)) else (compositorlaw10_ScaleRoundTrip.j1 kj2 true a0_0 a0_1 l0_2 bt418.1 bt418.2.1 bt418.2.2.1)) else (compositorlaw10_ScaleRoundTrip.j1 kj2 true a0_0 a0_1 l0_2 bt418.1 bt418.2.1 bt418.2.2.1)) else (compositorlaw10_ScaleRoundTrip.j1 kj2 true a0_0 a0_1 l0_2 bt418.1 bt418.2.1 bt418.2.2.1)) else (compositorlaw10_ScaleRoundTrip.j1 kj2 true a0_0 a0_1 l0_2 bt418.1 bt418.2.1 bt418.2.2.1)))) = some true := by rw [if_neg (show ¬ (false = true) by decide)] at H; exact H
    clear H
    have H := H1
    clear H1
    replace H := Option.bind_eq_some_iff.mp H
    obtain ⟨⟨t418, t419, t420, t423⟩, A390, H⟩ := H
    try dsimp only at H
    have A39 := Aside0.mk A390
    clear A390
    replace H := Option.bind_eq_some_iff.mp H
    obtain ⟨⟨t425, t426, t427, t430⟩, A400, H⟩ := H
    try dsimp only at H
    have A40 := Aside0.mk A400
    clear A400
    have HC41 := Aside0.mk H
    clear H
    have hcz42_0 : wc.cell? ⟨gb414, 0, none⟩ = some (.int .i64 a0_0) := (blk_cell BK414.out 0).trans rfl
    have hcz42_1 : wc.cell? ⟨gb414, 1, none⟩ = some (.int .i64 a0_1) := (blk_cell BK414.out 1).trans rfl
    have hcz42_2 : wc.cell? ⟨gb414, 2, none⟩ = some (.slice A0_2 l0_2.length c0_2) := (blk_cell BK414.out 2).trans rfl
    have hfz42_0 := blk_frozen BK414.out 0
    have hfz42_1 := blk_frozen BK414.out 1
    have hfz42_2 := blk_frozen BK414.out 2
    go_upto_region 5 with (first | ((with_reducible refine gate_callee (f := 20) rfl ?_); refine goesL_ (some 51) rfl rfl Try.func20 (by kernel_rfl) rfl #[.agg #[.int .i64 a0_0, .int .i64 a0_1, .slice A0_2 l0_2.length c0_2], .int .i64 a1] rfl (by (try simp only [List.map_toArray, List.map_cons, List.map_nil]) <;> rfl) ?_; (with_reducible refine (scale_Enlarge.calls a0_0 a0_1 _ _ l0_2 a1 t418 t419 t420 t423 _ ?side1 ?side2 A39.out).mono ?_); (case side1 => repeat (first | exact (Kd.C_below HR0_2.out HB.out) | (with_reducible refine Kd.C_alloc ?_ _) | (with_reducible refine Kd.C_drewN ?_ _) | (with_reducible refine Kd.C_drew ?_))); (case side2 => exact HC0_2.out); rintro e w43 ⟨v421, rfl, ho0, hb⟩; refine ⟨_, rfl, ?_⟩; have n0_ := Aside0.mk (Kd.R_lower ho0 (below_size (hq_ HB))); have n1_ := bb_ BK414 hb; have n2_ := hb_ HB hb; clear BK414; clear HB; have HO422 := n0_; have BK414 := n1_; have HB := n2_; clear n0_ n1_ n2_; (try clear hb); (try clear hb2); (try clear hk); (try clear hi); (try clear ho0)) | ((with_reducible refine gate_dst (N := 5) rfl ?_); refine box_event ?hg (N := 5) ?hd (cs := #[.int .i64 0, .int .i64 0, .slice none 0 0]) (t := 24) ?hr ?_; (case hd => rfl); (case hg => rfl); (case hr => first | (go_simp; done) | (go_simp; rfl)); intro gb424 hg w44 hbox hb; have n0_ := Aside0.mk (Kd.R_below (by (with_reducible repeat (first | apply Kd.R_alloc | apply Kd.R_drewN | apply Kd.R_drew)); exact HO422.out) hb); have n1_ := bb_ BK414 hb; have n2_ := hb_ HB hb; have n3_ := Aside0.mk (hbox); have n4_ := Aside0.mk ((by rw [hg]; exact (below_size (hq_ HB)) : w.heap.size ≤ gb424)); have n5_ := Aside0.mk ((by rw [hg]; exact (below_size (hq_ HB)) : w.heap.size ≤ gb424)); have n6_ := Aside0.mk ((by rw [hg]; exact Nat.ne_of_lt (blk_lt (g := gb414) (o := .cells #[.int .i64 a0_0, .int .i64 a0_1, .slice A0_2 l0_2.length c0_2] 24 (0, 0)) (bq_ BK414)) : gb414 ≠ gb424)); have n7_ := Aside0.mk ((by rw [hg]; exact Nat.ne_of_gt (blk_lt (g := gb414) (o := .cells #[.int .i64 a0_0, .int .i64 a0_1, .slice A0_2 l0_2.length c0_2] 24 (0, 0)) (bq_ BK414)) : gb424 ≠ gb414)); clear HO422; clear BK414; clear HB; have HO422 := n0_; have BK414 := n1_; have HB := n2_; have BK424 := n3_; have GW424 := n4_; have GE424 := n5_; have NB414_424 := n6_; have NB424_414 := n7_; clear n0_ n1_ n2_ n3_ n4_ n5_ n6_ n7_; clear hb hbox hg; have hnb45 := NB424_414.out; have hnc45 := NB414_424.out; have hcz46_0 : w44.cell? ⟨gb424, 0, none⟩ = some (.int .i64 0) := (blk_cell BK424.out 0).trans rfl; have hcz46_1 : w44.cell? ⟨gb424, 1, none⟩ = some (.int .i64 0) := (blk_cell BK424.out 1).trans rfl; have hcz46_2 : w44.cell? ⟨gb424, 2, none⟩ = some (.slice none 0 0) := (blk_cell BK424.out 2).trans rfl; have hfz46_0 := blk_frozen BK424.out 0; have hfz46_1 := blk_frozen BK424.out 1; have hfz46_2 := blk_frozen BK424.out 2; obtain ⟨Ao47, co47, eo47⟩ := Kd.R_slice HO422.out; subst eo47) | ((with_reducible refine gate_callee (f := 18) rfl ?_); refine goesL_ (some 57) rfl rfl Try.func18 (by kernel_rfl) rfl #[.agg #[.int .i64 t418, .int .i64 t419, .slice Ao47 t420.length co47], .int .i64 a1] rfl (by (try simp only [List.map_toArray, List.map_cons, List.map_nil]) <;> rfl) ?_; (with_reducible refine (scale_Shrink.calls t418 t419 _ _ t420 a1 t425 t426 t427 t430 _ ?side1 ?side2 A40.out).mono ?_); (case side1 => refine (Kd.R_reads' (e := 43) (base := w.heap.size) (ok := fun k_ => True) (n := t420.length) (c := co47) ?_).2.2; exact (by (with_reducible repeat (first | apply Kd.R_alloc | apply Kd.R_drewN | apply Kd.R_drew)); exact (Kd.R_mono (Kd.R_far (p := ⟨gb424, 2, none⟩) (Kd.R_far (p := ⟨gb424, 1, none⟩) (Kd.R_far (p := ⟨gb424, 0, none⟩) (Kd.R_types HO422.out BK424.out (by decide)) (fun _ hk => hk.2) (.int .i64 t418)) (fun _ hk => hk.2) (.int .i64 t419)) (fun _ hk => hk.2) (.slice Ao47 t420.length co47)) (fun _ h_ => h_.1)))); (case side2 => exact (Kd.R_reads' HO422.out).2.1); rintro e w48 ⟨v428, rfl, ho0, hb⟩; refine ⟨_, rfl, ?_⟩; have n0_ := Aside0.mk (Kd.R_elder' (by (with_reducible repeat (first | apply Kd.R_alloc | apply Kd.R_drewN | apply Kd.R_drew)); exact (Kd.R_mono (Kd.R_far (p := ⟨gb424, 2, none⟩) (Kd.R_far (p := ⟨gb424, 1, none⟩) (Kd.R_far (p := ⟨gb424, 0, none⟩) (Kd.R_types HO422.out BK424.out (by decide)) (fun _ hk => hk.2) (.int .i64 t418)) (fun _ hk => hk.2) (.int .i64 t419)) (fun _ hk => hk.2) (.slice Ao47 t420.length co47)) (fun _ h_ => h_.1))) (Kd.R_base ho0) hb); have n1_ := Aside0.mk (Kd.R_lower (Kd.R_new' ho0 (Kd.R_lt (by (with_reducible repeat (first | apply Kd.R_alloc | apply Kd.R_drewN | apply Kd.R_drew)); exact (Kd.R_mono (Kd.R_far (p := ⟨gb424, 2, none⟩) (Kd.R_far (p := ⟨gb424, 1, none⟩) (Kd.R_far (p := ⟨gb424, 0, none⟩) (Kd.R_types HO422.out BK424.out (by decide)) (fun _ hk => hk.2) (.int .i64 t418)) (fun _ hk => hk.2) (.int .i64 t419)) (fun _ hk => hk.2) (.slice Ao47 t420.length co47)) (fun _ h_ => h_.1))))) (below_size (hq_ HB))); have n2_ := Aside0.mk (blk_below (g := gb414) (o := .cells #[.int .i64 a0_0, .int .i64 a0_1, .slice A0_2 l0_2.length c0_2] 24 (0, 0)) (by (with_reducible repeat (first | refine blk_drewN ?_ _ | refine blk_drew ?_ | refine blk_alloc ?_ _)); refine blk_far ?_ NB414_424.out _; (with_reducible repeat (first | refine blk_drewN ?_ _ | refine blk_drew ?_ | refine blk_alloc ?_ _)); refine blk_far ?_ NB414_424.out _; (with_reducible repeat (first | refine blk_drewN ?_ _ | refine blk_drew ?_ | refine blk_alloc ?_ _)); refine blk_far ?_ NB414_424.out _; (with_reducible repeat (first | refine blk_drewN ?_ _ | refine blk_drew ?_ | refine blk_alloc ?_ _)); exact BK414.out) hb); have n3_ := Aside0.mk (blk_below (g := gb424) (o := .cells #[.int .i64 t418, .int .i64 t419, .slice Ao47 t420.length co47] 24 (0, 0)) (by (with_reducible repeat (first | refine blk_drewN ?_ _ | refine blk_drew ?_ | refine blk_alloc ?_ _)); refine blk_put (cs := #[.int .i64 t418, .int .i64 t419, .slice none 0 0]) ?_ 2 _ rfl; (with_reducible repeat (first | refine blk_drewN ?_ _ | refine blk_drew ?_ | refine blk_alloc ?_ _)); refine blk_put (cs := #[.int .i64 t418, .int .i64 0, .slice none 0 0]) ?_ 1 _ rfl; (with_reducible repeat (first | refine blk_drewN ?_ _ | refine blk_drew ?_ | refine blk_alloc ?_ _)); refine blk_put (cs := #[.int .i64 0, .int .i64 0, .slice none 0 0]) ?_ 0 _ rfl; (with_reducible repeat (first | refine blk_drewN ?_ _ | refine blk_drew ?_ | refine blk_alloc ?_ _)); exact BK424.out) hb); have n4_ := hb_ HB hb; clear HO422; clear BK414; clear BK424; clear HB; have HO422 := n0_; have HO429 := n1_; have BK414 := n2_; have BK424 := n3_; have HB := n4_; clear n0_ n1_ n2_ n3_ n4_; (try clear hb); (try clear hb2); (try clear hk); (try clear hi); (try clear ho0)) | ((with_reducible refine gate_dst (N := 7) rfl ?_); refine box_event ?hg (N := 7) ?hd (cs := #[.int .i64 0, .int .i64 0, .slice none 0 0]) (t := 24) ?hr ?_; (case hd => rfl); (case hg => rfl); (case hr => first | (go_simp; done) | (go_simp; rfl)); intro gb431 hg w49 hbox hb; have n0_ := Aside0.mk (Kd.R_below (by (with_reducible repeat (first | apply Kd.R_alloc | apply Kd.R_drewN | apply Kd.R_drew)); exact HO422.out) hb); have n1_ := Aside0.mk (Kd.R_below (by (with_reducible repeat (first | apply Kd.R_alloc | apply Kd.R_drewN | apply Kd.R_drew)); exact HO429.out) hb); have n2_ := bb_ BK414 hb; have n3_ := bb_ BK424 hb; have n4_ := hb_ HB hb; have n5_ := Aside0.mk (hbox); have n6_ := Aside0.mk ((by rw [hg]; exact (below_size (hq_ HB)) : w.heap.size ≤ gb431)); have n7_ := Aside0.mk ((by rw [hg]; exact (below_size (hq_ HB)) : w.heap.size ≤ gb431)); have n8_ := Aside0.mk ((by rw [hg]; exact Nat.ne_of_lt (blk_lt (g := gb414) (o := .cells #[.int .i64 a0_0, .int .i64 a0_1, .slice A0_2 l0_2.length c0_2] 24 (0, 0)) (bq_ BK414)) : gb414 ≠ gb431)); have n9_ := Aside0.mk ((by rw [hg]; exact Nat.ne_of_gt (blk_lt (g := gb414) (o := .cells #[.int .i64 a0_0, .int .i64 a0_1, .slice A0_2 l0_2.length c0_2] 24 (0, 0)) (bq_ BK414)) : gb431 ≠ gb414)); have n10_ := Aside0.mk ((by rw [hg]; exact Nat.ne_of_lt (blk_lt (g := gb424) (o := .cells #[.int .i64 t418, .int .i64 t419, .slice Ao47 t420.length co47] 24 (0, 0)) (bq_ BK424)) : gb424 ≠ gb431)); have n11_ := Aside0.mk ((by rw [hg]; exact Nat.ne_of_gt (blk_lt (g := gb424) (o := .cells #[.int .i64 t418, .int .i64 t419, .slice Ao47 t420.length co47] 24 (0, 0)) (bq_ BK424)) : gb431 ≠ gb424)); clear HO422; clear HO429; clear BK414; clear BK424; clear HB; have HO422 := n0_; have HO429 := n1_; have BK414 := n2_; have BK424 := n3_; have HB := n4_; have BK431 := n5_; have GW431 := n6_; have GE431 := n7_; have NB414_431 := n8_; have NB431_414 := n9_; have NB424_431 := n10_; have NB431_424 := n11_; clear n0_ n1_ n2_ n3_ n4_ n5_ n6_ n7_ n8_ n9_ n10_ n11_; clear hb hbox hg; have hnb50 := NB431_414.out; have hnc50 := NB414_431.out; have hnb51 := NB431_424.out; have hnc51 := NB424_431.out; have hcz52_0 : w49.cell? ⟨gb431, 0, none⟩ = some (.int .i64 0) := (blk_cell BK431.out 0).trans rfl; have hcz52_1 : w49.cell? ⟨gb431, 1, none⟩ = some (.int .i64 0) := (blk_cell BK431.out 1).trans rfl; have hcz52_2 : w49.cell? ⟨gb431, 2, none⟩ = some (.slice none 0 0) := (blk_cell BK431.out 2).trans rfl; have hfz52_0 := blk_frozen BK431.out 0; have hfz52_1 := blk_frozen BK431.out 1; have hfz52_2 := blk_frozen BK431.out 2; obtain ⟨Ao53, co53, eo53⟩ := Kd.R_slice HO429.out; subst eo53))
    (try simp only [Act.put, List.setIfInBounds_toArray, List.set_cons_zero, List.set_cons_succ])
    go_cut [89] (fun v89 wc => ∃ (kq : Nat) (x89_40 : Bool), v89 = .bool x89_40 ∧ Aside0 (compositorlaw10_ScaleRoundTrip.j1 kq x89_40 a0_0 a0_1 l0_2 t418 t419 t420 = some true) ∧ Aside0 (kq ≤ kj2) ∧ Aside0 (Kd.R k43 43 wc w.heap.size (fun k_ => some k_ ≠ ((.slice Ao53 t427.length co53) : Value).ownBlock) (.slice Ao47 t420.length co47) t420) ∧ Aside0 (Kd.R k43 43 wc w.heap.size (fun k_ => some k_ ≠ ((.slice Ao47 t420.length co47) : Value).ownBlock) (.slice Ao53 t427.length co53) t427) ∧ Aside0 (wc.heap[gb414]? = some (.cells #[.int .i64 a0_0, .int .i64 a0_1, (.slice A0_2 l0_2.length c0_2)] 24 (0, 0))) ∧ Aside0 (wc.heap[gb424]? = some (.cells #[.int .i64 t418, .int .i64 t419, (.slice Ao47 t420.length co47)] 24 (0, 0))) ∧ Aside0 (wc.heap[gb431]? = some (.cells #[.int .i64 t425, .int .i64 t426, (.slice Ao53 t427.length co53)] 24 (0, 0))) ∧ Aside0 (Below w.heap.size w wc))
    case first =>
     have H := HC41.out
     clear HC41
     by_cases c54 : t423 = 0
     ·
      rw [if_pos c54] at H
      have c54b0 : (t423 == 0) = true := beq_iff_eq.mpr c54
      have c54b1 : (t423 != 0) = false := bne_eq_false_iff_eq.mpr c54
      clear c54
      (first | rw [c54b0] | (simp only [i64_w, i32_w]; rw [c54b0]) | skip)
      by_cases c55 : t430 = 0
      ·
       rw [if_pos c55] at H
       have c55b0 : (t430 == 0) = true := beq_iff_eq.mpr c55
       have c55b1 : (t430 != 0) = false := bne_eq_false_iff_eq.mpr c55
       clear c55
       by_cases c56 : t418 = (wrap64 (a0_0 * a1))
       ·
        rw [if_pos c56] at H
        have c56b0 : (t418 == (wrap64 (a0_0 * a1))) = true := beq_iff_eq.mpr c56
        have c56b1 : (t418 != (wrap64 (a0_0 * a1))) = false := bne_eq_false_iff_eq.mpr c56
        clear c56
        by_cases c57 : t419 = (wrap64 (a0_1 * a1))
        ·
         rw [if_pos c57] at H
         have c57b0 : (t419 == (wrap64 (a0_1 * a1))) = true := beq_iff_eq.mpr c57
         have c57b1 : (t419 != (wrap64 (a0_1 * a1))) = false := bne_eq_false_iff_eq.mpr c57
         clear c57
         replace H := Option.bind_eq_some_iff.mp H
         obtain ⟨t432, A580, H⟩ := H
         try dsimp only at H
         have A58 := Aside0.mk A580
         clear A580
         have H' := Aside0.mk H
         clear H
         have hnb59 := NB424_414.out
         have hnc59 := NB414_424.out
         have hnb60 := NB424_431.out
         have hnc60 := NB431_424.out
         have hcz61_0 : w49.cell? ⟨gb424, 0, none⟩ = some (.int .i64 t418) := (blk_cell BK424.out 0).trans rfl
         have hcz61_1 : w49.cell? ⟨gb424, 1, none⟩ = some (.int .i64 t419) := (blk_cell BK424.out 1).trans rfl
         have hcz61_2 : w49.cell? ⟨gb424, 2, none⟩ = some (.slice Ao47 t420.length co47) := (blk_cell BK424.out 2).trans rfl
         have hfz61_0 := blk_frozen BK424.out 0
         have hfz61_1 := blk_frozen BK424.out 1
         have hfz61_2 := blk_frozen BK424.out 2
         have hnb62 := NB414_431.out
         have hnc62 := NB431_414.out
         have hcz63_0 : w49.cell? ⟨gb414, 0, none⟩ = some (.int .i64 a0_0) := (blk_cell BK414.out 0).trans rfl
         have hcz63_1 : w49.cell? ⟨gb414, 1, none⟩ = some (.int .i64 a0_1) := (blk_cell BK414.out 1).trans rfl
         have hcz63_2 : w49.cell? ⟨gb414, 2, none⟩ = some (.slice A0_2 l0_2.length c0_2) := (blk_cell BK414.out 2).trans rfl
         have hfz63_0 := blk_frozen BK414.out 0
         have hfz63_1 := blk_frozen BK414.out 1
         have hfz63_2 := blk_frozen BK414.out 2
         have hcz64_0 : w49.cell? ⟨gb431, 0, none⟩ = some (.int .i64 0) := (blk_cell BK431.out 0).trans rfl
         have hcz64_1 : w49.cell? ⟨gb431, 1, none⟩ = some (.int .i64 0) := (blk_cell BK431.out 1).trans rfl
         have hcz64_2 : w49.cell? ⟨gb431, 2, none⟩ = some (.slice none 0 0) := (blk_cell BK431.out 2).trans rfl
         have hfz64_0 := blk_frozen BK431.out 0
         have hfz64_1 := blk_frozen BK431.out 1
         have hfz64_2 := blk_frozen BK431.out 2
         go_wp2_with (first | (go_at_call 15; (with_reducible refine (compositorlaw10_same.calls kj2 t425 t426 _ _ t427 a0_0 a0_1 _ _ l0_2 t432 _ ?side1 ?side2 ?side3 ?side4 A58.out).mono ?_); (case side1 => refine (Kd.R_reads' (e := 43) (base := w.heap.size) (ok := fun k_ => (True ∧ some k_ ≠ (.slice Ao47 t420.length co47 : Value).ownBlock)) (n := t427.length) (c := co53) ?_).2.2; exact (by (with_reducible repeat (first | apply Kd.R_alloc | apply Kd.R_drewN | apply Kd.R_drew)); exact (Kd.R_mono (Kd.R_far (p := ⟨gb431, 2, none⟩) (Kd.R_far (p := ⟨gb431, 1, none⟩) (Kd.R_far (p := ⟨gb431, 0, none⟩) (Kd.R_types HO429.out BK431.out (by decide)) (fun _ hk => hk.2) (.int .i64 t425)) (fun _ hk => hk.2) (.int .i64 t426)) (fun _ hk => hk.2) (.slice Ao53 t427.length co53)) (fun _ h_ => h_.1)))); (case side2 => exact (Kd.R_reads' HO429.out).2.1); (case side3 => exact Kd.C_below HR0_2.out (hq_ HB)); (case side4 => exact HC0_2.out); rintro e w65 ⟨rfl, hb⟩; have n0_ := Aside0.mk (Kd.R_below (by (with_reducible repeat (first | apply Kd.R_alloc | apply Kd.R_drewN | apply Kd.R_drew)); exact (Kd.R_mono (Kd.R_far (p := ⟨gb431, 2, none⟩) (Kd.R_far (p := ⟨gb431, 1, none⟩) (Kd.R_far (p := ⟨gb431, 0, none⟩) (Kd.R_types HO422.out BK431.out (by decide)) (fun _ hk => hk.2) (.int .i64 t425)) (fun _ hk => hk.2) (.int .i64 t426)) (fun _ hk => hk.2) (.slice Ao53 t427.length co53)) (fun _ h_ => h_.1))) hb); have n1_ := Aside0.mk (Kd.R_below (by (with_reducible repeat (first | apply Kd.R_alloc | apply Kd.R_drewN | apply Kd.R_drew)); exact (Kd.R_mono (Kd.R_far (p := ⟨gb431, 2, none⟩) (Kd.R_far (p := ⟨gb431, 1, none⟩) (Kd.R_far (p := ⟨gb431, 0, none⟩) (Kd.R_types HO429.out BK431.out (by decide)) (fun _ hk => hk.2) (.int .i64 t425)) (fun _ hk => hk.2) (.int .i64 t426)) (fun _ hk => hk.2) (.slice Ao53 t427.length co53)) (fun _ h_ => h_.1))) hb); have n2_ := Aside0.mk (blk_below (g := gb414) (o := .cells #[.int .i64 a0_0, .int .i64 a0_1, .slice A0_2 l0_2.length c0_2] 24 (0, 0)) (by (with_reducible repeat (first | refine blk_drewN ?_ _ | refine blk_drew ?_ | refine blk_alloc ?_ _)); refine blk_far ?_ NB414_431.out _; (with_reducible repeat (first | refine blk_drewN ?_ _ | refine blk_drew ?_ | refine blk_alloc ?_ _)); refine blk_far ?_ NB414_431.out _; (with_reducible repeat (first | refine blk_drewN ?_ _ | refine blk_drew ?_ | refine blk_alloc ?_ _)); refine blk_far ?_ NB414_431.out _; (with_reducible repeat (first | refine blk_drewN ?_ _ | refine blk_drew ?_ | refine blk_alloc ?_ _)); exact BK414.out) hb); have n3_ := Aside0.mk (blk_below (g := gb424) (o := .cells #[.int .i64 t418, .int .i64 t419, .slice Ao47 t420.length co47] 24 (0, 0)) (by (with_reducible repeat (first | refine blk_drewN ?_ _ | refine blk_drew ?_ | refine blk_alloc ?_ _)); refine blk_far ?_ NB424_431.out _; (with_reducible repeat (first | refine blk_drewN ?_ _ | refine blk_drew ?_ | refine blk_alloc ?_ _)); refine blk_far ?_ NB424_431.out _; (with_reducible repeat (first | refine blk_drewN ?_ _ | refine blk_drew ?_ | refine blk_alloc ?_ _)); refine blk_far ?_ NB424_431.out _; (with_reducible repeat (first | refine blk_drewN ?_ _ | refine blk_drew ?_ | refine blk_alloc ?_ _)); exact BK424.out) hb); have n4_ := Aside0.mk (blk_below (g := gb431) (o := .cells #[.int .i64 t425, .int .i64 t426, .slice Ao53 t427.length co53] 24 (0, 0)) (by (with_reducible repeat (first | refine blk_drewN ?_ _ | refine blk_drew ?_ | refine blk_alloc ?_ _)); refine blk_put (cs := #[.int .i64 t425, .int .i64 t426, .slice none 0 0]) ?_ 2 _ rfl; (with_reducible repeat (first | refine blk_drewN ?_ _ | refine blk_drew ?_ | refine blk_alloc ?_ _)); refine blk_put (cs := #[.int .i64 t425, .int .i64 0, .slice none 0 0]) ?_ 1 _ rfl; (with_reducible repeat (first | refine blk_drewN ?_ _ | refine blk_drew ?_ | refine blk_alloc ?_ _)); refine blk_put (cs := #[.int .i64 0, .int .i64 0, .slice none 0 0]) ?_ 0 _ rfl; (with_reducible repeat (first | refine blk_drewN ?_ _ | refine blk_drew ?_ | refine blk_alloc ?_ _)); exact BK431.out) hb); have n5_ := hb_ HB hb; clear HO422; clear HO429; clear BK414; clear BK424; clear BK431; clear HB; have HO422 := n0_; have HO429 := n1_; have BK414 := n2_; have BK424 := n3_; have BK431 := n4_; have HB := n5_; clear n0_ n1_ n2_ n3_ n4_ n5_; (try clear hb); (try clear hb2); (try clear hk); (try clear hi)))
         go_meet
         case rel => exact ⟨_, (!t432), (by first | rfl | (simp; done) | (simp [*]; done)), H', ⟨by have := HJ2.out; first | omega | exact Nat.le_refl _⟩, ⟨by (with_reducible repeat (first | apply Kd.R_alloc | apply Kd.R_drewN | apply Kd.R_drew)); exact Kd.R_mono HO422.out (fun _ hk => hk.2)⟩, ⟨by (with_reducible repeat (first | apply Kd.R_alloc | apply Kd.R_drewN | apply Kd.R_drew)); exact Kd.R_mono HO429.out (fun _ hk => hk.2)⟩, bf_ BK414, bf_ BK424, bf_ BK431, ⟨by repeat (first | (with_reducible first | exact HB.out | apply below_alloc | apply pw_below_drewN | apply below_drew1 | refine below_set ?_ GE414.out | refine below_set ?_ GE424.out | refine below_set ?_ GE431.out) | exact HB.out)⟩⟩
        ·
         rw [if_neg c57] at H
         have c57b0 : (t419 == (wrap64 (a0_1 * a1))) = false := beq_eq_false_iff_ne.mpr c57
         have c57b1 : (t419 != (wrap64 (a0_1 * a1))) = true := bne_iff_ne.mpr c57
         have H' := Aside0.mk H
         clear H
         have hnb66 := NB424_414.out
         have hnc66 := NB414_424.out
         have hnb67 := NB424_431.out
         have hnc67 := NB431_424.out
         have hcz68_0 : w49.cell? ⟨gb424, 0, none⟩ = some (.int .i64 t418) := (blk_cell BK424.out 0).trans rfl
         have hcz68_1 : w49.cell? ⟨gb424, 1, none⟩ = some (.int .i64 t419) := (blk_cell BK424.out 1).trans rfl
         have hcz68_2 : w49.cell? ⟨gb424, 2, none⟩ = some (.slice Ao47 t420.length co47) := (blk_cell BK424.out 2).trans rfl
         have hfz68_0 := blk_frozen BK424.out 0
         have hfz68_1 := blk_frozen BK424.out 1
         have hfz68_2 := blk_frozen BK424.out 2
         have hnb69 := NB414_431.out
         have hnc69 := NB431_414.out
         have hcz70_0 : w49.cell? ⟨gb414, 0, none⟩ = some (.int .i64 a0_0) := (blk_cell BK414.out 0).trans rfl
         have hcz70_1 : w49.cell? ⟨gb414, 1, none⟩ = some (.int .i64 a0_1) := (blk_cell BK414.out 1).trans rfl
         have hcz70_2 : w49.cell? ⟨gb414, 2, none⟩ = some (.slice A0_2 l0_2.length c0_2) := (blk_cell BK414.out 2).trans rfl
         have hfz70_0 := blk_frozen BK414.out 0
         have hfz70_1 := blk_frozen BK414.out 1
         have hfz70_2 := blk_frozen BK414.out 2
         go_wp2
         go_meet
         case rel => exact ⟨_, (true), (by first | rfl | (simp; done) | (simp [*]; done)), H', ⟨by have := HJ2.out; first | omega | exact Nat.le_refl _⟩, ⟨by (with_reducible repeat (first | apply Kd.R_alloc | apply Kd.R_drewN | apply Kd.R_drew)); exact Kd.R_mono (Kd.R_far (p := ⟨gb431, 2, none⟩) (Kd.R_far (p := ⟨gb431, 1, none⟩) (Kd.R_far (p := ⟨gb431, 0, none⟩) (Kd.R_types HO422.out BK431.out (by decide)) (fun _ hk => hk.2) (.int .i64 t425)) (fun _ hk => hk.2) (.int .i64 t426)) (fun _ hk => hk.2) (.slice Ao53 t427.length co53)) (fun _ hk => hk.1.2)⟩, ⟨by (with_reducible repeat (first | apply Kd.R_alloc | apply Kd.R_drewN | apply Kd.R_drew)); exact Kd.R_mono (Kd.R_far (p := ⟨gb431, 2, none⟩) (Kd.R_far (p := ⟨gb431, 1, none⟩) (Kd.R_far (p := ⟨gb431, 0, none⟩) (Kd.R_types HO429.out BK431.out (by decide)) (fun _ hk => hk.2) (.int .i64 t425)) (fun _ hk => hk.2) (.int .i64 t426)) (fun _ hk => hk.2) (.slice Ao53 t427.length co53)) (fun _ hk => hk.1.2)⟩, bf_ BK414, bf_ BK424, ⟨by (with_reducible repeat (first | refine blk_drewN ?_ _ | refine blk_drew ?_ | refine blk_alloc ?_ _)); refine blk_put (cs := #[.int .i64 t425, .int .i64 t426, .slice none 0 0]) ?_ 2 _ rfl; (with_reducible repeat (first | refine blk_drewN ?_ _ | refine blk_drew ?_ | refine blk_alloc ?_ _)); refine blk_put (cs := #[.int .i64 t425, .int .i64 0, .slice none 0 0]) ?_ 1 _ rfl; (with_reducible repeat (first | refine blk_drewN ?_ _ | refine blk_drew ?_ | refine blk_alloc ?_ _)); refine blk_put (cs := #[.int .i64 0, .int .i64 0, .slice none 0 0]) ?_ 0 _ rfl; (with_reducible repeat (first | refine blk_drewN ?_ _ | refine blk_drew ?_ | refine blk_alloc ?_ _)); exact BK431.out⟩, ⟨by repeat (first | (with_reducible first | exact HB.out | apply below_alloc | apply pw_below_drewN | apply below_drew1 | refine below_set ?_ GE414.out | refine below_set ?_ GE424.out | refine below_set ?_ GE431.out) | exact HB.out)⟩⟩
       ·
        rw [if_neg c56] at H
        have c56b0 : (t418 == (wrap64 (a0_0 * a1))) = false := beq_eq_false_iff_ne.mpr c56
        have c56b1 : (t418 != (wrap64 (a0_0 * a1))) = true := bne_iff_ne.mpr c56
        have H' := Aside0.mk H
        clear H
        have hnb71 := NB424_414.out
        have hnc71 := NB414_424.out
        have hnb72 := NB424_431.out
        have hnc72 := NB431_424.out
        have hcz73_0 : w49.cell? ⟨gb424, 0, none⟩ = some (.int .i64 t418) := (blk_cell BK424.out 0).trans rfl
        have hcz73_1 : w49.cell? ⟨gb424, 1, none⟩ = some (.int .i64 t419) := (blk_cell BK424.out 1).trans rfl
        have hcz73_2 : w49.cell? ⟨gb424, 2, none⟩ = some (.slice Ao47 t420.length co47) := (blk_cell BK424.out 2).trans rfl
        have hfz73_0 := blk_frozen BK424.out 0
        have hfz73_1 := blk_frozen BK424.out 1
        have hfz73_2 := blk_frozen BK424.out 2
        have hnb74 := NB414_431.out
        have hnc74 := NB431_414.out
        have hcz75_0 : w49.cell? ⟨gb414, 0, none⟩ = some (.int .i64 a0_0) := (blk_cell BK414.out 0).trans rfl
        have hcz75_1 : w49.cell? ⟨gb414, 1, none⟩ = some (.int .i64 a0_1) := (blk_cell BK414.out 1).trans rfl
        have hcz75_2 : w49.cell? ⟨gb414, 2, none⟩ = some (.slice A0_2 l0_2.length c0_2) := (blk_cell BK414.out 2).trans rfl
        have hfz75_0 := blk_frozen BK414.out 0
        have hfz75_1 := blk_frozen BK414.out 1
        have hfz75_2 := blk_frozen BK414.out 2
        go_wp2
        go_meet
        case rel => exact ⟨_, (true), (by first | rfl | (simp; done) | (simp [*]; done)), H', ⟨by have := HJ2.out; first | omega | exact Nat.le_refl _⟩, ⟨by (with_reducible repeat (first | apply Kd.R_alloc | apply Kd.R_drewN | apply Kd.R_drew)); exact Kd.R_mono (Kd.R_far (p := ⟨gb431, 2, none⟩) (Kd.R_far (p := ⟨gb431, 1, none⟩) (Kd.R_far (p := ⟨gb431, 0, none⟩) (Kd.R_types HO422.out BK431.out (by decide)) (fun _ hk => hk.2) (.int .i64 t425)) (fun _ hk => hk.2) (.int .i64 t426)) (fun _ hk => hk.2) (.slice Ao53 t427.length co53)) (fun _ hk => hk.1.2)⟩, ⟨by (with_reducible repeat (first | apply Kd.R_alloc | apply Kd.R_drewN | apply Kd.R_drew)); exact Kd.R_mono (Kd.R_far (p := ⟨gb431, 2, none⟩) (Kd.R_far (p := ⟨gb431, 1, none⟩) (Kd.R_far (p := ⟨gb431, 0, none⟩) (Kd.R_types HO429.out BK431.out (by decide)) (fun _ hk => hk.2) (.int .i64 t425)) (fun _ hk => hk.2) (.int .i64 t426)) (fun _ hk => hk.2) (.slice Ao53 t427.length co53)) (fun _ hk => hk.1.2)⟩, bf_ BK414, bf_ BK424, ⟨by (with_reducible repeat (first | refine blk_drewN ?_ _ | refine blk_drew ?_ | refine blk_alloc ?_ _)); refine blk_put (cs := #[.int .i64 t425, .int .i64 t426, .slice none 0 0]) ?_ 2 _ rfl; (with_reducible repeat (first | refine blk_drewN ?_ _ | refine blk_drew ?_ | refine blk_alloc ?_ _)); refine blk_put (cs := #[.int .i64 t425, .int .i64 0, .slice none 0 0]) ?_ 1 _ rfl; (with_reducible repeat (first | refine blk_drewN ?_ _ | refine blk_drew ?_ | refine blk_alloc ?_ _)); refine blk_put (cs := #[.int .i64 0, .int .i64 0, .slice none 0 0]) ?_ 0 _ rfl; (with_reducible repeat (first | refine blk_drewN ?_ _ | refine blk_drew ?_ | refine blk_alloc ?_ _)); exact BK431.out⟩, ⟨by repeat (first | (with_reducible first | exact HB.out | apply below_alloc | apply pw_below_drewN | apply below_drew1 | refine below_set ?_ GE414.out | refine below_set ?_ GE424.out | refine below_set ?_ GE431.out) | exact HB.out)⟩⟩
      ·
       rw [if_neg c55] at H
       have c55b0 : (t430 == 0) = false := beq_eq_false_iff_ne.mpr c55
       have c55b1 : (t430 != 0) = true := bne_iff_ne.mpr c55
       have H' := Aside0.mk H
       clear H
       go_wp2
       go_meet
       case rel => exact ⟨_, (true), (by first | rfl | (simp; done) | (simp [*]; done)), H', ⟨by have := HJ2.out; first | omega | exact Nat.le_refl _⟩, ⟨by (with_reducible repeat (first | apply Kd.R_alloc | apply Kd.R_drewN | apply Kd.R_drew)); exact Kd.R_mono (Kd.R_far (p := ⟨gb431, 2, none⟩) (Kd.R_far (p := ⟨gb431, 1, none⟩) (Kd.R_far (p := ⟨gb431, 0, none⟩) (Kd.R_types HO422.out BK431.out (by decide)) (fun _ hk => hk.2) (.int .i64 t425)) (fun _ hk => hk.2) (.int .i64 t426)) (fun _ hk => hk.2) (.slice Ao53 t427.length co53)) (fun _ hk => hk.1.2)⟩, ⟨by (with_reducible repeat (first | apply Kd.R_alloc | apply Kd.R_drewN | apply Kd.R_drew)); exact Kd.R_mono (Kd.R_far (p := ⟨gb431, 2, none⟩) (Kd.R_far (p := ⟨gb431, 1, none⟩) (Kd.R_far (p := ⟨gb431, 0, none⟩) (Kd.R_types HO429.out BK431.out (by decide)) (fun _ hk => hk.2) (.int .i64 t425)) (fun _ hk => hk.2) (.int .i64 t426)) (fun _ hk => hk.2) (.slice Ao53 t427.length co53)) (fun _ hk => hk.1.2)⟩, bf_ BK414, bf_ BK424, ⟨by (with_reducible repeat (first | refine blk_drewN ?_ _ | refine blk_drew ?_ | refine blk_alloc ?_ _)); refine blk_put (cs := #[.int .i64 t425, .int .i64 t426, .slice none 0 0]) ?_ 2 _ rfl; (with_reducible repeat (first | refine blk_drewN ?_ _ | refine blk_drew ?_ | refine blk_alloc ?_ _)); refine blk_put (cs := #[.int .i64 t425, .int .i64 0, .slice none 0 0]) ?_ 1 _ rfl; (with_reducible repeat (first | refine blk_drewN ?_ _ | refine blk_drew ?_ | refine blk_alloc ?_ _)); refine blk_put (cs := #[.int .i64 0, .int .i64 0, .slice none 0 0]) ?_ 0 _ rfl; (with_reducible repeat (first | refine blk_drewN ?_ _ | refine blk_drew ?_ | refine blk_alloc ?_ _)); exact BK431.out⟩, ⟨by repeat (first | (with_reducible first | exact HB.out | apply below_alloc | apply pw_below_drewN | apply below_drew1 | refine below_set ?_ GE414.out | refine below_set ?_ GE424.out | refine below_set ?_ GE431.out) | exact HB.out)⟩⟩
     ·
      rw [if_neg c54] at H
      have c54b0 : (t423 == 0) = false := beq_eq_false_iff_ne.mpr c54
      have c54b1 : (t423 != 0) = true := bne_iff_ne.mpr c54
      (first | rw [c54b0] | (simp only [i64_w, i32_w]; rw [c54b0]) | skip)
      have H' := Aside0.mk H
      clear H
      go_wp2
      go_meet
      case rel => exact ⟨_, (true), (by first | rfl | (simp; done) | (simp [*]; done)), H', ⟨by have := HJ2.out; first | omega | exact Nat.le_refl _⟩, ⟨by (with_reducible repeat (first | apply Kd.R_alloc | apply Kd.R_drewN | apply Kd.R_drew)); exact Kd.R_mono (Kd.R_far (p := ⟨gb431, 2, none⟩) (Kd.R_far (p := ⟨gb431, 1, none⟩) (Kd.R_far (p := ⟨gb431, 0, none⟩) (Kd.R_types HO422.out BK431.out (by decide)) (fun _ hk => hk.2) (.int .i64 t425)) (fun _ hk => hk.2) (.int .i64 t426)) (fun _ hk => hk.2) (.slice Ao53 t427.length co53)) (fun _ hk => hk.1.2)⟩, ⟨by (with_reducible repeat (first | apply Kd.R_alloc | apply Kd.R_drewN | apply Kd.R_drew)); exact Kd.R_mono (Kd.R_far (p := ⟨gb431, 2, none⟩) (Kd.R_far (p := ⟨gb431, 1, none⟩) (Kd.R_far (p := ⟨gb431, 0, none⟩) (Kd.R_types HO429.out BK431.out (by decide)) (fun _ hk => hk.2) (.int .i64 t425)) (fun _ hk => hk.2) (.int .i64 t426)) (fun _ hk => hk.2) (.slice Ao53 t427.length co53)) (fun _ hk => hk.1.2)⟩, bf_ BK414, bf_ BK424, ⟨by (with_reducible repeat (first | refine blk_drewN ?_ _ | refine blk_drew ?_ | refine blk_alloc ?_ _)); refine blk_put (cs := #[.int .i64 t425, .int .i64 t426, .slice none 0 0]) ?_ 2 _ rfl; (with_reducible repeat (first | refine blk_drewN ?_ _ | refine blk_drew ?_ | refine blk_alloc ?_ _)); refine blk_put (cs := #[.int .i64 t425, .int .i64 0, .slice none 0 0]) ?_ 1 _ rfl; (with_reducible repeat (first | refine blk_drewN ?_ _ | refine blk_drew ?_ | refine blk_alloc ?_ _)); refine blk_put (cs := #[.int .i64 0, .int .i64 0, .slice none 0 0]) ?_ 0 _ rfl; (with_reducible repeat (first | refine blk_drewN ?_ _ | refine blk_drew ?_ | refine blk_alloc ?_ _)); exact BK431.out⟩, ⟨by repeat (first | (with_reducible first | exact HB.out | apply below_alloc | apply pw_below_drewN | apply below_drew1 | refine below_set ?_ GE414.out | refine below_set ?_ GE424.out | refine below_set ?_ GE431.out) | exact HB.out)⟩⟩
    case rest =>
     clear HC41
     try clear c1
     try clear c2
     try clear p2
     try clear c3
     try clear c4
     try clear c5
     try clear c6
     try clear p6
     try clear c7
     try clear c8
     try clear c9
     try clear c9b0
     try clear c11
     try clear c12
     try clear c14
     try clear c14b0
     try clear c18
     try clear c19
     try clear c19b0
     try clear c20
     try clear c36
     try clear c45
     try clear c50
     try clear c51
     try clear c54
     try clear c54b0
     try clear c54b1
     try clear c55
     try clear c55b0
     try clear c55b1
     try clear c56
     try clear c56b0
     try clear c56b1
     try clear c57
     try clear c57b0
     try clear c57b1
     try clear c59
     try clear c60
     try clear c62
     try clear p64
     try clear c66
     try clear c67
     try clear c69
     try clear c71
     try clear c72
     try clear c74
     try clear hcz10_0
     try clear hcz10_1
     try clear hcz10_2
     try clear hcz12_0
     try clear hcz12_1
     try clear hcz12_2
     try clear hcz15_0
     try clear hcz15_1
     try clear hcz15_2
     try clear hcz17_0
     try clear hcz17_1
     try clear hcz17_2
     try clear hcz20_0
     try clear hcz20_1
     try clear hcz20_2
     try clear hcz22_0
     try clear hcz22_1
     try clear hcz22_2
     try clear hcz24_0
     try clear hcz24_1
     try clear hcz24_2
     try clear hcz25_0
     try clear hcz25_1
     try clear hcz25_2
     try clear hcz27_0
     try clear hcz27_1
     try clear hcz27_2
     try clear hcz29_0
     try clear hcz29_1
     try clear hcz29_2
     try clear hcz30_0
     try clear hcz30_1
     try clear hcz30_2
     try clear hcz32_0
     try clear hcz32_1
     try clear hcz32_2
     try clear hcz34_0
     try clear hcz34_1
     try clear hcz34_2
     try clear hcz42_0
     try clear hcz42_1
     try clear hcz42_2
     try clear hcz46_0
     try clear hcz46_1
     try clear hcz46_2
     try clear hcz52_0
     try clear hcz52_1
     try clear hcz52_2
     try clear hcz61_0
     try clear hcz61_1
     try clear hcz61_2
     try clear hcz63_0
     try clear hcz63_1
     try clear hcz63_2
     try clear hcz64_0
     try clear hcz64_1
     try clear hcz64_2
     try clear hcz68_0
     try clear hcz68_1
     try clear hcz68_2
     try clear hcz70_0
     try clear hcz70_1
     try clear hcz70_2
     try clear hcz73_0
     try clear hcz73_1
     try clear hcz73_2
     try clear hcz75_0
     try clear hcz75_1
     try clear hcz75_2
     try clear hfz10_0
     try clear hfz10_1
     try clear hfz10_2
     try clear hfz12_0
     try clear hfz12_1
     try clear hfz12_2
     try clear hfz15_0
     try clear hfz15_1
     try clear hfz15_2
     try clear hfz17_0
     try clear hfz17_1
     try clear hfz17_2
     try clear hfz20_0
     try clear hfz20_1
     try clear hfz20_2
     try clear hfz22_0
     try clear hfz22_1
     try clear hfz22_2
     try clear hfz24_0
     try clear hfz24_1
     try clear hfz24_2
     try clear hfz25_0
     try clear hfz25_1
     try clear hfz25_2
     try clear hfz27_0
     try clear hfz27_1
     try clear hfz27_2
     try clear hfz29_0
     try clear hfz29_1
     try clear hfz29_2
     try clear hfz30_0
     try clear hfz30_1
     try clear hfz30_2
     try clear hfz32_0
     try clear hfz32_1
     try clear hfz32_2
     try clear hfz34_0
     try clear hfz34_1
     try clear hfz34_2
     try clear hfz42_0
     try clear hfz42_1
     try clear hfz42_2
     try clear hfz46_0
     try clear hfz46_1
     try clear hfz46_2
     try clear hfz52_0
     try clear hfz52_1
     try clear hfz52_2
     try clear hfz61_0
     try clear hfz61_1
     try clear hfz61_2
     try clear hfz63_0
     try clear hfz63_1
     try clear hfz63_2
     try clear hfz64_0
     try clear hfz64_1
     try clear hfz64_2
     try clear hfz68_0
     try clear hfz68_1
     try clear hfz68_2
     try clear hfz70_0
     try clear hfz70_1
     try clear hfz70_2
     try clear hfz73_0
     try clear hfz73_1
     try clear hfz73_2
     try clear hfz75_0
     try clear hfz75_1
     try clear hfz75_2
     try clear p2
     try clear p6
     obtain ⟨kq, x89_40, rfl, HA, HJ40, HO_425002, HO_432002, BK414, BK424, BK431, HB⟩ := hcut
     cases kq with
     | zero => exact absurd HA.out (by simp [compositorlaw10_ScaleRoundTrip.j1])
     | succ kj40 =>
      have H := HA.out
      clear HA
      simp only [compositorlaw10_ScaleRoundTrip.j1] at H
      by_cases c76 : x89_40 = true
      ·
       subst c76
       have H1 : (some false) = some true := by rw [if_pos rfl] at H; exact H
       clear H
       have H := H1
       clear H1
       exact absurd H (by simp)
      ·
       replace c76 := Bool.eq_false_iff.mpr c76
       subst c76
       have H1 : ((scale_Nearest.f t418 t419 t420 a0_0 a0_1).bind fun bt433 => ((scale_Box.f t418 t419 t420 a0_0 a0_1).bind fun bt440 => ((scale_Nearest.f a0_0 a0_1 l0_2 t418 t419).bind fun bt447 => ((scale_Box.f a0_0 a0_1 l0_2 t418 t419).bind fun bt454 => ((compositorlaw10_same.f kj40 bt433.1 bt433.2.1 bt433.2.2.1 a0_0 a0_1 l0_2).bind fun t461 => (if t461 = true then ((compositorlaw10_same.f kj40 bt440.1 bt440.2.1 bt440.2.2.1 a0_0 a0_1 l0_2).bind fun t462 => (if t462 = true then ((compositorlaw10_same.f kj40 bt447.1 bt447.2.1 bt447.2.2.1 t418 t419 t420).bind fun t463 => (if t463 = true then ((compositorlaw10_same.f kj40 bt454.1 bt454.2.1 bt454.2.2.1 t418 t419 t420).bind fun t464 => (if t464 = true then ((compositorlaw10_exampleHolds.f kj40).bind fun t465 => (some t465)) else (some false))) else (some false))) else (some false))) else (some false))))))) = some true := by rw [if_neg (show ¬ (false = true) by decide)] at H; exact H
       clear H
       have H := H1
       clear H1
       replace H := Option.bind_eq_some_iff.mp H
       obtain ⟨⟨t433, t434, t435, t438⟩, A770, H⟩ := H
       try dsimp only at H
       have A77 := Aside0.mk A770
       clear A770
       replace H := Option.bind_eq_some_iff.mp H
       obtain ⟨⟨t440, t441, t442, t445⟩, A780, H⟩ := H
       try dsimp only at H
       have A78 := Aside0.mk A780
       clear A780
       replace H := Option.bind_eq_some_iff.mp H
       obtain ⟨⟨t447, t448, t449, t452⟩, A790, H⟩ := H
       try dsimp only at H
       have A79 := Aside0.mk A790
       clear A790
       replace H := Option.bind_eq_some_iff.mp H
       obtain ⟨⟨t454, t455, t456, t459⟩, A800, H⟩ := H
       try dsimp only at H
       have A80 := Aside0.mk A800
       clear A800
       replace H := Option.bind_eq_some_iff.mp H
       obtain ⟨t461, A810, H⟩ := H
       try dsimp only at H
       have A81 := Aside0.mk A810
       clear A810
       by_cases c82 : t461 = true
       ·
        subst c82
        have H1 : ((compositorlaw10_same.f kj40 t440 t441 t442 a0_0 a0_1 l0_2).bind fun t462 => (if t462 = true then ((compositorlaw10_same.f kj40 t447 t448 t449 t418 t419 t420).bind fun t463 => (if t463 = true then ((compositorlaw10_same.f kj40 t454 t455 t456 t418 t419 t420).bind fun t464 => (if t464 = true then ((compositorlaw10_exampleHolds.f kj40).bind fun t465 => (some t465)) else (some false))) else (some false))) else (some false))) = some true := by rw [if_pos rfl] at H; exact H
        clear H
        have H := H1
        clear H1
        replace H := Option.bind_eq_some_iff.mp H
        obtain ⟨t462, A830, H⟩ := H
        try dsimp only at H
        have A83 := Aside0.mk A830
        clear A830
        by_cases c84 : t462 = true
        ·
         subst c84
         have H1 : ((compositorlaw10_same.f kj40 t447 t448 t449 t418 t419 t420).bind fun t463 => (if t463 = true then ((compositorlaw10_same.f kj40 t454 t455 t456 t418 t419 t420).bind fun t464 => (if t464 = true then ((compositorlaw10_exampleHolds.f kj40).bind fun t465 => (some t465)) else (some false))) else (some false))) = some true := by rw [if_pos rfl] at H; exact H
         clear H
         have H := H1
         clear H1
         replace H := Option.bind_eq_some_iff.mp H
         obtain ⟨t463, A850, H⟩ := H
         try dsimp only at H
         have A85 := Aside0.mk A850
         clear A850
         by_cases c86 : t463 = true
         ·
          subst c86
          have H1 : ((compositorlaw10_same.f kj40 t454 t455 t456 t418 t419 t420).bind fun t464 => (if t464 = true then ((compositorlaw10_exampleHolds.f kj40).bind fun t465 => (some t465)) else (some false))) = some true := by rw [if_pos rfl] at H; exact H
          clear H
          have H := H1
          clear H1
          replace H := Option.bind_eq_some_iff.mp H
          obtain ⟨t464, A870, H⟩ := H
          try dsimp only at H
          have A87 := Aside0.mk A870
          clear A870
          by_cases c88 : t464 = true
          ·
           subst c88
           have H1 : ((compositorlaw10_exampleHolds.f kj40).bind fun t465 => (some t465)) = some true := by rw [if_pos rfl] at H; exact H
           clear H
           have H := H1
           clear H1
           replace H := Option.bind_eq_some_iff.mp H
           obtain ⟨t465, A890, H⟩ := H
           try dsimp only at H
           have A89 := Aside0.mk A890
           clear A890
           have Hq_ := Option.some.inj H
           have hnb90 := NB424_414.out
           have hnc90 := NB414_424.out
           have hnb91 := NB424_431.out
           have hnc91 := NB431_424.out
           have hcz92_0 : wc.cell? ⟨gb424, 0, none⟩ = some (.int .i64 t418) := (blk_cell BK424.out 0).trans rfl
           have hcz92_1 : wc.cell? ⟨gb424, 1, none⟩ = some (.int .i64 t419) := (blk_cell BK424.out 1).trans rfl
           have hcz92_2 : wc.cell? ⟨gb424, 2, none⟩ = some (.slice Ao47 t420.length co47) := (blk_cell BK424.out 2).trans rfl
           have hfz92_0 := blk_frozen BK424.out 0
           have hfz92_1 := blk_frozen BK424.out 1
           have hfz92_2 := blk_frozen BK424.out 2
           have hnb93 := NB414_431.out
           have hnc93 := NB431_414.out
           have hcz94_0 : wc.cell? ⟨gb414, 0, none⟩ = some (.int .i64 a0_0) := (blk_cell BK414.out 0).trans rfl
           have hcz94_1 : wc.cell? ⟨gb414, 1, none⟩ = some (.int .i64 a0_1) := (blk_cell BK414.out 1).trans rfl
           have hcz94_2 : wc.cell? ⟨gb414, 2, none⟩ = some (.slice A0_2 l0_2.length c0_2) := (blk_cell BK414.out 2).trans rfl
           have hfz94_0 := blk_frozen BK414.out 0
           have hfz94_1 := blk_frozen BK414.out 1
           have hfz94_2 := blk_frozen BK414.out 2
           go_wp2_with (first | ((with_reducible refine gate_callee (f := 13) rfl ?_); refine goesL_ (some 96) rfl rfl Try.func13 (by kernel_rfl) rfl #[.agg #[.int .i64 t418, .int .i64 t419, .slice Ao47 t420.length co47], .int .i64 a0_0, .int .i64 a0_1] rfl (by (try simp only [List.map_toArray, List.map_cons, List.map_nil]) <;> rfl) ?_; (with_reducible refine (scale_Nearest.calls t418 t419 _ _ t420 a0_0 a0_1 t433 t434 t435 t438 _ ?side1 ?side2 A77.out).mono ?_); (case side1 => repeat (first | exact (Kd.R_reads' HO_425002.out).2.2 | (with_reducible refine Kd.C_alloc ?_ _) | (with_reducible refine Kd.C_drewN ?_ _) | (with_reducible refine Kd.C_drew ?_))); (case side2 => exact (Kd.R_reads' HO_425002.out).2.1); rintro e w95 ⟨v436, rfl, ho0, hb⟩; refine ⟨_, rfl, ?_⟩; have n0_ := Aside0.mk (Kd.R_elder' (by (with_reducible repeat (first | apply Kd.R_alloc | apply Kd.R_drewN | apply Kd.R_drew)); exact HO_425002.out) (Kd.R_base ho0) hb); have n1_ := Aside0.mk (Kd.R_elder' (by (with_reducible repeat (first | apply Kd.R_alloc | apply Kd.R_drewN | apply Kd.R_drew)); exact HO_432002.out) (Kd.R_base ho0) hb); have n2_ := Aside0.mk (Kd.R_lower (Kd.R_new' (Kd.R_new' ho0 (Kd.R_lt (by (with_reducible repeat (first | apply Kd.R_alloc | apply Kd.R_drewN | apply Kd.R_drew)); exact HO_425002.out))) (Kd.R_lt (by (with_reducible repeat (first | apply Kd.R_alloc | apply Kd.R_drewN | apply Kd.R_drew)); exact HO_432002.out))) (below_size (hq_ HB))); have n3_ := bb_ BK414 hb; have n4_ := bb_ BK424 hb; have n5_ := bb_ BK431 hb; have n6_ := hb_ HB hb; clear HO_425002; clear HO_432002; clear BK414; clear BK424; clear BK431; clear HB; have HO_425002 := n0_; have HO_432002 := n1_; have HO437 := n2_; have BK414 := n3_; have BK424 := n4_; have BK431 := n5_; have HB := n6_; clear n0_ n1_ n2_ n3_ n4_ n5_ n6_; (try clear hb); (try clear hb2); (try clear hk); (try clear hi); (try clear ho0)) | ((with_reducible refine gate_dst (N := 9) rfl ?_); refine box_event ?hg (N := 9) ?hd (cs := #[.int .i64 0, .int .i64 0, .slice none 0 0]) (t := 24) ?hr ?_; (case hd => rfl); (case hg => rfl); (case hr => first | (go_simp; done) | (go_simp; rfl)); intro gb439 hg w96 hbox hb; have n0_ := Aside0.mk (Kd.R_below (by (with_reducible repeat (first | apply Kd.R_alloc | apply Kd.R_drewN | apply Kd.R_drew)); exact HO_425002.out) hb); have n1_ := Aside0.mk (Kd.R_below (by (with_reducible repeat (first | apply Kd.R_alloc | apply Kd.R_drewN | apply Kd.R_drew)); exact HO_432002.out) hb); have n2_ := Aside0.mk (Kd.R_below (by (with_reducible repeat (first | apply Kd.R_alloc | apply Kd.R_drewN | apply Kd.R_drew)); exact HO437.out) hb); have n3_ := bb_ BK414 hb; have n4_ := bb_ BK424 hb; have n5_ := bb_ BK431 hb; have n6_ := hb_ HB hb; have n7_ := Aside0.mk (hbox); have n8_ := Aside0.mk ((by rw [hg]; exact (below_size (hq_ HB)) : w.heap.size ≤ gb439)); have n9_ := Aside0.mk ((by rw [hg]; exact (below_size (hq_ HB)) : w.heap.size ≤ gb439)); have n10_ := Aside0.mk ((by rw [hg]; exact Nat.ne_of_lt (blk_lt (g := gb414) (o := .cells #[.int .i64 a0_0, .int .i64 a0_1, .slice A0_2 l0_2.length c0_2] 24 (0, 0)) (bq_ BK414)) : gb414 ≠ gb439)); have n11_ := Aside0.mk ((by rw [hg]; exact Nat.ne_of_gt (blk_lt (g := gb414) (o := .cells #[.int .i64 a0_0, .int .i64 a0_1, .slice A0_2 l0_2.length c0_2] 24 (0, 0)) (bq_ BK414)) : gb439 ≠ gb414)); have n12_ := Aside0.mk ((by rw [hg]; exact Nat.ne_of_lt (blk_lt (g := gb424) (o := .cells #[.int .i64 t418, .int .i64 t419, .slice Ao47 t420.length co47] 24 (0, 0)) (bq_ BK424)) : gb424 ≠ gb439)); have n13_ := Aside0.mk ((by rw [hg]; exact Nat.ne_of_gt (blk_lt (g := gb424) (o := .cells #[.int .i64 t418, .int .i64 t419, .slice Ao47 t420.length co47] 24 (0, 0)) (bq_ BK424)) : gb439 ≠ gb424)); have n14_ := Aside0.mk ((by rw [hg]; exact Nat.ne_of_lt (blk_lt (g := gb431) (o := .cells #[.int .i64 t425, .int .i64 t426, .slice Ao53 t427.length co53] 24 (0, 0)) (bq_ BK431)) : gb431 ≠ gb439)); have n15_ := Aside0.mk ((by rw [hg]; exact Nat.ne_of_gt (blk_lt (g := gb431) (o := .cells #[.int .i64 t425, .int .i64 t426, .slice Ao53 t427.length co53] 24 (0, 0)) (bq_ BK431)) : gb439 ≠ gb431)); clear HO_425002; clear HO_432002; clear HO437; clear BK414; clear BK424; clear BK431; clear HB; have HO_425002 := n0_; have HO_432002 := n1_; have HO437 := n2_; have BK414 := n3_; have BK424 := n4_; have BK431 := n5_; have HB := n6_; have BK439 := n7_; have GW439 := n8_; have GE439 := n9_; have NB414_439 := n10_; have NB439_414 := n11_; have NB424_439 := n12_; have NB439_424 := n13_; have NB431_439 := n14_; have NB439_431 := n15_; clear n0_ n1_ n2_ n3_ n4_ n5_ n6_ n7_ n8_ n9_ n10_ n11_ n12_ n13_ n14_ n15_; clear hb hbox hg; have hnb97 := NB439_414.out; have hnc97 := NB414_439.out; have hnb98 := NB439_424.out; have hnc98 := NB424_439.out; have hnb99 := NB439_431.out; have hnc99 := NB431_439.out; have hcz100_0 : w96.cell? ⟨gb439, 0, none⟩ = some (.int .i64 0) := (blk_cell BK439.out 0).trans rfl; have hcz100_1 : w96.cell? ⟨gb439, 1, none⟩ = some (.int .i64 0) := (blk_cell BK439.out 1).trans rfl; have hcz100_2 : w96.cell? ⟨gb439, 2, none⟩ = some (.slice none 0 0) := (blk_cell BK439.out 2).trans rfl; have hfz100_0 := blk_frozen BK439.out 0; have hfz100_1 := blk_frozen BK439.out 1; have hfz100_2 := blk_frozen BK439.out 2; obtain ⟨Ao101, co101, eo101⟩ := Kd.R_slice HO437.out; subst eo101; have hcz102_0 : w96.cell? ⟨gb424, 0, none⟩ = some (.int .i64 t418) := (blk_cell BK424.out 0).trans rfl; have hcz102_1 : w96.cell? ⟨gb424, 1, none⟩ = some (.int .i64 t419) := (blk_cell BK424.out 1).trans rfl; have hcz102_2 : w96.cell? ⟨gb424, 2, none⟩ = some (.slice Ao47 t420.length co47) := (blk_cell BK424.out 2).trans rfl; have hfz102_0 := blk_frozen BK424.out 0; have hfz102_1 := blk_frozen BK424.out 1; have hfz102_2 := blk_frozen BK424.out 2; have hcz103_0 : w96.cell? ⟨gb414, 0, none⟩ = some (.int .i64 a0_0) := (blk_cell BK414.out 0).trans rfl; have hcz103_1 : w96.cell? ⟨gb414, 1, none⟩ = some (.int .i64 a0_1) := (blk_cell BK414.out 1).trans rfl; have hcz103_2 : w96.cell? ⟨gb414, 2, none⟩ = some (.slice A0_2 l0_2.length c0_2) := (blk_cell BK414.out 2).trans rfl; have hfz103_0 := blk_frozen BK414.out 0; have hfz103_1 := blk_frozen BK414.out 1; have hfz103_2 := blk_frozen BK414.out 2) | ((with_reducible refine gate_callee (f := 16) rfl ?_); refine goesL_ (some 105) rfl rfl Try.func16 (by kernel_rfl) rfl #[.agg #[.int .i64 t418, .int .i64 t419, .slice Ao47 t420.length co47], .int .i64 a0_0, .int .i64 a0_1] rfl (by (try simp only [List.map_toArray, List.map_cons, List.map_nil]) <;> rfl) ?_; (with_reducible refine (scale_Box.calls t418 t419 _ _ t420 a0_0 a0_1 t440 t441 t442 t445 _ ?side1 ?side2 A78.out).mono ?_); (case side1 => refine (Kd.R_reads' (e := 43) (base := w.heap.size) (ok := fun k_ => (some k_ ≠ (.slice Ao53 t427.length co53 : Value).ownBlock ∧ some k_ ≠ (.slice Ao101 t435.length co101 : Value).ownBlock)) (n := t420.length) (c := co47) ?_).2.2; exact (by (with_reducible repeat (first | apply Kd.R_alloc | apply Kd.R_drewN | apply Kd.R_drew)); exact (Kd.R_mono (Kd.R_far (p := ⟨gb439, 2, none⟩) (Kd.R_far (p := ⟨gb439, 1, none⟩) (Kd.R_far (p := ⟨gb439, 0, none⟩) (Kd.R_types HO_425002.out BK439.out (by decide)) (fun _ hk => hk.2) (.int .i64 t433)) (fun _ hk => hk.2) (.int .i64 t434)) (fun _ hk => hk.2) (.slice Ao101 t435.length co101)) (fun _ h_ => h_.1)))); (case side2 => exact (Kd.R_reads' HO_425002.out).2.1); rintro e w104 ⟨v443, rfl, ho0, hb⟩; refine ⟨_, rfl, ?_⟩; have n0_ := Aside0.mk (Kd.R_elder' (by (with_reducible repeat (first | apply Kd.R_alloc | apply Kd.R_drewN | apply Kd.R_drew)); exact (Kd.R_mono (Kd.R_far (p := ⟨gb439, 2, none⟩) (Kd.R_far (p := ⟨gb439, 1, none⟩) (Kd.R_far (p := ⟨gb439, 0, none⟩) (Kd.R_types HO_425002.out BK439.out (by decide)) (fun _ hk => hk.2) (.int .i64 t433)) (fun _ hk => hk.2) (.int .i64 t434)) (fun _ hk => hk.2) (.slice Ao101 t435.length co101)) (fun _ h_ => h_.1))) (Kd.R_base ho0) hb); have n1_ := Aside0.mk (Kd.R_elder' (by (with_reducible repeat (first | apply Kd.R_alloc | apply Kd.R_drewN | apply Kd.R_drew)); exact (Kd.R_mono (Kd.R_far (p := ⟨gb439, 2, none⟩) (Kd.R_far (p := ⟨gb439, 1, none⟩) (Kd.R_far (p := ⟨gb439, 0, none⟩) (Kd.R_types HO_432002.out BK439.out (by decide)) (fun _ hk => hk.2) (.int .i64 t433)) (fun _ hk => hk.2) (.int .i64 t434)) (fun _ hk => hk.2) (.slice Ao101 t435.length co101)) (fun _ h_ => h_.1))) (Kd.R_base ho0) hb); have n2_ := Aside0.mk (Kd.R_elder' (by (with_reducible repeat (first | apply Kd.R_alloc | apply Kd.R_drewN | apply Kd.R_drew)); exact (Kd.R_mono (Kd.R_far (p := ⟨gb439, 2, none⟩) (Kd.R_far (p := ⟨gb439, 1, none⟩) (Kd.R_far (p := ⟨gb439, 0, none⟩) (Kd.R_types HO437.out BK439.out (by decide)) (fun _ hk => hk.2) (.int .i64 t433)) (fun _ hk => hk.2) (.int .i64 t434)) (fun _ hk => hk.2) (.slice Ao101 t435.length co101)) (fun _ h_ => h_.1))) (Kd.R_base ho0) hb); have n3_ := Aside0.mk (Kd.R_lower (Kd.R_new' (Kd.R_new' (Kd.R_new' ho0 (Kd.R_lt (by (with_reducible repeat (first | apply Kd.R_alloc | apply Kd.R_drewN | apply Kd.R_drew)); exact (Kd.R_mono (Kd.R_far (p := ⟨gb439, 2, none⟩) (Kd.R_far (p := ⟨gb439, 1, none⟩) (Kd.R_far (p := ⟨gb439, 0, none⟩) (Kd.R_types HO_425002.out BK439.out (by decide)) (fun _ hk => hk.2) (.int .i64 t433)) (fun _ hk => hk.2) (.int .i64 t434)) (fun _ hk => hk.2) (.slice Ao101 t435.length co101)) (fun _ h_ => h_.1))))) (Kd.R_lt (by (with_reducible repeat (first | apply Kd.R_alloc | apply Kd.R_drewN | apply Kd.R_drew)); exact (Kd.R_mono (Kd.R_far (p := ⟨gb439, 2, none⟩) (Kd.R_far (p := ⟨gb439, 1, none⟩) (Kd.R_far (p := ⟨gb439, 0, none⟩) (Kd.R_types HO_432002.out BK439.out (by decide)) (fun _ hk => hk.2) (.int .i64 t433)) (fun _ hk => hk.2) (.int .i64 t434)) (fun _ hk => hk.2) (.slice Ao101 t435.length co101)) (fun _ h_ => h_.1))))) (Kd.R_lt (by (with_reducible repeat (first | apply Kd.R_alloc | apply Kd.R_drewN | apply Kd.R_drew)); exact (Kd.R_mono (Kd.R_far (p := ⟨gb439, 2, none⟩) (Kd.R_far (p := ⟨gb439, 1, none⟩) (Kd.R_far (p := ⟨gb439, 0, none⟩) (Kd.R_types HO437.out BK439.out (by decide)) (fun _ hk => hk.2) (.int .i64 t433)) (fun _ hk => hk.2) (.int .i64 t434)) (fun _ hk => hk.2) (.slice Ao101 t435.length co101)) (fun _ h_ => h_.1))))) (below_size (hq_ HB))); have n4_ := Aside0.mk (blk_below (g := gb414) (o := .cells #[.int .i64 a0_0, .int .i64 a0_1, .slice A0_2 l0_2.length c0_2] 24 (0, 0)) (by (with_reducible repeat (first | refine blk_drewN ?_ _ | refine blk_drew ?_ | refine blk_alloc ?_ _)); refine blk_far ?_ NB414_439.out _; (with_reducible repeat (first | refine blk_drewN ?_ _ | refine blk_drew ?_ | refine blk_alloc ?_ _)); refine blk_far ?_ NB414_439.out _; (with_reducible repeat (first | refine blk_drewN ?_ _ | refine blk_drew ?_ | refine blk_alloc ?_ _)); refine blk_far ?_ NB414_439.out _; (with_reducible repeat (first | refine blk_drewN ?_ _ | refine blk_drew ?_ | refine blk_alloc ?_ _)); exact BK414.out) hb); have n5_ := Aside0.mk (blk_below (g := gb424) (o := .cells #[.int .i64 t418, .int .i64 t419, .slice Ao47 t420.length co47] 24 (0, 0)) (by (with_reducible repeat (first | refine blk_drewN ?_ _ | refine blk_drew ?_ | refine blk_alloc ?_ _)); refine blk_far ?_ NB424_439.out _; (with_reducible repeat (first | refine blk_drewN ?_ _ | refine blk_drew ?_ | refine blk_alloc ?_ _)); refine blk_far ?_ NB424_439.out _; (with_reducible repeat (first | refine blk_drewN ?_ _ | refine blk_drew ?_ | refine blk_alloc ?_ _)); refine blk_far ?_ NB424_439.out _; (with_reducible repeat (first | refine blk_drewN ?_ _ | refine blk_drew ?_ | refine blk_alloc ?_ _)); exact BK424.out) hb); have n6_ := Aside0.mk (blk_below (g := gb431) (o := .cells #[.int .i64 t425, .int .i64 t426, .slice Ao53 t427.length co53] 24 (0, 0)) (by (with_reducible repeat (first | refine blk_drewN ?_ _ | refine blk_drew ?_ | refine blk_alloc ?_ _)); refine blk_far ?_ NB431_439.out _; (with_reducible repeat (first | refine blk_drewN ?_ _ | refine blk_drew ?_ | refine blk_alloc ?_ _)); refine blk_far ?_ NB431_439.out _; (with_reducible repeat (first | refine blk_drewN ?_ _ | refine blk_drew ?_ | refine blk_alloc ?_ _)); refine blk_far ?_ NB431_439.out _; (with_reducible repeat (first | refine blk_drewN ?_ _ | refine blk_drew ?_ | refine blk_alloc ?_ _)); exact BK431.out) hb); have n7_ := Aside0.mk (blk_below (g := gb439) (o := .cells #[.int .i64 t433, .int .i64 t434, .slice Ao101 t435.length co101] 24 (0, 0)) (by (with_reducible repeat (first | refine blk_drewN ?_ _ | refine blk_drew ?_ | refine blk_alloc ?_ _)); refine blk_put (cs := #[.int .i64 t433, .int .i64 t434, .slice none 0 0]) ?_ 2 _ rfl; (with_reducible repeat (first | refine blk_drewN ?_ _ | refine blk_drew ?_ | refine blk_alloc ?_ _)); refine blk_put (cs := #[.int .i64 t433, .int .i64 0, .slice none 0 0]) ?_ 1 _ rfl; (with_reducible repeat (first | refine blk_drewN ?_ _ | refine blk_drew ?_ | refine blk_alloc ?_ _)); refine blk_put (cs := #[.int .i64 0, .int .i64 0, .slice none 0 0]) ?_ 0 _ rfl; (with_reducible repeat (first | refine blk_drewN ?_ _ | refine blk_drew ?_ | refine blk_alloc ?_ _)); exact BK439.out) hb); have n8_ := hb_ HB hb; clear HO_425002; clear HO_432002; clear HO437; clear BK414; clear BK424; clear BK431; clear BK439; clear HB; have HO_425002 := n0_; have HO_432002 := n1_; have HO437 := n2_; have HO444 := n3_; have BK414 := n4_; have BK424 := n5_; have BK431 := n6_; have BK439 := n7_; have HB := n8_; clear n0_ n1_ n2_ n3_ n4_ n5_ n6_ n7_ n8_; (try clear hb); (try clear hb2); (try clear hk); (try clear hi); (try clear ho0)) | ((with_reducible refine gate_dst (N := 11) rfl ?_); refine box_event ?hg (N := 11) ?hd (cs := #[.int .i64 0, .int .i64 0, .slice none 0 0]) (t := 24) ?hr ?_; (case hd => rfl); (case hg => rfl); (case hr => first | (go_simp; done) | (go_simp; rfl)); intro gb446 hg w105 hbox hb; have n0_ := Aside0.mk (Kd.R_below (by (with_reducible repeat (first | apply Kd.R_alloc | apply Kd.R_drewN | apply Kd.R_drew)); exact HO_425002.out) hb); have n1_ := Aside0.mk (Kd.R_below (by (with_reducible repeat (first | apply Kd.R_alloc | apply Kd.R_drewN | apply Kd.R_drew)); exact HO_432002.out) hb); have n2_ := Aside0.mk (Kd.R_below (by (with_reducible repeat (first | apply Kd.R_alloc | apply Kd.R_drewN | apply Kd.R_drew)); exact HO437.out) hb); have n3_ := Aside0.mk (Kd.R_below (by (with_reducible repeat (first | apply Kd.R_alloc | apply Kd.R_drewN | apply Kd.R_drew)); exact HO444.out) hb); have n4_ := bb_ BK414 hb; have n5_ := bb_ BK424 hb; have n6_ := bb_ BK431 hb; have n7_ := bb_ BK439 hb; have n8_ := hb_ HB hb; have n9_ := Aside0.mk (hbox); have n10_ := Aside0.mk ((by rw [hg]; exact (below_size (hq_ HB)) : w.heap.size ≤ gb446)); have n11_ := Aside0.mk ((by rw [hg]; exact (below_size (hq_ HB)) : w.heap.size ≤ gb446)); have n12_ := Aside0.mk ((by rw [hg]; exact Nat.ne_of_lt (blk_lt (g := gb414) (o := .cells #[.int .i64 a0_0, .int .i64 a0_1, .slice A0_2 l0_2.length c0_2] 24 (0, 0)) (bq_ BK414)) : gb414 ≠ gb446)); have n13_ := Aside0.mk ((by rw [hg]; exact Nat.ne_of_gt (blk_lt (g := gb414) (o := .cells #[.int .i64 a0_0, .int .i64 a0_1, .slice A0_2 l0_2.length c0_2] 24 (0, 0)) (bq_ BK414)) : gb446 ≠ gb414)); have n14_ := Aside0.mk ((by rw [hg]; exact Nat.ne_of_lt (blk_lt (g := gb424) (o := .cells #[.int .i64 t418, .int .i64 t419, .slice Ao47 t420.length co47] 24 (0, 0)) (bq_ BK424)) : gb424 ≠ gb446)); have n15_ := Aside0.mk ((by rw [hg]; exact Nat.ne_of_gt (blk_lt (g := gb424) (o := .cells #[.int .i64 t418, .int .i64 t419, .slice Ao47 t420.length co47] 24 (0, 0)) (bq_ BK424)) : gb446 ≠ gb424)); have n16_ := Aside0.mk ((by rw [hg]; exact Nat.ne_of_lt (blk_lt (g := gb431) (o := .cells #[.int .i64 t425, .int .i64 t426, .slice Ao53 t427.length co53] 24 (0, 0)) (bq_ BK431)) : gb431 ≠ gb446)); have n17_ := Aside0.mk ((by rw [hg]; exact Nat.ne_of_gt (blk_lt (g := gb431) (o := .cells #[.int .i64 t425, .int .i64 t426, .slice Ao53 t427.length co53] 24 (0, 0)) (bq_ BK431)) : gb446 ≠ gb431)); have n18_ := Aside0.mk ((by rw [hg]; exact Nat.ne_of_lt (blk_lt (g := gb439) (o := .cells #[.int .i64 t433, .int .i64 t434, .slice Ao101 t435.length co101] 24 (0, 0)) (bq_ BK439)) : gb439 ≠ gb446)); have n19_ := Aside0.mk ((by rw [hg]; exact Nat.ne_of_gt (blk_lt (g := gb439) (o := .cells #[.int .i64 t433, .int .i64 t434, .slice Ao101 t435.length co101] 24 (0, 0)) (bq_ BK439)) : gb446 ≠ gb439)); clear HO_425002; clear HO_432002; clear HO437; clear HO444; clear BK414; clear BK424; clear BK431; clear BK439; clear HB; have HO_425002 := n0_; have HO_432002 := n1_; have HO437 := n2_; have HO444 := n3_; have BK414 := n4_; have BK424 := n5_; have BK431 := n6_; have BK439 := n7_; have HB := n8_; have BK446 := n9_; have GW446 := n10_; have GE446 := n11_; have NB414_446 := n12_; have NB446_414 := n13_; have NB424_446 := n14_; have NB446_424 := n15_; have NB431_446 := n16_; have NB446_431 := n17_; have NB439_446 := n18_; have NB446_439 := n19_; clear n0_ n1_ n2_ n3_ n4_ n5_ n6_ n7_ n8_ n9_ n10_ n11_ n12_ n13_ n14_ n15_ n16_ n17_ n18_ n19_; clear hb hbox hg; have hnb106 := NB446_414.out; have hnc106 := NB414_446.out; have hnb107 := NB446_424.out; have hnc107 := NB424_446.out; have hnb108 := NB446_431.out; have hnc108 := NB431_446.out; have hnb109 := NB446_439.out; have hnc109 := NB439_446.out; have hcz110_0 : w105.cell? ⟨gb446, 0, none⟩ = some (.int .i64 0) := (blk_cell BK446.out 0).trans rfl; have hcz110_1 : w105.cell? ⟨gb446, 1, none⟩ = some (.int .i64 0) := (blk_cell BK446.out 1).trans rfl; have hcz110_2 : w105.cell? ⟨gb446, 2, none⟩ = some (.slice none 0 0) := (blk_cell BK446.out 2).trans rfl; have hfz110_0 := blk_frozen BK446.out 0; have hfz110_1 := blk_frozen BK446.out 1; have hfz110_2 := blk_frozen BK446.out 2; obtain ⟨Ao111, co111, eo111⟩ := Kd.R_slice HO444.out; subst eo111; have hcz112_0 : w105.cell? ⟨gb414, 0, none⟩ = some (.int .i64 a0_0) := (blk_cell BK414.out 0).trans rfl; have hcz112_1 : w105.cell? ⟨gb414, 1, none⟩ = some (.int .i64 a0_1) := (blk_cell BK414.out 1).trans rfl; have hcz112_2 : w105.cell? ⟨gb414, 2, none⟩ = some (.slice A0_2 l0_2.length c0_2) := (blk_cell BK414.out 2).trans rfl; have hfz112_0 := blk_frozen BK414.out 0; have hfz112_1 := blk_frozen BK414.out 1; have hfz112_2 := blk_frozen BK414.out 2; have hcz113_0 : w105.cell? ⟨gb424, 0, none⟩ = some (.int .i64 t418) := (blk_cell BK424.out 0).trans rfl; have hcz113_1 : w105.cell? ⟨gb424, 1, none⟩ = some (.int .i64 t419) := (blk_cell BK424.out 1).trans rfl; have hcz113_2 : w105.cell? ⟨gb424, 2, none⟩ = some (.slice Ao47 t420.length co47) := (blk_cell BK424.out 2).trans rfl; have hfz113_0 := blk_frozen BK424.out 0; have hfz113_1 := blk_frozen BK424.out 1; have hfz113_2 := blk_frozen BK424.out 2) | ((with_reducible refine gate_callee (f := 13) rfl ?_); refine goesL_ (some 114) rfl rfl Try.func13 (by kernel_rfl) rfl #[.agg #[.int .i64 a0_0, .int .i64 a0_1, .slice A0_2 l0_2.length c0_2], .int .i64 t418, .int .i64 t419] rfl (by (try simp only [List.map_toArray, List.map_cons, List.map_nil]) <;> rfl) ?_; (with_reducible refine (scale_Nearest.calls a0_0 a0_1 _ _ l0_2 t418 t419 t447 t448 t449 t452 _ ?side1 ?side2 A79.out).mono ?_); (case side1 => exact Kd.C_below HR0_2.out (hq_ HB)); (case side2 => exact HC0_2.out); rintro e w114 ⟨v450, rfl, ho0, hb⟩; refine ⟨_, rfl, ?_⟩; have n0_ := Aside0.mk (Kd.R_elder' (by (with_reducible repeat (first | apply Kd.R_alloc | apply Kd.R_drewN | apply Kd.R_drew)); exact (Kd.R_mono (Kd.R_far (p := ⟨gb446, 2, none⟩) (Kd.R_far (p := ⟨gb446, 1, none⟩) (Kd.R_far (p := ⟨gb446, 0, none⟩) (Kd.R_types HO_425002.out BK446.out (by decide)) (fun _ hk => hk.2) (.int .i64 t440)) (fun _ hk => hk.2) (.int .i64 t441)) (fun _ hk => hk.2) (.slice Ao111 t442.length co111)) (fun _ h_ => h_.1))) (Kd.R_base ho0) hb); have n1_ := Aside0.mk (Kd.R_elder' (by (with_reducible repeat (first | apply Kd.R_alloc | apply Kd.R_drewN | apply Kd.R_drew)); exact (Kd.R_mono (Kd.R_far (p := ⟨gb446, 2, none⟩) (Kd.R_far (p := ⟨gb446, 1, none⟩) (Kd.R_far (p := ⟨gb446, 0, none⟩) (Kd.R_types HO_432002.out BK446.out (by decide)) (fun _ hk => hk.2) (.int .i64 t440)) (fun _ hk => hk.2) (.int .i64 t441)) (fun _ hk => hk.2) (.slice Ao111 t442.length co111)) (fun _ h_ => h_.1))) (Kd.R_base ho0) hb); have n2_ := Aside0.mk (Kd.R_elder' (by (with_reducible repeat (first | apply Kd.R_alloc | apply Kd.R_drewN | apply Kd.R_drew)); exact (Kd.R_mono (Kd.R_far (p := ⟨gb446, 2, none⟩) (Kd.R_far (p := ⟨gb446, 1, none⟩) (Kd.R_far (p := ⟨gb446, 0, none⟩) (Kd.R_types HO437.out BK446.out (by decide)) (fun _ hk => hk.2) (.int .i64 t440)) (fun _ hk => hk.2) (.int .i64 t441)) (fun _ hk => hk.2) (.slice Ao111 t442.length co111)) (fun _ h_ => h_.1))) (Kd.R_base ho0) hb); have n3_ := Aside0.mk (Kd.R_elder' (by (with_reducible repeat (first | apply Kd.R_alloc | apply Kd.R_drewN | apply Kd.R_drew)); exact (Kd.R_mono (Kd.R_far (p := ⟨gb446, 2, none⟩) (Kd.R_far (p := ⟨gb446, 1, none⟩) (Kd.R_far (p := ⟨gb446, 0, none⟩) (Kd.R_types HO444.out BK446.out (by decide)) (fun _ hk => hk.2) (.int .i64 t440)) (fun _ hk => hk.2) (.int .i64 t441)) (fun _ hk => hk.2) (.slice Ao111 t442.length co111)) (fun _ h_ => h_.1))) (Kd.R_base ho0) hb); have n4_ := Aside0.mk (Kd.R_lower (Kd.R_new' (Kd.R_new' (Kd.R_new' (Kd.R_new' ho0 (Kd.R_lt (by (with_reducible repeat (first | apply Kd.R_alloc | apply Kd.R_drewN | apply Kd.R_drew)); exact (Kd.R_mono (Kd.R_far (p := ⟨gb446, 2, none⟩) (Kd.R_far (p := ⟨gb446, 1, none⟩) (Kd.R_far (p := ⟨gb446, 0, none⟩) (Kd.R_types HO_425002.out BK446.out (by decide)) (fun _ hk => hk.2) (.int .i64 t440)) (fun _ hk => hk.2) (.int .i64 t441)) (fun _ hk => hk.2) (.slice Ao111 t442.length co111)) (fun _ h_ => h_.1))))) (Kd.R_lt (by (with_reducible repeat (first | apply Kd.R_alloc | apply Kd.R_drewN | apply Kd.R_drew)); exact (Kd.R_mono (Kd.R_far (p := ⟨gb446, 2, none⟩) (Kd.R_far (p := ⟨gb446, 1, none⟩) (Kd.R_far (p := ⟨gb446, 0, none⟩) (Kd.R_types HO_432002.out BK446.out (by decide)) (fun _ hk => hk.2) (.int .i64 t440)) (fun _ hk => hk.2) (.int .i64 t441)) (fun _ hk => hk.2) (.slice Ao111 t442.length co111)) (fun _ h_ => h_.1))))) (Kd.R_lt (by (with_reducible repeat (first | apply Kd.R_alloc | apply Kd.R_drewN | apply Kd.R_drew)); exact (Kd.R_mono (Kd.R_far (p := ⟨gb446, 2, none⟩) (Kd.R_far (p := ⟨gb446, 1, none⟩) (Kd.R_far (p := ⟨gb446, 0, none⟩) (Kd.R_types HO437.out BK446.out (by decide)) (fun _ hk => hk.2) (.int .i64 t440)) (fun _ hk => hk.2) (.int .i64 t441)) (fun _ hk => hk.2) (.slice Ao111 t442.length co111)) (fun _ h_ => h_.1))))) (Kd.R_lt (by (with_reducible repeat (first | apply Kd.R_alloc | apply Kd.R_drewN | apply Kd.R_drew)); exact (Kd.R_mono (Kd.R_far (p := ⟨gb446, 2, none⟩) (Kd.R_far (p := ⟨gb446, 1, none⟩) (Kd.R_far (p := ⟨gb446, 0, none⟩) (Kd.R_types HO444.out BK446.out (by decide)) (fun _ hk => hk.2) (.int .i64 t440)) (fun _ hk => hk.2) (.int .i64 t441)) (fun _ hk => hk.2) (.slice Ao111 t442.length co111)) (fun _ h_ => h_.1))))) (below_size (hq_ HB))); have n5_ := Aside0.mk (blk_below (g := gb414) (o := .cells #[.int .i64 a0_0, .int .i64 a0_1, .slice A0_2 l0_2.length c0_2] 24 (0, 0)) (by (with_reducible repeat (first | refine blk_drewN ?_ _ | refine blk_drew ?_ | refine blk_alloc ?_ _)); refine blk_far ?_ NB414_446.out _; (with_reducible repeat (first | refine blk_drewN ?_ _ | refine blk_drew ?_ | refine blk_alloc ?_ _)); refine blk_far ?_ NB414_446.out _; (with_reducible repeat (first | refine blk_drewN ?_ _ | refine blk_drew ?_ | refine blk_alloc ?_ _)); refine blk_far ?_ NB414_446.out _; (with_reducible repeat (first | refine blk_drewN ?_ _ | refine blk_drew ?_ | refine blk_alloc ?_ _)); exact BK414.out) hb); have n6_ := Aside0.mk (blk_below (g := gb424) (o := .cells #[.int .i64 t418, .int .i64 t419, .slice Ao47 t420.length co47] 24 (0, 0)) (by (with_reducible repeat (first | refine blk_drewN ?_ _ | refine blk_drew ?_ | refine blk_alloc ?_ _)); refine blk_far ?_ NB424_446.out _; (with_reducible repeat (first | refine blk_drewN ?_ _ | refine blk_drew ?_ | refine blk_alloc ?_ _)); refine blk_far ?_ NB424_446.out _; (with_reducible repeat (first | refine blk_drewN ?_ _ | refine blk_drew ?_ | refine blk_alloc ?_ _)); refine blk_far ?_ NB424_446.out _; (with_reducible repeat (first | refine blk_drewN ?_ _ | refine blk_drew ?_ | refine blk_alloc ?_ _)); exact BK424.out) hb); have n7_ := Aside0.mk (blk_below (g := gb431) (o := .cells #[.int .i64 t425, .int .i64 t426, .slice Ao53 t427.length co53] 24 (0, 0)) (by (with_reducible repeat (first | refine blk_drewN ?_ _ | refine blk_drew ?_ | refine blk_alloc ?_ _)); refine blk_far ?_ NB431_446.out _; (with_reducible repeat (first | refine blk_drewN ?_ _ | refine blk_drew ?_ | refine blk_alloc ?_ _)); refine blk_far ?_ NB431_446.out _; (with_reducible repeat (first | refine blk_drewN ?_ _ | refine blk_drew ?_ | refine blk_alloc ?_ _)); refine blk_far ?_ NB431_446.out _; (with_reducible repeat (first | refine blk_drewN ?_ _ | refine blk_drew ?_ | refine blk_alloc ?_ _)); exact BK431.out) hb); have n8_ := Aside0.mk (blk_below (g := gb439) (o := .cells #[.int .i64 t433, .int .i64 t434, .slice Ao101 t435.length co101] 24 (0, 0)) (by (with_reducible repeat (first | refine blk_drewN ?_ _ | refine blk_drew ?_ | refine blk_alloc ?_ _)); refine blk_far ?_ NB439_446.out _; (with_reducible repeat (first | refine blk_drewN ?_ _ | refine blk_drew ?_ | refine blk_alloc ?_ _)); refine blk_far ?_ NB439_446.out _; (with_reducible repeat (first | refine blk_drewN ?_ _ | refine blk_drew ?_ | refine blk_alloc ?_ _)); refine blk_far ?_ NB439_446.out _; (with_reducible repeat (first | refine blk_drewN ?_ _ | refine blk_drew ?_ | refine blk_alloc ?_ _)); exact BK439.out) hb); have n9_ := Aside0.mk (blk_below (g := gb446) (o := .cells #[.int .i64 t440, .int .i64 t441, .slice Ao111 t442.length co111] 24 (0, 0)) (by (with_reducible repeat (first | refine blk_drewN ?_ _ | refine blk_drew ?_ | refine blk_alloc ?_ _)); refine blk_put (cs := #[.int .i64 t440, .int .i64 t441, .slice none 0 0]) ?_ 2 _ rfl; (with_reducible repeat (first | refine blk_drewN ?_ _ | refine blk_drew ?_ | refine blk_alloc ?_ _)); refine blk_put (cs := #[.int .i64 t440, .int .i64 0, .slice none 0 0]) ?_ 1 _ rfl; (with_reducible repeat (first | refine blk_drewN ?_ _ | refine blk_drew ?_ | refine blk_alloc ?_ _)); refine blk_put (cs := #[.int .i64 0, .int .i64 0, .slice none 0 0]) ?_ 0 _ rfl; (with_reducible repeat (first | refine blk_drewN ?_ _ | refine blk_drew ?_ | refine blk_alloc ?_ _)); exact BK446.out) hb); have n10_ := hb_ HB hb; clear HO_425002; clear HO_432002; clear HO437; clear HO444; clear BK414; clear BK424; clear BK431; clear BK439; clear BK446; clear HB; have HO_425002 := n0_; have HO_432002 := n1_; have HO437 := n2_; have HO444 := n3_; have HO451 := n4_; have BK414 := n5_; have BK424 := n6_; have BK431 := n7_; have BK439 := n8_; have BK446 := n9_; have HB := n10_; clear n0_ n1_ n2_ n3_ n4_ n5_ n6_ n7_ n8_ n9_ n10_; (try clear hb); (try clear hb2); (try clear hk); (try clear hi); (try clear ho0)) | ((with_reducible refine gate_dst (N := 13) rfl ?_); refine box_event ?hg (N := 13) ?hd (cs := #[.int .i64 0, .int .i64 0, .slice none 0 0]) (t := 24) ?hr ?_; (case hd => rfl); (case hg => rfl); (case hr => first | (go_simp; done) | (go_simp; rfl)); intro gb453 hg w115 hbox hb; have n0_ := Aside0.mk (Kd.R_below (by (with_reducible repeat (first | apply Kd.R_alloc | apply Kd.R_drewN | apply Kd.R_drew)); exact HO_425002.out) hb); have n1_ := Aside0.mk (Kd.R_below (by (with_reducible repeat (first | apply Kd.R_alloc | apply Kd.R_drewN | apply Kd.R_drew)); exact HO_432002.out) hb); have n2_ := Aside0.mk (Kd.R_below (by (with_reducible repeat (first | apply Kd.R_alloc | apply Kd.R_drewN | apply Kd.R_drew)); exact HO437.out) hb); have n3_ := Aside0.mk (Kd.R_below (by (with_reducible repeat (first | apply Kd.R_alloc | apply Kd.R_drewN | apply Kd.R_drew)); exact HO444.out) hb); have n4_ := Aside0.mk (Kd.R_below (by (with_reducible repeat (first | apply Kd.R_alloc | apply Kd.R_drewN | apply Kd.R_drew)); exact HO451.out) hb); have n5_ := bb_ BK414 hb; have n6_ := bb_ BK424 hb; have n7_ := bb_ BK431 hb; have n8_ := bb_ BK439 hb; have n9_ := bb_ BK446 hb; have n10_ := hb_ HB hb; have n11_ := Aside0.mk (hbox); have n12_ := Aside0.mk ((by rw [hg]; exact (below_size (hq_ HB)) : w.heap.size ≤ gb453)); have n13_ := Aside0.mk ((by rw [hg]; exact (below_size (hq_ HB)) : w.heap.size ≤ gb453)); have n14_ := Aside0.mk ((by rw [hg]; exact Nat.ne_of_lt (blk_lt (g := gb414) (o := .cells #[.int .i64 a0_0, .int .i64 a0_1, .slice A0_2 l0_2.length c0_2] 24 (0, 0)) (bq_ BK414)) : gb414 ≠ gb453)); have n15_ := Aside0.mk ((by rw [hg]; exact Nat.ne_of_gt (blk_lt (g := gb414) (o := .cells #[.int .i64 a0_0, .int .i64 a0_1, .slice A0_2 l0_2.length c0_2] 24 (0, 0)) (bq_ BK414)) : gb453 ≠ gb414)); have n16_ := Aside0.mk ((by rw [hg]; exact Nat.ne_of_lt (blk_lt (g := gb424) (o := .cells #[.int .i64 t418, .int .i64 t419, .slice Ao47 t420.length co47] 24 (0, 0)) (bq_ BK424)) : gb424 ≠ gb453)); have n17_ := Aside0.mk ((by rw [hg]; exact Nat.ne_of_gt (blk_lt (g := gb424) (o := .cells #[.int .i64 t418, .int .i64 t419, .slice Ao47 t420.length co47] 24 (0, 0)) (bq_ BK424)) : gb453 ≠ gb424)); have n18_ := Aside0.mk ((by rw [hg]; exact Nat.ne_of_lt (blk_lt (g := gb431) (o := .cells #[.int .i64 t425, .int .i64 t426, .slice Ao53 t427.length co53] 24 (0, 0)) (bq_ BK431)) : gb431 ≠ gb453)); have n19_ := Aside0.mk ((by rw [hg]; exact Nat.ne_of_gt (blk_lt (g := gb431) (o := .cells #[.int .i64 t425, .int .i64 t426, .slice Ao53 t427.length co53] 24 (0, 0)) (bq_ BK431)) : gb453 ≠ gb431)); have n20_ := Aside0.mk ((by rw [hg]; exact Nat.ne_of_lt (blk_lt (g := gb439) (o := .cells #[.int .i64 t433, .int .i64 t434, .slice Ao101 t435.length co101] 24 (0, 0)) (bq_ BK439)) : gb439 ≠ gb453)); have n21_ := Aside0.mk ((by rw [hg]; exact Nat.ne_of_gt (blk_lt (g := gb439) (o := .cells #[.int .i64 t433, .int .i64 t434, .slice Ao101 t435.length co101] 24 (0, 0)) (bq_ BK439)) : gb453 ≠ gb439)); have n22_ := Aside0.mk ((by rw [hg]; exact Nat.ne_of_lt (blk_lt (g := gb446) (o := .cells #[.int .i64 t440, .int .i64 t441, .slice Ao111 t442.length co111] 24 (0, 0)) (bq_ BK446)) : gb446 ≠ gb453)); have n23_ := Aside0.mk ((by rw [hg]; exact Nat.ne_of_gt (blk_lt (g := gb446) (o := .cells #[.int .i64 t440, .int .i64 t441, .slice Ao111 t442.length co111] 24 (0, 0)) (bq_ BK446)) : gb453 ≠ gb446)); clear HO_425002; clear HO_432002; clear HO437; clear HO444; clear HO451; clear BK414; clear BK424; clear BK431; clear BK439; clear BK446; clear HB; have HO_425002 := n0_; have HO_432002 := n1_; have HO437 := n2_; have HO444 := n3_; have HO451 := n4_; have BK414 := n5_; have BK424 := n6_; have BK431 := n7_; have BK439 := n8_; have BK446 := n9_; have HB := n10_; have BK453 := n11_; have GW453 := n12_; have GE453 := n13_; have NB414_453 := n14_; have NB453_414 := n15_; have NB424_453 := n16_; have NB453_424 := n17_; have NB431_453 := n18_; have NB453_431 := n19_; have NB439_453 := n20_; have NB453_439 := n21_; have NB446_453 := n22_; have NB453_446 := n23_; clear n0_ n1_ n2_ n3_ n4_ n5_ n6_ n7_ n8_ n9_ n10_ n11_ n12_ n13_ n14_ n15_ n16_ n17_ n18_ n19_ n20_ n21_ n22_ n23_; clear hb hbox hg; have hnb116 := NB453_414.out; have hnc116 := NB414_453.out; have hnb117 := NB453_424.out; have hnc117 := NB424_453.out; have hnb118 := NB453_431.out; have hnc118 := NB431_453.out; have hnb119 := NB453_439.out; have hnc119 := NB439_453.out; have hnb120 := NB453_446.out; have hnc120 := NB446_453.out; have hcz121_0 : w115.cell? ⟨gb453, 0, none⟩ = some (.int .i64 0) := (blk_cell BK453.out 0).trans rfl; have hcz121_1 : w115.cell? ⟨gb453, 1, none⟩ = some (.int .i64 0) := (blk_cell BK453.out 1).trans rfl; have hcz121_2 : w115.cell? ⟨gb453, 2, none⟩ = some (.slice none 0 0) := (blk_cell BK453.out 2).trans rfl; have hfz121_0 := blk_frozen BK453.out 0; have hfz121_1 := blk_frozen BK453.out 1; have hfz121_2 := blk_frozen BK453.out 2; obtain ⟨Ao122, co122, eo122⟩ := Kd.R_slice HO451.out; subst eo122; have hcz123_0 : w115.cell? ⟨gb414, 0, none⟩ = some (.int .i64 a0_0) := (blk_cell BK414.out 0).trans rfl; have hcz123_1 : w115.cell? ⟨gb414, 1, none⟩ = some (.int .i64 a0_1) := (blk_cell BK414.out 1).trans rfl; have hcz123_2 : w115.cell? ⟨gb414, 2, none⟩ = some (.slice A0_2 l0_2.length c0_2) := (blk_cell BK414.out 2).trans rfl; have hfz123_0 := blk_frozen BK414.out 0; have hfz123_1 := blk_frozen BK414.out 1; have hfz123_2 := blk_frozen BK414.out 2; have hcz124_0 : w115.cell? ⟨gb424, 0, none⟩ = some (.int .i64 t418) := (blk_cell BK424.out 0).trans rfl; have hcz124_1 : w115.cell? ⟨gb424, 1, none⟩ = some (.int .i64 t419) := (blk_cell BK424.out 1).trans rfl; have hcz124_2 : w115.cell? ⟨gb424, 2, none⟩ = some (.slice Ao47 t420.length co47) := (blk_cell BK424.out 2).trans rfl; have hfz124_0 := blk_frozen BK424.out 0; have hfz124_1 := blk_frozen BK424.out 1; have hfz124_2 := blk_frozen BK424.out 2) | ((with_reducible refine gate_callee (f := 16) rfl ?_); refine goesL_ (some 123) rfl rfl Try.func16 (by kernel_rfl) rfl #[.agg #[.int .i64 a0_0, .int .i64 a0_1, .slice A0_2 l0_2.length c0_2], .int .i64 t418, .int .i64 t419] rfl (by (try simp only [List.map_toArray, List.map_cons, List.map_nil]) <;> rfl) ?_; (with_reducible refine (scale_Box.calls a0_0 a0_1 _ _ l0_2 t418 t419 t454 t455 t456 t459 _ ?side1 ?side2 A80.out).mono ?_); (case side1 => exact Kd.C_below HR0_2.out (hq_ HB)); (case side2 => exact HC0_2.out); rintro e w125 ⟨v457, rfl, ho0, hb⟩; refine ⟨_, rfl, ?_⟩; have n0_ := Aside0.mk (Kd.R_elder' (by (with_reducible repeat (first | apply Kd.R_alloc | apply Kd.R_drewN | apply Kd.R_drew)); exact (Kd.R_mono (Kd.R_far (p := ⟨gb453, 2, none⟩) (Kd.R_far (p := ⟨gb453, 1, none⟩) (Kd.R_far (p := ⟨gb453, 0, none⟩) (Kd.R_types HO_425002.out BK453.out (by decide)) (fun _ hk => hk.2) (.int .i64 t447)) (fun _ hk => hk.2) (.int .i64 t448)) (fun _ hk => hk.2) (.slice Ao122 t449.length co122)) (fun _ h_ => h_.1))) (Kd.R_base ho0) hb); have n1_ := Aside0.mk (Kd.R_elder' (by (with_reducible repeat (first | apply Kd.R_alloc | apply Kd.R_drewN | apply Kd.R_drew)); exact (Kd.R_mono (Kd.R_far (p := ⟨gb453, 2, none⟩) (Kd.R_far (p := ⟨gb453, 1, none⟩) (Kd.R_far (p := ⟨gb453, 0, none⟩) (Kd.R_types HO_432002.out BK453.out (by decide)) (fun _ hk => hk.2) (.int .i64 t447)) (fun _ hk => hk.2) (.int .i64 t448)) (fun _ hk => hk.2) (.slice Ao122 t449.length co122)) (fun _ h_ => h_.1))) (Kd.R_base ho0) hb); have n2_ := Aside0.mk (Kd.R_elder' (by (with_reducible repeat (first | apply Kd.R_alloc | apply Kd.R_drewN | apply Kd.R_drew)); exact (Kd.R_mono (Kd.R_far (p := ⟨gb453, 2, none⟩) (Kd.R_far (p := ⟨gb453, 1, none⟩) (Kd.R_far (p := ⟨gb453, 0, none⟩) (Kd.R_types HO437.out BK453.out (by decide)) (fun _ hk => hk.2) (.int .i64 t447)) (fun _ hk => hk.2) (.int .i64 t448)) (fun _ hk => hk.2) (.slice Ao122 t449.length co122)) (fun _ h_ => h_.1))) (Kd.R_base ho0) hb); have n3_ := Aside0.mk (Kd.R_elder' (by (with_reducible repeat (first | apply Kd.R_alloc | apply Kd.R_drewN | apply Kd.R_drew)); exact (Kd.R_mono (Kd.R_far (p := ⟨gb453, 2, none⟩) (Kd.R_far (p := ⟨gb453, 1, none⟩) (Kd.R_far (p := ⟨gb453, 0, none⟩) (Kd.R_types HO444.out BK453.out (by decide)) (fun _ hk => hk.2) (.int .i64 t447)) (fun _ hk => hk.2) (.int .i64 t448)) (fun _ hk => hk.2) (.slice Ao122 t449.length co122)) (fun _ h_ => h_.1))) (Kd.R_base ho0) hb); have n4_ := Aside0.mk (Kd.R_elder' (by (with_reducible repeat (first | apply Kd.R_alloc | apply Kd.R_drewN | apply Kd.R_drew)); exact (Kd.R_mono (Kd.R_far (p := ⟨gb453, 2, none⟩) (Kd.R_far (p := ⟨gb453, 1, none⟩) (Kd.R_far (p := ⟨gb453, 0, none⟩) (Kd.R_types HO451.out BK453.out (by decide)) (fun _ hk => hk.2) (.int .i64 t447)) (fun _ hk => hk.2) (.int .i64 t448)) (fun _ hk => hk.2) (.slice Ao122 t449.length co122)) (fun _ h_ => h_.1))) (Kd.R_base ho0) hb); have n5_ := Aside0.mk (Kd.R_lower (Kd.R_new' (Kd.R_new' (Kd.R_new' (Kd.R_new' (Kd.R_new' ho0 (Kd.R_lt (by (with_reducible repeat (first | apply Kd.R_alloc | apply Kd.R_drewN | apply Kd.R_drew)); exact (Kd.R_mono (Kd.R_far (p := ⟨gb453, 2, none⟩) (Kd.R_far (p := ⟨gb453, 1, none⟩) (Kd.R_far (p := ⟨gb453, 0, none⟩) (Kd.R_types HO_425002.out BK453.out (by decide)) (fun _ hk => hk.2) (.int .i64 t447)) (fun _ hk => hk.2) (.int .i64 t448)) (fun _ hk => hk.2) (.slice Ao122 t449.length co122)) (fun _ h_ => h_.1))))) (Kd.R_lt (by (with_reducible repeat (first | apply Kd.R_alloc | apply Kd.R_drewN | apply Kd.R_drew)); exact (Kd.R_mono (Kd.R_far (p := ⟨gb453, 2, none⟩) (Kd.R_far (p := ⟨gb453, 1, none⟩) (Kd.R_far (p := ⟨gb453, 0, none⟩) (Kd.R_types HO_432002.out BK453.out (by decide)) (fun _ hk => hk.2) (.int .i64 t447)) (fun _ hk => hk.2) (.int .i64 t448)) (fun _ hk => hk.2) (.slice Ao122 t449.length co122)) (fun _ h_ => h_.1))))) (Kd.R_lt (by (with_reducible repeat (first | apply Kd.R_alloc | apply Kd.R_drewN | apply Kd.R_drew)); exact (Kd.R_mono (Kd.R_far (p := ⟨gb453, 2, none⟩) (Kd.R_far (p := ⟨gb453, 1, none⟩) (Kd.R_far (p := ⟨gb453, 0, none⟩) (Kd.R_types HO437.out BK453.out (by decide)) (fun _ hk => hk.2) (.int .i64 t447)) (fun _ hk => hk.2) (.int .i64 t448)) (fun _ hk => hk.2) (.slice Ao122 t449.length co122)) (fun _ h_ => h_.1))))) (Kd.R_lt (by (with_reducible repeat (first | apply Kd.R_alloc | apply Kd.R_drewN | apply Kd.R_drew)); exact (Kd.R_mono (Kd.R_far (p := ⟨gb453, 2, none⟩) (Kd.R_far (p := ⟨gb453, 1, none⟩) (Kd.R_far (p := ⟨gb453, 0, none⟩) (Kd.R_types HO444.out BK453.out (by decide)) (fun _ hk => hk.2) (.int .i64 t447)) (fun _ hk => hk.2) (.int .i64 t448)) (fun _ hk => hk.2) (.slice Ao122 t449.length co122)) (fun _ h_ => h_.1))))) (Kd.R_lt (by (with_reducible repeat (first | apply Kd.R_alloc | apply Kd.R_drewN | apply Kd.R_drew)); exact (Kd.R_mono (Kd.R_far (p := ⟨gb453, 2, none⟩) (Kd.R_far (p := ⟨gb453, 1, none⟩) (Kd.R_far (p := ⟨gb453, 0, none⟩) (Kd.R_types HO451.out BK453.out (by decide)) (fun _ hk => hk.2) (.int .i64 t447)) (fun _ hk => hk.2) (.int .i64 t448)) (fun _ hk => hk.2) (.slice Ao122 t449.length co122)) (fun _ h_ => h_.1))))) (below_size (hq_ HB))); have n6_ := Aside0.mk (blk_below (g := gb414) (o := .cells #[.int .i64 a0_0, .int .i64 a0_1, .slice A0_2 l0_2.length c0_2] 24 (0, 0)) (by (with_reducible repeat (first | refine blk_drewN ?_ _ | refine blk_drew ?_ | refine blk_alloc ?_ _)); refine blk_far ?_ NB414_453.out _; (with_reducible repeat (first | refine blk_drewN ?_ _ | refine blk_drew ?_ | refine blk_alloc ?_ _)); refine blk_far ?_ NB414_453.out _; (with_reducible repeat (first | refine blk_drewN ?_ _ | refine blk_drew ?_ | refine blk_alloc ?_ _)); refine blk_far ?_ NB414_453.out _; (with_reducible repeat (first | refine blk_drewN ?_ _ | refine blk_drew ?_ | refine blk_alloc ?_ _)); exact BK414.out) hb); have n7_ := Aside0.mk (blk_below (g := gb424) (o := .cells #[.int .i64 t418, .int .i64 t419, .slice Ao47 t420.length co47] 24 (0, 0)) (by (with_reducible repeat (first | refine blk_drewN ?_ _ | refine blk_drew ?_ | refine blk_alloc ?_ _)); refine blk_far ?_ NB424_453.out _; (with_reducible repeat (first | refine blk_drewN ?_ _ | refine blk_drew ?_ | refine blk_alloc ?_ _)); refine blk_far ?_ NB424_453.out _; (with_reducible repeat (first | refine blk_drewN ?_ _ | refine blk_drew ?_ | refine blk_alloc ?_ _)); refine blk_far ?_ NB424_453.out _; (with_reducible repeat (first | refine blk_drewN ?_ _ | refine blk_drew ?_ | refine blk_alloc ?_ _)); exact BK424.out) hb); have n8_ := Aside0.mk (blk_below (g := gb431) (o := .cells #[.int .i64 t425, .int .i64 t426, .slice Ao53 t427.length co53] 24 (0, 0)) (by (with_reducible repeat (first | refine blk_drewN ?_ _ | refine blk_drew ?_ | refine blk_alloc ?_ _)); refine blk_far ?_ NB431_453.out _; (with_reducible repeat (first | refine blk_drewN ?_ _ | refine blk_drew ?_ | refine blk_alloc ?_ _)); refine blk_far ?_ NB431_453.out _; (with_reducible repeat (first | refine blk_drewN ?_ _ | refine blk_drew ?_ | refine blk_alloc ?_ _)); refine blk_far ?_ NB431_453.out _; (with_reducible repeat (first | refine blk_drewN ?_ _ | refine blk_drew ?_ | refine blk_alloc ?_ _)); exact BK431.out) hb); have n9_ := Aside0.mk (blk_below (g := gb439) (o := .cells #[.int .i64 t433, .int .i64 t434, .slice Ao101 t435.length co101] 24 (0, 0)) (by (with_reducible repeat (first | refine blk_drewN ?_ _ | refine blk_drew ?_ | refine blk_alloc ?_ _)); refine blk_far ?_ NB439_453.out _; (with_reducible repeat (first | refine blk_drewN ?_ _ | refine blk_drew ?_ | refine blk_alloc ?_ _)); refine blk_far ?_ NB439_453.out _; (with_reducible repeat (first | refine blk_drewN ?_ _ | refine blk_drew ?_ | refine blk_alloc ?_ _)); refine blk_far ?_ NB439_453.out _; (with_reducible repeat (first | refine blk_drewN ?_ _ | refine blk_drew ?_ | refine blk_alloc ?_ _)); exact BK439.out) hb); have n10_ := Aside0.mk (blk_below (g := gb446) (o := .cells #[.int .i64 t440, .int .i64 t441, .slice Ao111 t442.length co111] 24 (0, 0)) (by (with_reducible repeat (first | refine blk_drewN ?_ _ | refine blk_drew ?_ | refine blk_alloc ?_ _)); refine blk_far ?_ NB446_453.out _; (with_reducible repeat (first | refine blk_drewN ?_ _ | refine blk_drew ?_ | refine blk_alloc ?_ _)); refine blk_far ?_ NB446_453.out _; (with_reducible repeat (first | refine blk_drewN ?_ _ | refine blk_drew ?_ | refine blk_alloc ?_ _)); refine blk_far ?_ NB446_453.out _; (with_reducible repeat (first | refine blk_drewN ?_ _ | refine blk_drew ?_ | refine blk_alloc ?_ _)); exact BK446.out) hb); have n11_ := Aside0.mk (blk_below (g := gb453) (o := .cells #[.int .i64 t447, .int .i64 t448, .slice Ao122 t449.length co122] 24 (0, 0)) (by (with_reducible repeat (first | refine blk_drewN ?_ _ | refine blk_drew ?_ | refine blk_alloc ?_ _)); refine blk_put (cs := #[.int .i64 t447, .int .i64 t448, .slice none 0 0]) ?_ 2 _ rfl; (with_reducible repeat (first | refine blk_drewN ?_ _ | refine blk_drew ?_ | refine blk_alloc ?_ _)); refine blk_put (cs := #[.int .i64 t447, .int .i64 0, .slice none 0 0]) ?_ 1 _ rfl; (with_reducible repeat (first | refine blk_drewN ?_ _ | refine blk_drew ?_ | refine blk_alloc ?_ _)); refine blk_put (cs := #[.int .i64 0, .int .i64 0, .slice none 0 0]) ?_ 0 _ rfl; (with_reducible repeat (first | refine blk_drewN ?_ _ | refine blk_drew ?_ | refine blk_alloc ?_ _)); exact BK453.out) hb); have n12_ := hb_ HB hb; clear HO_425002; clear HO_432002; clear HO437; clear HO444; clear HO451; clear BK414; clear BK424; clear BK431; clear BK439; clear BK446; clear BK453; clear HB; have HO_425002 := n0_; have HO_432002 := n1_; have HO437 := n2_; have HO444 := n3_; have HO451 := n4_; have HO458 := n5_; have BK414 := n6_; have BK424 := n7_; have BK431 := n8_; have BK439 := n9_; have BK446 := n10_; have BK453 := n11_; have HB := n12_; clear n0_ n1_ n2_ n3_ n4_ n5_ n6_ n7_ n8_ n9_ n10_ n11_ n12_; (try clear hb); (try clear hb2); (try clear hk); (try clear hi); (try clear ho0)) | ((with_reducible refine gate_dst (N := 15) rfl ?_); refine box_event ?hg (N := 15) ?hd (cs := #[.int .i64 0, .int .i64 0, .slice none 0 0]) (t := 24) ?hr ?_; (case hd => rfl); (case hg => rfl); (case hr => first | (go_simp; done) | (go_simp; rfl)); intro gb460 hg w126 hbox hb; have n0_ := Aside0.mk (Kd.R_below (by (with_reducible repeat (first | apply Kd.R_alloc | apply Kd.R_drewN | apply Kd.R_drew)); exact HO_425002.out) hb); have n1_ := Aside0.mk (Kd.R_below (by (with_reducible repeat (first | apply Kd.R_alloc | apply Kd.R_drewN | apply Kd.R_drew)); exact HO_432002.out) hb); have n2_ := Aside0.mk (Kd.R_below (by (with_reducible repeat (first | apply Kd.R_alloc | apply Kd.R_drewN | apply Kd.R_drew)); exact HO437.out) hb); have n3_ := Aside0.mk (Kd.R_below (by (with_reducible repeat (first | apply Kd.R_alloc | apply Kd.R_drewN | apply Kd.R_drew)); exact HO444.out) hb); have n4_ := Aside0.mk (Kd.R_below (by (with_reducible repeat (first | apply Kd.R_alloc | apply Kd.R_drewN | apply Kd.R_drew)); exact HO451.out) hb); have n5_ := Aside0.mk (Kd.R_below (by (with_reducible repeat (first | apply Kd.R_alloc | apply Kd.R_drewN | apply Kd.R_drew)); exact HO458.out) hb); have n6_ := bb_ BK414 hb; have n7_ := bb_ BK424 hb; have n8_ := bb_ BK431 hb; have n9_ := bb_ BK439 hb; have n10_ := bb_ BK446 hb; have n11_ := bb_ BK453 hb; have n12_ := hb_ HB hb; have n13_ := Aside0.mk (hbox); have n14_ := Aside0.mk ((by rw [hg]; exact (below_size (hq_ HB)) : w.heap.size ≤ gb460)); have n15_ := Aside0.mk ((by rw [hg]; exact (below_size (hq_ HB)) : w.heap.size ≤ gb460)); have n16_ := Aside0.mk ((by rw [hg]; exact Nat.ne_of_lt (blk_lt (g := gb414) (o := .cells #[.int .i64 a0_0, .int .i64 a0_1, .slice A0_2 l0_2.length c0_2] 24 (0, 0)) (bq_ BK414)) : gb414 ≠ gb460)); have n17_ := Aside0.mk ((by rw [hg]; exact Nat.ne_of_gt (blk_lt (g := gb414) (o := .cells #[.int .i64 a0_0, .int .i64 a0_1, .slice A0_2 l0_2.length c0_2] 24 (0, 0)) (bq_ BK414)) : gb460 ≠ gb414)); have n18_ := Aside0.mk ((by rw [hg]; exact Nat.ne_of_lt (blk_lt (g := gb424) (o := .cells #[.int .i64 t418, .int .i64 t419, .slice Ao47 t420.length co47] 24 (0, 0)) (bq_ BK424)) : gb424 ≠ gb460)); have n19_ := Aside0.mk ((by rw [hg]; exact Nat.ne_of_gt (blk_lt (g := gb424) (o := .cells #[.int .i64 t418, .int .i64 t419, .slice Ao47 t420.length co47] 24 (0, 0)) (bq_ BK424)) : gb460 ≠ gb424)); have n20_ := Aside0.mk ((by rw [hg]; exact Nat.ne_of_lt (blk_lt (g := gb431) (o := .cells #[.int .i64 t425, .int .i64 t426, .slice Ao53 t427.length co53] 24 (0, 0)) (bq_ BK431)) : gb431 ≠ gb460)); have n21_ := Aside0.mk ((by rw [hg]; exact Nat.ne_of_gt (blk_lt (g := gb431) (o := .cells #[.int .i64 t425, .int .i64 t426, .slice Ao53 t427.length co53] 24 (0, 0)) (bq_ BK431)) : gb460 ≠ gb431)); have n22_ := Aside0.mk ((by rw [hg]; exact Nat.ne_of_lt (blk_lt (g := gb439) (o := .cells #[.int .i64 t433, .int .i64 t434, .slice Ao101 t435.length co101] 24 (0, 0)) (bq_ BK439)) : gb439 ≠ gb460)); have n23_ := Aside0.mk ((by rw [hg]; exact Nat.ne_of_gt (blk_lt (g := gb439) (o := .cells #[.int .i64 t433, .int .i64 t434, .slice Ao101 t435.length co101] 24 (0, 0)) (bq_ BK439)) : gb460 ≠ gb439)); have n24_ := Aside0.mk ((by rw [hg]; exact Nat.ne_of_lt (blk_lt (g := gb446) (o := .cells #[.int .i64 t440, .int .i64 t441, .slice Ao111 t442.length co111] 24 (0, 0)) (bq_ BK446)) : gb446 ≠ gb460)); have n25_ := Aside0.mk ((by rw [hg]; exact Nat.ne_of_gt (blk_lt (g := gb446) (o := .cells #[.int .i64 t440, .int .i64 t441, .slice Ao111 t442.length co111] 24 (0, 0)) (bq_ BK446)) : gb460 ≠ gb446)); have n26_ := Aside0.mk ((by rw [hg]; exact Nat.ne_of_lt (blk_lt (g := gb453) (o := .cells #[.int .i64 t447, .int .i64 t448, .slice Ao122 t449.length co122] 24 (0, 0)) (bq_ BK453)) : gb453 ≠ gb460)); have n27_ := Aside0.mk ((by rw [hg]; exact Nat.ne_of_gt (blk_lt (g := gb453) (o := .cells #[.int .i64 t447, .int .i64 t448, .slice Ao122 t449.length co122] 24 (0, 0)) (bq_ BK453)) : gb460 ≠ gb453)); clear HO_425002; clear HO_432002; clear HO437; clear HO444; clear HO451; clear HO458; clear BK414; clear BK424; clear BK431; clear BK439; clear BK446; clear BK453; clear HB; have HO_425002 := n0_; have HO_432002 := n1_; have HO437 := n2_; have HO444 := n3_; have HO451 := n4_; have HO458 := n5_; have BK414 := n6_; have BK424 := n7_; have BK431 := n8_; have BK439 := n9_; have BK446 := n10_; have BK453 := n11_; have HB := n12_; have BK460 := n13_; have GW460 := n14_; have GE460 := n15_; have NB414_460 := n16_; have NB460_414 := n17_; have NB424_460 := n18_; have NB460_424 := n19_; have NB431_460 := n20_; have NB460_431 := n21_; have NB439_460 := n22_; have NB460_439 := n23_; have NB446_460 := n24_; have NB460_446 := n25_; have NB453_460 := n26_; have NB460_453 := n27_; clear n0_ n1_ n2_ n3_ n4_ n5_ n6_ n7_ n8_ n9_ n10_ n11_ n12_ n13_ n14_ n15_ n16_ n17_ n18_ n19_ n20_ n21_ n22_ n23_ n24_ n25_ n26_ n27_; clear hb hbox hg; have hnb127 := NB460_414.out; have hnc127 := NB414_460.out; have hnb128 := NB460_424.out; have hnc128 := NB424_460.out; have hnb129 := NB460_431.out; have hnc129 := NB431_460.out; have hnb130 := NB460_439.out; have hnc130 := NB439_460.out; have hnb131 := NB460_446.out; have hnc131 := NB446_460.out; have hnb132 := NB460_453.out; have hnc132 := NB453_460.out; have hcz133_0 : w126.cell? ⟨gb460, 0, none⟩ = some (.int .i64 0) := (blk_cell BK460.out 0).trans rfl; have hcz133_1 : w126.cell? ⟨gb460, 1, none⟩ = some (.int .i64 0) := (blk_cell BK460.out 1).trans rfl; have hcz133_2 : w126.cell? ⟨gb460, 2, none⟩ = some (.slice none 0 0) := (blk_cell BK460.out 2).trans rfl; have hfz133_0 := blk_frozen BK460.out 0; have hfz133_1 := blk_frozen BK460.out 1; have hfz133_2 := blk_frozen BK460.out 2; obtain ⟨Ao134, co134, eo134⟩ := Kd.R_slice HO458.out; subst eo134; have hcz135_0 : w126.cell? ⟨gb439, 0, none⟩ = some (.int .i64 t433) := (blk_cell BK439.out 0).trans rfl; have hcz135_1 : w126.cell? ⟨gb439, 1, none⟩ = some (.int .i64 t434) := (blk_cell BK439.out 1).trans rfl; have hcz135_2 : w126.cell? ⟨gb439, 2, none⟩ = some (.slice Ao101 t435.length co101) := (blk_cell BK439.out 2).trans rfl; have hfz135_0 := blk_frozen BK439.out 0; have hfz135_1 := blk_frozen BK439.out 1; have hfz135_2 := blk_frozen BK439.out 2; have hcz136_0 : w126.cell? ⟨gb414, 0, none⟩ = some (.int .i64 a0_0) := (blk_cell BK414.out 0).trans rfl; have hcz136_1 : w126.cell? ⟨gb414, 1, none⟩ = some (.int .i64 a0_1) := (blk_cell BK414.out 1).trans rfl; have hcz136_2 : w126.cell? ⟨gb414, 2, none⟩ = some (.slice A0_2 l0_2.length c0_2) := (blk_cell BK414.out 2).trans rfl; have hfz136_0 := blk_frozen BK414.out 0; have hfz136_1 := blk_frozen BK414.out 1; have hfz136_2 := blk_frozen BK414.out 2) | ((with_reducible refine gate_callee (f := 15) rfl ?_); refine goesL_ (some 128) rfl rfl Try.func15 (by kernel_rfl) rfl #[.agg #[.int .i64 t433, .int .i64 t434, .slice Ao101 t435.length co101], .agg #[.int .i64 a0_0, .int .i64 a0_1, .slice A0_2 l0_2.length c0_2]] rfl (by (try simp only [List.map_toArray, List.map_cons, List.map_nil]) <;> rfl) ?_; (with_reducible refine (compositorlaw10_same.calls kj40 t433 t434 _ _ t435 a0_0 a0_1 _ _ l0_2 true _ ?side1 ?side2 ?side3 ?side4 A81.out).mono ?_); (case side1 => refine (Kd.R_reads' (e := 43) (base := w.heap.size) (ok := fun k_ => (((((True ∧ some k_ ≠ (.slice Ao47 t420.length co47 : Value).ownBlock) ∧ some k_ ≠ (.slice Ao53 t427.length co53 : Value).ownBlock) ∧ some k_ ≠ (.slice Ao111 t442.length co111 : Value).ownBlock) ∧ some k_ ≠ (.slice Ao122 t449.length co122 : Value).ownBlock) ∧ some k_ ≠ (.slice Ao134 t456.length co134 : Value).ownBlock)) (n := t435.length) (c := co101) ?_).2.2; exact (by (with_reducible repeat (first | apply Kd.R_alloc | apply Kd.R_drewN | apply Kd.R_drew)); exact (Kd.R_mono (Kd.R_far (p := ⟨gb460, 2, none⟩) (Kd.R_far (p := ⟨gb460, 1, none⟩) (Kd.R_far (p := ⟨gb460, 0, none⟩) (Kd.R_types HO437.out BK460.out (by decide)) (fun _ hk => hk.2) (.int .i64 t454)) (fun _ hk => hk.2) (.int .i64 t455)) (fun _ hk => hk.2) (.slice Ao134 t456.length co134)) (fun _ h_ => h_.1)))); (case side2 => exact (Kd.R_reads' HO437.out).2.1); (case side3 => exact Kd.C_below HR0_2.out (hq_ HB)); (case side4 => exact HC0_2.out); rintro e w137 ⟨rfl, hb⟩; refine ⟨_, rfl, ?_⟩; have n0_ := Aside0.mk (Kd.R_below (by (with_reducible repeat (first | apply Kd.R_alloc | apply Kd.R_drewN | apply Kd.R_drew)); exact (Kd.R_mono (Kd.R_far (p := ⟨gb460, 2, none⟩) (Kd.R_far (p := ⟨gb460, 1, none⟩) (Kd.R_far (p := ⟨gb460, 0, none⟩) (Kd.R_types HO_425002.out BK460.out (by decide)) (fun _ hk => hk.2) (.int .i64 t454)) (fun _ hk => hk.2) (.int .i64 t455)) (fun _ hk => hk.2) (.slice Ao134 t456.length co134)) (fun _ h_ => h_.1))) hb); have n1_ := Aside0.mk (Kd.R_below (by (with_reducible repeat (first | apply Kd.R_alloc | apply Kd.R_drewN | apply Kd.R_drew)); exact (Kd.R_mono (Kd.R_far (p := ⟨gb460, 2, none⟩) (Kd.R_far (p := ⟨gb460, 1, none⟩) (Kd.R_far (p := ⟨gb460, 0, none⟩) (Kd.R_types HO_432002.out BK460.out (by decide)) (fun _ hk => hk.2) (.int .i64 t454)) (fun _ hk => hk.2) (.int .i64 t455)) (fun _ hk => hk.2) (.slice Ao134 t456.length co134)) (fun _ h_ => h_.1))) hb); have n2_ := Aside0.mk (Kd.R_below (by (with_reducible repeat (first | apply Kd.R_alloc | apply Kd.R_drewN | apply Kd.R_drew)); exact (Kd.R_mono (Kd.R_far (p := ⟨gb460, 2, none⟩) (Kd.R_far (p := ⟨gb460, 1, none⟩) (Kd.R_far (p := ⟨gb460, 0, none⟩) (Kd.R_types HO437.out BK460.out (by decide)) (fun _ hk => hk.2) (.int .i64 t454)) (fun _ hk => hk.2) (.int .i64 t455)) (fun _ hk => hk.2) (.slice Ao134 t456.length co134)) (fun _ h_ => h_.1))) hb); have n3_ := Aside0.mk (Kd.R_below (by (with_reducible repeat (first | apply Kd.R_alloc | apply Kd.R_drewN | apply Kd.R_drew)); exact (Kd.R_mono (Kd.R_far (p := ⟨gb460, 2, none⟩) (Kd.R_far (p := ⟨gb460, 1, none⟩) (Kd.R_far (p := ⟨gb460, 0, none⟩) (Kd.R_types HO444.out BK460.out (by decide)) (fun _ hk => hk.2) (.int .i64 t454)) (fun _ hk => hk.2) (.int .i64 t455)) (fun _ hk => hk.2) (.slice Ao134 t456.length co134)) (fun _ h_ => h_.1))) hb); have n4_ := Aside0.mk (Kd.R_below (by (with_reducible repeat (first | apply Kd.R_alloc | apply Kd.R_drewN | apply Kd.R_drew)); exact (Kd.R_mono (Kd.R_far (p := ⟨gb460, 2, none⟩) (Kd.R_far (p := ⟨gb460, 1, none⟩) (Kd.R_far (p := ⟨gb460, 0, none⟩) (Kd.R_types HO451.out BK460.out (by decide)) (fun _ hk => hk.2) (.int .i64 t454)) (fun _ hk => hk.2) (.int .i64 t455)) (fun _ hk => hk.2) (.slice Ao134 t456.length co134)) (fun _ h_ => h_.1))) hb); have n5_ := Aside0.mk (Kd.R_below (by (with_reducible repeat (first | apply Kd.R_alloc | apply Kd.R_drewN | apply Kd.R_drew)); exact (Kd.R_mono (Kd.R_far (p := ⟨gb460, 2, none⟩) (Kd.R_far (p := ⟨gb460, 1, none⟩) (Kd.R_far (p := ⟨gb460, 0, none⟩) (Kd.R_types HO458.out BK460.out (by decide)) (fun _ hk => hk.2) (.int .i64 t454)) (fun _ hk => hk.2) (.int .i64 t455)) (fun _ hk => hk.2) (.slice Ao134 t456.length co134)) (fun _ h_ => h_.1))) hb); have n6_ := Aside0.mk (blk_below (g := gb414) (o := .cells #[.int .i64 a0_0, .int .i64 a0_1, .slice A0_2 l0_2.length c0_2] 24 (0, 0)) (by (with_reducible repeat (first | refine blk_drewN ?_ _ | refine blk_drew ?_ | refine blk_alloc ?_ _)); refine blk_far ?_ NB414_460.out _; (with_reducible repeat (first | refine blk_drewN ?_ _ | refine blk_drew ?_ | refine blk_alloc ?_ _)); refine blk_far ?_ NB414_460.out _; (with_reducible repeat (first | refine blk_drewN ?_ _ | refine blk_drew ?_ | refine blk_alloc ?_ _)); refine blk_far ?_ NB414_460.out _; (with_reducible repeat (first | refine blk_drewN ?_ _ | refine blk_drew ?_ | refine blk_alloc ?_ _)); exact BK414.out) hb); have n7_ := Aside0.mk (blk_below (g := gb424) (o := .cells #[.int .i64 t418, .int .i64 t419, .slice Ao47 t420.length co47] 24 (0, 0)) (by (with_reducible repeat (first | refine blk_drewN ?_ _ | refine blk_drew ?_ | refine blk_alloc ?_ _)); refine blk_far ?_ NB424_460.out _; (with_reducible repeat (first | refine blk_drewN ?_ _ | refine blk_drew ?_ | refine blk_alloc ?_ _)); refine blk_far ?_ NB424_460.out _; (with_reducible repeat (first | refine blk_drewN ?_ _ | refine blk_drew ?_ | refine blk_alloc ?_ _)); refine blk_far ?_ NB424_460.out _; (with_reducible repeat (first | refine blk_drewN ?_ _ | refine blk_drew ?_ | refine blk_alloc ?_ _)); exact BK424.out) hb); have n8_ := Aside0.mk (blk_below (g := gb431) (o := .cells #[.int .i64 t425, .int .i64 t426, .slice Ao53 t427.length co53] 24 (0, 0)) (by (with_reducible repeat (first | refine blk_drewN ?_ _ | refine blk_drew ?_ | refine blk_alloc ?_ _)); refine blk_far ?_ NB431_460.out _; (with_reducible repeat (first | refine blk_drewN ?_ _ | refine blk_drew ?_ | refine blk_alloc ?_ _)); refine blk_far ?_ NB431_460.out _; (with_reducible repeat (first | refine blk_drewN ?_ _ | refine blk_drew ?_ | refine blk_alloc ?_ _)); refine blk_far ?_ NB431_460.out _; (with_reducible repeat (first | refine blk_drewN ?_ _ | refine blk_drew ?_ | refine blk_alloc ?_ _)); exact BK431.out) hb); have n9_ := Aside0.mk (blk_below (g := gb439) (o := .cells #[.int .i64 t433, .int .i64 t434, .slice Ao101 t435.length co101] 24 (0, 0)) (by (with_reducible repeat (first | refine blk_drewN ?_ _ | refine blk_drew ?_ | refine blk_alloc ?_ _)); refine blk_far ?_ NB439_460.out _; (with_reducible repeat (first | refine blk_drewN ?_ _ | refine blk_drew ?_ | refine blk_alloc ?_ _)); refine blk_far ?_ NB439_460.out _; (with_reducible repeat (first | refine blk_drewN ?_ _ | refine blk_drew ?_ | refine blk_alloc ?_ _)); refine blk_far ?_ NB439_460.out _; (with_reducible repeat (first | refine blk_drewN ?_ _ | refine blk_drew ?_ | refine blk_alloc ?_ _)); exact BK439.out) hb); have n10_ := Aside0.mk (blk_below (g := gb446) (o := .cells #[.int .i64 t440, .int .i64 t441, .slice Ao111 t442.length co111] 24 (0, 0)) (by (with_reducible repeat (first | refine blk_drewN ?_ _ | refine blk_drew ?_ | refine blk_alloc ?_ _)); refine blk_far ?_ NB446_460.out _; (with_reducible repeat (first | refine blk_drewN ?_ _ | refine blk_drew ?_ | refine blk_alloc ?_ _)); refine blk_far ?_ NB446_460.out _; (with_reducible repeat (first | refine blk_drewN ?_ _ | refine blk_drew ?_ | refine blk_alloc ?_ _)); refine blk_far ?_ NB446_460.out _; (with_reducible repeat (first | refine blk_drewN ?_ _ | refine blk_drew ?_ | refine blk_alloc ?_ _)); exact BK446.out) hb); have n11_ := Aside0.mk (blk_below (g := gb453) (o := .cells #[.int .i64 t447, .int .i64 t448, .slice Ao122 t449.length co122] 24 (0, 0)) (by (with_reducible repeat (first | refine blk_drewN ?_ _ | refine blk_drew ?_ | refine blk_alloc ?_ _)); refine blk_far ?_ NB453_460.out _; (with_reducible repeat (first | refine blk_drewN ?_ _ | refine blk_drew ?_ | refine blk_alloc ?_ _)); refine blk_far ?_ NB453_460.out _; (with_reducible repeat (first | refine blk_drewN ?_ _ | refine blk_drew ?_ | refine blk_alloc ?_ _)); refine blk_far ?_ NB453_460.out _; (with_reducible repeat (first | refine blk_drewN ?_ _ | refine blk_drew ?_ | refine blk_alloc ?_ _)); exact BK453.out) hb); have n12_ := Aside0.mk (blk_below (g := gb460) (o := .cells #[.int .i64 t454, .int .i64 t455, .slice Ao134 t456.length co134] 24 (0, 0)) (by (with_reducible repeat (first | refine blk_drewN ?_ _ | refine blk_drew ?_ | refine blk_alloc ?_ _)); refine blk_put (cs := #[.int .i64 t454, .int .i64 t455, .slice none 0 0]) ?_ 2 _ rfl; (with_reducible repeat (first | refine blk_drewN ?_ _ | refine blk_drew ?_ | refine blk_alloc ?_ _)); refine blk_put (cs := #[.int .i64 t454, .int .i64 0, .slice none 0 0]) ?_ 1 _ rfl; (with_reducible repeat (first | refine blk_drewN ?_ _ | refine blk_drew ?_ | refine blk_alloc ?_ _)); refine blk_put (cs := #[.int .i64 0, .int .i64 0, .slice none 0 0]) ?_ 0 _ rfl; (with_reducible repeat (first | refine blk_drewN ?_ _ | refine blk_drew ?_ | refine blk_alloc ?_ _)); exact BK460.out) hb); have n13_ := hb_ HB hb; clear HO_425002; clear HO_432002; clear HO437; clear HO444; clear HO451; clear HO458; clear BK414; clear BK424; clear BK431; clear BK439; clear BK446; clear BK453; clear BK460; clear HB; have HO_425002 := n0_; have HO_432002 := n1_; have HO437 := n2_; have HO444 := n3_; have HO451 := n4_; have HO458 := n5_; have BK414 := n6_; have BK424 := n7_; have BK431 := n8_; have BK439 := n9_; have BK446 := n10_; have BK453 := n11_; have BK460 := n12_; have HB := n13_; clear n0_ n1_ n2_ n3_ n4_ n5_ n6_ n7_ n8_ n9_ n10_ n11_ n12_ n13_; (try clear hb); (try clear hb2); (try clear hk); (try clear hi); have hcz138_0 : w137.cell? ⟨gb446, 0, none⟩ = some (.int .i64 t440) := (blk_cell BK446.out 0).trans rfl; have hcz138_1 : w137.cell? ⟨gb446, 1, none⟩ = some (.int .i64 t441) := (blk_cell BK446.out 1).trans rfl; have hcz138_2 : w137.cell? ⟨gb446, 2, none⟩ = some (.slice Ao111 t442.length co111) := (blk_cell BK446.out 2).trans rfl; have hfz138_0 := blk_frozen BK446.out 0; have hfz138_1 := blk_frozen BK446.out 1; have hfz138_2 := blk_frozen BK446.out 2; have hcz139_0 : w137.cell? ⟨gb414, 0, none⟩ = some (.int .i64 a0_0) := (blk_cell BK414.out 0).trans rfl; have hcz139_1 : w137.cell? ⟨gb414, 1, none⟩ = some (.int .i64 a0_1) := (blk_cell BK414.out 1).trans rfl; have hcz139_2 : w137.cell? ⟨gb414, 2, none⟩ = some (.slice A0_2 l0_2.length c0_2) := (blk_cell BK414.out 2).trans rfl; have hfz139_0 := blk_frozen BK414.out 0; have hfz139_1 := blk_frozen BK414.out 1; have hfz139_2 := blk_frozen BK414.out 2) | (go_at_call 15; (with_reducible refine (compositorlaw10_same.calls kj40 t440 t441 _ _ t442 a0_0 a0_1 _ _ l0_2 true _ ?side1 ?side2 ?side3 ?side4 A83.out).mono ?_); (case side1 => repeat (first | exact (Kd.R_reads' HO444.out).2.2 | (with_reducible refine Kd.C_alloc ?_ _) | (with_reducible refine Kd.C_drewN ?_ _) | (with_reducible refine Kd.C_drew ?_))); (case side2 => exact (Kd.R_reads' HO444.out).2.1); (case side3 => repeat (first | exact (Kd.C_below HR0_2.out HB.out) | (with_reducible refine Kd.C_alloc ?_ _) | (with_reducible refine Kd.C_drewN ?_ _) | (with_reducible refine Kd.C_drew ?_))); (case side4 => exact HC0_2.out); rintro e w140 ⟨rfl, hb⟩; have n0_ := Aside0.mk (Kd.R_below (by (with_reducible repeat (first | apply Kd.R_alloc | apply Kd.R_drewN | apply Kd.R_drew)); exact HO_425002.out) hb); have n1_ := Aside0.mk (Kd.R_below (by (with_reducible repeat (first | apply Kd.R_alloc | apply Kd.R_drewN | apply Kd.R_drew)); exact HO_432002.out) hb); have n2_ := Aside0.mk (Kd.R_below (by (with_reducible repeat (first | apply Kd.R_alloc | apply Kd.R_drewN | apply Kd.R_drew)); exact HO437.out) hb); have n3_ := Aside0.mk (Kd.R_below (by (with_reducible repeat (first | apply Kd.R_alloc | apply Kd.R_drewN | apply Kd.R_drew)); exact HO444.out) hb); have n4_ := Aside0.mk (Kd.R_below (by (with_reducible repeat (first | apply Kd.R_alloc | apply Kd.R_drewN | apply Kd.R_drew)); exact HO451.out) hb); have n5_ := Aside0.mk (Kd.R_below (by (with_reducible repeat (first | apply Kd.R_alloc | apply Kd.R_drewN | apply Kd.R_drew)); exact HO458.out) hb); have n6_ := bb_ BK414 hb; have n7_ := bb_ BK424 hb; have n8_ := bb_ BK431 hb; have n9_ := bb_ BK439 hb; have n10_ := bb_ BK446 hb; have n11_ := bb_ BK453 hb; have n12_ := bb_ BK460 hb; have n13_ := hb_ HB hb; clear HO_425002; clear HO_432002; clear HO437; clear HO444; clear HO451; clear HO458; clear BK414; clear BK424; clear BK431; clear BK439; clear BK446; clear BK453; clear BK460; clear HB; have HO_425002 := n0_; have HO_432002 := n1_; have HO437 := n2_; have HO444 := n3_; have HO451 := n4_; have HO458 := n5_; have BK414 := n6_; have BK424 := n7_; have BK431 := n8_; have BK439 := n9_; have BK446 := n10_; have BK453 := n11_; have BK460 := n12_; have HB := n13_; clear n0_ n1_ n2_ n3_ n4_ n5_ n6_ n7_ n8_ n9_ n10_ n11_ n12_ n13_; (try clear hb); (try clear hb2); (try clear hk); (try clear hi); have hcz141_0 : w140.cell? ⟨gb453, 0, none⟩ = some (.int .i64 t447) := (blk_cell BK453.out 0).trans rfl; have hcz141_1 : w140.cell? ⟨gb453, 1, none⟩ = some (.int .i64 t448) := (blk_cell BK453.out 1).trans rfl; have hcz141_2 : w140.cell? ⟨gb453, 2, none⟩ = some (.slice Ao122 t449.length co122) := (blk_cell BK453.out 2).trans rfl; have hfz141_0 := blk_frozen BK453.out 0; have hfz141_1 := blk_frozen BK453.out 1; have hfz141_2 := blk_frozen BK453.out 2; have hcz142_0 : w140.cell? ⟨gb424, 0, none⟩ = some (.int .i64 t418) := (blk_cell BK424.out 0).trans rfl; have hcz142_1 : w140.cell? ⟨gb424, 1, none⟩ = some (.int .i64 t419) := (blk_cell BK424.out 1).trans rfl; have hcz142_2 : w140.cell? ⟨gb424, 2, none⟩ = some (.slice Ao47 t420.length co47) := (blk_cell BK424.out 2).trans rfl; have hfz142_0 := blk_frozen BK424.out 0; have hfz142_1 := blk_frozen BK424.out 1; have hfz142_2 := blk_frozen BK424.out 2) | (go_at_call 15; (with_reducible refine (compositorlaw10_same.calls kj40 t447 t448 _ _ t449 t418 t419 _ _ t420 true _ ?side1 ?side2 ?side3 ?side4 A85.out).mono ?_); (case side1 => repeat (first | exact (Kd.R_reads' HO451.out).2.2 | (with_reducible refine Kd.C_alloc ?_ _) | (with_reducible refine Kd.C_drewN ?_ _) | (with_reducible refine Kd.C_drew ?_))); (case side2 => exact (Kd.R_reads' HO451.out).2.1); (case side3 => repeat (first | exact (Kd.R_reads' HO_425002.out).2.2 | (with_reducible refine Kd.C_alloc ?_ _) | (with_reducible refine Kd.C_drewN ?_ _) | (with_reducible refine Kd.C_drew ?_))); (case side4 => exact (Kd.R_reads' HO_425002.out).2.1); rintro e w143 ⟨rfl, hb⟩; have n0_ := Aside0.mk (Kd.R_below (by (with_reducible repeat (first | apply Kd.R_alloc | apply Kd.R_drewN | apply Kd.R_drew)); exact HO_425002.out) hb); have n1_ := Aside0.mk (Kd.R_below (by (with_reducible repeat (first | apply Kd.R_alloc | apply Kd.R_drewN | apply Kd.R_drew)); exact HO_432002.out) hb); have n2_ := Aside0.mk (Kd.R_below (by (with_reducible repeat (first | apply Kd.R_alloc | apply Kd.R_drewN | apply Kd.R_drew)); exact HO437.out) hb); have n3_ := Aside0.mk (Kd.R_below (by (with_reducible repeat (first | apply Kd.R_alloc | apply Kd.R_drewN | apply Kd.R_drew)); exact HO444.out) hb); have n4_ := Aside0.mk (Kd.R_below (by (with_reducible repeat (first | apply Kd.R_alloc | apply Kd.R_drewN | apply Kd.R_drew)); exact HO451.out) hb); have n5_ := Aside0.mk (Kd.R_below (by (with_reducible repeat (first | apply Kd.R_alloc | apply Kd.R_drewN | apply Kd.R_drew)); exact HO458.out) hb); have n6_ := bb_ BK414 hb; have n7_ := bb_ BK424 hb; have n8_ := bb_ BK431 hb; have n9_ := bb_ BK439 hb; have n10_ := bb_ BK446 hb; have n11_ := bb_ BK453 hb; have n12_ := bb_ BK460 hb; have n13_ := hb_ HB hb; clear HO_425002; clear HO_432002; clear HO437; clear HO444; clear HO451; clear HO458; clear BK414; clear BK424; clear BK431; clear BK439; clear BK446; clear BK453; clear BK460; clear HB; have HO_425002 := n0_; have HO_432002 := n1_; have HO437 := n2_; have HO444 := n3_; have HO451 := n4_; have HO458 := n5_; have BK414 := n6_; have BK424 := n7_; have BK431 := n8_; have BK439 := n9_; have BK446 := n10_; have BK453 := n11_; have BK460 := n12_; have HB := n13_; clear n0_ n1_ n2_ n3_ n4_ n5_ n6_ n7_ n8_ n9_ n10_ n11_ n12_ n13_; (try clear hb); (try clear hb2); (try clear hk); (try clear hi); have hcz144_0 : w143.cell? ⟨gb460, 0, none⟩ = some (.int .i64 t454) := (blk_cell BK460.out 0).trans rfl; have hcz144_1 : w143.cell? ⟨gb460, 1, none⟩ = some (.int .i64 t455) := (blk_cell BK460.out 1).trans rfl; have hcz144_2 : w143.cell? ⟨gb460, 2, none⟩ = some (.slice Ao134 t456.length co134) := (blk_cell BK460.out 2).trans rfl; have hfz144_0 := blk_frozen BK460.out 0; have hfz144_1 := blk_frozen BK460.out 1; have hfz144_2 := blk_frozen BK460.out 2; have hcz145_0 : w143.cell? ⟨gb424, 0, none⟩ = some (.int .i64 t418) := (blk_cell BK424.out 0).trans rfl; have hcz145_1 : w143.cell? ⟨gb424, 1, none⟩ = some (.int .i64 t419) := (blk_cell BK424.out 1).trans rfl; have hcz145_2 : w143.cell? ⟨gb424, 2, none⟩ = some (.slice Ao47 t420.length co47) := (blk_cell BK424.out 2).trans rfl; have hfz145_0 := blk_frozen BK424.out 0; have hfz145_1 := blk_frozen BK424.out 1; have hfz145_2 := blk_frozen BK424.out 2) | (go_at_call 15; (with_reducible refine (compositorlaw10_same.calls kj40 t454 t455 _ _ t456 t418 t419 _ _ t420 true _ ?side1 ?side2 ?side3 ?side4 A87.out).mono ?_); (case side1 => repeat (first | exact (Kd.R_reads' HO458.out).2.2 | (with_reducible refine Kd.C_alloc ?_ _) | (with_reducible refine Kd.C_drewN ?_ _) | (with_reducible refine Kd.C_drew ?_))); (case side2 => exact (Kd.R_reads' HO458.out).2.1); (case side3 => repeat (first | exact (Kd.R_reads' HO_425002.out).2.2 | (with_reducible refine Kd.C_alloc ?_ _) | (with_reducible refine Kd.C_drewN ?_ _) | (with_reducible refine Kd.C_drew ?_))); (case side4 => exact (Kd.R_reads' HO_425002.out).2.1); rintro e w146 ⟨rfl, hb⟩; have n0_ := Aside0.mk (Kd.R_below (by (with_reducible repeat (first | apply Kd.R_alloc | apply Kd.R_drewN | apply Kd.R_drew)); exact HO_425002.out) hb); have n1_ := Aside0.mk (Kd.R_below (by (with_reducible repeat (first | apply Kd.R_alloc | apply Kd.R_drewN | apply Kd.R_drew)); exact HO_432002.out) hb); have n2_ := Aside0.mk (Kd.R_below (by (with_reducible repeat (first | apply Kd.R_alloc | apply Kd.R_drewN | apply Kd.R_drew)); exact HO437.out) hb); have n3_ := Aside0.mk (Kd.R_below (by (with_reducible repeat (first | apply Kd.R_alloc | apply Kd.R_drewN | apply Kd.R_drew)); exact HO444.out) hb); have n4_ := Aside0.mk (Kd.R_below (by (with_reducible repeat (first | apply Kd.R_alloc | apply Kd.R_drewN | apply Kd.R_drew)); exact HO451.out) hb); have n5_ := Aside0.mk (Kd.R_below (by (with_reducible repeat (first | apply Kd.R_alloc | apply Kd.R_drewN | apply Kd.R_drew)); exact HO458.out) hb); have n6_ := bb_ BK414 hb; have n7_ := bb_ BK424 hb; have n8_ := bb_ BK431 hb; have n9_ := bb_ BK439 hb; have n10_ := bb_ BK446 hb; have n11_ := bb_ BK453 hb; have n12_ := bb_ BK460 hb; have n13_ := hb_ HB hb; clear HO_425002; clear HO_432002; clear HO437; clear HO444; clear HO451; clear HO458; clear BK414; clear BK424; clear BK431; clear BK439; clear BK446; clear BK453; clear BK460; clear HB; have HO_425002 := n0_; have HO_432002 := n1_; have HO437 := n2_; have HO444 := n3_; have HO451 := n4_; have HO458 := n5_; have BK414 := n6_; have BK424 := n7_; have BK431 := n8_; have BK439 := n9_; have BK446 := n10_; have BK453 := n11_; have BK460 := n12_; have HB := n13_; clear n0_ n1_ n2_ n3_ n4_ n5_ n6_ n7_ n8_ n9_ n10_ n11_ n12_ n13_; (try clear hb); (try clear hb2); (try clear hk); (try clear hi)) | (go_at_call 12; (with_reducible refine (compositorlaw10_exampleHolds.calls kj40  t465 _ A89.out).mono ?_); rintro e w147 ⟨rfl, hb⟩; have n0_ := Aside0.mk (Kd.R_below (by (with_reducible repeat (first | apply Kd.R_alloc | apply Kd.R_drewN | apply Kd.R_drew)); exact HO_425002.out) hb); have n1_ := Aside0.mk (Kd.R_below (by (with_reducible repeat (first | apply Kd.R_alloc | apply Kd.R_drewN | apply Kd.R_drew)); exact HO_432002.out) hb); have n2_ := Aside0.mk (Kd.R_below (by (with_reducible repeat (first | apply Kd.R_alloc | apply Kd.R_drewN | apply Kd.R_drew)); exact HO437.out) hb); have n3_ := Aside0.mk (Kd.R_below (by (with_reducible repeat (first | apply Kd.R_alloc | apply Kd.R_drewN | apply Kd.R_drew)); exact HO444.out) hb); have n4_ := Aside0.mk (Kd.R_below (by (with_reducible repeat (first | apply Kd.R_alloc | apply Kd.R_drewN | apply Kd.R_drew)); exact HO451.out) hb); have n5_ := Aside0.mk (Kd.R_below (by (with_reducible repeat (first | apply Kd.R_alloc | apply Kd.R_drewN | apply Kd.R_drew)); exact HO458.out) hb); have n6_ := bb_ BK414 hb; have n7_ := bb_ BK424 hb; have n8_ := bb_ BK431 hb; have n9_ := bb_ BK439 hb; have n10_ := bb_ BK446 hb; have n11_ := bb_ BK453 hb; have n12_ := bb_ BK460 hb; have n13_ := hb_ HB hb; clear HO_425002; clear HO_432002; clear HO437; clear HO444; clear HO451; clear HO458; clear BK414; clear BK424; clear BK431; clear BK439; clear BK446; clear BK453; clear BK460; clear HB; have HO_425002 := n0_; have HO_432002 := n1_; have HO437 := n2_; have HO444 := n3_; have HO451 := n4_; have HO458 := n5_; have BK414 := n6_; have BK424 := n7_; have BK431 := n8_; have BK439 := n9_; have BK446 := n10_; have BK453 := n11_; have BK460 := n12_; have HB := n13_; clear n0_ n1_ n2_ n3_ n4_ n5_ n6_ n7_ n8_ n9_ n10_ n11_ n12_ n13_; (try clear hb); (try clear hb2); (try clear hk); (try clear hi)))
           go_ret
           exact ⟨by first | rfl | (simp [errW_none, errW_some] <;> rfl) | (simp [*, errW_none, errW_some] <;> rfl), by repeat (first | (with_reducible first | exact HB.out | apply below_alloc | apply pw_below_drewN | apply below_drew1 | refine below_set ?_ GE414.out | refine below_set ?_ GE424.out | refine below_set ?_ GE431.out | refine below_set ?_ GE439.out | refine below_set ?_ GE446.out | refine below_set ?_ GE453.out | refine below_set ?_ GE460.out) | exact HB.out)⟩
          ·
           replace c88 := Bool.eq_false_iff.mpr c88
           subst c88
           have H1 : (some false) = some true := by rw [if_neg (show ¬ (false = true) by decide)] at H; exact H
           clear H
           have H := H1
           clear H1
           exact absurd H (by simp)
         ·
          replace c86 := Bool.eq_false_iff.mpr c86
          subst c86
          have H1 : (some false) = some true := by rw [if_neg (show ¬ (false = true) by decide)] at H; exact H
          clear H
          have H := H1
          clear H1
          exact absurd H (by simp)
        ·
         replace c84 := Bool.eq_false_iff.mpr c84
         subst c84
         have H1 : (some false) = some true := by rw [if_neg (show ¬ (false = true) by decide)] at H; exact H
         clear H
         have H := H1
         clear H1
         exact absurd H (by simp)
       ·
        replace c82 := Bool.eq_false_iff.mpr c82
        subst c82
        have H1 : (some false) = some true := by rw [if_neg (show ¬ (false = true) by decide)] at H; exact H
        clear H
        have H := H1
        clear H1
        exact absurd H (by simp)

end Go.Proofs.Ythpmfhfnkgbkjaa.All
