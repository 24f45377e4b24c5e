-- Written by a program of this session, which runs the kit's print.py and puts in functions that this session typed. Not trusted: Lean checks it.
import Derived.Test.YtpihfglghcoojaaDoorHand
import Derived.Test.YtpihfglghcoojaaDoorAllx0
import Derived.Test.YtpihfglghcoojaaDoorAllx4
import Derived.Test.YtpihfglghcoojaaDoorAllx9
import Derived.Test.YtpihfglghcoojaaDoorAllx10
import Derived.Test.YtpihfglghcoojaaDoorAllx12
import Derived.Test.YtpihfglghcoojaaDoorAllx13
namespace Go.Proofs.YtpihfglghcoojaaDoor.All
open Go.Proofs.YtpihfglghcoojaaDoorSq
open Go.RowKit Go.Proofs.YtpihfglghcoojaaDoorW.PrintWords Go.Proofs.YtpihfglghcoojaaDoorW.PrintLast Go.Proofs.YtpihfglghcoojaaDoorW.PrintMore
attribute [local go_sem] max2_int min2_int max_two min_two max_three min_three max_four min_four   -- for this text's walks alone
set_option linter.unusedVariables false
set_option linter.unusedSimpArgs false

/-! ### transform_ApplyRect: function 21 -/
abbrev zq21.q0 : Array Bool := #[false, false, false, false, false, false, false, false, false, false, false, false]
abbrev zq21.q1 : Array Bool := #[true, false, false, false, false, false, false, false, false, false, false, false]
abbrev zq21.q2 : Array Bool := #[true, false, true, false, false, false, false, false, false, false, false, false]
abbrev zq21.q3 : Array Bool := #[true, false, true, true, false, false, false, false, false, false, false, false]
abbrev zq21.q4 : Array Bool := #[true, false, true, true, true, false, false, false, false, false, false, false]
abbrev zq21.q5 : Array Bool := #[true, false, true, true, true, false, true, false, false, false, false, false]
abbrev zq21.q6 : Array Bool := #[true, false, true, true, true, true, true, false, false, false, false, false]
abbrev zq21.q7 : Array Bool := #[true, false, true, true, true, true, true, true, false, false, false, false]
abbrev zq21.q8 : Array Bool := #[true, false, true, true, true, true, true, true, true, false, false, false]
abbrev zq21.q9 : Array Bool := #[true, true, true, true, true, true, true, true, true, true, true, false]
abbrev zq21.q10 : Array Bool := #[true, true, true, true, true, true, true, true, true, false, false, false]
abbrev zq21.q11 : Array Bool := #[true, false, true, true, true, true, true, true, true, false, true, false]
abbrev zq21.q12 : Array Bool := #[true, true, true, true, true, true, true, true, true, true, false, false]
abbrev zq21.q13 : Array Bool := #[true, true, true, true, true, true, true, true, true, false, true, false]
abbrev zq21.q14 : Array Bool := #[true, true, true, true, true, true, true, true, true, true, true, true]
abbrev zq21.q15 : Array Bool := #[false, false, false, false, false, false, false, false, false, false, false, false, false, false]
abbrev zq21.q16 : Array Bool := #[true, false, false, false, false, false, false, false, false, false, false, false, false, false]
abbrev zq21.q17 : Array Bool := #[true, false, true, false, false, false, false, false, false, false, false, false, false, false]
abbrev zq21.q18 : Array Bool := #[true, false, true, true, false, false, false, false, false, false, false, false, false, false]
abbrev zq21.q19 : Array Bool := #[true, false, true, true, true, false, false, false, false, false, false, false, false, false]
abbrev zq21.q20 : Array Bool := #[true, false, true, true, true, false, false, true, false, false, false, false, false, false]
abbrev zq21.q21 : Array Bool := #[true, false, true, true, true, true, false, true, false, false, false, false, false, false]
abbrev zq21.q22 : Array Bool := #[true, false, true, true, true, true, true, true, false, false, false, false, false, false]
abbrev zq21.q23 : Array Bool := #[true, false, true, true, true, true, true, true, true, false, false, false, false, false]
abbrev zq21.q24 : Array Bool := #[true, false, true, true, true, true, true, true, true, true, false, false, false, false]
abbrev zq21.q25 : Array Bool := #[true, false, true, true, true, true, true, true, true, true, true, false, false, false]
abbrev zq21.q26 : Array Bool := #[true, true, true, true, true, true, true, true, true, true, true, true, true, false]
abbrev zq21.q27 : Array Bool := #[true, true, true, true, true, true, true, true, true, true, true, false, false, false]
abbrev zq21.q28 : Array Bool := #[true, false, true, true, true, true, true, true, true, true, true, false, true, false]
abbrev zq21.q29 : Array Bool := #[true, true, true, true, true, true, true, true, true, true, true, true, false, false]
abbrev zq21.q30 : Array Bool := #[true, true, true, true, true, true, true, true, true, true, true, false, true, false]
abbrev zq21.q31 : Array Bool := #[true, true, true, true, true, true, true, true, true, true, true, true, true, true]
def transform_ApplyRect.f (k : Nat) (a0 : Int) (a1 : Int) (a2 : Int) (a3_0 : Int) (a3_1 : Int) (a3_2 : Int) (a3_3 : Int) : Option (Int × Int × Int × Int) := (transform_inside.f a1 a2).bind fun t158 => (if t158 = true then ((rect_Intersect.f a3_0 a3_1 a3_2 a3_3 0 0 a1 a2).bind fun bt159 => ((rect_Empty.f bt159.1 bt159.2.1 bt159.2.2.1 bt159.2.2.2).bind fun t163 => (if t163 = true then (some (0, 0, 0, 0)) else ((transform_normal.f a0).bind fun t164 => ((transform_apply.f k t164 a1 a2 bt159.1 bt159.2.1).bind fun bt165 => ((transform_normal.f a0).bind fun t168 => ((transform_apply.f k t168 a1 a2 (wrap64 (bt159.2.2.1 - 1)) (wrap64 (bt159.2.2.2 - 1))).bind fun bt169 => (some (mn bt165.1 bt169.1, mn bt165.2 bt169.2, wrap64 ((mx bt165.1 bt169.1) + 1), wrap64 ((mx bt165.2 bt169.2) + 1)))))))))) else (some (0, 0, 0, 0)))
theorem transform_ApplyRect.mono : ∀ a0 a1 a2 a3 a4 a5 a6 k, LeO (transform_ApplyRect.f k a0 a1 a2 a3 a4 a5 a6) (transform_ApplyRect.f (k + 1) a0 a1 a2 a3 a4 a5 a6) := by
 intro a0 a1 a2 a3 a4 a5 a6 k
 unfold transform_ApplyRect.f
 repeat' first
   | (with_reducible exact transform_apply.mono _ _ _ _ _ _)
   | (with_reducible exact LeO.refl _)
   | (with_reducible exact LeO.none _)
   | (with_reducible refine LeO.ite ?_ ?_)
   | (with_reducible refine LeO.bind ?_ (fun _ => ?_))
   | exact transform_apply.mono _ _ _ _ _ _
   | exact LeO.none _
   | refine LeO.ite ?_ ?_
   | refine LeO.bind ?_ (fun _ => ?_)
def transform_ApplyRect.T6 : Bool × List (List Nat × List Nat) := (true, [([], []), ([0], [0]), ([], []), ([], []), ([], []), ([4], [4]), ([], []), ([6], [6]), ([5, 7], [5, 7]), ([1, 2, 3, 8, 1], [1, 2, 3, 8]), ([], []), ([10, 9, 9, 0, 1, 2, 3, 4, 5, 6, 7, 8, 9, 10], [9, 10])])
def transform_ApplyRect.B6 : List Nat := [0, 1, 0, 0, 0, 16, 0, 64, 240, 511, 0, 2047]
theorem transform_ApplyRect.tab6 : rtab .any (opsOf Tryd.f21 6) = transform_ApplyRect.T6 := by kernel_rfl
theorem transform_ApplyRect.bits6 : waitsOk transform_ApplyRect.T6.2 transform_ApplyRect.B6 = true := by kernel_rfl
def transform_ApplyRect.T7 : Bool × List (List Nat × List Nat) := (true, [([], []), ([0], [0]), ([], []), ([], []), ([], []), ([4], [4]), ([5], [5]), ([], []), ([7], [7]), ([8], [8]), ([6, 9], [6, 9]), ([1, 2, 3, 10, 1], [1, 2, 3, 10]), ([], []), ([12, 11, 11, 0, 1, 2, 3, 4, 5, 6, 7, 8, 9, 10, 11, 12], [11, 12])])
def transform_ApplyRect.B7 : List Nat := [0, 1, 0, 0, 0, 16, 48, 0, 128, 384, 1008, 2047, 0, 8191]
theorem transform_ApplyRect.tab7 : rtab .any (opsOf Tryd.f21 7) = transform_ApplyRect.T7 := by kernel_rfl
theorem transform_ApplyRect.bits7 : waitsOk transform_ApplyRect.T7.2 transform_ApplyRect.B7 = true := by kernel_rfl
set_option maxHeartbeats 8000000 in
set_option maxRecDepth 100000 in
theorem transform_ApplyRect.calls (k : Nat) (a0 : Int) (a1 : Int) (a2 : Int) (a3_0 : Int) (a3_1 : Int) (a3_2 : Int) (a3_3 : Int) (r1 : Int) (r2 : Int) (r3 : Int) (r4 : Int) (w : World) (h : transform_ApplyRect.f k a0 a1 a2 a3_0 a3_1 a3_2 a3_3 = some (r1, r2, r3, r4)) :
  Calls Tryd.prog 21 #[.int .i64 a0, .int .i64 a1, .int .i64 a2, .agg #[.int .i64 a3_0, .int .i64 a3_1, .int .i64 a3_2, .int .i64 a3_3]] w fun e w' => e = .returned (.agg #[.int .i64 r1, .int .i64 r2, .int .i64 r3, .int .i64 r4]) ∧ Below w.heap.size w w' := by
 have hu32 := Tryd.underlying32
 have hu23 := Tryd.underlying23
 have HB := Aside0.mk (Below.refl w.heap.size w)
 have H : ((transform_inside.f a1 a2).bind fun t158 => (if t158 = true then ((rect_Intersect.f a3_0 a3_1 a3_2 a3_3 0 0 a1 a2).bind fun bt159 => ((rect_Empty.f bt159.1 bt159.2.1 bt159.2.2.1 bt159.2.2.2).bind fun t163 => (if t163 = true then (some (0, 0, 0, 0)) else ((transform_normal.f a0).bind fun t164 => ((transform_apply.f k t164 a1 a2 bt159.1 bt159.2.1).bind fun bt165 => ((transform_normal.f a0).bind fun t168 => ((transform_apply.f k t168 a1 a2 (wrap64 (bt159.2.2.1 - 1)) (wrap64 (bt159.2.2.2 - 1))).bind fun bt169 => (some (mn bt165.1 bt169.1, mn bt165.2 bt169.2, wrap64 ((mx bt165.1 bt169.1) + 1), wrap64 ((mx bt165.2 bt169.2) + 1)))))))))) else (some (0, 0, 0, 0)))) = some (r1, r2, r3, r4) := h
 clear h
 replace H := Option.bind_eq_some_iff.mp H
 obtain ⟨t158, A50, H⟩ := H
 try dsimp only at H
 have A5 := Aside0.mk A50
 clear A50
 by_cases c6 : t158 = true
 ·
  subst c6
  have H1 : ((rect_Intersect.f a3_0 a3_1 a3_2 a3_3 0 0 a1 a2).bind fun bt159 => ((rect_Empty.f bt159.1 bt159.2.1 bt159.2.2.1 bt159.2.2.2).bind fun t163 => (if t163 = true then (some (0, 0, 0, 0)) else ((transform_normal.f a0).bind fun t164 => ((transform_apply.f k t164 a1 a2 bt159.1 bt159.2.1).bind fun bt165 => ((transform_normal.f a0).bind fun t168 => ((transform_apply.f k t168 a1 a2 (wrap64 (bt159.2.2.1 - 1)) (wrap64 (bt159.2.2.2 - 1))).bind fun bt169 => (some (mn bt165.1 bt169.1, mn bt165.2 bt169.2, wrap64 ((mx bt165.1 bt169.1) + 1), wrap64 ((mx bt165.2 bt169.2) + 1)))))))))) = some (r1, r2, r3, r4) := by rw [if_pos rfl] at H; exact H
  clear H
  have H := H1
  clear H1
  replace H := Option.bind_eq_some_iff.mp H
  obtain ⟨⟨t159, t160, t161, t162⟩, A70, H⟩ := H
  try dsimp only at H
  have A7 := Aside0.mk A70
  clear A70
  replace H := Option.bind_eq_some_iff.mp H
  obtain ⟨t163, A80, H⟩ := H
  try dsimp only at H
  have A8 := Aside0.mk A80
  clear A80
  by_cases c9 : t163 = true
  ·
   subst c9
   have H1 : (some (0, 0, 0, 0)) = some (r1, r2, r3, r4) := by rw [if_pos rfl] at H; exact H
   clear H
   have H := H1
   clear H1
   simp only [Option.some.injEq, Prod.mk.injEq] at H
   obtain ⟨rfl, rfl, rfl, rfl⟩ := H
   go_enter Tryd.func21, Tryd.ntmps21
   go_wp2_with (first | ((with_reducible refine gate_dst (N := 7) rfl ?_); refine box_event ?hg (N := 7) ?hd (cs := #[.int .i64 a3_0, .int .i64 a3_1, .int .i64 a3_2, .int .i64 a3_3]) (t := 32) ?hr ?_; (case hd => rfl); (case hg => rfl); (case hr => first | (go_simp; done) | (go_simp; rfl)); intro gb156 hg w10 hbox hb; have n0_ := hb_ HB hb; have n1_ := Aside0.mk (hbox); have n2_ := Aside0.mk ((by rw [hg]; exact (below_size (hq_ HB)) : w.heap.size ≤ gb156)); have n3_ := Aside0.mk ((by rw [hg]; exact (below_size (hq_ HB)) : w.heap.size ≤ gb156)); clear HB; have HB := n0_; have BK156 := n1_; have GW156 := n2_; have GE156 := n3_; clear n0_ n1_ n2_ n3_; clear hb hbox hg) | ((with_reducible refine gate_dst (N := 8) rfl ?_); refine box_event ?hg (N := 8) ?hd (cs := #[.int .i64 0, .int .i64 0, .int .i64 0, .int .i64 0]) (t := 32) ?hr ?_; (case hd => rfl); (case hg => rfl); (case hr => first | (go_simp; done) | (go_simp; rfl)); intro gb157 hg w11 hbox hb; have n0_ := bb_ BK156 hb; have n1_ := hb_ HB hb; have n2_ := Aside0.mk (hbox); have n3_ := Aside0.mk ((by rw [hg]; exact (below_size (hq_ HB)) : w.heap.size ≤ gb157)); have n4_ := Aside0.mk ((by rw [hg]; exact (below_size (hq_ HB)) : w.heap.size ≤ gb157)); have n5_ := Aside0.mk ((by rw [hg]; exact Nat.ne_of_lt (blk_lt (g := gb156) (o := .cells #[.int .i64 a3_0, .int .i64 a3_1, .int .i64 a3_2, .int .i64 a3_3] 32 (0, 0)) (bq_ BK156)) : gb156 ≠ gb157)); have n6_ := Aside0.mk ((by rw [hg]; exact Nat.ne_of_gt (blk_lt (g := gb156) (o := .cells #[.int .i64 a3_0, .int .i64 a3_1, .int .i64 a3_2, .int .i64 a3_3] 32 (0, 0)) (bq_ BK156)) : gb157 ≠ gb156)); clear BK156; clear HB; have BK156 := n0_; have HB := n1_; have BK157 := n2_; have GW157 := n3_; have GE157 := n4_; have NB156_157 := n5_; have NB157_156 := n6_; clear n0_ n1_ n2_ n3_ n4_ n5_ n6_; clear hb hbox hg) | ((with_reducible refine gate_callee (f := 36) rfl ?_); refine goesL_ (some 13) rfl rfl Tryd.func36 (by kernel_rfl) rfl #[.int .i64 a1, .int .i64 a2] rfl (by (try simp only [List.map_toArray, List.map_cons, List.map_nil]) <;> rfl) ?_; (with_reducible refine (transform_inside.calls a1 a2 true _ A5.out).mono ?_); rintro e w' ⟨rfl, ⟨nd, rfl⟩⟩; refine ⟨_, rfl, ?_⟩; (try (rw [drewN_self w11]; generalize hq_ : World.drewN w11 _ = w11; have n0_ : Aside0 (w11.heap[gb156]? = some (.cells #[.int .i64 a3_0, .int .i64 a3_1, .int .i64 a3_2, .int .i64 a3_3] 32 (0, 0))) := ⟨by rw [← hq_]; exact (bq_ BK156)⟩; have n1_ : Aside0 (w11.heap[gb157]? = some (.cells #[.int .i64 0, .int .i64 0, .int .i64 0, .int .i64 0] 32 (0, 0))) := ⟨by rw [← hq_]; exact (bq_ BK157)⟩; have n2_ : Aside0 (Below w.heap.size w w11) := ⟨by rw [← hq_]; exact (hq_ HB)⟩; clear BK156 BK157 HB hq_; have BK156 := n0_; have BK157 := n1_; have HB := n2_; clear n0_ n1_ n2_; have hcy0_0 : w11.cell? ⟨gb156, 0, none⟩ = some (.int .i64 a3_0) := (blk_cell BK156.out 0).trans rfl; have hfy0_0 := blk_frozen BK156.out 0; have hcy0_1 : w11.cell? ⟨gb156, 1, none⟩ = some (.int .i64 a3_1) := (blk_cell BK156.out 1).trans rfl; have hfy0_1 := blk_frozen BK156.out 1; have hcy0_2 : w11.cell? ⟨gb156, 2, none⟩ = some (.int .i64 a3_2) := (blk_cell BK156.out 2).trans rfl; have hfy0_2 := blk_frozen BK156.out 2; have hcy0_3 : w11.cell? ⟨gb156, 3, none⟩ = some (.int .i64 a3_3) := (blk_cell BK156.out 3).trans rfl; have hfy0_3 := blk_frozen BK156.out 3; have hcy1_0 : w11.cell? ⟨gb157, 0, none⟩ = some (.int .i64 0) := (blk_cell BK157.out 0).trans rfl; have hfy1_0 := blk_frozen BK157.out 0; have hcy1_1 : w11.cell? ⟨gb157, 1, none⟩ = some (.int .i64 0) := (blk_cell BK157.out 1).trans rfl; have hfy1_1 := blk_frozen BK157.out 1; have hcy1_2 : w11.cell? ⟨gb157, 2, none⟩ = some (.int .i64 0) := (blk_cell BK157.out 2).trans rfl; have hfy1_2 := blk_frozen BK157.out 2; have hcy1_3 : w11.cell? ⟨gb157, 3, none⟩ = some (.int .i64 0) := (blk_cell BK157.out 3).trans rfl; have hfy1_3 := blk_frozen BK157.out 3)); have hnb12 := NB156_157.out; have hnc12 := NB157_156.out; have hcz13_0 : w11.cell? ⟨gb156, 0, none⟩ = some (.int .i64 a3_0) := (blk_cell BK156.out 0).trans rfl; have hcz13_1 : w11.cell? ⟨gb156, 1, none⟩ = some (.int .i64 a3_1) := (blk_cell BK156.out 1).trans rfl; have hcz13_2 : w11.cell? ⟨gb156, 2, none⟩ = some (.int .i64 a3_2) := (blk_cell BK156.out 2).trans rfl; have hcz13_3 : w11.cell? ⟨gb156, 3, none⟩ = some (.int .i64 a3_3) := (blk_cell BK156.out 3).trans rfl; have hfz13_0 := blk_frozen BK156.out 0; have hfz13_1 := blk_frozen BK156.out 1; have hfz13_2 := blk_frozen BK156.out 2; have hfz13_3 := blk_frozen BK156.out 3) | ((with_reducible refine gate_callee (f := 39) rfl ?_); refine goesL_ (some 20) rfl rfl Tryd.func39 (by kernel_rfl) rfl #[.agg #[.int .i64 a3_0, .int .i64 a3_1, .int .i64 a3_2, .int .i64 a3_3], .agg #[.int .i64 0, .int .i64 0, .int .i64 a1, .int .i64 a2]] rfl (by (try simp only [List.map_toArray, List.map_cons, List.map_nil]) <;> rfl) ?_; (with_reducible refine (rect_Intersect.calls a3_0 a3_1 a3_2 a3_3 0 0 a1 a2 t159 t160 t161 t162 _ A7.out).mono ?_); rintro e w14 ⟨rfl, hb⟩; refine ⟨_, rfl, ?_⟩; have n0_ := bb_ BK156 hb; have n1_ := bb_ BK157 hb; have n2_ := hb_ HB hb; clear BK156; clear BK157; clear HB; have BK156 := n0_; have BK157 := n1_; have HB := n2_; clear n0_ n1_ n2_; (try clear hb); (try clear hb2); (try clear hk); (try clear hi); have hcz15_0 : w14.cell? ⟨gb156, 0, none⟩ = some (.int .i64 a3_0) := (blk_cell BK156.out 0).trans rfl; have hcz15_1 : w14.cell? ⟨gb156, 1, none⟩ = some (.int .i64 a3_1) := (blk_cell BK156.out 1).trans rfl; have hcz15_2 : w14.cell? ⟨gb156, 2, none⟩ = some (.int .i64 a3_2) := (blk_cell BK156.out 2).trans rfl; have hcz15_3 : w14.cell? ⟨gb156, 3, none⟩ = some (.int .i64 a3_3) := (blk_cell BK156.out 3).trans rfl; have hfz15_0 := blk_frozen BK156.out 0; have hfz15_1 := blk_frozen BK156.out 1; have hfz15_2 := blk_frozen BK156.out 2; have hfz15_3 := blk_frozen BK156.out 3) | ((with_reducible refine gate_callee (f := 40) rfl ?_); refine goesL_ (some 22) rfl rfl Tryd.func40 (by kernel_rfl) rfl #[.agg #[.int .i64 t159, .int .i64 t160, .int .i64 t161, .int .i64 t162]] rfl (by (try simp only [List.map_toArray, List.map_cons, List.map_nil]) <;> rfl) ?_; (with_reducible refine (rect_Empty.calls t159 t160 t161 t162 true _ A8.out).mono ?_); rintro e w16 ⟨rfl, hb⟩; refine ⟨_, rfl, ?_⟩; have n0_ := Aside0.mk (blk_below (g := gb156) (o := .cells #[.int .i64 t159, .int .i64 t160, .int .i64 t161, .int .i64 t162] 32 (0, 0)) (by (with_reducible repeat (first | refine blk_drewN ?_ _ | refine blk_drew ?_ | refine blk_alloc ?_ _)); refine blk_put (cs := #[.int .i64 t159, .int .i64 t160, .int .i64 t161, .int .i64 a3_3]) ?_ 3 _ rfl; (with_reducible repeat (first | refine blk_drewN ?_ _ | refine blk_drew ?_ | refine blk_alloc ?_ _)); refine blk_put (cs := #[.int .i64 t159, .int .i64 t160, .int .i64 a3_2, .int .i64 a3_3]) ?_ 2 _ rfl; (with_reducible repeat (first | refine blk_drewN ?_ _ | refine blk_drew ?_ | refine blk_alloc ?_ _)); refine blk_put (cs := #[.int .i64 t159, .int .i64 a3_1, .int .i64 a3_2, .int .i64 a3_3]) ?_ 1 _ rfl; (with_reducible repeat (first | refine blk_drewN ?_ _ | refine blk_drew ?_ | refine blk_alloc ?_ _)); refine blk_put (cs := #[.int .i64 a3_0, .int .i64 a3_1, .int .i64 a3_2, .int .i64 a3_3]) ?_ 0 _ rfl; (with_reducible repeat (first | refine blk_drewN ?_ _ | refine blk_drew ?_ | refine blk_alloc ?_ _)); exact BK156.out) hb); have n1_ := Aside0.mk (blk_below (g := gb157) (o := .cells #[.int .i64 0, .int .i64 0, .int .i64 0, .int .i64 0] 32 (0, 0)) (by (with_reducible repeat (first | refine blk_drewN ?_ _ | refine blk_drew ?_ | refine blk_alloc ?_ _)); refine blk_far ?_ NB157_156.out _; (with_reducible repeat (first | refine blk_drewN ?_ _ | refine blk_drew ?_ | refine blk_alloc ?_ _)); refine blk_far ?_ NB157_156.out _; (with_reducible repeat (first | refine blk_drewN ?_ _ | refine blk_drew ?_ | refine blk_alloc ?_ _)); refine blk_far ?_ NB157_156.out _; (with_reducible repeat (first | refine blk_drewN ?_ _ | refine blk_drew ?_ | refine blk_alloc ?_ _)); refine blk_far ?_ NB157_156.out _; (with_reducible repeat (first | refine blk_drewN ?_ _ | refine blk_drew ?_ | refine blk_alloc ?_ _)); exact BK157.out) hb); have n2_ := hb_ HB hb; clear BK156; clear BK157; clear HB; have BK156 := n0_; have BK157 := n1_; have HB := n2_; clear n0_ n1_ n2_; (try clear hb); (try clear hb2); (try clear hk); (try clear hi); have hcz17_0 : w16.cell? ⟨gb157, 0, none⟩ = some (.int .i64 0) := (blk_cell BK157.out 0).trans rfl; have hcz17_1 : w16.cell? ⟨gb157, 1, none⟩ = some (.int .i64 0) := (blk_cell BK157.out 1).trans rfl; have hcz17_2 : w16.cell? ⟨gb157, 2, none⟩ = some (.int .i64 0) := (blk_cell BK157.out 2).trans rfl; have hcz17_3 : w16.cell? ⟨gb157, 3, none⟩ = some (.int .i64 0) := (blk_cell BK157.out 3).trans rfl; have hfz17_0 := blk_frozen BK157.out 0; have hfz17_1 := blk_frozen BK157.out 1; have hfz17_2 := blk_frozen BK157.out 2; have hfz17_3 := blk_frozen BK157.out 3))
   refine bodyPost_ret (results_cell_row rfl _ _ gb157 32 #[.int .i64 0, .int .i64 0, .int .i64 0, .int .i64 0] (0, 0) _ rfl (by (with_reducible repeat (first | refine blk_drewN ?_ _ | refine blk_drew ?_ | refine blk_alloc ?_ _)); refine blk_put (cs := #[.int .i64 0, .int .i64 0, .int .i64 0, .int .i64 0]) ?_ 3 _ rfl; (with_reducible repeat (first | refine blk_drewN ?_ _ | refine blk_drew ?_ | refine blk_alloc ?_ _)); refine blk_put (cs := #[.int .i64 0, .int .i64 0, .int .i64 0, .int .i64 0]) ?_ 2 _ rfl; (with_reducible repeat (first | refine blk_drewN ?_ _ | refine blk_drew ?_ | refine blk_alloc ?_ _)); refine blk_put (cs := #[.int .i64 0, .int .i64 0, .int .i64 0, .int .i64 0]) ?_ 1 _ rfl; (with_reducible repeat (first | refine blk_drewN ?_ _ | refine blk_drew ?_ | refine blk_alloc ?_ _)); refine blk_put (cs := #[.int .i64 0, .int .i64 0, .int .i64 0, .int .i64 0]) ?_ 0 _ rfl; (with_reducible repeat (first | refine blk_drewN ?_ _ | refine blk_drew ?_ | refine blk_alloc ?_ _)); exact BK157.out) Tryd.underlying32 rfl (by kernel_rfl)) rfl ?_
   exact ⟨by first | rfl | (simp [errW_none, errW_some] <;> rfl) | (simp [*, errW_none, errW_some] <;> rfl), by repeat (first | (with_reducible first | exact HB.out | apply below_alloc | apply pw_below_drewN | apply below_drew1 | refine below_set ?_ GE156.out | refine below_set ?_ GE157.out) | exact HB.out)⟩
  ·
   replace c9 := Bool.eq_false_iff.mpr c9
   subst c9
   have H1 : ((transform_normal.f a0).bind fun t164 => ((transform_apply.f k t164 a1 a2 t159 t160).bind fun bt165 => ((transform_normal.f a0).bind fun t168 => ((transform_apply.f k t168 a1 a2 (wrap64 (t161 - 1)) (wrap64 (t162 - 1))).bind fun bt169 => (some (mn bt165.1 bt169.1, mn bt165.2 bt169.2, wrap64 ((mx bt165.1 bt169.1) + 1), wrap64 ((mx bt165.2 bt169.2) + 1))))))) = some (r1, r2, r3, r4) := by rw [if_neg (show ¬ (false = true) by decide)] at H; exact H
   clear H
   have H := H1
   clear H1
   replace H := Option.bind_eq_some_iff.mp H
   obtain ⟨t164, A180, H⟩ := H
   try dsimp only at H
   have A18 := Aside0.mk A180
   clear A180
   replace H := Option.bind_eq_some_iff.mp H
   obtain ⟨⟨t165, t166⟩, A190, H⟩ := H
   try dsimp only at H
   have A19 := Aside0.mk A190
   clear A190
   replace H := Option.bind_eq_some_iff.mp H
   obtain ⟨t168, A200, H⟩ := H
   try dsimp only at H
   have A20 := Aside0.mk A200
   clear A200
   replace H := Option.bind_eq_some_iff.mp H
   obtain ⟨⟨t169, t170⟩, A210, H⟩ := H
   try dsimp only at H
   have A21 := Aside0.mk A210
   clear A210
   obtain ⟨ji22, hji22⟩ : ∃ j_ : Int, (mn t165 t169) = j_ := ⟨_, rfl⟩
   replace H : (some (ji22, mn t166 t170, wrap64 ((mx t165 t169) + 1), wrap64 ((mx t166 t170) + 1))) = some (r1, r2, r3, r4) := by first | (rw [hji22] at H; exact H) | (simp only [hji22] at H ⊢; exact H)
   (try rw [hji22] at A5)
   (try rw [hji22] at A7)
   (try rw [hji22] at A8)
   (try rw [hji22] at A18)
   (try rw [hji22] at A19)
   (try rw [hji22] at A20)
   (try rw [hji22] at A21)
   have hji22_ : (if t169 < t165 then t169 else t165) = ji22 := hji22
   obtain ⟨ji23, hji23⟩ : ∃ j_ : Int, (mn t166 t170) = j_ := ⟨_, rfl⟩
   replace H : (some (ji22, ji23, wrap64 ((mx t165 t169) + 1), wrap64 ((mx t166 t170) + 1))) = some (r1, r2, r3, r4) := by first | (rw [hji23] at H; exact H) | (simp only [hji23] at H ⊢; exact H)
   (try rw [hji23] at A5)
   (try rw [hji23] at A7)
   (try rw [hji23] at A8)
   (try rw [hji23] at A18)
   (try rw [hji23] at A19)
   (try rw [hji23] at A20)
   (try rw [hji23] at A21)
   have hji23_ : (if t170 < t166 then t170 else t166) = ji23 := hji23
   obtain ⟨ji24, hji24⟩ : ∃ j_ : Int, (mx t165 t169) = j_ := ⟨_, rfl⟩
   replace H : (some (ji22, ji23, wrap64 ((ji24) + 1), wrap64 ((mx t166 t170) + 1))) = some (r1, r2, r3, r4) := by first | (rw [hji24] at H; exact H) | (simp only [hji24] at H ⊢; exact H)
   (try rw [hji24] at A5)
   (try rw [hji24] at A7)
   (try rw [hji24] at A8)
   (try rw [hji24] at A18)
   (try rw [hji24] at A19)
   (try rw [hji24] at A20)
   (try rw [hji24] at A21)
   have hji24_ : (if t165 < t169 then t169 else t165) = ji24 := hji24
   obtain ⟨ji25, hji25⟩ : ∃ j_ : Int, (mx t166 t170) = j_ := ⟨_, rfl⟩
   replace H : (some (ji22, ji23, wrap64 ((ji24) + 1), wrap64 ((ji25) + 1))) = some (r1, r2, r3, r4) := by first | (rw [hji25] at H; exact H) | (simp only [hji25] at H ⊢; exact H)
   (try rw [hji25] at A5)
   (try rw [hji25] at A7)
   (try rw [hji25] at A8)
   (try rw [hji25] at A18)
   (try rw [hji25] at A19)
   (try rw [hji25] at A20)
   (try rw [hji25] at A21)
   have hji25_ : (if t166 < t170 then t170 else t166) = ji25 := hji25
   simp only [Option.some.injEq, Prod.mk.injEq] at H
   obtain ⟨rfl, rfl, rfl, rfl⟩ := H
   go_enter Tryd.func21, Tryd.ntmps21
   try go_wp2_with (first | ((with_reducible refine gate_dst (N := 7) rfl ?_); refine box_event ?hg (N := 7) ?hd (cs := #[.int .i64 a3_0, .int .i64 a3_1, .int .i64 a3_2, .int .i64 a3_3]) (t := 32) ?hr ?_; (case hd => rfl); (case hg => rfl); (case hr => first | (go_simp; done) | (go_simp; rfl)); intro gb156 hg w26 hbox hb; have n0_ := hb_ HB hb; have n1_ := Aside0.mk (hbox); have n2_ := Aside0.mk ((by rw [hg]; exact (below_size (hq_ HB)) : w.heap.size ≤ gb156)); have n3_ := Aside0.mk ((by rw [hg]; exact (below_size (hq_ HB)) : w.heap.size ≤ gb156)); clear HB; have HB := n0_; have BK156 := n1_; have GW156 := n2_; have GE156 := n3_; clear n0_ n1_ n2_ n3_; clear hb hbox hg) | ((with_reducible refine gate_dst (N := 8) rfl ?_); refine box_event ?hg (N := 8) ?hd (cs := #[.int .i64 0, .int .i64 0, .int .i64 0, .int .i64 0]) (t := 32) ?hr ?_; (case hd => rfl); (case hg => rfl); (case hr => first | (go_simp; done) | (go_simp; rfl)); intro gb157 hg w27 hbox hb; have n0_ := bb_ BK156 hb; have n1_ := hb_ HB hb; have n2_ := Aside0.mk (hbox); have n3_ := Aside0.mk ((by rw [hg]; exact (below_size (hq_ HB)) : w.heap.size ≤ gb157)); have n4_ := Aside0.mk ((by rw [hg]; exact (below_size (hq_ HB)) : w.heap.size ≤ gb157)); have n5_ := Aside0.mk ((by rw [hg]; exact Nat.ne_of_lt (blk_lt (g := gb156) (o := .cells #[.int .i64 a3_0, .int .i64 a3_1, .int .i64 a3_2, .int .i64 a3_3] 32 (0, 0)) (bq_ BK156)) : gb156 ≠ gb157)); have n6_ := Aside0.mk ((by rw [hg]; exact Nat.ne_of_gt (blk_lt (g := gb156) (o := .cells #[.int .i64 a3_0, .int .i64 a3_1, .int .i64 a3_2, .int .i64 a3_3] 32 (0, 0)) (bq_ BK156)) : gb157 ≠ gb156)); clear BK156; clear HB; have BK156 := n0_; have HB := n1_; have BK157 := n2_; have GW157 := n3_; have GE157 := n4_; have NB156_157 := n5_; have NB157_156 := n6_; clear n0_ n1_ n2_ n3_ n4_ n5_ n6_; clear hb hbox hg) | ((with_reducible refine gate_callee (f := 36) rfl ?_); refine goesL_ (some 13) rfl rfl Tryd.func36 (by kernel_rfl) rfl #[.int .i64 a1, .int .i64 a2] rfl (by (try simp only [List.map_toArray, List.map_cons, List.map_nil]) <;> rfl) ?_; (with_reducible refine (transform_inside.calls a1 a2 true _ A5.out).mono ?_); rintro e w' ⟨rfl, ⟨nd, rfl⟩⟩; refine ⟨_, rfl, ?_⟩; (try (rw [drewN_self w27]; generalize hq_ : World.drewN w27 _ = w27; have n0_ : Aside0 (w27.heap[gb156]? = some (.cells #[.int .i64 a3_0, .int .i64 a3_1, .int .i64 a3_2, .int .i64 a3_3] 32 (0, 0))) := ⟨by rw [← hq_]; exact (bq_ BK156)⟩; have n1_ : Aside0 (w27.heap[gb157]? = some (.cells #[.int .i64 0, .int .i64 0, .int .i64 0, .int .i64 0] 32 (0, 0))) := ⟨by rw [← hq_]; exact (bq_ BK157)⟩; have n2_ : Aside0 (Below w.heap.size w w27) := ⟨by rw [← hq_]; exact (hq_ HB)⟩; clear BK156 BK157 HB hq_; have BK156 := n0_; have BK157 := n1_; have HB := n2_; clear n0_ n1_ n2_; have hcy0_0 : w27.cell? ⟨gb156, 0, none⟩ = some (.int .i64 a3_0) := (blk_cell BK156.out 0).trans rfl; have hfy0_0 := blk_frozen BK156.out 0; have hcy0_1 : w27.cell? ⟨gb156, 1, none⟩ = some (.int .i64 a3_1) := (blk_cell BK156.out 1).trans rfl; have hfy0_1 := blk_frozen BK156.out 1; have hcy0_2 : w27.cell? ⟨gb156, 2, none⟩ = some (.int .i64 a3_2) := (blk_cell BK156.out 2).trans rfl; have hfy0_2 := blk_frozen BK156.out 2; have hcy0_3 : w27.cell? ⟨gb156, 3, none⟩ = some (.int .i64 a3_3) := (blk_cell BK156.out 3).trans rfl; have hfy0_3 := blk_frozen BK156.out 3; have hcy1_0 : w27.cell? ⟨gb157, 0, none⟩ = some (.int .i64 0) := (blk_cell BK157.out 0).trans rfl; have hfy1_0 := blk_frozen BK157.out 0; have hcy1_1 : w27.cell? ⟨gb157, 1, none⟩ = some (.int .i64 0) := (blk_cell BK157.out 1).trans rfl; have hfy1_1 := blk_frozen BK157.out 1; have hcy1_2 : w27.cell? ⟨gb157, 2, none⟩ = some (.int .i64 0) := (blk_cell BK157.out 2).trans rfl; have hfy1_2 := blk_frozen BK157.out 2; have hcy1_3 : w27.cell? ⟨gb157, 3, none⟩ = some (.int .i64 0) := (blk_cell BK157.out 3).trans rfl; have hfy1_3 := blk_frozen BK157.out 3)); have hnb28 := NB156_157.out; have hnc28 := NB157_156.out; have hcz29_0 : w27.cell? ⟨gb156, 0, none⟩ = some (.int .i64 a3_0) := (blk_cell BK156.out 0).trans rfl; have hcz29_1 : w27.cell? ⟨gb156, 1, none⟩ = some (.int .i64 a3_1) := (blk_cell BK156.out 1).trans rfl; have hcz29_2 : w27.cell? ⟨gb156, 2, none⟩ = some (.int .i64 a3_2) := (blk_cell BK156.out 2).trans rfl; have hcz29_3 : w27.cell? ⟨gb156, 3, none⟩ = some (.int .i64 a3_3) := (blk_cell BK156.out 3).trans rfl; have hfz29_0 := blk_frozen BK156.out 0; have hfz29_1 := blk_frozen BK156.out 1; have hfz29_2 := blk_frozen BK156.out 2; have hfz29_3 := blk_frozen BK156.out 3) | ((with_reducible refine gate_callee (f := 39) rfl ?_); refine goesL_ (some 20) rfl rfl Tryd.func39 (by kernel_rfl) rfl #[.agg #[.int .i64 a3_0, .int .i64 a3_1, .int .i64 a3_2, .int .i64 a3_3], .agg #[.int .i64 0, .int .i64 0, .int .i64 a1, .int .i64 a2]] rfl (by (try simp only [List.map_toArray, List.map_cons, List.map_nil]) <;> rfl) ?_; (with_reducible refine (rect_Intersect.calls a3_0 a3_1 a3_2 a3_3 0 0 a1 a2 t159 t160 t161 t162 _ A7.out).mono ?_); rintro e w30 ⟨rfl, hb⟩; refine ⟨_, rfl, ?_⟩; have n0_ := bb_ BK156 hb; have n1_ := bb_ BK157 hb; have n2_ := hb_ HB hb; clear BK156; clear BK157; clear HB; have BK156 := n0_; have BK157 := n1_; have HB := n2_; clear n0_ n1_ n2_; (try clear hb); (try clear hb2); (try clear hk); (try clear hi); have hcz31_0 : w30.cell? ⟨gb156, 0, none⟩ = some (.int .i64 a3_0) := (blk_cell BK156.out 0).trans rfl; have hcz31_1 : w30.cell? ⟨gb156, 1, none⟩ = some (.int .i64 a3_1) := (blk_cell BK156.out 1).trans rfl; have hcz31_2 : w30.cell? ⟨gb156, 2, none⟩ = some (.int .i64 a3_2) := (blk_cell BK156.out 2).trans rfl; have hcz31_3 : w30.cell? ⟨gb156, 3, none⟩ = some (.int .i64 a3_3) := (blk_cell BK156.out 3).trans rfl; have hfz31_0 := blk_frozen BK156.out 0; have hfz31_1 := blk_frozen BK156.out 1; have hfz31_2 := blk_frozen BK156.out 2; have hfz31_3 := blk_frozen BK156.out 3) | ((with_reducible refine gate_callee (f := 40) rfl ?_); refine goesL_ (some 22) rfl rfl Tryd.func40 (by kernel_rfl) rfl #[.agg #[.int .i64 t159, .int .i64 t160, .int .i64 t161, .int .i64 t162]] rfl (by (try simp only [List.map_toArray, List.map_cons, List.map_nil]) <;> rfl) ?_; (with_reducible refine (rect_Empty.calls t159 t160 t161 t162 false _ A8.out).mono ?_); rintro e w32 ⟨rfl, hb⟩; refine ⟨_, rfl, ?_⟩; have n0_ := Aside0.mk (blk_below (g := gb156) (o := .cells #[.int .i64 t159, .int .i64 t160, .int .i64 t161, .int .i64 t162] 32 (0, 0)) (by (with_reducible repeat (first | refine blk_drewN ?_ _ | refine blk_drew ?_ | refine blk_alloc ?_ _)); refine blk_put (cs := #[.int .i64 t159, .int .i64 t160, .int .i64 t161, .int .i64 a3_3]) ?_ 3 _ rfl; (with_reducible repeat (first | refine blk_drewN ?_ _ | refine blk_drew ?_ | refine blk_alloc ?_ _)); refine blk_put (cs := #[.int .i64 t159, .int .i64 t160, .int .i64 a3_2, .int .i64 a3_3]) ?_ 2 _ rfl; (with_reducible repeat (first | refine blk_drewN ?_ _ | refine blk_drew ?_ | refine blk_alloc ?_ _)); refine blk_put (cs := #[.int .i64 t159, .int .i64 a3_1, .int .i64 a3_2, .int .i64 a3_3]) ?_ 1 _ rfl; (with_reducible repeat (first | refine blk_drewN ?_ _ | refine blk_drew ?_ | refine blk_alloc ?_ _)); refine blk_put (cs := #[.int .i64 a3_0, .int .i64 a3_1, .int .i64 a3_2, .int .i64 a3_3]) ?_ 0 _ rfl; (with_reducible repeat (first | refine blk_drewN ?_ _ | refine blk_drew ?_ | refine blk_alloc ?_ _)); exact BK156.out) hb); have n1_ := Aside0.mk (blk_below (g := gb157) (o := .cells #[.int .i64 0, .int .i64 0, .int .i64 0, .int .i64 0] 32 (0, 0)) (by (with_reducible repeat (first | refine blk_drewN ?_ _ | refine blk_drew ?_ | refine blk_alloc ?_ _)); refine blk_far ?_ NB157_156.out _; (with_reducible repeat (first | refine blk_drewN ?_ _ | refine blk_drew ?_ | refine blk_alloc ?_ _)); refine blk_far ?_ NB157_156.out _; (with_reducible repeat (first | refine blk_drewN ?_ _ | refine blk_drew ?_ | refine blk_alloc ?_ _)); refine blk_far ?_ NB157_156.out _; (with_reducible repeat (first | refine blk_drewN ?_ _ | refine blk_drew ?_ | refine blk_alloc ?_ _)); refine blk_far ?_ NB157_156.out _; (with_reducible repeat (first | refine blk_drewN ?_ _ | refine blk_drew ?_ | refine blk_alloc ?_ _)); exact BK157.out) hb); have n2_ := hb_ HB hb; clear BK156; clear BK157; clear HB; have BK156 := n0_; have BK157 := n1_; have HB := n2_; clear n0_ n1_ n2_; (try clear hb); (try clear hb2); (try clear hk); (try clear hi)))
   replace BK156 := Aside0.mk (blk_drew BK156.out)
   replace BK157 := Aside0.mk (blk_drew BK157.out)
   replace HB := Aside0.mk (below_drew1 HB.out)
   refine start_ (n := 12) (S := fun w' => w'.cell? ⟨gb156, 0, none⟩ = some (.int .i64 t159) ∧ w'.cell? ⟨gb156, 1, none⟩ = some (.int .i64 t160) ∧ w'.cell? ⟨gb156, 2, none⟩ = some (.int .i64 t161) ∧ w'.cell? ⟨gb156, 3, none⟩ = some (.int .i64 t162)) (ds := []) zq21.q0 (by kernel_rfl) rfl rfl (h4_ BK156) (fun hHeld => ?_); refine with_tabW transform_ApplyRect.tab6 transform_ApplyRect.bits6 (fun HT_ HW_ => ?_)
   generalize w32.drew = w33 at BK156 BK157 HB hHeld ⊢
   refine pv_ 0 24 zq21.q1 HT_ ?_
   refine pv_ 2 26 zq21.q2 HT_ ?_
   refine pv_ 3 27 zq21.q3 HT_ ?_
   refine pv_ 4 28 zq21.q4 HT_ ?_
   refine pv_ 6 30 zq21.q5 HT_ ?_
   refine tk4_ 5 29 zq21.q6 HT_ HW_ hHeld ?_
   refine tk4_ 7 31 zq21.q7 HT_ HW_ hHeld ?_
   refine pv_ 8 32 zq21.q8 HT_ ?_
   refine join_ (σ := Nat) 1 zq21.q9 (fun s_ => [(25, .int .i64 t164), (33, .agg #[.int .i64 t165, .int .i64 t166]), (9, .pointer (some ⟨s_, 0, none⟩))]) (fun s_ w' => (w'.cell? ⟨gb156, 0, none⟩ = some (.int .i64 t159) ∧ w'.cell? ⟨gb156, 1, none⟩ = some (.int .i64 t160) ∧ w'.cell? ⟨gb156, 2, none⟩ = some (.int .i64 t161) ∧ w'.cell? ⟨gb156, 3, none⟩ = some (.int .i64 t162)) ∧ (w'.heap[gb156]? = some (.cells #[.int .i64 t159, .int .i64 t160, .int .i64 t161, .int .i64 t162] 32 (0, 0))) ∧ (w'.heap[gb157]? = some (.cells #[.int .i64 0, .int .i64 0, .int .i64 0, .int .i64 0] 32 (0, 0))) ∧ (w'.heap[s_]? = some (.cells #[.int .i64 0, .int .i64 0] 23 (0, 0))) ∧ (w.heap.size ≤ s_) ∧ (w.heap.size ≤ s_) ∧ (gb156 ≠ s_) ∧ (s_ ≠ gb156) ∧ (gb157 ≠ s_) ∧ (s_ ≠ gb157) ∧ (Below w.heap.size w w')) ?_ ?_
   rotate_left
   ·
    intro hCont
    refine two_ (i := 1) (j := 10) (Ni := some 25) (Nj := some 9) zq21.q10 zq21.q11 rfl rfl rfl rfl (two_of HT_.out (by kernel_rfl)) (by decide) (by decide) (fun K hK => ?_) (fun K hK => ?_)
    ·
     refine gs_ Tryd.func33 #[.int .i64 a0] ?_
     with_reducible refine (transform_normal.calls a0 t164 _ A18.out).mono ?_
     rintro e w' ⟨rfl, ⟨nd, rfl⟩⟩
     refine ⟨_, rfl, ?_⟩
     refine hK.out _ _ (h4_ BK156) (fun hHeld => ?_)
     clear hK K
     refine norm_ (a' := ?_) ?_ ?_
     rotate_left
     ·
      show Act.put _ (some 25) _ = _
      simp only [Act.put, List.setIfInBounds_toArray, List.set_cons_zero, List.set_cons_succ, i64_w, i32_w]
      rfl
     refine two_ (i := 9) (j := 10) (Ni := some 33) (Nj := some 9) zq21.q12 zq21.q13 rfl rfl rfl rfl (two_of HT_.out (by kernel_rfl)) (by decide) (by decide) (fun K hK => ?_) (fun K hK => ?_)
     ·
      refine gs_ Tryd.func37 #[.int .i64 t164, .int .i64 a1, .int .i64 a2, .agg #[.int .i64 t159, .int .i64 t160]] ?_
      with_reducible refine (transform_apply.calls k t164 a1 a2 t159 t160 t165 t166 _ A19.out).mono ?_
      rintro e w34 ⟨rfl, hb⟩
      refine ⟨_, rfl, ?_⟩
      replace BK156 := bb_ BK156 hb
      replace BK157 := bb_ BK157 hb
      replace HB := hb_ HB hb
      (try clear hb); (try clear hb2); (try clear hk); (try clear hi)
      refine hK.out _ _ (h4_ BK156) (fun hHeld => ?_)
      clear hK K
      refine norm_ (a' := ?_) ?_ ?_
      rotate_left
      ·
       show Act.put _ (some 33) _ = _
       simp only [Act.put, List.setIfInBounds_toArray, List.set_cons_zero, List.set_cons_succ, i64_w, i32_w]
       rfl
      refine one_ (i := 10) (N := some 9) zq21.q9 rfl rfl (one_of HT_.out (by kernel_rfl)) (by decide) (fun K hK => ?_)
      refine box_step ?hg (N := 9) ?hd (cs := #[.int .i64 0, .int .i64 0]) (t := 23) ?hr ?_; (case hd => rfl); (case hg => rfl); (case hr => first | (go_simp; done) | (go_simp; rfl))
      intro gb167 hg w35 hbox hb
      have BK167 := Aside0.mk (hbox)
      have GW167 := Aside0.mk ((by rw [hg]; exact (below_size (hq_ HB)) : w.heap.size ≤ gb167))
      have GE167 := Aside0.mk ((by rw [hg]; exact (below_size (hq_ HB)) : w.heap.size ≤ gb167))
      replace HB := hb_ HB hb
      have NB156_167 := Aside0.mk ((by rw [hg]; exact Nat.ne_of_lt (blk_lt (g := gb156) (o := .cells #[.int .i64 t159, .int .i64 t160, .int .i64 t161, .int .i64 t162] 32 (0, 0)) (bq_ BK156)) : gb156 ≠ gb167))
      have NB167_156 := Aside0.mk ((by rw [hg]; exact Nat.ne_of_gt (blk_lt (g := gb156) (o := .cells #[.int .i64 t159, .int .i64 t160, .int .i64 t161, .int .i64 t162] 32 (0, 0)) (bq_ BK156)) : gb167 ≠ gb156))
      replace BK156 := bb_ BK156 hb
      have NB157_167 := Aside0.mk ((by rw [hg]; exact Nat.ne_of_lt (blk_lt (g := gb157) (o := .cells #[.int .i64 0, .int .i64 0, .int .i64 0, .int .i64 0] 32 (0, 0)) (bq_ BK157)) : gb157 ≠ gb167))
      have NB167_157 := Aside0.mk ((by rw [hg]; exact Nat.ne_of_gt (blk_lt (g := gb157) (o := .cells #[.int .i64 0, .int .i64 0, .int .i64 0, .int .i64 0] 32 (0, 0)) (bq_ BK157)) : gb167 ≠ gb157))
      replace BK157 := bb_ BK157 hb
      clear hb hbox hg
      refine hK.out _ _ (h4_ BK156) (fun hHeld => ?_)
      clear hK K
      refine norm_ (a' := ?_) ?_ ?_
      rotate_left
      ·
       show Act.put _ (some 9) _ = _
       simp only [Act.put, List.setIfInBounds_toArray, List.set_cons_zero, List.set_cons_succ, i64_w, i32_w]
       rfl
      exact norm_ (by simp only [putAll, Act.put, List.setIfInBounds_toArray, List.set_cons_zero, List.set_cons_succ]) (hCont (gb167) _ ⟨hHeld, (bq_ BK156), (bq_ BK157), (bq_ BK167), GW167.out, GE167.out, NB156_167.out, NB167_156.out, NB157_167.out, NB167_157.out, (hq_ HB)⟩)
     ·
      refine box_step ?hg (N := 9) ?hd (cs := #[.int .i64 0, .int .i64 0]) (t := 23) ?hr ?_; (case hd => rfl); (case hg => rfl); (case hr => first | (go_simp; done) | (go_simp; rfl))
      intro gb167 hg w34 hbox hb
      have BK167 := Aside0.mk (hbox)
      have GW167 := Aside0.mk ((by rw [hg]; exact (below_size (hq_ HB)) : w.heap.size ≤ gb167))
      have GE167 := Aside0.mk ((by rw [hg]; exact (below_size (hq_ HB)) : w.heap.size ≤ gb167))
      replace HB := hb_ HB hb
      have NB156_167 := Aside0.mk ((by rw [hg]; exact Nat.ne_of_lt (blk_lt (g := gb156) (o := .cells #[.int .i64 t159, .int .i64 t160, .int .i64 t161, .int .i64 t162] 32 (0, 0)) (bq_ BK156)) : gb156 ≠ gb167))
      have NB167_156 := Aside0.mk ((by rw [hg]; exact Nat.ne_of_gt (blk_lt (g := gb156) (o := .cells #[.int .i64 t159, .int .i64 t160, .int .i64 t161, .int .i64 t162] 32 (0, 0)) (bq_ BK156)) : gb167 ≠ gb156))
      replace BK156 := bb_ BK156 hb
      have NB157_167 := Aside0.mk ((by rw [hg]; exact Nat.ne_of_lt (blk_lt (g := gb157) (o := .cells #[.int .i64 0, .int .i64 0, .int .i64 0, .int .i64 0] 32 (0, 0)) (bq_ BK157)) : gb157 ≠ gb167))
      have NB167_157 := Aside0.mk ((by rw [hg]; exact Nat.ne_of_gt (blk_lt (g := gb157) (o := .cells #[.int .i64 0, .int .i64 0, .int .i64 0, .int .i64 0] 32 (0, 0)) (bq_ BK157)) : gb167 ≠ gb157))
      replace BK157 := bb_ BK157 hb
      clear hb hbox hg
      refine hK.out _ _ (h4_ BK156) (fun hHeld => ?_)
      clear hK K
      refine norm_ (a' := ?_) ?_ ?_
      rotate_left
      ·
       show Act.put _ (some 9) _ = _
       simp only [Act.put, List.setIfInBounds_toArray, List.set_cons_zero, List.set_cons_succ, i64_w, i32_w]
       rfl
      refine one_ (i := 9) (N := some 33) zq21.q9 rfl rfl (one_of HT_.out (by kernel_rfl)) (by decide) (fun K hK => ?_)
      refine gs_ Tryd.func37 #[.int .i64 t164, .int .i64 a1, .int .i64 a2, .agg #[.int .i64 t159, .int .i64 t160]] ?_
      with_reducible refine (transform_apply.calls k t164 a1 a2 t159 t160 t165 t166 _ A19.out).mono ?_
      rintro e w35 ⟨rfl, hb⟩
      refine ⟨_, rfl, ?_⟩
      replace BK156 := bb_ BK156 hb
      replace BK157 := bb_ BK157 hb
      replace BK167 := bb_ BK167 hb
      replace HB := hb_ HB hb
      (try clear hb); (try clear hb2); (try clear hk); (try clear hi)
      refine hK.out _ _ (h4_ BK156) (fun hHeld => ?_)
      clear hK K
      refine norm_ (a' := ?_) ?_ ?_
      rotate_left
      ·
       show Act.put _ (some 33) _ = _
       simp only [Act.put, List.setIfInBounds_toArray, List.set_cons_zero, List.set_cons_succ, i64_w, i32_w]
       rfl
      exact norm_ (by simp only [putAll, Act.put, List.setIfInBounds_toArray, List.set_cons_zero, List.set_cons_succ]) (hCont (gb167) _ ⟨hHeld, (bq_ BK156), (bq_ BK157), (bq_ BK167), GW167.out, GE167.out, NB156_167.out, NB167_156.out, NB157_167.out, NB167_157.out, (hq_ HB)⟩)
    ·
     refine box_step ?hg (N := 9) ?hd (cs := #[.int .i64 0, .int .i64 0]) (t := 23) ?hr ?_; (case hd => rfl); (case hg => rfl); (case hr => first | (go_simp; done) | (go_simp; rfl))
     intro gb167 hg w34 hbox hb
     have BK167 := Aside0.mk (hbox)
     have GW167 := Aside0.mk ((by rw [hg]; exact (below_size (hq_ HB)) : w.heap.size ≤ gb167))
     have GE167 := Aside0.mk ((by rw [hg]; exact (below_size (hq_ HB)) : w.heap.size ≤ gb167))
     replace HB := hb_ HB hb
     have NB156_167 := Aside0.mk ((by rw [hg]; exact Nat.ne_of_lt (blk_lt (g := gb156) (o := .cells #[.int .i64 t159, .int .i64 t160, .int .i64 t161, .int .i64 t162] 32 (0, 0)) (bq_ BK156)) : gb156 ≠ gb167))
     have NB167_156 := Aside0.mk ((by rw [hg]; exact Nat.ne_of_gt (blk_lt (g := gb156) (o := .cells #[.int .i64 t159, .int .i64 t160, .int .i64 t161, .int .i64 t162] 32 (0, 0)) (bq_ BK156)) : gb167 ≠ gb156))
     replace BK156 := bb_ BK156 hb
     have NB157_167 := Aside0.mk ((by rw [hg]; exact Nat.ne_of_lt (blk_lt (g := gb157) (o := .cells #[.int .i64 0, .int .i64 0, .int .i64 0, .int .i64 0] 32 (0, 0)) (bq_ BK157)) : gb157 ≠ gb167))
     have NB167_157 := Aside0.mk ((by rw [hg]; exact Nat.ne_of_gt (blk_lt (g := gb157) (o := .cells #[.int .i64 0, .int .i64 0, .int .i64 0, .int .i64 0] 32 (0, 0)) (bq_ BK157)) : gb167 ≠ gb157))
     replace BK157 := bb_ BK157 hb
     clear hb hbox hg
     refine hK.out _ _ (h4_ BK156) (fun hHeld => ?_)
     clear hK K
     refine norm_ (a' := ?_) ?_ ?_
     rotate_left
     ·
      show Act.put _ (some 9) _ = _
      simp only [Act.put, List.setIfInBounds_toArray, List.set_cons_zero, List.set_cons_succ, i64_w, i32_w]
      rfl
     refine one_ (i := 1) (N := some 25) zq21.q13 rfl rfl (one_of HT_.out (by kernel_rfl)) (by decide) (fun K hK => ?_)
     refine gs_ Tryd.func33 #[.int .i64 a0] ?_
     with_reducible refine (transform_normal.calls a0 t164 _ A18.out).mono ?_
     rintro e w' ⟨rfl, ⟨nd, rfl⟩⟩
     refine ⟨_, rfl, ?_⟩
     refine hK.out _ _ (h4_ BK156) (fun hHeld => ?_)
     clear hK K
     refine norm_ (a' := ?_) ?_ ?_
     rotate_left
     ·
      show Act.put _ (some 25) _ = _
      simp only [Act.put, List.setIfInBounds_toArray, List.set_cons_zero, List.set_cons_succ, i64_w, i32_w]
      rfl
     refine one_ (i := 9) (N := some 33) zq21.q9 rfl rfl (one_of HT_.out (by kernel_rfl)) (by decide) (fun K hK => ?_)
     refine gs_ Tryd.func37 #[.int .i64 t164, .int .i64 a1, .int .i64 a2, .agg #[.int .i64 t159, .int .i64 t160]] ?_
     with_reducible refine (transform_apply.calls k t164 a1 a2 t159 t160 t165 t166 _ A19.out).mono ?_
     rintro e w35 ⟨rfl, hb⟩
     refine ⟨_, rfl, ?_⟩
     replace BK156 := bb_ BK156 hb
     replace BK157 := bb_ BK157 hb
     replace BK167 := bb_ BK167 hb
     replace HB := hb_ HB hb
     (try clear hb); (try clear hb2); (try clear hk); (try clear hi)
     refine hK.out _ _ (h4_ BK156) (fun hHeld => ?_)
     clear hK K
     refine norm_ (a' := ?_) ?_ ?_
     rotate_left
     ·
      show Act.put _ (some 33) _ = _
      simp only [Act.put, List.setIfInBounds_toArray, List.set_cons_zero, List.set_cons_succ, i64_w, i32_w]
      rfl
     exact norm_ (by simp only [putAll, Act.put, List.setIfInBounds_toArray, List.set_cons_zero, List.set_cons_succ]) (hCont (gb167) _ ⟨hHeld, (bq_ BK156), (bq_ BK157), (bq_ BK167), GW167.out, GE167.out, NB156_167.out, NB167_156.out, NB157_167.out, NB167_157.out, (hq_ HB)⟩)
   rintro gb167 w36 ⟨hS_, h0_, h1_, h2_, h3_, h4_, h5_, h6_, h7_, h8_, h9_⟩
   replace BK156 := Aside0.mk h0_
   replace BK157 := Aside0.mk h1_
   have BK167 := Aside0.mk h2_
   have GW167 := Aside0.mk h3_
   have GE167 := Aside0.mk h4_
   have NB156_167 := Aside0.mk h5_
   have NB167_156 := Aside0.mk h6_
   have NB157_167 := Aside0.mk h7_
   have NB167_157 := Aside0.mk h8_
   replace HB := Aside0.mk h9_
   clear h0_ h1_ h2_ h3_ h4_ h5_ h6_ h7_ h8_ h9_
   have hHeld := hS_
   refine norm_ (a' := ?_) ?_ ?_
   rotate_left
   ·
    simp only [putAll, Act.put, List.setIfInBounds_toArray, List.set_cons_zero, List.set_cons_succ]
    rfl
   refine one_ (i := 11) (N := none) zq21.q14 rfl rfl (one_of HT_.out (by kernel_rfl)) (by decide) (fun K hK => ?_)
   have hs37 : w36.cell? ⟨gb167, 0, none⟩ = some (.int .i64 0) := (blk_cell BK167.out 0).trans rfl
   have hfs37 := blk_frozen BK167.out 0
   have hns37_0 := NB156_167.out
   have hns37_1 := NB157_167.out
   have hms37_0 := NB167_156.out
   have hms37_1 := NB167_157.out
   have hs38 : w36.cell? ⟨gb167, 1, none⟩ = some (.int .i64 0) := (blk_cell BK167.out 1).trans rfl
   have hfs38 := blk_frozen BK167.out 1
   have hns38_0 := NB156_167.out
   have hns38_1 := NB157_167.out
   have hms38_0 := NB167_156.out
   have hms38_1 := NB167_157.out
   refine skip_ (w1 := ?_) (by rfl) rfl ?_ ?_
   rotate_left
   ·
    go_simp
    rfl
   refine hK.out _ _ ⟨((cell_far (p := ⟨gb167, _, none⟩) NB156_167.out _).trans (((cell_far (p := ⟨gb167, _, none⟩) NB156_167.out _).trans (hHeld.1)))), ((cell_far (p := ⟨gb167, _, none⟩) NB156_167.out _).trans (((cell_far (p := ⟨gb167, _, none⟩) NB156_167.out _).trans (hHeld.2.1)))), ((cell_far (p := ⟨gb167, _, none⟩) NB156_167.out _).trans (((cell_far (p := ⟨gb167, _, none⟩) NB156_167.out _).trans (hHeld.2.2.1)))), ((cell_far (p := ⟨gb167, _, none⟩) NB156_167.out _).trans (((cell_far (p := ⟨gb167, _, none⟩) NB156_167.out _).trans (hHeld.2.2.2))))⟩ (fun hHeld => ?_)
   clear hK K
   refine done_ (done_of HT_.out (by kernel_rfl)) ?_
   try go_wp2
   have n0_ : Aside0 (((w36.setCell ⟨gb167, 0, none⟩ (.int .i64 t165)).setCell ⟨gb167, 1, none⟩ (.int .i64 t166)).heap[gb156]? = some (.cells #[.int .i64 t159, .int .i64 t160, .int .i64 t161, .int .i64 t162] 32 (0, 0))) := bf_ BK156
   have n1_ : Aside0 (((w36.setCell ⟨gb167, 0, none⟩ (.int .i64 t165)).setCell ⟨gb167, 1, none⟩ (.int .i64 t166)).heap[gb157]? = some (.cells #[.int .i64 0, .int .i64 0, .int .i64 0, .int .i64 0] 32 (0, 0))) := bf_ BK157
   have n2_ : Aside0 (((w36.setCell ⟨gb167, 0, none⟩ (.int .i64 t165)).setCell ⟨gb167, 1, none⟩ (.int .i64 t166)).heap[gb167]? = some (.cells #[.int .i64 t165, .int .i64 t166] 23 (0, 0))) := ⟨by (with_reducible repeat (first | refine blk_drewN ?_ _ | refine blk_drew ?_ | refine blk_alloc ?_ _)); refine blk_put (cs := #[.int .i64 t165, .int .i64 0]) ?_ 1 _ rfl; (with_reducible repeat (first | refine blk_drewN ?_ _ | refine blk_drew ?_ | refine blk_alloc ?_ _)); refine blk_put (cs := #[.int .i64 0, .int .i64 0]) ?_ 0 _ rfl; (with_reducible repeat (first | refine blk_drewN ?_ _ | refine blk_drew ?_ | refine blk_alloc ?_ _)); exact BK167.out⟩
   have n3_ : Aside0 (Below w.heap.size w ((w36.setCell ⟨gb167, 0, none⟩ (.int .i64 t165)).setCell ⟨gb167, 1, none⟩ (.int .i64 t166))) := ⟨by repeat (first | (with_reducible first | exact HB.out | apply below_alloc | apply pw_below_drewN | apply below_drew1 | refine below_set ?_ GE156.out | refine below_set ?_ GE157.out | refine below_set ?_ GE167.out) | exact HB.out)⟩
   (try clear BK156)
   (try clear BK157)
   (try clear BK167)
   (try clear HB)
   generalize ((w36.setCell ⟨gb167, 0, none⟩ (.int .i64 t165)).setCell ⟨gb167, 1, none⟩ (.int .i64 t166)) = w39 at n0_ n1_ n2_ n3_ ⊢
   have BK156 := n0_
   have BK157 := n1_
   have BK167 := n2_
   have HB := n3_
   clear n0_ n1_ n2_ n3_
   replace BK156 := Aside0.mk (blk_drew BK156.out)
   replace BK157 := Aside0.mk (blk_drew BK157.out)
   replace BK167 := Aside0.mk (blk_drew BK167.out)
   replace HB := Aside0.mk (below_drew1 HB.out)
   refine start_ (n := 14) (S := fun w' => w'.cell? ⟨gb156, 0, none⟩ = some (.int .i64 t159) ∧ w'.cell? ⟨gb156, 1, none⟩ = some (.int .i64 t160) ∧ w'.cell? ⟨gb156, 2, none⟩ = some (.int .i64 t161) ∧ w'.cell? ⟨gb156, 3, none⟩ = some (.int .i64 t162)) (ds := []) zq21.q15 (by kernel_rfl) rfl rfl (h4_ BK156) (fun hHeld => ?_); refine with_tabW transform_ApplyRect.tab7 transform_ApplyRect.bits7 (fun HT_ HW_ => ?_)
   generalize w39.drew = w40 at BK156 BK157 BK167 HB hHeld ⊢
   refine pv_ 0 34 zq21.q16 HT_ ?_
   refine pv_ 2 36 zq21.q17 HT_ ?_
   refine pv_ 3 37 zq21.q18 HT_ ?_
   refine pv_ 4 38 zq21.q19 HT_ ?_
   refine pv_ 7 41 zq21.q20 HT_ ?_
   refine tk4_ 5 39 zq21.q21 HT_ HW_ hHeld ?_
   refine pv_ 6 40 zq21.q22 HT_ ?_
   refine tk4_ 8 42 zq21.q23 HT_ HW_ hHeld ?_
   refine pv_ 9 43 zq21.q24 HT_ ?_
   refine pv_ 10 44 zq21.q25 HT_ ?_
   refine join_ (σ := Nat) 1 zq21.q26 (fun s_ => [(35, .int .i64 t168), (45, .agg #[.int .i64 t169, .int .i64 t170]), (10, .pointer (some ⟨s_, 0, none⟩))]) (fun s_ w' => (w'.cell? ⟨gb156, 0, none⟩ = some (.int .i64 t159) ∧ w'.cell? ⟨gb156, 1, none⟩ = some (.int .i64 t160) ∧ w'.cell? ⟨gb156, 2, none⟩ = some (.int .i64 t161) ∧ w'.cell? ⟨gb156, 3, none⟩ = some (.int .i64 t162)) ∧ (w'.heap[gb156]? = some (.cells #[.int .i64 t159, .int .i64 t160, .int .i64 t161, .int .i64 t162] 32 (0, 0))) ∧ (w'.heap[gb157]? = some (.cells #[.int .i64 0, .int .i64 0, .int .i64 0, .int .i64 0] 32 (0, 0))) ∧ (w'.heap[gb167]? = some (.cells #[.int .i64 t165, .int .i64 t166] 23 (0, 0))) ∧ (w'.heap[s_]? = some (.cells #[.int .i64 0, .int .i64 0] 23 (0, 0))) ∧ (w.heap.size ≤ s_) ∧ (w.heap.size ≤ s_) ∧ (gb156 ≠ s_) ∧ (s_ ≠ gb156) ∧ (gb157 ≠ s_) ∧ (s_ ≠ gb157) ∧ (gb167 ≠ s_) ∧ (s_ ≠ gb167) ∧ (Below w.heap.size w w')) ?_ ?_
   rotate_left
   ·
    intro hCont
    refine two_ (i := 1) (j := 12) (Ni := some 35) (Nj := some 10) zq21.q27 zq21.q28 rfl rfl rfl rfl (two_of HT_.out (by kernel_rfl)) (by decide) (by decide) (fun K hK => ?_) (fun K hK => ?_)
    ·
     refine gs_ Tryd.func33 #[.int .i64 a0] ?_
     with_reducible refine (transform_normal.calls a0 t168 _ A20.out).mono ?_
     rintro e w' ⟨rfl, ⟨nd, rfl⟩⟩
     refine ⟨_, rfl, ?_⟩
     refine hK.out _ _ (h4_ BK156) (fun hHeld => ?_)
     clear hK K
     refine norm_ (a' := ?_) ?_ ?_
     rotate_left
     ·
      show Act.put _ (some 35) _ = _
      simp only [Act.put, List.setIfInBounds_toArray, List.set_cons_zero, List.set_cons_succ, i64_w, i32_w]
      rfl
     refine two_ (i := 11) (j := 12) (Ni := some 45) (Nj := some 10) zq21.q29 zq21.q30 rfl rfl rfl rfl (two_of HT_.out (by kernel_rfl)) (by decide) (by decide) (fun K hK => ?_) (fun K hK => ?_)
     ·
      refine gs_ Tryd.func37 #[.int .i64 t168, .int .i64 a1, .int .i64 a2, .agg #[.int .i64 (wrap64 (t161 - 1)), .int .i64 (wrap64 (t162 - 1))]] ?_
      with_reducible refine (transform_apply.calls k t168 a1 a2 (wrap64 (t161 - 1)) (wrap64 (t162 - 1)) t169 t170 _ A21.out).mono ?_
      rintro e w41 ⟨rfl, hb⟩
      refine ⟨_, rfl, ?_⟩
      replace BK156 := bb_ BK156 hb
      replace BK157 := bb_ BK157 hb
      replace BK167 := bb_ BK167 hb
      replace HB := hb_ HB hb
      (try clear hb); (try clear hb2); (try clear hk); (try clear hi)
      refine hK.out _ _ (h4_ BK156) (fun hHeld => ?_)
      clear hK K
      refine norm_ (a' := ?_) ?_ ?_
      rotate_left
      ·
       show Act.put _ (some 45) _ = _
       simp only [Act.put, List.setIfInBounds_toArray, List.set_cons_zero, List.set_cons_succ, i64_w, i32_w]
       rfl
      refine one_ (i := 12) (N := some 10) zq21.q26 rfl rfl (one_of HT_.out (by kernel_rfl)) (by decide) (fun K hK => ?_)
      refine box_step ?hg (N := 10) ?hd (cs := #[.int .i64 0, .int .i64 0]) (t := 23) ?hr ?_; (case hd => rfl); (case hg => rfl); (case hr => first | (go_simp; done) | (go_simp; rfl))
      intro gb171 hg w42 hbox hb
      have BK171 := Aside0.mk (hbox)
      have GW171 := Aside0.mk ((by rw [hg]; exact (below_size (hq_ HB)) : w.heap.size ≤ gb171))
      have GE171 := Aside0.mk ((by rw [hg]; exact (below_size (hq_ HB)) : w.heap.size ≤ gb171))
      replace HB := hb_ HB hb
      have NB156_171 := Aside0.mk ((by rw [hg]; exact Nat.ne_of_lt (blk_lt (g := gb156) (o := .cells #[.int .i64 t159, .int .i64 t160, .int .i64 t161, .int .i64 t162] 32 (0, 0)) (bq_ BK156)) : gb156 ≠ gb171))
      have NB171_156 := Aside0.mk ((by rw [hg]; exact Nat.ne_of_gt (blk_lt (g := gb156) (o := .cells #[.int .i64 t159, .int .i64 t160, .int .i64 t161, .int .i64 t162] 32 (0, 0)) (bq_ BK156)) : gb171 ≠ gb156))
      replace BK156 := bb_ BK156 hb
      have NB157_171 := Aside0.mk ((by rw [hg]; exact Nat.ne_of_lt (blk_lt (g := gb157) (o := .cells #[.int .i64 0, .int .i64 0, .int .i64 0, .int .i64 0] 32 (0, 0)) (bq_ BK157)) : gb157 ≠ gb171))
      have NB171_157 := Aside0.mk ((by rw [hg]; exact Nat.ne_of_gt (blk_lt (g := gb157) (o := .cells #[.int .i64 0, .int .i64 0, .int .i64 0, .int .i64 0] 32 (0, 0)) (bq_ BK157)) : gb171 ≠ gb157))
      replace BK157 := bb_ BK157 hb
      have NB167_171 := Aside0.mk ((by rw [hg]; exact Nat.ne_of_lt (blk_lt (g := gb167) (o := .cells #[.int .i64 t165, .int .i64 t166] 23 (0, 0)) (bq_ BK167)) : gb167 ≠ gb171))
      have NB171_167 := Aside0.mk ((by rw [hg]; exact Nat.ne_of_gt (blk_lt (g := gb167) (o := .cells #[.int .i64 t165, .int .i64 t166] 23 (0, 0)) (bq_ BK167)) : gb171 ≠ gb167))
      replace BK167 := bb_ BK167 hb
      clear hb hbox hg
      refine hK.out _ _ (h4_ BK156) (fun hHeld => ?_)
      clear hK K
      refine norm_ (a' := ?_) ?_ ?_
      rotate_left
      ·
       show Act.put _ (some 10) _ = _
       simp only [Act.put, List.setIfInBounds_toArray, List.set_cons_zero, List.set_cons_succ, i64_w, i32_w]
       rfl
      exact norm_ (by simp only [putAll, Act.put, List.setIfInBounds_toArray, List.set_cons_zero, List.set_cons_succ]) (hCont (gb171) _ ⟨hHeld, (bq_ BK156), (bq_ BK157), (bq_ BK167), (bq_ BK171), GW171.out, GE171.out, NB156_171.out, NB171_156.out, NB157_171.out, NB171_157.out, NB167_171.out, NB171_167.out, (hq_ HB)⟩)
     ·
      refine box_step ?hg (N := 10) ?hd (cs := #[.int .i64 0, .int .i64 0]) (t := 23) ?hr ?_; (case hd => rfl); (case hg => rfl); (case hr => first | (go_simp; done) | (go_simp; rfl))
      intro gb171 hg w41 hbox hb
      have BK171 := Aside0.mk (hbox)
      have GW171 := Aside0.mk ((by rw [hg]; exact (below_size (hq_ HB)) : w.heap.size ≤ gb171))
      have GE171 := Aside0.mk ((by rw [hg]; exact (below_size (hq_ HB)) : w.heap.size ≤ gb171))
      replace HB := hb_ HB hb
      have NB156_171 := Aside0.mk ((by rw [hg]; exact Nat.ne_of_lt (blk_lt (g := gb156) (o := .cells #[.int .i64 t159, .int .i64 t160, .int .i64 t161, .int .i64 t162] 32 (0, 0)) (bq_ BK156)) : gb156 ≠ gb171))
      have NB171_156 := Aside0.mk ((by rw [hg]; exact Nat.ne_of_gt (blk_lt (g := gb156) (o := .cells #[.int .i64 t159, .int .i64 t160, .int .i64 t161, .int .i64 t162] 32 (0, 0)) (bq_ BK156)) : gb171 ≠ gb156))
      replace BK156 := bb_ BK156 hb
      have NB157_171 := Aside0.mk ((by rw [hg]; exact Nat.ne_of_lt (blk_lt (g := gb157) (o := .cells #[.int .i64 0, .int .i64 0, .int .i64 0, .int .i64 0] 32 (0, 0)) (bq_ BK157)) : gb157 ≠ gb171))
      have NB171_157 := Aside0.mk ((by rw [hg]; exact Nat.ne_of_gt (blk_lt (g := gb157) (o := .cells #[.int .i64 0, .int .i64 0, .int .i64 0, .int .i64 0] 32 (0, 0)) (bq_ BK157)) : gb171 ≠ gb157))
      replace BK157 := bb_ BK157 hb
      have NB167_171 := Aside0.mk ((by rw [hg]; exact Nat.ne_of_lt (blk_lt (g := gb167) (o := .cells #[.int .i64 t165, .int .i64 t166] 23 (0, 0)) (bq_ BK167)) : gb167 ≠ gb171))
      have NB171_167 := Aside0.mk ((by rw [hg]; exact Nat.ne_of_gt (blk_lt (g := gb167) (o := .cells #[.int .i64 t165, .int .i64 t166] 23 (0, 0)) (bq_ BK167)) : gb171 ≠ gb167))
      replace BK167 := bb_ BK167 hb
      clear hb hbox hg
      refine hK.out _ _ (h4_ BK156) (fun hHeld => ?_)
      clear hK K
      refine norm_ (a' := ?_) ?_ ?_
      rotate_left
      ·
       show Act.put _ (some 10) _ = _
       simp only [Act.put, List.setIfInBounds_toArray, List.set_cons_zero, List.set_cons_succ, i64_w, i32_w]
       rfl
      refine one_ (i := 11) (N := some 45) zq21.q26 rfl rfl (one_of HT_.out (by kernel_rfl)) (by decide) (fun K hK => ?_)
      refine gs_ Tryd.func37 #[.int .i64 t168, .int .i64 a1, .int .i64 a2, .agg #[.int .i64 (wrap64 (t161 - 1)), .int .i64 (wrap64 (t162 - 1))]] ?_
      with_reducible refine (transform_apply.calls k t168 a1 a2 (wrap64 (t161 - 1)) (wrap64 (t162 - 1)) t169 t170 _ A21.out).mono ?_
      rintro e w42 ⟨rfl, hb⟩
      refine ⟨_, rfl, ?_⟩
      replace BK156 := bb_ BK156 hb
      replace BK157 := bb_ BK157 hb
      replace BK167 := bb_ BK167 hb
      replace BK171 := bb_ BK171 hb
      replace HB := hb_ HB hb
      (try clear hb); (try clear hb2); (try clear hk); (try clear hi)
      refine hK.out _ _ (h4_ BK156) (fun hHeld => ?_)
      clear hK K
      refine norm_ (a' := ?_) ?_ ?_
      rotate_left
      ·
       show Act.put _ (some 45) _ = _
       simp only [Act.put, List.setIfInBounds_toArray, List.set_cons_zero, List.set_cons_succ, i64_w, i32_w]
       rfl
      exact norm_ (by simp only [putAll, Act.put, List.setIfInBounds_toArray, List.set_cons_zero, List.set_cons_succ]) (hCont (gb171) _ ⟨hHeld, (bq_ BK156), (bq_ BK157), (bq_ BK167), (bq_ BK171), GW171.out, GE171.out, NB156_171.out, NB171_156.out, NB157_171.out, NB171_157.out, NB167_171.out, NB171_167.out, (hq_ HB)⟩)
    ·
     refine box_step ?hg (N := 10) ?hd (cs := #[.int .i64 0, .int .i64 0]) (t := 23) ?hr ?_; (case hd => rfl); (case hg => rfl); (case hr => first | (go_simp; done) | (go_simp; rfl))
     intro gb171 hg w41 hbox hb
     have BK171 := Aside0.mk (hbox)
     have GW171 := Aside0.mk ((by rw [hg]; exact (below_size (hq_ HB)) : w.heap.size ≤ gb171))
     have GE171 := Aside0.mk ((by rw [hg]; exact (below_size (hq_ HB)) : w.heap.size ≤ gb171))
     replace HB := hb_ HB hb
     have NB156_171 := Aside0.mk ((by rw [hg]; exact Nat.ne_of_lt (blk_lt (g := gb156) (o := .cells #[.int .i64 t159, .int .i64 t160, .int .i64 t161, .int .i64 t162] 32 (0, 0)) (bq_ BK156)) : gb156 ≠ gb171))
     have NB171_156 := Aside0.mk ((by rw [hg]; exact Nat.ne_of_gt (blk_lt (g := gb156) (o := .cells #[.int .i64 t159, .int .i64 t160, .int .i64 t161, .int .i64 t162] 32 (0, 0)) (bq_ BK156)) : gb171 ≠ gb156))
     replace BK156 := bb_ BK156 hb
     have NB157_171 := Aside0.mk ((by rw [hg]; exact Nat.ne_of_lt (blk_lt (g := gb157) (o := .cells #[.int .i64 0, .int .i64 0, .int .i64 0, .int .i64 0] 32 (0, 0)) (bq_ BK157)) : gb157 ≠ gb171))
     have NB171_157 := Aside0.mk ((by rw [hg]; exact Nat.ne_of_gt (blk_lt (g := gb157) (o := .cells #[.int .i64 0, .int .i64 0, .int .i64 0, .int .i64 0] 32 (0, 0)) (bq_ BK157)) : gb171 ≠ gb157))
     replace BK157 := bb_ BK157 hb
     have NB167_171 := Aside0.mk ((by rw [hg]; exact Nat.ne_of_lt (blk_lt (g := gb167) (o := .cells #[.int .i64 t165, .int .i64 t166] 23 (0, 0)) (bq_ BK167)) : gb167 ≠ gb171))
     have NB171_167 := Aside0.mk ((by rw [hg]; exact Nat.ne_of_gt (blk_lt (g := gb167) (o := .cells #[.int .i64 t165, .int .i64 t166] 23 (0, 0)) (bq_ BK167)) : gb171 ≠ gb167))
     replace BK167 := bb_ BK167 hb
     clear hb hbox hg
     refine hK.out _ _ (h4_ BK156) (fun hHeld => ?_)
     clear hK K
     refine norm_ (a' := ?_) ?_ ?_
     rotate_left
     ·
      show Act.put _ (some 10) _ = _
      simp only [Act.put, List.setIfInBounds_toArray, List.set_cons_zero, List.set_cons_succ, i64_w, i32_w]
      rfl
     refine one_ (i := 1) (N := some 35) zq21.q30 rfl rfl (one_of HT_.out (by kernel_rfl)) (by decide) (fun K hK => ?_)
     refine gs_ Tryd.func33 #[.int .i64 a0] ?_
     with_reducible refine (transform_normal.calls a0 t168 _ A20.out).mono ?_
     rintro e w' ⟨rfl, ⟨nd, rfl⟩⟩
     refine ⟨_, rfl, ?_⟩
     refine hK.out _ _ (h4_ BK156) (fun hHeld => ?_)
     clear hK K
     refine norm_ (a' := ?_) ?_ ?_
     rotate_left
     ·
      show Act.put _ (some 35) _ = _
      simp only [Act.put, List.setIfInBounds_toArray, List.set_cons_zero, List.set_cons_succ, i64_w, i32_w]
      rfl
     refine one_ (i := 11) (N := some 45) zq21.q26 rfl rfl (one_of HT_.out (by kernel_rfl)) (by decide) (fun K hK => ?_)
     refine gs_ Tryd.func37 #[.int .i64 t168, .int .i64 a1, .int .i64 a2, .agg #[.int .i64 (wrap64 (t161 - 1)), .int .i64 (wrap64 (t162 - 1))]] ?_
     with_reducible refine (transform_apply.calls k t168 a1 a2 (wrap64 (t161 - 1)) (wrap64 (t162 - 1)) t169 t170 _ A21.out).mono ?_
     rintro e w42 ⟨rfl, hb⟩
     refine ⟨_, rfl, ?_⟩
     replace BK156 := bb_ BK156 hb
     replace BK157 := bb_ BK157 hb
     replace BK167 := bb_ BK167 hb
     replace BK171 := bb_ BK171 hb
     replace HB := hb_ HB hb
     (try clear hb); (try clear hb2); (try clear hk); (try clear hi)
     refine hK.out _ _ (h4_ BK156) (fun hHeld => ?_)
     clear hK K
     refine norm_ (a' := ?_) ?_ ?_
     rotate_left
     ·
      show Act.put _ (some 45) _ = _
      simp only [Act.put, List.setIfInBounds_toArray, List.set_cons_zero, List.set_cons_succ, i64_w, i32_w]
      rfl
     exact norm_ (by simp only [putAll, Act.put, List.setIfInBounds_toArray, List.set_cons_zero, List.set_cons_succ]) (hCont (gb171) _ ⟨hHeld, (bq_ BK156), (bq_ BK157), (bq_ BK167), (bq_ BK171), GW171.out, GE171.out, NB156_171.out, NB171_156.out, NB157_171.out, NB171_157.out, NB167_171.out, NB171_167.out, (hq_ HB)⟩)
   rintro gb171 w43 ⟨hS_, h0_, h1_, h2_, h3_, h4_, h5_, h6_, h7_, h8_, h9_, h10_, h11_, h12_⟩
   replace BK156 := Aside0.mk h0_
   replace BK157 := Aside0.mk h1_
   replace BK167 := Aside0.mk h2_
   have BK171 := Aside0.mk h3_
   have GW171 := Aside0.mk h4_
   have GE171 := Aside0.mk h5_
   have NB156_171 := Aside0.mk h6_
   have NB171_156 := Aside0.mk h7_
   have NB157_171 := Aside0.mk h8_
   have NB171_157 := Aside0.mk h9_
   have NB167_171 := Aside0.mk h10_
   have NB171_167 := Aside0.mk h11_
   replace HB := Aside0.mk h12_
   clear h0_ h1_ h2_ h3_ h4_ h5_ h6_ h7_ h8_ h9_ h10_ h11_ h12_
   have hHeld := hS_
   refine norm_ (a' := ?_) ?_ ?_
   rotate_left
   ·
    simp only [putAll, Act.put, List.setIfInBounds_toArray, List.set_cons_zero, List.set_cons_succ]
    rfl
   refine one_ (i := 13) (N := none) zq21.q31 rfl rfl (one_of HT_.out (by kernel_rfl)) (by decide) (fun K hK => ?_)
   have hs44 : w43.cell? ⟨gb171, 0, none⟩ = some (.int .i64 0) := (blk_cell BK171.out 0).trans rfl
   have hfs44 := blk_frozen BK171.out 0
   have hns44_0 := NB156_171.out
   have hns44_1 := NB157_171.out
   have hns44_2 := NB167_171.out
   have hms44_0 := NB171_156.out
   have hms44_1 := NB171_157.out
   have hms44_2 := NB171_167.out
   have hs45 : w43.cell? ⟨gb171, 1, none⟩ = some (.int .i64 0) := (blk_cell BK171.out 1).trans rfl
   have hfs45 := blk_frozen BK171.out 1
   have hns45_0 := NB156_171.out
   have hns45_1 := NB157_171.out
   have hns45_2 := NB167_171.out
   have hms45_0 := NB171_156.out
   have hms45_1 := NB171_157.out
   have hms45_2 := NB171_167.out
   refine skip_ (w1 := ?_) (by rfl) rfl ?_ ?_
   rotate_left
   ·
    go_simp
    rfl
   refine hK.out _ _ ⟨((cell_far (p := ⟨gb171, _, none⟩) NB156_171.out _).trans (((cell_far (p := ⟨gb171, _, none⟩) NB156_171.out _).trans (hHeld.1)))), ((cell_far (p := ⟨gb171, _, none⟩) NB156_171.out _).trans (((cell_far (p := ⟨gb171, _, none⟩) NB156_171.out _).trans (hHeld.2.1)))), ((cell_far (p := ⟨gb171, _, none⟩) NB156_171.out _).trans (((cell_far (p := ⟨gb171, _, none⟩) NB156_171.out _).trans (hHeld.2.2.1)))), ((cell_far (p := ⟨gb171, _, none⟩) NB156_171.out _).trans (((cell_far (p := ⟨gb171, _, none⟩) NB156_171.out _).trans (hHeld.2.2.2))))⟩ (fun hHeld => ?_)
   clear hK K
   refine done_ (done_of HT_.out (by kernel_rfl)) ?_
   have hnb46 := NB167_156.out
   have hnc46 := NB156_167.out
   have hnb47 := NB167_157.out
   have hnc47 := NB157_167.out
   have hnb48 := NB167_171.out
   have hnc48 := NB171_167.out
   have hcz49_0 : w43.cell? ⟨gb167, 0, none⟩ = some (.int .i64 t165) := (blk_cell BK167.out 0).trans rfl
   have hcz49_1 : w43.cell? ⟨gb167, 1, none⟩ = some (.int .i64 t166) := (blk_cell BK167.out 1).trans rfl
   have hfz49_0 := blk_frozen BK167.out 0
   have hfz49_1 := blk_frozen BK167.out 1
   have hnb50 := NB171_156.out
   have hnc50 := NB156_171.out
   have hnb51 := NB171_157.out
   have hnc51 := NB157_171.out
   have hcz52_0 : w43.cell? ⟨gb171, 0, none⟩ = some (.int .i64 0) := (blk_cell BK171.out 0).trans rfl
   have hcz52_1 : w43.cell? ⟨gb171, 1, none⟩ = some (.int .i64 0) := (blk_cell BK171.out 1).trans rfl
   have hfz52_0 := blk_frozen BK171.out 0
   have hfz52_1 := blk_frozen BK171.out 1
   have hcz53_0 : w43.cell? ⟨gb157, 0, none⟩ = some (.int .i64 0) := (blk_cell BK157.out 0).trans rfl
   have hcz53_1 : w43.cell? ⟨gb157, 1, none⟩ = some (.int .i64 0) := (blk_cell BK157.out 1).trans rfl
   have hcz53_2 : w43.cell? ⟨gb157, 2, none⟩ = some (.int .i64 0) := (blk_cell BK157.out 2).trans rfl
   have hcz53_3 : w43.cell? ⟨gb157, 3, none⟩ = some (.int .i64 0) := (blk_cell BK157.out 3).trans rfl
   have hfz53_0 := blk_frozen BK157.out 0
   have hfz53_1 := blk_frozen BK157.out 1
   have hfz53_2 := blk_frozen BK157.out 2
   have hfz53_3 := blk_frozen BK157.out 3
   try go_wp2
   refine bodyPost_ret (results_cell_row rfl _ _ gb157 32 #[.int .i64 ji22, .int .i64 ji23, .int .i64 (wrap64 ((ji24) + 1)), .int .i64 (wrap64 ((ji25) + 1))] (0, 0) _ rfl (by (with_reducible repeat (first | refine blk_drewN ?_ _ | refine blk_drew ?_ | refine blk_alloc ?_ _)); refine blk_put (cs := #[.int .i64 ji22, .int .i64 ji23, .int .i64 (wrap64 ((ji24) + 1)), .int .i64 0]) ?_ 3 _ rfl; (with_reducible repeat (first | refine blk_drewN ?_ _ | refine blk_drew ?_ | refine blk_alloc ?_ _)); refine blk_put (cs := #[.int .i64 ji22, .int .i64 ji23, .int .i64 0, .int .i64 0]) ?_ 2 _ rfl; (with_reducible repeat (first | refine blk_drewN ?_ _ | refine blk_drew ?_ | refine blk_alloc ?_ _)); refine blk_put (cs := #[.int .i64 ji22, .int .i64 0, .int .i64 0, .int .i64 0]) ?_ 1 _ rfl; (with_reducible repeat (first | refine blk_drewN ?_ _ | refine blk_drew ?_ | refine blk_alloc ?_ _)); refine blk_put (cs := #[.int .i64 0, .int .i64 0, .int .i64 0, .int .i64 0]) ?_ 0 _ rfl; (with_reducible repeat (first | refine blk_drewN ?_ _ | refine blk_drew ?_ | refine blk_alloc ?_ _)); refine blk_far ?_ NB157_171.out _; (with_reducible repeat (first | refine blk_drewN ?_ _ | refine blk_drew ?_ | refine blk_alloc ?_ _)); refine blk_far ?_ NB157_171.out _; (with_reducible repeat (first | refine blk_drewN ?_ _ | refine blk_drew ?_ | refine blk_alloc ?_ _)); exact BK157.out) Tryd.underlying32 rfl (by kernel_rfl)) rfl ?_
   exact ⟨by first | rfl | (simp [errW_none, errW_some] <;> rfl) | (simp only [← hji22, ← hji23, ← hji24, ← hji25]; first | rfl | (simp [errW_none, errW_some] <;> rfl)) | (simp [*, errW_none, errW_some] <;> rfl), by repeat (first | (with_reducible first | exact HB.out | apply below_alloc | apply pw_below_drewN | apply below_drew1 | refine below_set ?_ GE156.out | refine below_set ?_ GE157.out | refine below_set ?_ GE167.out | refine below_set ?_ GE171.out) | exact HB.out)⟩
 ·
  replace c6 := Bool.eq_false_iff.mpr c6
  subst c6
  have H1 : (some (0, 0, 0, 0)) = some (r1, r2, r3, r4) := by rw [if_neg (show ¬ (false = true) by decide)] at H; exact H
  clear H
  have H := H1
  clear H1
  simp only [Option.some.injEq, Prod.mk.injEq] at H
  obtain ⟨rfl, rfl, rfl, rfl⟩ := H
  go_enter Tryd.func21, Tryd.ntmps21
  go_wp2_with (first | ((with_reducible refine gate_dst (N := 7) rfl ?_); refine box_event ?hg (N := 7) ?hd (cs := #[.int .i64 a3_0, .int .i64 a3_1, .int .i64 a3_2, .int .i64 a3_3]) (t := 32) ?hr ?_; (case hd => rfl); (case hg => rfl); (case hr => first | (go_simp; done) | (go_simp; rfl)); intro gb156 hg w54 hbox hb; have n0_ := hb_ HB hb; have n1_ := Aside0.mk (hbox); have n2_ := Aside0.mk ((by rw [hg]; exact (below_size (hq_ HB)) : w.heap.size ≤ gb156)); have n3_ := Aside0.mk ((by rw [hg]; exact (below_size (hq_ HB)) : w.heap.size ≤ gb156)); clear HB; have HB := n0_; have BK156 := n1_; have GW156 := n2_; have GE156 := n3_; clear n0_ n1_ n2_ n3_; clear hb hbox hg) | ((with_reducible refine gate_dst (N := 8) rfl ?_); refine box_event ?hg (N := 8) ?hd (cs := #[.int .i64 0, .int .i64 0, .int .i64 0, .int .i64 0]) (t := 32) ?hr ?_; (case hd => rfl); (case hg => rfl); (case hr => first | (go_simp; done) | (go_simp; rfl)); intro gb157 hg w55 hbox hb; have n0_ := bb_ BK156 hb; have n1_ := hb_ HB hb; have n2_ := Aside0.mk (hbox); have n3_ := Aside0.mk ((by rw [hg]; exact (below_size (hq_ HB)) : w.heap.size ≤ gb157)); have n4_ := Aside0.mk ((by rw [hg]; exact (below_size (hq_ HB)) : w.heap.size ≤ gb157)); have n5_ := Aside0.mk ((by rw [hg]; exact Nat.ne_of_lt (blk_lt (g := gb156) (o := .cells #[.int .i64 a3_0, .int .i64 a3_1, .int .i64 a3_2, .int .i64 a3_3] 32 (0, 0)) (bq_ BK156)) : gb156 ≠ gb157)); have n6_ := Aside0.mk ((by rw [hg]; exact Nat.ne_of_gt (blk_lt (g := gb156) (o := .cells #[.int .i64 a3_0, .int .i64 a3_1, .int .i64 a3_2, .int .i64 a3_3] 32 (0, 0)) (bq_ BK156)) : gb157 ≠ gb156)); clear BK156; clear HB; have BK156 := n0_; have HB := n1_; have BK157 := n2_; have GW157 := n3_; have GE157 := n4_; have NB156_157 := n5_; have NB157_156 := n6_; clear n0_ n1_ n2_ n3_ n4_ n5_ n6_; clear hb hbox hg) | ((with_reducible refine gate_callee (f := 36) rfl ?_); refine goesL_ (some 13) rfl rfl Tryd.func36 (by kernel_rfl) rfl #[.int .i64 a1, .int .i64 a2] rfl (by (try simp only [List.map_toArray, List.map_cons, List.map_nil]) <;> rfl) ?_; (with_reducible refine (transform_inside.calls a1 a2 false _ A5.out).mono ?_); rintro e w' ⟨rfl, ⟨nd, rfl⟩⟩; refine ⟨_, rfl, ?_⟩; (try (rw [drewN_self w55]; generalize hq_ : World.drewN w55 _ = w55; have n0_ : Aside0 (w55.heap[gb156]? = some (.cells #[.int .i64 a3_0, .int .i64 a3_1, .int .i64 a3_2, .int .i64 a3_3] 32 (0, 0))) := ⟨by rw [← hq_]; exact (bq_ BK156)⟩; have n1_ : Aside0 (w55.heap[gb157]? = some (.cells #[.int .i64 0, .int .i64 0, .int .i64 0, .int .i64 0] 32 (0, 0))) := ⟨by rw [← hq_]; exact (bq_ BK157)⟩; have n2_ : Aside0 (Below w.heap.size w w55) := ⟨by rw [← hq_]; exact (hq_ HB)⟩; clear BK156 BK157 HB hq_; have BK156 := n0_; have BK157 := n1_; have HB := n2_; clear n0_ n1_ n2_; have hcy0_0 : w55.cell? ⟨gb156, 0, none⟩ = some (.int .i64 a3_0) := (blk_cell BK156.out 0).trans rfl; have hfy0_0 := blk_frozen BK156.out 0; have hcy0_1 : w55.cell? ⟨gb156, 1, none⟩ = some (.int .i64 a3_1) := (blk_cell BK156.out 1).trans rfl; have hfy0_1 := blk_frozen BK156.out 1; have hcy0_2 : w55.cell? ⟨gb156, 2, none⟩ = some (.int .i64 a3_2) := (blk_cell BK156.out 2).trans rfl; have hfy0_2 := blk_frozen BK156.out 2; have hcy0_3 : w55.cell? ⟨gb156, 3, none⟩ = some (.int .i64 a3_3) := (blk_cell BK156.out 3).trans rfl; have hfy0_3 := blk_frozen BK156.out 3; have hcy1_0 : w55.cell? ⟨gb157, 0, none⟩ = some (.int .i64 0) := (blk_cell BK157.out 0).trans rfl; have hfy1_0 := blk_frozen BK157.out 0; have hcy1_1 : w55.cell? ⟨gb157, 1, none⟩ = some (.int .i64 0) := (blk_cell BK157.out 1).trans rfl; have hfy1_1 := blk_frozen BK157.out 1; have hcy1_2 : w55.cell? ⟨gb157, 2, none⟩ = some (.int .i64 0) := (blk_cell BK157.out 2).trans rfl; have hfy1_2 := blk_frozen BK157.out 2; have hcy1_3 : w55.cell? ⟨gb157, 3, none⟩ = some (.int .i64 0) := (blk_cell BK157.out 3).trans rfl; have hfy1_3 := blk_frozen BK157.out 3)); have hnb56 := NB157_156.out; have hnc56 := NB156_157.out; have hcz57_0 : w55.cell? ⟨gb157, 0, none⟩ = some (.int .i64 0) := (blk_cell BK157.out 0).trans rfl; have hcz57_1 : w55.cell? ⟨gb157, 1, none⟩ = some (.int .i64 0) := (blk_cell BK157.out 1).trans rfl; have hcz57_2 : w55.cell? ⟨gb157, 2, none⟩ = some (.int .i64 0) := (blk_cell BK157.out 2).trans rfl; have hcz57_3 : w55.cell? ⟨gb157, 3, none⟩ = some (.int .i64 0) := (blk_cell BK157.out 3).trans rfl; have hfz57_0 := blk_frozen BK157.out 0; have hfz57_1 := blk_frozen BK157.out 1; have hfz57_2 := blk_frozen BK157.out 2; have hfz57_3 := blk_frozen BK157.out 3))
  refine bodyPost_ret (results_cell_row rfl _ _ gb157 32 #[.int .i64 0, .int .i64 0, .int .i64 0, .int .i64 0] (0, 0) _ rfl (by (with_reducible repeat (first | refine blk_drewN ?_ _ | refine blk_drew ?_ | refine blk_alloc ?_ _)); refine blk_put (cs := #[.int .i64 0, .int .i64 0, .int .i64 0, .int .i64 0]) ?_ 3 _ rfl; (with_reducible repeat (first | refine blk_drewN ?_ _ | refine blk_drew ?_ | refine blk_alloc ?_ _)); refine blk_put (cs := #[.int .i64 0, .int .i64 0, .int .i64 0, .int .i64 0]) ?_ 2 _ rfl; (with_reducible repeat (first | refine blk_drewN ?_ _ | refine blk_drew ?_ | refine blk_alloc ?_ _)); refine blk_put (cs := #[.int .i64 0, .int .i64 0, .int .i64 0, .int .i64 0]) ?_ 1 _ rfl; (with_reducible repeat (first | refine blk_drewN ?_ _ | refine blk_drew ?_ | refine blk_alloc ?_ _)); refine blk_put (cs := #[.int .i64 0, .int .i64 0, .int .i64 0, .int .i64 0]) ?_ 0 _ rfl; (with_reducible repeat (first | refine blk_drewN ?_ _ | refine blk_drew ?_ | refine blk_alloc ?_ _)); exact BK157.out) Tryd.underlying32 rfl (by kernel_rfl)) rfl ?_
  exact ⟨by first | rfl | (simp [errW_none, errW_some] <;> rfl) | (simp [*, errW_none, errW_some] <;> rfl), by repeat (first | (with_reducible first | exact HB.out | apply below_alloc | apply pw_below_drewN | apply below_drew1 | refine below_set ?_ GE156.out | refine below_set ?_ GE157.out) | exact HB.out)⟩

end Go.Proofs.YtpihfglghcoojaaDoor.All
