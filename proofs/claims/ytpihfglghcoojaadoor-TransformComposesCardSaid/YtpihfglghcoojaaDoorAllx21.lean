-- Written by a program of this session, which runs the kit's print.py and puts in functions that this session typed. Not trusted: Lean checks it.
import Derived.Test.YtpihfglghcoojaaDoorSq
import Derived.Test.YtpihfglghcoojaaDoorAllx0
import Derived.Test.YtpihfglghcoojaaDoorAllx4
import Derived.Test.YtpihfglghcoojaaDoorAllx6
import Derived.Test.YtpihfglghcoojaaDoorAllx17
import Derived.Test.YtpihfglghcoojaaDoorAllx19
import Derived.Test.YtpihfglghcoojaaDoorAllx20
namespace Go.Proofs.YtpihfglghcoojaaDoor.All
open Go.Proofs.YtpihfglghcoojaaDoorSq
open Go.RowKit Go.Proofs.YtpihfglghcoojaaDoorW.PrintWords Go.Proofs.YtpihfglghcoojaaDoorW.PrintLast Go.Proofs.YtpihfglghcoojaaDoorW.PrintMore
attribute [local go_sem] max2_int min2_int max_two min_two max_three min_three max_four min_four   -- for this text's walks alone
set_option linter.unusedVariables false
set_option linter.unusedSimpArgs false

/-! ### compositorref07_ApplyRect: function 22 -/
abbrev zq22.q0 : Array Bool := #[false, false, false, false, false, false, false, false, false, false, false, false]
abbrev zq22.q1 : Array Bool := #[true, false, false, false, false, false, false, false, false, false, false, false]
abbrev zq22.q2 : Array Bool := #[true, false, true, false, false, false, false, false, false, false, false, false]
abbrev zq22.q3 : Array Bool := #[true, false, true, true, false, false, false, false, false, false, false, false]
abbrev zq22.q4 : Array Bool := #[true, false, true, true, true, false, false, false, false, false, false, false]
abbrev zq22.q5 : Array Bool := #[true, false, true, true, true, false, true, false, false, false, false, false]
abbrev zq22.q6 : Array Bool := #[true, false, true, true, true, true, true, false, false, false, false, false]
abbrev zq22.q7 : Array Bool := #[true, false, true, true, true, true, true, true, false, false, false, false]
abbrev zq22.q8 : Array Bool := #[true, false, true, true, true, true, true, true, true, false, false, false]
abbrev zq22.q9 : Array Bool := #[true, true, true, true, true, true, true, true, true, true, true, false]
abbrev zq22.q10 : Array Bool := #[true, true, true, true, true, true, true, true, true, false, false, false]
abbrev zq22.q11 : Array Bool := #[true, false, true, true, true, true, true, true, true, false, true, false]
abbrev zq22.q12 : Array Bool := #[true, true, true, true, true, true, true, true, true, true, false, false]
abbrev zq22.q13 : Array Bool := #[true, true, true, true, true, true, true, true, true, false, true, false]
abbrev zq22.q14 : Array Bool := #[true, true, true, true, true, true, true, true, true, true, true, true]
abbrev zq22.q15 : Array Bool := #[false, false, false, false, false, false, false, false, false, false, false, false, false, false]
abbrev zq22.q16 : Array Bool := #[true, false, false, false, false, false, false, false, false, false, false, false, false, false]
abbrev zq22.q17 : Array Bool := #[true, false, true, false, false, false, false, false, false, false, false, false, false, false]
abbrev zq22.q18 : Array Bool := #[true, false, true, true, false, false, false, false, false, false, false, false, false, false]
abbrev zq22.q19 : Array Bool := #[true, false, true, true, true, false, false, false, false, false, false, false, false, false]
abbrev zq22.q20 : Array Bool := #[true, false, true, true, true, false, false, true, false, false, false, false, false, false]
abbrev zq22.q21 : Array Bool := #[true, false, true, true, true, true, false, true, false, false, false, false, false, false]
abbrev zq22.q22 : Array Bool := #[true, false, true, true, true, true, true, true, false, false, false, false, false, false]
abbrev zq22.q23 : Array Bool := #[true, false, true, true, true, true, true, true, true, false, false, false, false, false]
abbrev zq22.q24 : Array Bool := #[true, false, true, true, true, true, true, true, true, true, false, false, false, false]
abbrev zq22.q25 : Array Bool := #[true, false, true, true, true, true, true, true, true, true, true, false, false, false]
abbrev zq22.q26 : Array Bool := #[true, true, true, true, true, true, true, true, true, true, true, true, true, false]
abbrev zq22.q27 : Array Bool := #[true, true, true, true, true, true, true, true, true, true, true, false, false, false]
abbrev zq22.q28 : Array Bool := #[true, false, true, true, true, true, true, true, true, true, true, false, true, false]
abbrev zq22.q29 : Array Bool := #[true, true, true, true, true, true, true, true, true, true, true, true, false, false]
abbrev zq22.q30 : Array Bool := #[true, true, true, true, true, true, true, true, true, true, true, false, true, false]
abbrev zq22.q31 : Array Bool := #[true, true, true, true, true, true, true, true, true, true, true, true, true, true]
def compositorref07_ApplyRect.f (k : Nat) (a0 : Int) (a1 : Int) (a2 : Int) (a3_0 : Int) (a3_1 : Int) (a3_2 : Int) (a3_3 : Int) : Option (Int × Int × Int × Int) := (compositorref07_sized.f a1 a2).bind fun t225 => (if t225 = true then ((compositorref04_Intersect.f a3_0 a3_1 a3_2 a3_3 0 0 a1 a2).bind fun bt226 => ((compositorref04_Empty.f bt226.1 bt226.2.1 bt226.2.2.1 bt226.2.2.2).bind fun t231 => (if t231 = true then (some (0, 0, 0, 0)) else ((compositorref07_clean.f a0).bind fun t232 => ((compositorref07_place.f k t232 a1 a2 bt226.1 bt226.2.1).bind fun bt233 => ((compositorref07_clean.f a0).bind fun t236 => ((compositorref07_place.f k t236 a1 a2 (wrap64 (bt226.2.2.1 - 1)) (wrap64 (bt226.2.2.2 - 1))).bind fun bt237 => (some (mn bt233.1 bt237.1, mn bt233.2 bt237.2, wrap64 ((mx bt233.1 bt237.1) + 1), wrap64 ((mx bt233.2 bt237.2) + 1)))))))))) else (some (0, 0, 0, 0)))
theorem compositorref07_ApplyRect.mono : ∀ a0 a1 a2 a3 a4 a5 a6 k, LeO (compositorref07_ApplyRect.f k a0 a1 a2 a3 a4 a5 a6) (compositorref07_ApplyRect.f (k + 1) a0 a1 a2 a3 a4 a5 a6) := by
 intro a0 a1 a2 a3 a4 a5 a6 k
 unfold compositorref07_ApplyRect.f
 repeat' first
   | (with_reducible exact compositorref07_place.mono _ _ _ _ _ _)
   | (with_reducible exact LeO.refl _)
   | (with_reducible exact LeO.none _)
   | (with_reducible refine LeO.ite ?_ ?_)
   | (with_reducible refine LeO.bind ?_ (fun _ => ?_))
   | exact compositorref07_place.mono _ _ _ _ _ _
   | exact LeO.none _
   | refine LeO.ite ?_ ?_
   | refine LeO.bind ?_ (fun _ => ?_)
def compositorref07_ApplyRect.T6 : Bool × List (List Nat × List Nat) := (true, [([], []), ([0], [0]), ([], []), ([], []), ([], []), ([4], [4]), ([], []), ([6], [6]), ([5, 7], [5, 7]), ([1, 2, 3, 8, 1], [1, 2, 3, 8]), ([], []), ([10, 9, 9, 0, 1, 2, 3, 4, 5, 6, 7, 8, 9, 10], [9, 10])])
def compositorref07_ApplyRect.B6 : List Nat := [0, 1, 0, 0, 0, 16, 0, 64, 240, 511, 0, 2047]
theorem compositorref07_ApplyRect.tab6 : rtab .any (opsOf Tryd.f22 6) = compositorref07_ApplyRect.T6 := by kernel_rfl
theorem compositorref07_ApplyRect.bits6 : waitsOk compositorref07_ApplyRect.T6.2 compositorref07_ApplyRect.B6 = true := by kernel_rfl
def compositorref07_ApplyRect.T7 : Bool × List (List Nat × List Nat) := (true, [([], []), ([0], [0]), ([], []), ([], []), ([], []), ([4], [4]), ([5], [5]), ([], []), ([7], [7]), ([8], [8]), ([6, 9], [6, 9]), ([1, 2, 3, 10, 1], [1, 2, 3, 10]), ([], []), ([12, 11, 11, 0, 1, 2, 3, 4, 5, 6, 7, 8, 9, 10, 11, 12], [11, 12])])
def compositorref07_ApplyRect.B7 : List Nat := [0, 1, 0, 0, 0, 16, 48, 0, 128, 384, 1008, 2047, 0, 8191]
theorem compositorref07_ApplyRect.tab7 : rtab .any (opsOf Tryd.f22 7) = compositorref07_ApplyRect.T7 := by kernel_rfl
theorem compositorref07_ApplyRect.bits7 : waitsOk compositorref07_ApplyRect.T7.2 compositorref07_ApplyRect.B7 = true := by kernel_rfl
set_option maxHeartbeats 8000000 in
set_option maxRecDepth 100000 in
theorem compositorref07_ApplyRect.calls (k : Nat) (a0 : Int) (a1 : Int) (a2 : Int) (a3_0 : Int) (a3_1 : Int) (a3_2 : Int) (a3_3 : Int) (r1 : Int) (r2 : Int) (r3 : Int) (r4 : Int) (w : World) (h : compositorref07_ApplyRect.f k a0 a1 a2 a3_0 a3_1 a3_2 a3_3 = some (r1, r2, r3, r4)) :
  Calls Tryd.prog 22 #[.int .i64 a0, .int .i64 a1, .int .i64 a2, .agg #[.int .i64 a3_0, .int .i64 a3_1, .int .i64 a3_2, .int .i64 a3_3]] w fun e w' => e = .returned (.agg #[.int .i64 r1, .int .i64 r2, .int .i64 r3, .int .i64 r4]) ∧ Below w.heap.size w w' := by
 have hu32 := Tryd.underlying32
 have hu23 := Tryd.underlying23
 have HB := Aside0.mk (Below.refl w.heap.size w)
 have H : ((compositorref07_sized.f a1 a2).bind fun t225 => (if t225 = true then ((compositorref04_Intersect.f a3_0 a3_1 a3_2 a3_3 0 0 a1 a2).bind fun bt226 => ((compositorref04_Empty.f bt226.1 bt226.2.1 bt226.2.2.1 bt226.2.2.2).bind fun t231 => (if t231 = true then (some (0, 0, 0, 0)) else ((compositorref07_clean.f a0).bind fun t232 => ((compositorref07_place.f k t232 a1 a2 bt226.1 bt226.2.1).bind fun bt233 => ((compositorref07_clean.f a0).bind fun t236 => ((compositorref07_place.f k t236 a1 a2 (wrap64 (bt226.2.2.1 - 1)) (wrap64 (bt226.2.2.2 - 1))).bind fun bt237 => (some (mn bt233.1 bt237.1, mn bt233.2 bt237.2, wrap64 ((mx bt233.1 bt237.1) + 1), wrap64 ((mx bt233.2 bt237.2) + 1)))))))))) else (some (0, 0, 0, 0)))) = some (r1, r2, r3, r4) := h
 clear h
 replace H := Option.bind_eq_some_iff.mp H
 obtain ⟨t225, A50, H⟩ := H
 try dsimp only at H
 have A5 := Aside0.mk A50
 clear A50
 by_cases c6 : t225 = true
 ·
  subst c6
  have H1 : ((compositorref04_Intersect.f a3_0 a3_1 a3_2 a3_3 0 0 a1 a2).bind fun bt226 => ((compositorref04_Empty.f bt226.1 bt226.2.1 bt226.2.2.1 bt226.2.2.2).bind fun t231 => (if t231 = true then (some (0, 0, 0, 0)) else ((compositorref07_clean.f a0).bind fun t232 => ((compositorref07_place.f k t232 a1 a2 bt226.1 bt226.2.1).bind fun bt233 => ((compositorref07_clean.f a0).bind fun t236 => ((compositorref07_place.f k t236 a1 a2 (wrap64 (bt226.2.2.1 - 1)) (wrap64 (bt226.2.2.2 - 1))).bind fun bt237 => (some (mn bt233.1 bt237.1, mn bt233.2 bt237.2, wrap64 ((mx bt233.1 bt237.1) + 1), wrap64 ((mx bt233.2 bt237.2) + 1)))))))))) = some (r1, r2, r3, r4) := by rw [if_pos rfl] at H; exact H
  clear H
  have H := H1
  clear H1
  replace H := Option.bind_eq_some_iff.mp H
  obtain ⟨⟨t226, t227, t228, t229⟩, A70, H⟩ := H
  try dsimp only at H
  have A7 := Aside0.mk A70
  clear A70
  replace H := Option.bind_eq_some_iff.mp H
  obtain ⟨t231, A80, H⟩ := H
  try dsimp only at H
  have A8 := Aside0.mk A80
  clear A80
  by_cases c9 : t231 = true
  ·
   subst c9
   have H1 : (some (0, 0, 0, 0)) = some (r1, r2, r3, r4) := by rw [if_pos rfl] at H; exact H
   clear H
   have H := H1
   clear H1
   simp only [Option.some.injEq, Prod.mk.injEq] at H
   obtain ⟨rfl, rfl, rfl, rfl⟩ := H
   go_enter Tryd.func22, Tryd.ntmps22
   go_wp2_with (first | ((with_reducible refine gate_dst (N := 7) rfl ?_); refine box_event ?hg (N := 7) ?hd (cs := #[.int .i64 a3_0, .int .i64 a3_1, .int .i64 a3_2, .int .i64 a3_3]) (t := 32) ?hr ?_; (case hd => rfl); (case hg => rfl); (case hr => first | (go_simp; done) | (go_simp; rfl)); intro gb223 hg w10 hbox hb; have n0_ := hb_ HB hb; have n1_ := Aside0.mk (hbox); have n2_ := Aside0.mk ((by rw [hg]; exact (below_size (hq_ HB)) : w.heap.size ≤ gb223)); have n3_ := Aside0.mk ((by rw [hg]; exact (below_size (hq_ HB)) : w.heap.size ≤ gb223)); clear HB; have HB := n0_; have BK223 := n1_; have GW223 := n2_; have GE223 := n3_; clear n0_ n1_ n2_ n3_; clear hb hbox hg) | ((with_reducible refine gate_dst (N := 8) rfl ?_); refine box_event ?hg (N := 8) ?hd (cs := #[.int .i64 0, .int .i64 0, .int .i64 0, .int .i64 0]) (t := 32) ?hr ?_; (case hd => rfl); (case hg => rfl); (case hr => first | (go_simp; done) | (go_simp; rfl)); intro gb224 hg w11 hbox hb; have n0_ := bb_ BK223 hb; have n1_ := hb_ HB hb; have n2_ := Aside0.mk (hbox); have n3_ := Aside0.mk ((by rw [hg]; exact (below_size (hq_ HB)) : w.heap.size ≤ gb224)); have n4_ := Aside0.mk ((by rw [hg]; exact (below_size (hq_ HB)) : w.heap.size ≤ gb224)); have n5_ := Aside0.mk ((by rw [hg]; exact Nat.ne_of_lt (blk_lt (g := gb223) (o := .cells #[.int .i64 a3_0, .int .i64 a3_1, .int .i64 a3_2, .int .i64 a3_3] 32 (0, 0)) (bq_ BK223)) : gb223 ≠ gb224)); have n6_ := Aside0.mk ((by rw [hg]; exact Nat.ne_of_gt (blk_lt (g := gb223) (o := .cells #[.int .i64 a3_0, .int .i64 a3_1, .int .i64 a3_2, .int .i64 a3_3] 32 (0, 0)) (bq_ BK223)) : gb224 ≠ gb223)); clear BK223; clear HB; have BK223 := n0_; have HB := n1_; have BK224 := n2_; have GW224 := n3_; have GE224 := n4_; have NB223_224 := n5_; have NB224_223 := n6_; clear n0_ n1_ n2_ n3_ n4_ n5_ n6_; clear hb hbox hg) | ((with_reducible refine gate_callee (f := 38) rfl ?_); refine goesL_ (some 14) rfl rfl Tryd.func38 (by kernel_rfl) rfl #[.int .i64 a1, .int .i64 a2] rfl (by (try simp only [List.map_toArray, List.map_cons, List.map_nil]) <;> rfl) ?_; (with_reducible refine (compositorref07_sized.calls a1 a2 true _ A5.out).mono ?_); rintro e w' ⟨rfl, ⟨nd, rfl⟩⟩; refine ⟨_, rfl, ?_⟩; (try (rw [drewN_self w11]; generalize hq_ : World.drewN w11 _ = w11; have n0_ : Aside0 (w11.heap[gb223]? = some (.cells #[.int .i64 a3_0, .int .i64 a3_1, .int .i64 a3_2, .int .i64 a3_3] 32 (0, 0))) := ⟨by rw [← hq_]; exact (bq_ BK223)⟩; have n1_ : Aside0 (w11.heap[gb224]? = some (.cells #[.int .i64 0, .int .i64 0, .int .i64 0, .int .i64 0] 32 (0, 0))) := ⟨by rw [← hq_]; exact (bq_ BK224)⟩; have n2_ : Aside0 (Below w.heap.size w w11) := ⟨by rw [← hq_]; exact (hq_ HB)⟩; clear BK223 BK224 HB hq_; have BK223 := n0_; have BK224 := n1_; have HB := n2_; clear n0_ n1_ n2_; have hcy0_0 : w11.cell? ⟨gb223, 0, none⟩ = some (.int .i64 a3_0) := (blk_cell BK223.out 0).trans rfl; have hfy0_0 := blk_frozen BK223.out 0; have hcy0_1 : w11.cell? ⟨gb223, 1, none⟩ = some (.int .i64 a3_1) := (blk_cell BK223.out 1).trans rfl; have hfy0_1 := blk_frozen BK223.out 1; have hcy0_2 : w11.cell? ⟨gb223, 2, none⟩ = some (.int .i64 a3_2) := (blk_cell BK223.out 2).trans rfl; have hfy0_2 := blk_frozen BK223.out 2; have hcy0_3 : w11.cell? ⟨gb223, 3, none⟩ = some (.int .i64 a3_3) := (blk_cell BK223.out 3).trans rfl; have hfy0_3 := blk_frozen BK223.out 3; have hcy1_0 : w11.cell? ⟨gb224, 0, none⟩ = some (.int .i64 0) := (blk_cell BK224.out 0).trans rfl; have hfy1_0 := blk_frozen BK224.out 0; have hcy1_1 : w11.cell? ⟨gb224, 1, none⟩ = some (.int .i64 0) := (blk_cell BK224.out 1).trans rfl; have hfy1_1 := blk_frozen BK224.out 1; have hcy1_2 : w11.cell? ⟨gb224, 2, none⟩ = some (.int .i64 0) := (blk_cell BK224.out 2).trans rfl; have hfy1_2 := blk_frozen BK224.out 2; have hcy1_3 : w11.cell? ⟨gb224, 3, none⟩ = some (.int .i64 0) := (blk_cell BK224.out 3).trans rfl; have hfy1_3 := blk_frozen BK224.out 3)); have hnb12 := NB223_224.out; have hnc12 := NB224_223.out; have hcz13_0 : w11.cell? ⟨gb223, 0, none⟩ = some (.int .i64 a3_0) := (blk_cell BK223.out 0).trans rfl; have hcz13_1 : w11.cell? ⟨gb223, 1, none⟩ = some (.int .i64 a3_1) := (blk_cell BK223.out 1).trans rfl; have hcz13_2 : w11.cell? ⟨gb223, 2, none⟩ = some (.int .i64 a3_2) := (blk_cell BK223.out 2).trans rfl; have hcz13_3 : w11.cell? ⟨gb223, 3, none⟩ = some (.int .i64 a3_3) := (blk_cell BK223.out 3).trans rfl; have hfz13_0 := blk_frozen BK223.out 0; have hfz13_1 := blk_frozen BK223.out 1; have hfz13_2 := blk_frozen BK223.out 2; have hfz13_3 := blk_frozen BK223.out 3) | ((with_reducible refine gate_callee (f := 26) rfl ?_); refine goesL_ (some 21) rfl rfl Tryd.func26 (by kernel_rfl) rfl #[.agg #[.int .i64 a3_0, .int .i64 a3_1, .int .i64 a3_2, .int .i64 a3_3], .agg #[.int .i64 0, .int .i64 0, .int .i64 a1, .int .i64 a2]] rfl (by (try simp only [List.map_toArray, List.map_cons, List.map_nil]) <;> rfl) ?_; (with_reducible refine (compositorref04_Intersect.calls a3_0 a3_1 a3_2 a3_3 0 0 a1 a2 t226 t227 t228 t229 _ A7.out).mono ?_); rintro e w14 ⟨rfl, hb⟩; refine ⟨_, rfl, ?_⟩; have n0_ := bb_ BK223 hb; have n1_ := bb_ BK224 hb; have n2_ := hb_ HB hb; clear BK223; clear BK224; clear HB; have BK223 := n0_; have BK224 := n1_; have HB := n2_; clear n0_ n1_ n2_; (try clear hb); (try clear hb2); (try clear hk); (try clear hi)) | ((with_reducible refine gate_dst (N := 9) rfl ?_); refine box_event ?hg (N := 9) ?hd (cs := #[.int .i64 0, .int .i64 0, .int .i64 0, .int .i64 0]) (t := 32) ?hr ?_; (case hd => rfl); (case hg => rfl); (case hr => first | (go_simp; done) | (go_simp; rfl)); intro gb230 hg w15 hbox hb; have n0_ := bb_ BK223 hb; have n1_ := bb_ BK224 hb; have n2_ := hb_ HB hb; have n3_ := Aside0.mk (hbox); have n4_ := Aside0.mk ((by rw [hg]; exact (below_size (hq_ HB)) : w.heap.size ≤ gb230)); have n5_ := Aside0.mk ((by rw [hg]; exact (below_size (hq_ HB)) : w.heap.size ≤ gb230)); have n6_ := Aside0.mk ((by rw [hg]; exact Nat.ne_of_lt (blk_lt (g := gb223) (o := .cells #[.int .i64 a3_0, .int .i64 a3_1, .int .i64 a3_2, .int .i64 a3_3] 32 (0, 0)) (bq_ BK223)) : gb223 ≠ gb230)); have n7_ := Aside0.mk ((by rw [hg]; exact Nat.ne_of_gt (blk_lt (g := gb223) (o := .cells #[.int .i64 a3_0, .int .i64 a3_1, .int .i64 a3_2, .int .i64 a3_3] 32 (0, 0)) (bq_ BK223)) : gb230 ≠ gb223)); have n8_ := Aside0.mk ((by rw [hg]; exact Nat.ne_of_lt (blk_lt (g := gb224) (o := .cells #[.int .i64 0, .int .i64 0, .int .i64 0, .int .i64 0] 32 (0, 0)) (bq_ BK224)) : gb224 ≠ gb230)); have n9_ := Aside0.mk ((by rw [hg]; exact Nat.ne_of_gt (blk_lt (g := gb224) (o := .cells #[.int .i64 0, .int .i64 0, .int .i64 0, .int .i64 0] 32 (0, 0)) (bq_ BK224)) : gb230 ≠ gb224)); clear BK223; clear BK224; clear HB; have BK223 := n0_; have BK224 := n1_; have HB := n2_; have BK230 := n3_; have GW230 := n4_; have GE230 := n5_; have NB223_230 := n6_; have NB230_223 := n7_; have NB224_230 := n8_; have NB230_224 := n9_; clear n0_ n1_ n2_ n3_ n4_ n5_ n6_ n7_ n8_ n9_; clear hb hbox hg; have hnb16 := NB230_223.out; have hnc16 := NB223_230.out; have hnb17 := NB230_224.out; have hnc17 := NB224_230.out; have hcz18_0 : w15.cell? ⟨gb230, 0, none⟩ = some (.int .i64 0) := (blk_cell BK230.out 0).trans rfl; have hcz18_1 : w15.cell? ⟨gb230, 1, none⟩ = some (.int .i64 0) := (blk_cell BK230.out 1).trans rfl; have hcz18_2 : w15.cell? ⟨gb230, 2, none⟩ = some (.int .i64 0) := (blk_cell BK230.out 2).trans rfl; have hcz18_3 : w15.cell? ⟨gb230, 3, none⟩ = some (.int .i64 0) := (blk_cell BK230.out 3).trans rfl; have hfz18_0 := blk_frozen BK230.out 0; have hfz18_1 := blk_frozen BK230.out 1; have hfz18_2 := blk_frozen BK230.out 2; have hfz18_3 := blk_frozen BK230.out 3) | ((with_reducible refine gate_callee (f := 41) rfl ?_); refine goesL_ (some 23) rfl rfl Tryd.func41 (by kernel_rfl) rfl #[.agg #[.int .i64 t226, .int .i64 t227, .int .i64 t228, .int .i64 t229]] rfl (by (try simp only [List.map_toArray, List.map_cons, List.map_nil]) <;> rfl) ?_; (with_reducible refine (compositorref04_Empty.calls t226 t227 t228 t229 true _ A8.out).mono ?_); rintro e w19 ⟨rfl, hb⟩; refine ⟨_, rfl, ?_⟩; have n0_ := Aside0.mk (blk_below (g := gb223) (o := .cells #[.int .i64 a3_0, .int .i64 a3_1, .int .i64 a3_2, .int .i64 a3_3] 32 (0, 0)) (by (with_reducible repeat (first | refine blk_drewN ?_ _ | refine blk_drew ?_ | refine blk_alloc ?_ _)); refine blk_far ?_ NB223_230.out _; (with_reducible repeat (first | refine blk_drewN ?_ _ | refine blk_drew ?_ | refine blk_alloc ?_ _)); refine blk_far ?_ NB223_230.out _; (with_reducible repeat (first | refine blk_drewN ?_ _ | refine blk_drew ?_ | refine blk_alloc ?_ _)); refine blk_far ?_ NB223_230.out _; (with_reducible repeat (first | refine blk_drewN ?_ _ | refine blk_drew ?_ | refine blk_alloc ?_ _)); refine blk_far ?_ NB223_230.out _; (with_reducible repeat (first | refine blk_drewN ?_ _ | refine blk_drew ?_ | refine blk_alloc ?_ _)); exact BK223.out) hb); have n1_ := Aside0.mk (blk_below (g := gb224) (o := .cells #[.int .i64 0, .int .i64 0, .int .i64 0, .int .i64 0] 32 (0, 0)) (by (with_reducible repeat (first | refine blk_drewN ?_ _ | refine blk_drew ?_ | refine blk_alloc ?_ _)); refine blk_far ?_ NB224_230.out _; (with_reducible repeat (first | refine blk_drewN ?_ _ | refine blk_drew ?_ | refine blk_alloc ?_ _)); refine blk_far ?_ NB224_230.out _; (with_reducible repeat (first | refine blk_drewN ?_ _ | refine blk_drew ?_ | refine blk_alloc ?_ _)); refine blk_far ?_ NB224_230.out _; (with_reducible repeat (first | refine blk_drewN ?_ _ | refine blk_drew ?_ | refine blk_alloc ?_ _)); refine blk_far ?_ NB224_230.out _; (with_reducible repeat (first | refine blk_drewN ?_ _ | refine blk_drew ?_ | refine blk_alloc ?_ _)); exact BK224.out) hb); have n2_ := Aside0.mk (blk_below (g := gb230) (o := .cells #[.int .i64 t226, .int .i64 t227, .int .i64 t228, .int .i64 t229] 32 (0, 0)) (by (with_reducible repeat (first | refine blk_drewN ?_ _ | refine blk_drew ?_ | refine blk_alloc ?_ _)); refine blk_put (cs := #[.int .i64 t226, .int .i64 t227, .int .i64 t228, .int .i64 0]) ?_ 3 _ rfl; (with_reducible repeat (first | refine blk_drewN ?_ _ | refine blk_drew ?_ | refine blk_alloc ?_ _)); refine blk_put (cs := #[.int .i64 t226, .int .i64 t227, .int .i64 0, .int .i64 0]) ?_ 2 _ rfl; (with_reducible repeat (first | refine blk_drewN ?_ _ | refine blk_drew ?_ | refine blk_alloc ?_ _)); refine blk_put (cs := #[.int .i64 t226, .int .i64 0, .int .i64 0, .int .i64 0]) ?_ 1 _ rfl; (with_reducible repeat (first | refine blk_drewN ?_ _ | refine blk_drew ?_ | refine blk_alloc ?_ _)); refine blk_put (cs := #[.int .i64 0, .int .i64 0, .int .i64 0, .int .i64 0]) ?_ 0 _ rfl; (with_reducible repeat (first | refine blk_drewN ?_ _ | refine blk_drew ?_ | refine blk_alloc ?_ _)); exact BK230.out) hb); have n3_ := hb_ HB hb; clear BK223; clear BK224; clear BK230; clear HB; have BK223 := n0_; have BK224 := n1_; have BK230 := n2_; have HB := n3_; clear n0_ n1_ n2_ n3_; (try clear hb); (try clear hb2); (try clear hk); (try clear hi); have hcz20_0 : w19.cell? ⟨gb224, 0, none⟩ = some (.int .i64 0) := (blk_cell BK224.out 0).trans rfl; have hcz20_1 : w19.cell? ⟨gb224, 1, none⟩ = some (.int .i64 0) := (blk_cell BK224.out 1).trans rfl; have hcz20_2 : w19.cell? ⟨gb224, 2, none⟩ = some (.int .i64 0) := (blk_cell BK224.out 2).trans rfl; have hcz20_3 : w19.cell? ⟨gb224, 3, none⟩ = some (.int .i64 0) := (blk_cell BK224.out 3).trans rfl; have hfz20_0 := blk_frozen BK224.out 0; have hfz20_1 := blk_frozen BK224.out 1; have hfz20_2 := blk_frozen BK224.out 2; have hfz20_3 := blk_frozen BK224.out 3))
   refine bodyPost_ret (results_cell_row rfl _ _ gb224 32 #[.int .i64 0, .int .i64 0, .int .i64 0, .int .i64 0] (0, 0) _ rfl (by (with_reducible repeat (first | refine blk_drewN ?_ _ | refine blk_drew ?_ | refine blk_alloc ?_ _)); refine blk_put (cs := #[.int .i64 0, .int .i64 0, .int .i64 0, .int .i64 0]) ?_ 3 _ rfl; (with_reducible repeat (first | refine blk_drewN ?_ _ | refine blk_drew ?_ | refine blk_alloc ?_ _)); refine blk_put (cs := #[.int .i64 0, .int .i64 0, .int .i64 0, .int .i64 0]) ?_ 2 _ rfl; (with_reducible repeat (first | refine blk_drewN ?_ _ | refine blk_drew ?_ | refine blk_alloc ?_ _)); refine blk_put (cs := #[.int .i64 0, .int .i64 0, .int .i64 0, .int .i64 0]) ?_ 1 _ rfl; (with_reducible repeat (first | refine blk_drewN ?_ _ | refine blk_drew ?_ | refine blk_alloc ?_ _)); refine blk_put (cs := #[.int .i64 0, .int .i64 0, .int .i64 0, .int .i64 0]) ?_ 0 _ rfl; (with_reducible repeat (first | refine blk_drewN ?_ _ | refine blk_drew ?_ | refine blk_alloc ?_ _)); exact BK224.out) Tryd.underlying32 rfl (by kernel_rfl)) rfl ?_
   exact ⟨by first | rfl | (simp [errW_none, errW_some] <;> rfl) | (simp [*, errW_none, errW_some] <;> rfl), by repeat (first | (with_reducible first | exact HB.out | apply below_alloc | apply pw_below_drewN | apply below_drew1 | refine below_set ?_ GE223.out | refine below_set ?_ GE224.out | refine below_set ?_ GE230.out) | exact HB.out)⟩
  ·
   replace c9 := Bool.eq_false_iff.mpr c9
   subst c9
   have H1 : ((compositorref07_clean.f a0).bind fun t232 => ((compositorref07_place.f k t232 a1 a2 t226 t227).bind fun bt233 => ((compositorref07_clean.f a0).bind fun t236 => ((compositorref07_place.f k t236 a1 a2 (wrap64 (t228 - 1)) (wrap64 (t229 - 1))).bind fun bt237 => (some (mn bt233.1 bt237.1, mn bt233.2 bt237.2, wrap64 ((mx bt233.1 bt237.1) + 1), wrap64 ((mx bt233.2 bt237.2) + 1))))))) = some (r1, r2, r3, r4) := by rw [if_neg (show ¬ (false = true) by decide)] at H; exact H
   clear H
   have H := H1
   clear H1
   replace H := Option.bind_eq_some_iff.mp H
   obtain ⟨t232, A210, H⟩ := H
   try dsimp only at H
   have A21 := Aside0.mk A210
   clear A210
   replace H := Option.bind_eq_some_iff.mp H
   obtain ⟨⟨t233, t234⟩, A220, H⟩ := H
   try dsimp only at H
   have A22 := Aside0.mk A220
   clear A220
   replace H := Option.bind_eq_some_iff.mp H
   obtain ⟨t236, A230, H⟩ := H
   try dsimp only at H
   have A23 := Aside0.mk A230
   clear A230
   replace H := Option.bind_eq_some_iff.mp H
   obtain ⟨⟨t237, t238⟩, A240, H⟩ := H
   try dsimp only at H
   have A24 := Aside0.mk A240
   clear A240
   obtain ⟨ji25, hji25⟩ : ∃ j_ : Int, (mn t233 t237) = j_ := ⟨_, rfl⟩
   replace H : (some (ji25, mn t234 t238, wrap64 ((mx t233 t237) + 1), wrap64 ((mx t234 t238) + 1))) = some (r1, r2, r3, r4) := by first | (rw [hji25] at H; exact H) | (simp only [hji25] at H ⊢; exact H)
   (try rw [hji25] at A5)
   (try rw [hji25] at A7)
   (try rw [hji25] at A8)
   (try rw [hji25] at A21)
   (try rw [hji25] at A22)
   (try rw [hji25] at A23)
   (try rw [hji25] at A24)
   have hji25_ : (if t237 < t233 then t237 else t233) = ji25 := hji25
   obtain ⟨ji26, hji26⟩ : ∃ j_ : Int, (mn t234 t238) = j_ := ⟨_, rfl⟩
   replace H : (some (ji25, ji26, wrap64 ((mx t233 t237) + 1), wrap64 ((mx t234 t238) + 1))) = some (r1, r2, r3, r4) := by first | (rw [hji26] at H; exact H) | (simp only [hji26] at H ⊢; exact H)
   (try rw [hji26] at A5)
   (try rw [hji26] at A7)
   (try rw [hji26] at A8)
   (try rw [hji26] at A21)
   (try rw [hji26] at A22)
   (try rw [hji26] at A23)
   (try rw [hji26] at A24)
   have hji26_ : (if t238 < t234 then t238 else t234) = ji26 := hji26
   obtain ⟨ji27, hji27⟩ : ∃ j_ : Int, (mx t233 t237) = j_ := ⟨_, rfl⟩
   replace H : (some (ji25, ji26, wrap64 ((ji27) + 1), wrap64 ((mx t234 t238) + 1))) = some (r1, r2, r3, r4) := by first | (rw [hji27] at H; exact H) | (simp only [hji27] at H ⊢; exact H)
   (try rw [hji27] at A5)
   (try rw [hji27] at A7)
   (try rw [hji27] at A8)
   (try rw [hji27] at A21)
   (try rw [hji27] at A22)
   (try rw [hji27] at A23)
   (try rw [hji27] at A24)
   have hji27_ : (if t233 < t237 then t237 else t233) = ji27 := hji27
   obtain ⟨ji28, hji28⟩ : ∃ j_ : Int, (mx t234 t238) = j_ := ⟨_, rfl⟩
   replace H : (some (ji25, ji26, wrap64 ((ji27) + 1), wrap64 ((ji28) + 1))) = some (r1, r2, r3, r4) := by first | (rw [hji28] at H; exact H) | (simp only [hji28] at H ⊢; exact H)
   (try rw [hji28] at A5)
   (try rw [hji28] at A7)
   (try rw [hji28] at A8)
   (try rw [hji28] at A21)
   (try rw [hji28] at A22)
   (try rw [hji28] at A23)
   (try rw [hji28] at A24)
   have hji28_ : (if t234 < t238 then t238 else t234) = ji28 := hji28
   simp only [Option.some.injEq, Prod.mk.injEq] at H
   obtain ⟨rfl, rfl, rfl, rfl⟩ := H
   go_enter Tryd.func22, Tryd.ntmps22
   try go_wp2_with (first | ((with_reducible refine gate_dst (N := 7) rfl ?_); refine box_event ?hg (N := 7) ?hd (cs := #[.int .i64 a3_0, .int .i64 a3_1, .int .i64 a3_2, .int .i64 a3_3]) (t := 32) ?hr ?_; (case hd => rfl); (case hg => rfl); (case hr => first | (go_simp; done) | (go_simp; rfl)); intro gb223 hg w29 hbox hb; have n0_ := hb_ HB hb; have n1_ := Aside0.mk (hbox); have n2_ := Aside0.mk ((by rw [hg]; exact (below_size (hq_ HB)) : w.heap.size ≤ gb223)); have n3_ := Aside0.mk ((by rw [hg]; exact (below_size (hq_ HB)) : w.heap.size ≤ gb223)); clear HB; have HB := n0_; have BK223 := n1_; have GW223 := n2_; have GE223 := n3_; clear n0_ n1_ n2_ n3_; clear hb hbox hg) | ((with_reducible refine gate_dst (N := 8) rfl ?_); refine box_event ?hg (N := 8) ?hd (cs := #[.int .i64 0, .int .i64 0, .int .i64 0, .int .i64 0]) (t := 32) ?hr ?_; (case hd => rfl); (case hg => rfl); (case hr => first | (go_simp; done) | (go_simp; rfl)); intro gb224 hg w30 hbox hb; have n0_ := bb_ BK223 hb; have n1_ := hb_ HB hb; have n2_ := Aside0.mk (hbox); have n3_ := Aside0.mk ((by rw [hg]; exact (below_size (hq_ HB)) : w.heap.size ≤ gb224)); have n4_ := Aside0.mk ((by rw [hg]; exact (below_size (hq_ HB)) : w.heap.size ≤ gb224)); have n5_ := Aside0.mk ((by rw [hg]; exact Nat.ne_of_lt (blk_lt (g := gb223) (o := .cells #[.int .i64 a3_0, .int .i64 a3_1, .int .i64 a3_2, .int .i64 a3_3] 32 (0, 0)) (bq_ BK223)) : gb223 ≠ gb224)); have n6_ := Aside0.mk ((by rw [hg]; exact Nat.ne_of_gt (blk_lt (g := gb223) (o := .cells #[.int .i64 a3_0, .int .i64 a3_1, .int .i64 a3_2, .int .i64 a3_3] 32 (0, 0)) (bq_ BK223)) : gb224 ≠ gb223)); clear BK223; clear HB; have BK223 := n0_; have HB := n1_; have BK224 := n2_; have GW224 := n3_; have GE224 := n4_; have NB223_224 := n5_; have NB224_223 := n6_; clear n0_ n1_ n2_ n3_ n4_ n5_ n6_; clear hb hbox hg) | ((with_reducible refine gate_callee (f := 38) rfl ?_); refine goesL_ (some 14) rfl rfl Tryd.func38 (by kernel_rfl) rfl #[.int .i64 a1, .int .i64 a2] rfl (by (try simp only [List.map_toArray, List.map_cons, List.map_nil]) <;> rfl) ?_; (with_reducible refine (compositorref07_sized.calls a1 a2 true _ A5.out).mono ?_); rintro e w' ⟨rfl, ⟨nd, rfl⟩⟩; refine ⟨_, rfl, ?_⟩; (try (rw [drewN_self w30]; generalize hq_ : World.drewN w30 _ = w30; have n0_ : Aside0 (w30.heap[gb223]? = some (.cells #[.int .i64 a3_0, .int .i64 a3_1, .int .i64 a3_2, .int .i64 a3_3] 32 (0, 0))) := ⟨by rw [← hq_]; exact (bq_ BK223)⟩; have n1_ : Aside0 (w30.heap[gb224]? = some (.cells #[.int .i64 0, .int .i64 0, .int .i64 0, .int .i64 0] 32 (0, 0))) := ⟨by rw [← hq_]; exact (bq_ BK224)⟩; have n2_ : Aside0 (Below w.heap.size w w30) := ⟨by rw [← hq_]; exact (hq_ HB)⟩; clear BK223 BK224 HB hq_; have BK223 := n0_; have BK224 := n1_; have HB := n2_; clear n0_ n1_ n2_; have hcy0_0 : w30.cell? ⟨gb223, 0, none⟩ = some (.int .i64 a3_0) := (blk_cell BK223.out 0).trans rfl; have hfy0_0 := blk_frozen BK223.out 0; have hcy0_1 : w30.cell? ⟨gb223, 1, none⟩ = some (.int .i64 a3_1) := (blk_cell BK223.out 1).trans rfl; have hfy0_1 := blk_frozen BK223.out 1; have hcy0_2 : w30.cell? ⟨gb223, 2, none⟩ = some (.int .i64 a3_2) := (blk_cell BK223.out 2).trans rfl; have hfy0_2 := blk_frozen BK223.out 2; have hcy0_3 : w30.cell? ⟨gb223, 3, none⟩ = some (.int .i64 a3_3) := (blk_cell BK223.out 3).trans rfl; have hfy0_3 := blk_frozen BK223.out 3; have hcy1_0 : w30.cell? ⟨gb224, 0, none⟩ = some (.int .i64 0) := (blk_cell BK224.out 0).trans rfl; have hfy1_0 := blk_frozen BK224.out 0; have hcy1_1 : w30.cell? ⟨gb224, 1, none⟩ = some (.int .i64 0) := (blk_cell BK224.out 1).trans rfl; have hfy1_1 := blk_frozen BK224.out 1; have hcy1_2 : w30.cell? ⟨gb224, 2, none⟩ = some (.int .i64 0) := (blk_cell BK224.out 2).trans rfl; have hfy1_2 := blk_frozen BK224.out 2; have hcy1_3 : w30.cell? ⟨gb224, 3, none⟩ = some (.int .i64 0) := (blk_cell BK224.out 3).trans rfl; have hfy1_3 := blk_frozen BK224.out 3)); have hnb31 := NB223_224.out; have hnc31 := NB224_223.out; have hcz32_0 : w30.cell? ⟨gb223, 0, none⟩ = some (.int .i64 a3_0) := (blk_cell BK223.out 0).trans rfl; have hcz32_1 : w30.cell? ⟨gb223, 1, none⟩ = some (.int .i64 a3_1) := (blk_cell BK223.out 1).trans rfl; have hcz32_2 : w30.cell? ⟨gb223, 2, none⟩ = some (.int .i64 a3_2) := (blk_cell BK223.out 2).trans rfl; have hcz32_3 : w30.cell? ⟨gb223, 3, none⟩ = some (.int .i64 a3_3) := (blk_cell BK223.out 3).trans rfl; have hfz32_0 := blk_frozen BK223.out 0; have hfz32_1 := blk_frozen BK223.out 1; have hfz32_2 := blk_frozen BK223.out 2; have hfz32_3 := blk_frozen BK223.out 3) | ((with_reducible refine gate_callee (f := 26) rfl ?_); refine goesL_ (some 21) rfl rfl Tryd.func26 (by kernel_rfl) rfl #[.agg #[.int .i64 a3_0, .int .i64 a3_1, .int .i64 a3_2, .int .i64 a3_3], .agg #[.int .i64 0, .int .i64 0, .int .i64 a1, .int .i64 a2]] rfl (by (try simp only [List.map_toArray, List.map_cons, List.map_nil]) <;> rfl) ?_; (with_reducible refine (compositorref04_Intersect.calls a3_0 a3_1 a3_2 a3_3 0 0 a1 a2 t226 t227 t228 t229 _ A7.out).mono ?_); rintro e w33 ⟨rfl, hb⟩; refine ⟨_, rfl, ?_⟩; have n0_ := bb_ BK223 hb; have n1_ := bb_ BK224 hb; have n2_ := hb_ HB hb; clear BK223; clear BK224; clear HB; have BK223 := n0_; have BK224 := n1_; have HB := n2_; clear n0_ n1_ n2_; (try clear hb); (try clear hb2); (try clear hk); (try clear hi)) | ((with_reducible refine gate_dst (N := 9) rfl ?_); refine box_event ?hg (N := 9) ?hd (cs := #[.int .i64 0, .int .i64 0, .int .i64 0, .int .i64 0]) (t := 32) ?hr ?_; (case hd => rfl); (case hg => rfl); (case hr => first | (go_simp; done) | (go_simp; rfl)); intro gb230 hg w34 hbox hb; have n0_ := bb_ BK223 hb; have n1_ := bb_ BK224 hb; have n2_ := hb_ HB hb; have n3_ := Aside0.mk (hbox); have n4_ := Aside0.mk ((by rw [hg]; exact (below_size (hq_ HB)) : w.heap.size ≤ gb230)); have n5_ := Aside0.mk ((by rw [hg]; exact (below_size (hq_ HB)) : w.heap.size ≤ gb230)); have n6_ := Aside0.mk ((by rw [hg]; exact Nat.ne_of_lt (blk_lt (g := gb223) (o := .cells #[.int .i64 a3_0, .int .i64 a3_1, .int .i64 a3_2, .int .i64 a3_3] 32 (0, 0)) (bq_ BK223)) : gb223 ≠ gb230)); have n7_ := Aside0.mk ((by rw [hg]; exact Nat.ne_of_gt (blk_lt (g := gb223) (o := .cells #[.int .i64 a3_0, .int .i64 a3_1, .int .i64 a3_2, .int .i64 a3_3] 32 (0, 0)) (bq_ BK223)) : gb230 ≠ gb223)); have n8_ := Aside0.mk ((by rw [hg]; exact Nat.ne_of_lt (blk_lt (g := gb224) (o := .cells #[.int .i64 0, .int .i64 0, .int .i64 0, .int .i64 0] 32 (0, 0)) (bq_ BK224)) : gb224 ≠ gb230)); have n9_ := Aside0.mk ((by rw [hg]; exact Nat.ne_of_gt (blk_lt (g := gb224) (o := .cells #[.int .i64 0, .int .i64 0, .int .i64 0, .int .i64 0] 32 (0, 0)) (bq_ BK224)) : gb230 ≠ gb224)); clear BK223; clear BK224; clear HB; have BK223 := n0_; have BK224 := n1_; have HB := n2_; have BK230 := n3_; have GW230 := n4_; have GE230 := n5_; have NB223_230 := n6_; have NB230_223 := n7_; have NB224_230 := n8_; have NB230_224 := n9_; clear n0_ n1_ n2_ n3_ n4_ n5_ n6_ n7_ n8_ n9_; clear hb hbox hg; have hnb35 := NB230_223.out; have hnc35 := NB223_230.out; have hnb36 := NB230_224.out; have hnc36 := NB224_230.out; have hcz37_0 : w34.cell? ⟨gb230, 0, none⟩ = some (.int .i64 0) := (blk_cell BK230.out 0).trans rfl; have hcz37_1 : w34.cell? ⟨gb230, 1, none⟩ = some (.int .i64 0) := (blk_cell BK230.out 1).trans rfl; have hcz37_2 : w34.cell? ⟨gb230, 2, none⟩ = some (.int .i64 0) := (blk_cell BK230.out 2).trans rfl; have hcz37_3 : w34.cell? ⟨gb230, 3, none⟩ = some (.int .i64 0) := (blk_cell BK230.out 3).trans rfl; have hfz37_0 := blk_frozen BK230.out 0; have hfz37_1 := blk_frozen BK230.out 1; have hfz37_2 := blk_frozen BK230.out 2; have hfz37_3 := blk_frozen BK230.out 3) | ((with_reducible refine gate_callee (f := 41) rfl ?_); refine goesL_ (some 23) rfl rfl Tryd.func41 (by kernel_rfl) rfl #[.agg #[.int .i64 t226, .int .i64 t227, .int .i64 t228, .int .i64 t229]] rfl (by (try simp only [List.map_toArray, List.map_cons, List.map_nil]) <;> rfl) ?_; (with_reducible refine (compositorref04_Empty.calls t226 t227 t228 t229 false _ A8.out).mono ?_); rintro e w38 ⟨rfl, hb⟩; refine ⟨_, rfl, ?_⟩; have n0_ := Aside0.mk (blk_below (g := gb223) (o := .cells #[.int .i64 a3_0, .int .i64 a3_1, .int .i64 a3_2, .int .i64 a3_3] 32 (0, 0)) (by (with_reducible repeat (first | refine blk_drewN ?_ _ | refine blk_drew ?_ | refine blk_alloc ?_ _)); refine blk_far ?_ NB223_230.out _; (with_reducible repeat (first | refine blk_drewN ?_ _ | refine blk_drew ?_ | refine blk_alloc ?_ _)); refine blk_far ?_ NB223_230.out _; (with_reducible repeat (first | refine blk_drewN ?_ _ | refine blk_drew ?_ | refine blk_alloc ?_ _)); refine blk_far ?_ NB223_230.out _; (with_reducible repeat (first | refine blk_drewN ?_ _ | refine blk_drew ?_ | refine blk_alloc ?_ _)); refine blk_far ?_ NB223_230.out _; (with_reducible repeat (first | refine blk_drewN ?_ _ | refine blk_drew ?_ | refine blk_alloc ?_ _)); exact BK223.out) hb); have n1_ := Aside0.mk (blk_below (g := gb224) (o := .cells #[.int .i64 0, .int .i64 0, .int .i64 0, .int .i64 0] 32 (0, 0)) (by (with_reducible repeat (first | refine blk_drewN ?_ _ | refine blk_drew ?_ | refine blk_alloc ?_ _)); refine blk_far ?_ NB224_230.out _; (with_reducible repeat (first | refine blk_drewN ?_ _ | refine blk_drew ?_ | refine blk_alloc ?_ _)); refine blk_far ?_ NB224_230.out _; (with_reducible repeat (first | refine blk_drewN ?_ _ | refine blk_drew ?_ | refine blk_alloc ?_ _)); refine blk_far ?_ NB224_230.out _; (with_reducible repeat (first | refine blk_drewN ?_ _ | refine blk_drew ?_ | refine blk_alloc ?_ _)); refine blk_far ?_ NB224_230.out _; (with_reducible repeat (first | refine blk_drewN ?_ _ | refine blk_drew ?_ | refine blk_alloc ?_ _)); exact BK224.out) hb); have n2_ := Aside0.mk (blk_below (g := gb230) (o := .cells #[.int .i64 t226, .int .i64 t227, .int .i64 t228, .int .i64 t229] 32 (0, 0)) (by (with_reducible repeat (first | refine blk_drewN ?_ _ | refine blk_drew ?_ | refine blk_alloc ?_ _)); refine blk_put (cs := #[.int .i64 t226, .int .i64 t227, .int .i64 t228, .int .i64 0]) ?_ 3 _ rfl; (with_reducible repeat (first | refine blk_drewN ?_ _ | refine blk_drew ?_ | refine blk_alloc ?_ _)); refine blk_put (cs := #[.int .i64 t226, .int .i64 t227, .int .i64 0, .int .i64 0]) ?_ 2 _ rfl; (with_reducible repeat (first | refine blk_drewN ?_ _ | refine blk_drew ?_ | refine blk_alloc ?_ _)); refine blk_put (cs := #[.int .i64 t226, .int .i64 0, .int .i64 0, .int .i64 0]) ?_ 1 _ rfl; (with_reducible repeat (first | refine blk_drewN ?_ _ | refine blk_drew ?_ | refine blk_alloc ?_ _)); refine blk_put (cs := #[.int .i64 0, .int .i64 0, .int .i64 0, .int .i64 0]) ?_ 0 _ rfl; (with_reducible repeat (first | refine blk_drewN ?_ _ | refine blk_drew ?_ | refine blk_alloc ?_ _)); exact BK230.out) hb); have n3_ := hb_ HB hb; clear BK223; clear BK224; clear BK230; clear HB; have BK223 := n0_; have BK224 := n1_; have BK230 := n2_; have HB := n3_; clear n0_ n1_ n2_ n3_; (try clear hb); (try clear hb2); (try clear hk); (try clear hi)))
   replace BK223 := Aside0.mk (blk_drew BK223.out)
   replace BK224 := Aside0.mk (blk_drew BK224.out)
   replace BK230 := Aside0.mk (blk_drew BK230.out)
   replace HB := Aside0.mk (below_drew1 HB.out)
   refine start_ (n := 12) (S := fun w' => w'.cell? ⟨gb230, 0, none⟩ = some (.int .i64 t226) ∧ w'.cell? ⟨gb230, 1, none⟩ = some (.int .i64 t227) ∧ w'.cell? ⟨gb230, 2, none⟩ = some (.int .i64 t228) ∧ w'.cell? ⟨gb230, 3, none⟩ = some (.int .i64 t229)) (ds := []) zq22.q0 (by kernel_rfl) rfl rfl (h4_ BK230) (fun hHeld => ?_); refine with_tabW compositorref07_ApplyRect.tab6 compositorref07_ApplyRect.bits6 (fun HT_ HW_ => ?_)
   generalize w38.drew = w39 at BK223 BK224 BK230 HB hHeld ⊢
   refine pv_ 0 25 zq22.q1 HT_ ?_
   refine pv_ 2 27 zq22.q2 HT_ ?_
   refine pv_ 3 28 zq22.q3 HT_ ?_
   refine pv_ 4 29 zq22.q4 HT_ ?_
   refine pv_ 6 31 zq22.q5 HT_ ?_
   refine tk4_ 5 30 zq22.q6 HT_ HW_ hHeld ?_
   refine tk4_ 7 32 zq22.q7 HT_ HW_ hHeld ?_
   refine pv_ 8 33 zq22.q8 HT_ ?_
   refine join_ (σ := Nat) 1 zq22.q9 (fun s_ => [(26, .int .i64 t232), (34, .agg #[.int .i64 t233, .int .i64 t234]), (10, .pointer (some ⟨s_, 0, none⟩))]) (fun s_ w' => (w'.cell? ⟨gb230, 0, none⟩ = some (.int .i64 t226) ∧ w'.cell? ⟨gb230, 1, none⟩ = some (.int .i64 t227) ∧ w'.cell? ⟨gb230, 2, none⟩ = some (.int .i64 t228) ∧ w'.cell? ⟨gb230, 3, none⟩ = some (.int .i64 t229)) ∧ (w'.heap[gb223]? = some (.cells #[.int .i64 a3_0, .int .i64 a3_1, .int .i64 a3_2, .int .i64 a3_3] 32 (0, 0))) ∧ (w'.heap[gb224]? = some (.cells #[.int .i64 0, .int .i64 0, .int .i64 0, .int .i64 0] 32 (0, 0))) ∧ (w'.heap[gb230]? = some (.cells #[.int .i64 t226, .int .i64 t227, .int .i64 t228, .int .i64 t229] 32 (0, 0))) ∧ (w'.heap[s_]? = some (.cells #[.int .i64 0, .int .i64 0] 23 (0, 0))) ∧ (w.heap.size ≤ s_) ∧ (w.heap.size ≤ s_) ∧ (gb223 ≠ s_) ∧ (s_ ≠ gb223) ∧ (gb224 ≠ s_) ∧ (s_ ≠ gb224) ∧ (gb230 ≠ s_) ∧ (s_ ≠ gb230) ∧ (Below w.heap.size w w')) ?_ ?_
   rotate_left
   ·
    intro hCont
    refine two_ (i := 1) (j := 10) (Ni := some 26) (Nj := some 10) zq22.q10 zq22.q11 rfl rfl rfl rfl (two_of HT_.out (by kernel_rfl)) (by decide) (by decide) (fun K hK => ?_) (fun K hK => ?_)
    ·
     refine gs_ Tryd.func34 #[.int .i64 a0] ?_
     with_reducible refine (compositorref07_clean.calls a0 t232 _ A21.out).mono ?_
     rintro e w' ⟨rfl, ⟨nd, rfl⟩⟩
     refine ⟨_, rfl, ?_⟩
     refine hK.out _ _ (h4_ BK230) (fun hHeld => ?_)
     clear hK K
     refine norm_ (a' := ?_) ?_ ?_
     rotate_left
     ·
      show Act.put _ (some 26) _ = _
      simp only [Act.put, List.setIfInBounds_toArray, List.set_cons_zero, List.set_cons_succ, i64_w, i32_w]
      rfl
     refine two_ (i := 9) (j := 10) (Ni := some 34) (Nj := some 10) zq22.q12 zq22.q13 rfl rfl rfl rfl (two_of HT_.out (by kernel_rfl)) (by decide) (by decide) (fun K hK => ?_) (fun K hK => ?_)
     ·
      refine gs_ Tryd.func35 #[.int .i64 t232, .int .i64 a1, .int .i64 a2, .agg #[.int .i64 t226, .int .i64 t227]] ?_
      with_reducible refine (compositorref07_place.calls k t232 a1 a2 t226 t227 t233 t234 _ A22.out).mono ?_
      rintro e w40 ⟨rfl, hb⟩
      refine ⟨_, rfl, ?_⟩
      replace BK223 := bb_ BK223 hb
      replace BK224 := bb_ BK224 hb
      replace BK230 := bb_ BK230 hb
      replace HB := hb_ HB hb
      (try clear hb); (try clear hb2); (try clear hk); (try clear hi)
      refine hK.out _ _ (h4_ BK230) (fun hHeld => ?_)
      clear hK K
      refine norm_ (a' := ?_) ?_ ?_
      rotate_left
      ·
       show Act.put _ (some 34) _ = _
       simp only [Act.put, List.setIfInBounds_toArray, List.set_cons_zero, List.set_cons_succ, i64_w, i32_w]
       rfl
      refine one_ (i := 10) (N := some 10) zq22.q9 rfl rfl (one_of HT_.out (by kernel_rfl)) (by decide) (fun K hK => ?_)
      refine box_step ?hg (N := 10) ?hd (cs := #[.int .i64 0, .int .i64 0]) (t := 23) ?hr ?_; (case hd => rfl); (case hg => rfl); (case hr => first | (go_simp; done) | (go_simp; rfl))
      intro gb235 hg w41 hbox hb
      have BK235 := Aside0.mk (hbox)
      have GW235 := Aside0.mk ((by rw [hg]; exact (below_size (hq_ HB)) : w.heap.size ≤ gb235))
      have GE235 := Aside0.mk ((by rw [hg]; exact (below_size (hq_ HB)) : w.heap.size ≤ gb235))
      replace HB := hb_ HB hb
      have NB223_235 := Aside0.mk ((by rw [hg]; exact Nat.ne_of_lt (blk_lt (g := gb223) (o := .cells #[.int .i64 a3_0, .int .i64 a3_1, .int .i64 a3_2, .int .i64 a3_3] 32 (0, 0)) (bq_ BK223)) : gb223 ≠ gb235))
      have NB235_223 := Aside0.mk ((by rw [hg]; exact Nat.ne_of_gt (blk_lt (g := gb223) (o := .cells #[.int .i64 a3_0, .int .i64 a3_1, .int .i64 a3_2, .int .i64 a3_3] 32 (0, 0)) (bq_ BK223)) : gb235 ≠ gb223))
      replace BK223 := bb_ BK223 hb
      have NB224_235 := Aside0.mk ((by rw [hg]; exact Nat.ne_of_lt (blk_lt (g := gb224) (o := .cells #[.int .i64 0, .int .i64 0, .int .i64 0, .int .i64 0] 32 (0, 0)) (bq_ BK224)) : gb224 ≠ gb235))
      have NB235_224 := Aside0.mk ((by rw [hg]; exact Nat.ne_of_gt (blk_lt (g := gb224) (o := .cells #[.int .i64 0, .int .i64 0, .int .i64 0, .int .i64 0] 32 (0, 0)) (bq_ BK224)) : gb235 ≠ gb224))
      replace BK224 := bb_ BK224 hb
      have NB230_235 := Aside0.mk ((by rw [hg]; exact Nat.ne_of_lt (blk_lt (g := gb230) (o := .cells #[.int .i64 t226, .int .i64 t227, .int .i64 t228, .int .i64 t229] 32 (0, 0)) (bq_ BK230)) : gb230 ≠ gb235))
      have NB235_230 := Aside0.mk ((by rw [hg]; exact Nat.ne_of_gt (blk_lt (g := gb230) (o := .cells #[.int .i64 t226, .int .i64 t227, .int .i64 t228, .int .i64 t229] 32 (0, 0)) (bq_ BK230)) : gb235 ≠ gb230))
      replace BK230 := bb_ BK230 hb
      clear hb hbox hg
      refine hK.out _ _ (h4_ BK230) (fun hHeld => ?_)
      clear hK K
      refine norm_ (a' := ?_) ?_ ?_
      rotate_left
      ·
       show Act.put _ (some 10) _ = _
       simp only [Act.put, List.setIfInBounds_toArray, List.set_cons_zero, List.set_cons_succ, i64_w, i32_w]
       rfl
      exact norm_ (by simp only [putAll, Act.put, List.setIfInBounds_toArray, List.set_cons_zero, List.set_cons_succ]) (hCont (gb235) _ ⟨hHeld, (bq_ BK223), (bq_ BK224), (bq_ BK230), (bq_ BK235), GW235.out, GE235.out, NB223_235.out, NB235_223.out, NB224_235.out, NB235_224.out, NB230_235.out, NB235_230.out, (hq_ HB)⟩)
     ·
      refine box_step ?hg (N := 10) ?hd (cs := #[.int .i64 0, .int .i64 0]) (t := 23) ?hr ?_; (case hd => rfl); (case hg => rfl); (case hr => first | (go_simp; done) | (go_simp; rfl))
      intro gb235 hg w40 hbox hb
      have BK235 := Aside0.mk (hbox)
      have GW235 := Aside0.mk ((by rw [hg]; exact (below_size (hq_ HB)) : w.heap.size ≤ gb235))
      have GE235 := Aside0.mk ((by rw [hg]; exact (below_size (hq_ HB)) : w.heap.size ≤ gb235))
      replace HB := hb_ HB hb
      have NB223_235 := Aside0.mk ((by rw [hg]; exact Nat.ne_of_lt (blk_lt (g := gb223) (o := .cells #[.int .i64 a3_0, .int .i64 a3_1, .int .i64 a3_2, .int .i64 a3_3] 32 (0, 0)) (bq_ BK223)) : gb223 ≠ gb235))
      have NB235_223 := Aside0.mk ((by rw [hg]; exact Nat.ne_of_gt (blk_lt (g := gb223) (o := .cells #[.int .i64 a3_0, .int .i64 a3_1, .int .i64 a3_2, .int .i64 a3_3] 32 (0, 0)) (bq_ BK223)) : gb235 ≠ gb223))
      replace BK223 := bb_ BK223 hb
      have NB224_235 := Aside0.mk ((by rw [hg]; exact Nat.ne_of_lt (blk_lt (g := gb224) (o := .cells #[.int .i64 0, .int .i64 0, .int .i64 0, .int .i64 0] 32 (0, 0)) (bq_ BK224)) : gb224 ≠ gb235))
      have NB235_224 := Aside0.mk ((by rw [hg]; exact Nat.ne_of_gt (blk_lt (g := gb224) (o := .cells #[.int .i64 0, .int .i64 0, .int .i64 0, .int .i64 0] 32 (0, 0)) (bq_ BK224)) : gb235 ≠ gb224))
      replace BK224 := bb_ BK224 hb
      have NB230_235 := Aside0.mk ((by rw [hg]; exact Nat.ne_of_lt (blk_lt (g := gb230) (o := .cells #[.int .i64 t226, .int .i64 t227, .int .i64 t228, .int .i64 t229] 32 (0, 0)) (bq_ BK230)) : gb230 ≠ gb235))
      have NB235_230 := Aside0.mk ((by rw [hg]; exact Nat.ne_of_gt (blk_lt (g := gb230) (o := .cells #[.int .i64 t226, .int .i64 t227, .int .i64 t228, .int .i64 t229] 32 (0, 0)) (bq_ BK230)) : gb235 ≠ gb230))
      replace BK230 := bb_ BK230 hb
      clear hb hbox hg
      refine hK.out _ _ (h4_ BK230) (fun hHeld => ?_)
      clear hK K
      refine norm_ (a' := ?_) ?_ ?_
      rotate_left
      ·
       show Act.put _ (some 10) _ = _
       simp only [Act.put, List.setIfInBounds_toArray, List.set_cons_zero, List.set_cons_succ, i64_w, i32_w]
       rfl
      refine one_ (i := 9) (N := some 34) zq22.q9 rfl rfl (one_of HT_.out (by kernel_rfl)) (by decide) (fun K hK => ?_)
      refine gs_ Tryd.func35 #[.int .i64 t232, .int .i64 a1, .int .i64 a2, .agg #[.int .i64 t226, .int .i64 t227]] ?_
      with_reducible refine (compositorref07_place.calls k t232 a1 a2 t226 t227 t233 t234 _ A22.out).mono ?_
      rintro e w41 ⟨rfl, hb⟩
      refine ⟨_, rfl, ?_⟩
      replace BK223 := bb_ BK223 hb
      replace BK224 := bb_ BK224 hb
      replace BK230 := bb_ BK230 hb
      replace BK235 := bb_ BK235 hb
      replace HB := hb_ HB hb
      (try clear hb); (try clear hb2); (try clear hk); (try clear hi)
      refine hK.out _ _ (h4_ BK230) (fun hHeld => ?_)
      clear hK K
      refine norm_ (a' := ?_) ?_ ?_
      rotate_left
      ·
       show Act.put _ (some 34) _ = _
       simp only [Act.put, List.setIfInBounds_toArray, List.set_cons_zero, List.set_cons_succ, i64_w, i32_w]
       rfl
      exact norm_ (by simp only [putAll, Act.put, List.setIfInBounds_toArray, List.set_cons_zero, List.set_cons_succ]) (hCont (gb235) _ ⟨hHeld, (bq_ BK223), (bq_ BK224), (bq_ BK230), (bq_ BK235), GW235.out, GE235.out, NB223_235.out, NB235_223.out, NB224_235.out, NB235_224.out, NB230_235.out, NB235_230.out, (hq_ HB)⟩)
    ·
     refine box_step ?hg (N := 10) ?hd (cs := #[.int .i64 0, .int .i64 0]) (t := 23) ?hr ?_; (case hd => rfl); (case hg => rfl); (case hr => first | (go_simp; done) | (go_simp; rfl))
     intro gb235 hg w40 hbox hb
     have BK235 := Aside0.mk (hbox)
     have GW235 := Aside0.mk ((by rw [hg]; exact (below_size (hq_ HB)) : w.heap.size ≤ gb235))
     have GE235 := Aside0.mk ((by rw [hg]; exact (below_size (hq_ HB)) : w.heap.size ≤ gb235))
     replace HB := hb_ HB hb
     have NB223_235 := Aside0.mk ((by rw [hg]; exact Nat.ne_of_lt (blk_lt (g := gb223) (o := .cells #[.int .i64 a3_0, .int .i64 a3_1, .int .i64 a3_2, .int .i64 a3_3] 32 (0, 0)) (bq_ BK223)) : gb223 ≠ gb235))
     have NB235_223 := Aside0.mk ((by rw [hg]; exact Nat.ne_of_gt (blk_lt (g := gb223) (o := .cells #[.int .i64 a3_0, .int .i64 a3_1, .int .i64 a3_2, .int .i64 a3_3] 32 (0, 0)) (bq_ BK223)) : gb235 ≠ gb223))
     replace BK223 := bb_ BK223 hb
     have NB224_235 := Aside0.mk ((by rw [hg]; exact Nat.ne_of_lt (blk_lt (g := gb224) (o := .cells #[.int .i64 0, .int .i64 0, .int .i64 0, .int .i64 0] 32 (0, 0)) (bq_ BK224)) : gb224 ≠ gb235))
     have NB235_224 := Aside0.mk ((by rw [hg]; exact Nat.ne_of_gt (blk_lt (g := gb224) (o := .cells #[.int .i64 0, .int .i64 0, .int .i64 0, .int .i64 0] 32 (0, 0)) (bq_ BK224)) : gb235 ≠ gb224))
     replace BK224 := bb_ BK224 hb
     have NB230_235 := Aside0.mk ((by rw [hg]; exact Nat.ne_of_lt (blk_lt (g := gb230) (o := .cells #[.int .i64 t226, .int .i64 t227, .int .i64 t228, .int .i64 t229] 32 (0, 0)) (bq_ BK230)) : gb230 ≠ gb235))
     have NB235_230 := Aside0.mk ((by rw [hg]; exact Nat.ne_of_gt (blk_lt (g := gb230) (o := .cells #[.int .i64 t226, .int .i64 t227, .int .i64 t228, .int .i64 t229] 32 (0, 0)) (bq_ BK230)) : gb235 ≠ gb230))
     replace BK230 := bb_ BK230 hb
     clear hb hbox hg
     refine hK.out _ _ (h4_ BK230) (fun hHeld => ?_)
     clear hK K
     refine norm_ (a' := ?_) ?_ ?_
     rotate_left
     ·
      show Act.put _ (some 10) _ = _
      simp only [Act.put, List.setIfInBounds_toArray, List.set_cons_zero, List.set_cons_succ, i64_w, i32_w]
      rfl
     refine one_ (i := 1) (N := some 26) zq22.q13 rfl rfl (one_of HT_.out (by kernel_rfl)) (by decide) (fun K hK => ?_)
     refine gs_ Tryd.func34 #[.int .i64 a0] ?_
     with_reducible refine (compositorref07_clean.calls a0 t232 _ A21.out).mono ?_
     rintro e w' ⟨rfl, ⟨nd, rfl⟩⟩
     refine ⟨_, rfl, ?_⟩
     refine hK.out _ _ (h4_ BK230) (fun hHeld => ?_)
     clear hK K
     refine norm_ (a' := ?_) ?_ ?_
     rotate_left
     ·
      show Act.put _ (some 26) _ = _
      simp only [Act.put, List.setIfInBounds_toArray, List.set_cons_zero, List.set_cons_succ, i64_w, i32_w]
      rfl
     refine one_ (i := 9) (N := some 34) zq22.q9 rfl rfl (one_of HT_.out (by kernel_rfl)) (by decide) (fun K hK => ?_)
     refine gs_ Tryd.func35 #[.int .i64 t232, .int .i64 a1, .int .i64 a2, .agg #[.int .i64 t226, .int .i64 t227]] ?_
     with_reducible refine (compositorref07_place.calls k t232 a1 a2 t226 t227 t233 t234 _ A22.out).mono ?_
     rintro e w41 ⟨rfl, hb⟩
     refine ⟨_, rfl, ?_⟩
     replace BK223 := bb_ BK223 hb
     replace BK224 := bb_ BK224 hb
     replace BK230 := bb_ BK230 hb
     replace BK235 := bb_ BK235 hb
     replace HB := hb_ HB hb
     (try clear hb); (try clear hb2); (try clear hk); (try clear hi)
     refine hK.out _ _ (h4_ BK230) (fun hHeld => ?_)
     clear hK K
     refine norm_ (a' := ?_) ?_ ?_
     rotate_left
     ·
      show Act.put _ (some 34) _ = _
      simp only [Act.put, List.setIfInBounds_toArray, List.set_cons_zero, List.set_cons_succ, i64_w, i32_w]
      rfl
     exact norm_ (by simp only [putAll, Act.put, List.setIfInBounds_toArray, List.set_cons_zero, List.set_cons_succ]) (hCont (gb235) _ ⟨hHeld, (bq_ BK223), (bq_ BK224), (bq_ BK230), (bq_ BK235), GW235.out, GE235.out, NB223_235.out, NB235_223.out, NB224_235.out, NB235_224.out, NB230_235.out, NB235_230.out, (hq_ HB)⟩)
   rintro gb235 w42 ⟨hS_, h0_, h1_, h2_, h3_, h4_, h5_, h6_, h7_, h8_, h9_, h10_, h11_, h12_⟩
   replace BK223 := Aside0.mk h0_
   replace BK224 := Aside0.mk h1_
   replace BK230 := Aside0.mk h2_
   have BK235 := Aside0.mk h3_
   have GW235 := Aside0.mk h4_
   have GE235 := Aside0.mk h5_
   have NB223_235 := Aside0.mk h6_
   have NB235_223 := Aside0.mk h7_
   have NB224_235 := Aside0.mk h8_
   have NB235_224 := Aside0.mk h9_
   have NB230_235 := Aside0.mk h10_
   have NB235_230 := Aside0.mk h11_
   replace HB := Aside0.mk h12_
   clear h0_ h1_ h2_ h3_ h4_ h5_ h6_ h7_ h8_ h9_ h10_ h11_ h12_
   have hHeld := hS_
   refine norm_ (a' := ?_) ?_ ?_
   rotate_left
   ·
    simp only [putAll, Act.put, List.setIfInBounds_toArray, List.set_cons_zero, List.set_cons_succ]
    rfl
   refine one_ (i := 11) (N := none) zq22.q14 rfl rfl (one_of HT_.out (by kernel_rfl)) (by decide) (fun K hK => ?_)
   have hs43 : w42.cell? ⟨gb235, 0, none⟩ = some (.int .i64 0) := (blk_cell BK235.out 0).trans rfl
   have hfs43 := blk_frozen BK235.out 0
   have hns43_0 := NB223_235.out
   have hns43_1 := NB224_235.out
   have hns43_2 := NB230_235.out
   have hms43_0 := NB235_223.out
   have hms43_1 := NB235_224.out
   have hms43_2 := NB235_230.out
   have hs44 : w42.cell? ⟨gb235, 1, none⟩ = some (.int .i64 0) := (blk_cell BK235.out 1).trans rfl
   have hfs44 := blk_frozen BK235.out 1
   have hns44_0 := NB223_235.out
   have hns44_1 := NB224_235.out
   have hns44_2 := NB230_235.out
   have hms44_0 := NB235_223.out
   have hms44_1 := NB235_224.out
   have hms44_2 := NB235_230.out
   refine skip_ (w1 := ?_) (by rfl) rfl ?_ ?_
   rotate_left
   ·
    go_simp
    rfl
   refine hK.out _ _ ⟨((cell_far (p := ⟨gb235, _, none⟩) NB230_235.out _).trans (((cell_far (p := ⟨gb235, _, none⟩) NB230_235.out _).trans (hHeld.1)))), ((cell_far (p := ⟨gb235, _, none⟩) NB230_235.out _).trans (((cell_far (p := ⟨gb235, _, none⟩) NB230_235.out _).trans (hHeld.2.1)))), ((cell_far (p := ⟨gb235, _, none⟩) NB230_235.out _).trans (((cell_far (p := ⟨gb235, _, none⟩) NB230_235.out _).trans (hHeld.2.2.1)))), ((cell_far (p := ⟨gb235, _, none⟩) NB230_235.out _).trans (((cell_far (p := ⟨gb235, _, none⟩) NB230_235.out _).trans (hHeld.2.2.2))))⟩ (fun hHeld => ?_)
   clear hK K
   refine done_ (done_of HT_.out (by kernel_rfl)) ?_
   try go_wp2
   have n0_ : Aside0 (((w42.setCell ⟨gb235, 0, none⟩ (.int .i64 t233)).setCell ⟨gb235, 1, none⟩ (.int .i64 t234)).heap[gb223]? = some (.cells #[.int .i64 a3_0, .int .i64 a3_1, .int .i64 a3_2, .int .i64 a3_3] 32 (0, 0))) := bf_ BK223
   have n1_ : Aside0 (((w42.setCell ⟨gb235, 0, none⟩ (.int .i64 t233)).setCell ⟨gb235, 1, none⟩ (.int .i64 t234)).heap[gb224]? = some (.cells #[.int .i64 0, .int .i64 0, .int .i64 0, .int .i64 0] 32 (0, 0))) := bf_ BK224
   have n2_ : Aside0 (((w42.setCell ⟨gb235, 0, none⟩ (.int .i64 t233)).setCell ⟨gb235, 1, none⟩ (.int .i64 t234)).heap[gb230]? = some (.cells #[.int .i64 t226, .int .i64 t227, .int .i64 t228, .int .i64 t229] 32 (0, 0))) := bf_ BK230
   have n3_ : Aside0 (((w42.setCell ⟨gb235, 0, none⟩ (.int .i64 t233)).setCell ⟨gb235, 1, none⟩ (.int .i64 t234)).heap[gb235]? = some (.cells #[.int .i64 t233, .int .i64 t234] 23 (0, 0))) := ⟨by (with_reducible repeat (first | refine blk_drewN ?_ _ | refine blk_drew ?_ | refine blk_alloc ?_ _)); refine blk_put (cs := #[.int .i64 t233, .int .i64 0]) ?_ 1 _ rfl; (with_reducible repeat (first | refine blk_drewN ?_ _ | refine blk_drew ?_ | refine blk_alloc ?_ _)); refine blk_put (cs := #[.int .i64 0, .int .i64 0]) ?_ 0 _ rfl; (with_reducible repeat (first | refine blk_drewN ?_ _ | refine blk_drew ?_ | refine blk_alloc ?_ _)); exact BK235.out⟩
   have n4_ : Aside0 (Below w.heap.size w ((w42.setCell ⟨gb235, 0, none⟩ (.int .i64 t233)).setCell ⟨gb235, 1, none⟩ (.int .i64 t234))) := ⟨by repeat (first | (with_reducible first | exact HB.out | apply below_alloc | apply pw_below_drewN | apply below_drew1 | refine below_set ?_ GE223.out | refine below_set ?_ GE224.out | refine below_set ?_ GE230.out | refine below_set ?_ GE235.out) | exact HB.out)⟩
   (try clear BK223)
   (try clear BK224)
   (try clear BK230)
   (try clear BK235)
   (try clear HB)
   generalize ((w42.setCell ⟨gb235, 0, none⟩ (.int .i64 t233)).setCell ⟨gb235, 1, none⟩ (.int .i64 t234)) = w45 at n0_ n1_ n2_ n3_ n4_ ⊢
   have BK223 := n0_
   have BK224 := n1_
   have BK230 := n2_
   have BK235 := n3_
   have HB := n4_
   clear n0_ n1_ n2_ n3_ n4_
   replace BK223 := Aside0.mk (blk_drew BK223.out)
   replace BK224 := Aside0.mk (blk_drew BK224.out)
   replace BK230 := Aside0.mk (blk_drew BK230.out)
   replace BK235 := Aside0.mk (blk_drew BK235.out)
   replace HB := Aside0.mk (below_drew1 HB.out)
   refine start_ (n := 14) (S := fun w' => w'.cell? ⟨gb230, 0, none⟩ = some (.int .i64 t226) ∧ w'.cell? ⟨gb230, 1, none⟩ = some (.int .i64 t227) ∧ w'.cell? ⟨gb230, 2, none⟩ = some (.int .i64 t228) ∧ w'.cell? ⟨gb230, 3, none⟩ = some (.int .i64 t229)) (ds := []) zq22.q15 (by kernel_rfl) rfl rfl (h4_ BK230) (fun hHeld => ?_); refine with_tabW compositorref07_ApplyRect.tab7 compositorref07_ApplyRect.bits7 (fun HT_ HW_ => ?_)
   generalize w45.drew = w46 at BK223 BK224 BK230 BK235 HB hHeld ⊢
   refine pv_ 0 35 zq22.q16 HT_ ?_
   refine pv_ 2 37 zq22.q17 HT_ ?_
   refine pv_ 3 38 zq22.q18 HT_ ?_
   refine pv_ 4 39 zq22.q19 HT_ ?_
   refine pv_ 7 42 zq22.q20 HT_ ?_
   refine tk4_ 5 40 zq22.q21 HT_ HW_ hHeld ?_
   refine pv_ 6 41 zq22.q22 HT_ ?_
   refine tk4_ 8 43 zq22.q23 HT_ HW_ hHeld ?_
   refine pv_ 9 44 zq22.q24 HT_ ?_
   refine pv_ 10 45 zq22.q25 HT_ ?_
   refine join_ (σ := Nat) 1 zq22.q26 (fun s_ => [(36, .int .i64 t236), (46, .agg #[.int .i64 t237, .int .i64 t238]), (11, .pointer (some ⟨s_, 0, none⟩))]) (fun s_ w' => (w'.cell? ⟨gb230, 0, none⟩ = some (.int .i64 t226) ∧ w'.cell? ⟨gb230, 1, none⟩ = some (.int .i64 t227) ∧ w'.cell? ⟨gb230, 2, none⟩ = some (.int .i64 t228) ∧ w'.cell? ⟨gb230, 3, none⟩ = some (.int .i64 t229)) ∧ (w'.heap[gb223]? = some (.cells #[.int .i64 a3_0, .int .i64 a3_1, .int .i64 a3_2, .int .i64 a3_3] 32 (0, 0))) ∧ (w'.heap[gb224]? = some (.cells #[.int .i64 0, .int .i64 0, .int .i64 0, .int .i64 0] 32 (0, 0))) ∧ (w'.heap[gb230]? = some (.cells #[.int .i64 t226, .int .i64 t227, .int .i64 t228, .int .i64 t229] 32 (0, 0))) ∧ (w'.heap[gb235]? = some (.cells #[.int .i64 t233, .int .i64 t234] 23 (0, 0))) ∧ (w'.heap[s_]? = some (.cells #[.int .i64 0, .int .i64 0] 23 (0, 0))) ∧ (w.heap.size ≤ s_) ∧ (w.heap.size ≤ s_) ∧ (gb223 ≠ s_) ∧ (s_ ≠ gb223) ∧ (gb224 ≠ s_) ∧ (s_ ≠ gb224) ∧ (gb230 ≠ s_) ∧ (s_ ≠ gb230) ∧ (gb235 ≠ s_) ∧ (s_ ≠ gb235) ∧ (Below w.heap.size w w')) ?_ ?_
   rotate_left
   ·
    intro hCont
    refine two_ (i := 1) (j := 12) (Ni := some 36) (Nj := some 11) zq22.q27 zq22.q28 rfl rfl rfl rfl (two_of HT_.out (by kernel_rfl)) (by decide) (by decide) (fun K hK => ?_) (fun K hK => ?_)
    ·
     refine gs_ Tryd.func34 #[.int .i64 a0] ?_
     with_reducible refine (compositorref07_clean.calls a0 t236 _ A23.out).mono ?_
     rintro e w' ⟨rfl, ⟨nd, rfl⟩⟩
     refine ⟨_, rfl, ?_⟩
     refine hK.out _ _ (h4_ BK230) (fun hHeld => ?_)
     clear hK K
     refine norm_ (a' := ?_) ?_ ?_
     rotate_left
     ·
      show Act.put _ (some 36) _ = _
      simp only [Act.put, List.setIfInBounds_toArray, List.set_cons_zero, List.set_cons_succ, i64_w, i32_w]
      rfl
     refine two_ (i := 11) (j := 12) (Ni := some 46) (Nj := some 11) zq22.q29 zq22.q30 rfl rfl rfl rfl (two_of HT_.out (by kernel_rfl)) (by decide) (by decide) (fun K hK => ?_) (fun K hK => ?_)
     ·
      refine gs_ Tryd.func35 #[.int .i64 t236, .int .i64 a1, .int .i64 a2, .agg #[.int .i64 (wrap64 (t228 - 1)), .int .i64 (wrap64 (t229 - 1))]] ?_
      with_reducible refine (compositorref07_place.calls k t236 a1 a2 (wrap64 (t228 - 1)) (wrap64 (t229 - 1)) t237 t238 _ A24.out).mono ?_
      rintro e w47 ⟨rfl, hb⟩
      refine ⟨_, rfl, ?_⟩
      replace BK223 := bb_ BK223 hb
      replace BK224 := bb_ BK224 hb
      replace BK230 := bb_ BK230 hb
      replace BK235 := bb_ BK235 hb
      replace HB := hb_ HB hb
      (try clear hb); (try clear hb2); (try clear hk); (try clear hi)
      refine hK.out _ _ (h4_ BK230) (fun hHeld => ?_)
      clear hK K
      refine norm_ (a' := ?_) ?_ ?_
      rotate_left
      ·
       show Act.put _ (some 46) _ = _
       simp only [Act.put, List.setIfInBounds_toArray, List.set_cons_zero, List.set_cons_succ, i64_w, i32_w]
       rfl
      refine one_ (i := 12) (N := some 11) zq22.q26 rfl rfl (one_of HT_.out (by kernel_rfl)) (by decide) (fun K hK => ?_)
      refine box_step ?hg (N := 11) ?hd (cs := #[.int .i64 0, .int .i64 0]) (t := 23) ?hr ?_; (case hd => rfl); (case hg => rfl); (case hr => first | (go_simp; done) | (go_simp; rfl))
      intro gb239 hg w48 hbox hb
      have BK239 := Aside0.mk (hbox)
      have GW239 := Aside0.mk ((by rw [hg]; exact (below_size (hq_ HB)) : w.heap.size ≤ gb239))
      have GE239 := Aside0.mk ((by rw [hg]; exact (below_size (hq_ HB)) : w.heap.size ≤ gb239))
      replace HB := hb_ HB hb
      have NB223_239 := Aside0.mk ((by rw [hg]; exact Nat.ne_of_lt (blk_lt (g := gb223) (o := .cells #[.int .i64 a3_0, .int .i64 a3_1, .int .i64 a3_2, .int .i64 a3_3] 32 (0, 0)) (bq_ BK223)) : gb223 ≠ gb239))
      have NB239_223 := Aside0.mk ((by rw [hg]; exact Nat.ne_of_gt (blk_lt (g := gb223) (o := .cells #[.int .i64 a3_0, .int .i64 a3_1, .int .i64 a3_2, .int .i64 a3_3] 32 (0, 0)) (bq_ BK223)) : gb239 ≠ gb223))
      replace BK223 := bb_ BK223 hb
      have NB224_239 := Aside0.mk ((by rw [hg]; exact Nat.ne_of_lt (blk_lt (g := gb224) (o := .cells #[.int .i64 0, .int .i64 0, .int .i64 0, .int .i64 0] 32 (0, 0)) (bq_ BK224)) : gb224 ≠ gb239))
      have NB239_224 := Aside0.mk ((by rw [hg]; exact Nat.ne_of_gt (blk_lt (g := gb224) (o := .cells #[.int .i64 0, .int .i64 0, .int .i64 0, .int .i64 0] 32 (0, 0)) (bq_ BK224)) : gb239 ≠ gb224))
      replace BK224 := bb_ BK224 hb
      have NB230_239 := Aside0.mk ((by rw [hg]; exact Nat.ne_of_lt (blk_lt (g := gb230) (o := .cells #[.int .i64 t226, .int .i64 t227, .int .i64 t228, .int .i64 t229] 32 (0, 0)) (bq_ BK230)) : gb230 ≠ gb239))
      have NB239_230 := Aside0.mk ((by rw [hg]; exact Nat.ne_of_gt (blk_lt (g := gb230) (o := .cells #[.int .i64 t226, .int .i64 t227, .int .i64 t228, .int .i64 t229] 32 (0, 0)) (bq_ BK230)) : gb239 ≠ gb230))
      replace BK230 := bb_ BK230 hb
      have NB235_239 := Aside0.mk ((by rw [hg]; exact Nat.ne_of_lt (blk_lt (g := gb235) (o := .cells #[.int .i64 t233, .int .i64 t234] 23 (0, 0)) (bq_ BK235)) : gb235 ≠ gb239))
      have NB239_235 := Aside0.mk ((by rw [hg]; exact Nat.ne_of_gt (blk_lt (g := gb235) (o := .cells #[.int .i64 t233, .int .i64 t234] 23 (0, 0)) (bq_ BK235)) : gb239 ≠ gb235))
      replace BK235 := bb_ BK235 hb
      clear hb hbox hg
      refine hK.out _ _ (h4_ BK230) (fun hHeld => ?_)
      clear hK K
      refine norm_ (a' := ?_) ?_ ?_
      rotate_left
      ·
       show Act.put _ (some 11) _ = _
       simp only [Act.put, List.setIfInBounds_toArray, List.set_cons_zero, List.set_cons_succ, i64_w, i32_w]
       rfl
      exact norm_ (by simp only [putAll, Act.put, List.setIfInBounds_toArray, List.set_cons_zero, List.set_cons_succ]) (hCont (gb239) _ ⟨hHeld, (bq_ BK223), (bq_ BK224), (bq_ BK230), (bq_ BK235), (bq_ BK239), GW239.out, GE239.out, NB223_239.out, NB239_223.out, NB224_239.out, NB239_224.out, NB230_239.out, NB239_230.out, NB235_239.out, NB239_235.out, (hq_ HB)⟩)
     ·
      refine box_step ?hg (N := 11) ?hd (cs := #[.int .i64 0, .int .i64 0]) (t := 23) ?hr ?_; (case hd => rfl); (case hg => rfl); (case hr => first | (go_simp; done) | (go_simp; rfl))
      intro gb239 hg w47 hbox hb
      have BK239 := Aside0.mk (hbox)
      have GW239 := Aside0.mk ((by rw [hg]; exact (below_size (hq_ HB)) : w.heap.size ≤ gb239))
      have GE239 := Aside0.mk ((by rw [hg]; exact (below_size (hq_ HB)) : w.heap.size ≤ gb239))
      replace HB := hb_ HB hb
      have NB223_239 := Aside0.mk ((by rw [hg]; exact Nat.ne_of_lt (blk_lt (g := gb223) (o := .cells #[.int .i64 a3_0, .int .i64 a3_1, .int .i64 a3_2, .int .i64 a3_3] 32 (0, 0)) (bq_ BK223)) : gb223 ≠ gb239))
      have NB239_223 := Aside0.mk ((by rw [hg]; exact Nat.ne_of_gt (blk_lt (g := gb223) (o := .cells #[.int .i64 a3_0, .int .i64 a3_1, .int .i64 a3_2, .int .i64 a3_3] 32 (0, 0)) (bq_ BK223)) : gb239 ≠ gb223))
      replace BK223 := bb_ BK223 hb
      have NB224_239 := Aside0.mk ((by rw [hg]; exact Nat.ne_of_lt (blk_lt (g := gb224) (o := .cells #[.int .i64 0, .int .i64 0, .int .i64 0, .int .i64 0] 32 (0, 0)) (bq_ BK224)) : gb224 ≠ gb239))
      have NB239_224 := Aside0.mk ((by rw [hg]; exact Nat.ne_of_gt (blk_lt (g := gb224) (o := .cells #[.int .i64 0, .int .i64 0, .int .i64 0, .int .i64 0] 32 (0, 0)) (bq_ BK224)) : gb239 ≠ gb224))
      replace BK224 := bb_ BK224 hb
      have NB230_239 := Aside0.mk ((by rw [hg]; exact Nat.ne_of_lt (blk_lt (g := gb230) (o := .cells #[.int .i64 t226, .int .i64 t227, .int .i64 t228, .int .i64 t229] 32 (0, 0)) (bq_ BK230)) : gb230 ≠ gb239))
      have NB239_230 := Aside0.mk ((by rw [hg]; exact Nat.ne_of_gt (blk_lt (g := gb230) (o := .cells #[.int .i64 t226, .int .i64 t227, .int .i64 t228, .int .i64 t229] 32 (0, 0)) (bq_ BK230)) : gb239 ≠ gb230))
      replace BK230 := bb_ BK230 hb
      have NB235_239 := Aside0.mk ((by rw [hg]; exact Nat.ne_of_lt (blk_lt (g := gb235) (o := .cells #[.int .i64 t233, .int .i64 t234] 23 (0, 0)) (bq_ BK235)) : gb235 ≠ gb239))
      have NB239_235 := Aside0.mk ((by rw [hg]; exact Nat.ne_of_gt (blk_lt (g := gb235) (o := .cells #[.int .i64 t233, .int .i64 t234] 23 (0, 0)) (bq_ BK235)) : gb239 ≠ gb235))
      replace BK235 := bb_ BK235 hb
      clear hb hbox hg
      refine hK.out _ _ (h4_ BK230) (fun hHeld => ?_)
      clear hK K
      refine norm_ (a' := ?_) ?_ ?_
      rotate_left
      ·
       show Act.put _ (some 11) _ = _
       simp only [Act.put, List.setIfInBounds_toArray, List.set_cons_zero, List.set_cons_succ, i64_w, i32_w]
       rfl
      refine one_ (i := 11) (N := some 46) zq22.q26 rfl rfl (one_of HT_.out (by kernel_rfl)) (by decide) (fun K hK => ?_)
      refine gs_ Tryd.func35 #[.int .i64 t236, .int .i64 a1, .int .i64 a2, .agg #[.int .i64 (wrap64 (t228 - 1)), .int .i64 (wrap64 (t229 - 1))]] ?_
      with_reducible refine (compositorref07_place.calls k t236 a1 a2 (wrap64 (t228 - 1)) (wrap64 (t229 - 1)) t237 t238 _ A24.out).mono ?_
      rintro e w48 ⟨rfl, hb⟩
      refine ⟨_, rfl, ?_⟩
      replace BK223 := bb_ BK223 hb
      replace BK224 := bb_ BK224 hb
      replace BK230 := bb_ BK230 hb
      replace BK235 := bb_ BK235 hb
      replace BK239 := bb_ BK239 hb
      replace HB := hb_ HB hb
      (try clear hb); (try clear hb2); (try clear hk); (try clear hi)
      refine hK.out _ _ (h4_ BK230) (fun hHeld => ?_)
      clear hK K
      refine norm_ (a' := ?_) ?_ ?_
      rotate_left
      ·
       show Act.put _ (some 46) _ = _
       simp only [Act.put, List.setIfInBounds_toArray, List.set_cons_zero, List.set_cons_succ, i64_w, i32_w]
       rfl
      exact norm_ (by simp only [putAll, Act.put, List.setIfInBounds_toArray, List.set_cons_zero, List.set_cons_succ]) (hCont (gb239) _ ⟨hHeld, (bq_ BK223), (bq_ BK224), (bq_ BK230), (bq_ BK235), (bq_ BK239), GW239.out, GE239.out, NB223_239.out, NB239_223.out, NB224_239.out, NB239_224.out, NB230_239.out, NB239_230.out, NB235_239.out, NB239_235.out, (hq_ HB)⟩)
    ·
     refine box_step ?hg (N := 11) ?hd (cs := #[.int .i64 0, .int .i64 0]) (t := 23) ?hr ?_; (case hd => rfl); (case hg => rfl); (case hr => first | (go_simp; done) | (go_simp; rfl))
     intro gb239 hg w47 hbox hb
     have BK239 := Aside0.mk (hbox)
     have GW239 := Aside0.mk ((by rw [hg]; exact (below_size (hq_ HB)) : w.heap.size ≤ gb239))
     have GE239 := Aside0.mk ((by rw [hg]; exact (below_size (hq_ HB)) : w.heap.size ≤ gb239))
     replace HB := hb_ HB hb
     have NB223_239 := Aside0.mk ((by rw [hg]; exact Nat.ne_of_lt (blk_lt (g := gb223) (o := .cells #[.int .i64 a3_0, .int .i64 a3_1, .int .i64 a3_2, .int .i64 a3_3] 32 (0, 0)) (bq_ BK223)) : gb223 ≠ gb239))
     have NB239_223 := Aside0.mk ((by rw [hg]; exact Nat.ne_of_gt (blk_lt (g := gb223) (o := .cells #[.int .i64 a3_0, .int .i64 a3_1, .int .i64 a3_2, .int .i64 a3_3] 32 (0, 0)) (bq_ BK223)) : gb239 ≠ gb223))
     replace BK223 := bb_ BK223 hb
     have NB224_239 := Aside0.mk ((by rw [hg]; exact Nat.ne_of_lt (blk_lt (g := gb224) (o := .cells #[.int .i64 0, .int .i64 0, .int .i64 0, .int .i64 0] 32 (0, 0)) (bq_ BK224)) : gb224 ≠ gb239))
     have NB239_224 := Aside0.mk ((by rw [hg]; exact Nat.ne_of_gt (blk_lt (g := gb224) (o := .cells #[.int .i64 0, .int .i64 0, .int .i64 0, .int .i64 0] 32 (0, 0)) (bq_ BK224)) : gb239 ≠ gb224))
     replace BK224 := bb_ BK224 hb
     have NB230_239 := Aside0.mk ((by rw [hg]; exact Nat.ne_of_lt (blk_lt (g := gb230) (o := .cells #[.int .i64 t226, .int .i64 t227, .int .i64 t228, .int .i64 t229] 32 (0, 0)) (bq_ BK230)) : gb230 ≠ gb239))
     have NB239_230 := Aside0.mk ((by rw [hg]; exact Nat.ne_of_gt (blk_lt (g := gb230) (o := .cells #[.int .i64 t226, .int .i64 t227, .int .i64 t228, .int .i64 t229] 32 (0, 0)) (bq_ BK230)) : gb239 ≠ gb230))
     replace BK230 := bb_ BK230 hb
     have NB235_239 := Aside0.mk ((by rw [hg]; exact Nat.ne_of_lt (blk_lt (g := gb235) (o := .cells #[.int .i64 t233, .int .i64 t234] 23 (0, 0)) (bq_ BK235)) : gb235 ≠ gb239))
     have NB239_235 := Aside0.mk ((by rw [hg]; exact Nat.ne_of_gt (blk_lt (g := gb235) (o := .cells #[.int .i64 t233, .int .i64 t234] 23 (0, 0)) (bq_ BK235)) : gb239 ≠ gb235))
     replace BK235 := bb_ BK235 hb
     clear hb hbox hg
     refine hK.out _ _ (h4_ BK230) (fun hHeld => ?_)
     clear hK K
     refine norm_ (a' := ?_) ?_ ?_
     rotate_left
     ·
      show Act.put _ (some 11) _ = _
      simp only [Act.put, List.setIfInBounds_toArray, List.set_cons_zero, List.set_cons_succ, i64_w, i32_w]
      rfl
     refine one_ (i := 1) (N := some 36) zq22.q30 rfl rfl (one_of HT_.out (by kernel_rfl)) (by decide) (fun K hK => ?_)
     refine gs_ Tryd.func34 #[.int .i64 a0] ?_
     with_reducible refine (compositorref07_clean.calls a0 t236 _ A23.out).mono ?_
     rintro e w' ⟨rfl, ⟨nd, rfl⟩⟩
     refine ⟨_, rfl, ?_⟩
     refine hK.out _ _ (h4_ BK230) (fun hHeld => ?_)
     clear hK K
     refine norm_ (a' := ?_) ?_ ?_
     rotate_left
     ·
      show Act.put _ (some 36) _ = _
      simp only [Act.put, List.setIfInBounds_toArray, List.set_cons_zero, List.set_cons_succ, i64_w, i32_w]
      rfl
     refine one_ (i := 11) (N := some 46) zq22.q26 rfl rfl (one_of HT_.out (by kernel_rfl)) (by decide) (fun K hK => ?_)
     refine gs_ Tryd.func35 #[.int .i64 t236, .int .i64 a1, .int .i64 a2, .agg #[.int .i64 (wrap64 (t228 - 1)), .int .i64 (wrap64 (t229 - 1))]] ?_
     with_reducible refine (compositorref07_place.calls k t236 a1 a2 (wrap64 (t228 - 1)) (wrap64 (t229 - 1)) t237 t238 _ A24.out).mono ?_
     rintro e w48 ⟨rfl, hb⟩
     refine ⟨_, rfl, ?_⟩
     replace BK223 := bb_ BK223 hb
     replace BK224 := bb_ BK224 hb
     replace BK230 := bb_ BK230 hb
     replace BK235 := bb_ BK235 hb
     replace BK239 := bb_ BK239 hb
     replace HB := hb_ HB hb
     (try clear hb); (try clear hb2); (try clear hk); (try clear hi)
     refine hK.out _ _ (h4_ BK230) (fun hHeld => ?_)
     clear hK K
     refine norm_ (a' := ?_) ?_ ?_
     rotate_left
     ·
      show Act.put _ (some 46) _ = _
      simp only [Act.put, List.setIfInBounds_toArray, List.set_cons_zero, List.set_cons_succ, i64_w, i32_w]
      rfl
     exact norm_ (by simp only [putAll, Act.put, List.setIfInBounds_toArray, List.set_cons_zero, List.set_cons_succ]) (hCont (gb239) _ ⟨hHeld, (bq_ BK223), (bq_ BK224), (bq_ BK230), (bq_ BK235), (bq_ BK239), GW239.out, GE239.out, NB223_239.out, NB239_223.out, NB224_239.out, NB239_224.out, NB230_239.out, NB239_230.out, NB235_239.out, NB239_235.out, (hq_ HB)⟩)
   rintro gb239 w49 ⟨hS_, h0_, h1_, h2_, h3_, h4_, h5_, h6_, h7_, h8_, h9_, h10_, h11_, h12_, h13_, h14_, h15_⟩
   replace BK223 := Aside0.mk h0_
   replace BK224 := Aside0.mk h1_
   replace BK230 := Aside0.mk h2_
   replace BK235 := Aside0.mk h3_
   have BK239 := Aside0.mk h4_
   have GW239 := Aside0.mk h5_
   have GE239 := Aside0.mk h6_
   have NB223_239 := Aside0.mk h7_
   have NB239_223 := Aside0.mk h8_
   have NB224_239 := Aside0.mk h9_
   have NB239_224 := Aside0.mk h10_
   have NB230_239 := Aside0.mk h11_
   have NB239_230 := Aside0.mk h12_
   have NB235_239 := Aside0.mk h13_
   have NB239_235 := Aside0.mk h14_
   replace HB := Aside0.mk h15_
   clear h0_ h1_ h2_ h3_ h4_ h5_ h6_ h7_ h8_ h9_ h10_ h11_ h12_ h13_ h14_ h15_
   have hHeld := hS_
   refine norm_ (a' := ?_) ?_ ?_
   rotate_left
   ·
    simp only [putAll, Act.put, List.setIfInBounds_toArray, List.set_cons_zero, List.set_cons_succ]
    rfl
   refine one_ (i := 13) (N := none) zq22.q31 rfl rfl (one_of HT_.out (by kernel_rfl)) (by decide) (fun K hK => ?_)
   have hs50 : w49.cell? ⟨gb239, 0, none⟩ = some (.int .i64 0) := (blk_cell BK239.out 0).trans rfl
   have hfs50 := blk_frozen BK239.out 0
   have hns50_0 := NB223_239.out
   have hns50_1 := NB224_239.out
   have hns50_2 := NB230_239.out
   have hns50_3 := NB235_239.out
   have hms50_0 := NB239_223.out
   have hms50_1 := NB239_224.out
   have hms50_2 := NB239_230.out
   have hms50_3 := NB239_235.out
   have hs51 : w49.cell? ⟨gb239, 1, none⟩ = some (.int .i64 0) := (blk_cell BK239.out 1).trans rfl
   have hfs51 := blk_frozen BK239.out 1
   have hns51_0 := NB223_239.out
   have hns51_1 := NB224_239.out
   have hns51_2 := NB230_239.out
   have hns51_3 := NB235_239.out
   have hms51_0 := NB239_223.out
   have hms51_1 := NB239_224.out
   have hms51_2 := NB239_230.out
   have hms51_3 := NB239_235.out
   refine skip_ (w1 := ?_) (by rfl) rfl ?_ ?_
   rotate_left
   ·
    go_simp
    rfl
   refine hK.out _ _ ⟨((cell_far (p := ⟨gb239, _, none⟩) NB230_239.out _).trans (((cell_far (p := ⟨gb239, _, none⟩) NB230_239.out _).trans (hHeld.1)))), ((cell_far (p := ⟨gb239, _, none⟩) NB230_239.out _).trans (((cell_far (p := ⟨gb239, _, none⟩) NB230_239.out _).trans (hHeld.2.1)))), ((cell_far (p := ⟨gb239, _, none⟩) NB230_239.out _).trans (((cell_far (p := ⟨gb239, _, none⟩) NB230_239.out _).trans (hHeld.2.2.1)))), ((cell_far (p := ⟨gb239, _, none⟩) NB230_239.out _).trans (((cell_far (p := ⟨gb239, _, none⟩) NB230_239.out _).trans (hHeld.2.2.2))))⟩ (fun hHeld => ?_)
   clear hK K
   refine done_ (done_of HT_.out (by kernel_rfl)) ?_
   have hnb52 := NB235_223.out
   have hnc52 := NB223_235.out
   have hnb53 := NB235_224.out
   have hnc53 := NB224_235.out
   have hnb54 := NB235_230.out
   have hnc54 := NB230_235.out
   have hnb55 := NB235_239.out
   have hnc55 := NB239_235.out
   have hcz56_0 : w49.cell? ⟨gb235, 0, none⟩ = some (.int .i64 t233) := (blk_cell BK235.out 0).trans rfl
   have hcz56_1 : w49.cell? ⟨gb235, 1, none⟩ = some (.int .i64 t234) := (blk_cell BK235.out 1).trans rfl
   have hfz56_0 := blk_frozen BK235.out 0
   have hfz56_1 := blk_frozen BK235.out 1
   have hnb57 := NB239_223.out
   have hnc57 := NB223_239.out
   have hnb58 := NB239_224.out
   have hnc58 := NB224_239.out
   have hnb59 := NB239_230.out
   have hnc59 := NB230_239.out
   have hcz60_0 : w49.cell? ⟨gb239, 0, none⟩ = some (.int .i64 0) := (blk_cell BK239.out 0).trans rfl
   have hcz60_1 : w49.cell? ⟨gb239, 1, none⟩ = some (.int .i64 0) := (blk_cell BK239.out 1).trans rfl
   have hfz60_0 := blk_frozen BK239.out 0
   have hfz60_1 := blk_frozen BK239.out 1
   have hcz61_0 : w49.cell? ⟨gb224, 0, none⟩ = some (.int .i64 0) := (blk_cell BK224.out 0).trans rfl
   have hcz61_1 : w49.cell? ⟨gb224, 1, none⟩ = some (.int .i64 0) := (blk_cell BK224.out 1).trans rfl
   have hcz61_2 : w49.cell? ⟨gb224, 2, none⟩ = some (.int .i64 0) := (blk_cell BK224.out 2).trans rfl
   have hcz61_3 : w49.cell? ⟨gb224, 3, none⟩ = some (.int .i64 0) := (blk_cell BK224.out 3).trans rfl
   have hfz61_0 := blk_frozen BK224.out 0
   have hfz61_1 := blk_frozen BK224.out 1
   have hfz61_2 := blk_frozen BK224.out 2
   have hfz61_3 := blk_frozen BK224.out 3
   try go_wp2
   refine bodyPost_ret (results_cell_row rfl _ _ gb224 32 #[.int .i64 ji25, .int .i64 ji26, .int .i64 (wrap64 ((ji27) + 1)), .int .i64 (wrap64 ((ji28) + 1))] (0, 0) _ rfl (by (with_reducible repeat (first | refine blk_drewN ?_ _ | refine blk_drew ?_ | refine blk_alloc ?_ _)); refine blk_put (cs := #[.int .i64 ji25, .int .i64 ji26, .int .i64 (wrap64 ((ji27) + 1)), .int .i64 0]) ?_ 3 _ rfl; (with_reducible repeat (first | refine blk_drewN ?_ _ | refine blk_drew ?_ | refine blk_alloc ?_ _)); refine blk_put (cs := #[.int .i64 ji25, .int .i64 ji26, .int .i64 0, .int .i64 0]) ?_ 2 _ rfl; (with_reducible repeat (first | refine blk_drewN ?_ _ | refine blk_drew ?_ | refine blk_alloc ?_ _)); refine blk_put (cs := #[.int .i64 ji25, .int .i64 0, .int .i64 0, .int .i64 0]) ?_ 1 _ rfl; (with_reducible repeat (first | refine blk_drewN ?_ _ | refine blk_drew ?_ | refine blk_alloc ?_ _)); refine blk_put (cs := #[.int .i64 0, .int .i64 0, .int .i64 0, .int .i64 0]) ?_ 0 _ rfl; (with_reducible repeat (first | refine blk_drewN ?_ _ | refine blk_drew ?_ | refine blk_alloc ?_ _)); refine blk_far ?_ NB224_239.out _; (with_reducible repeat (first | refine blk_drewN ?_ _ | refine blk_drew ?_ | refine blk_alloc ?_ _)); refine blk_far ?_ NB224_239.out _; (with_reducible repeat (first | refine blk_drewN ?_ _ | refine blk_drew ?_ | refine blk_alloc ?_ _)); exact BK224.out) Tryd.underlying32 rfl (by kernel_rfl)) rfl ?_
   exact ⟨by first | rfl | (simp [errW_none, errW_some] <;> rfl) | (simp only [← hji25, ← hji26, ← hji27, ← hji28]; first | rfl | (simp [errW_none, errW_some] <;> rfl)) | (simp [*, errW_none, errW_some] <;> rfl), by repeat (first | (with_reducible first | exact HB.out | apply below_alloc | apply pw_below_drewN | apply below_drew1 | refine below_set ?_ GE223.out | refine below_set ?_ GE224.out | refine below_set ?_ GE230.out | refine below_set ?_ GE235.out | refine below_set ?_ GE239.out) | exact HB.out)⟩
 ·
  replace c6 := Bool.eq_false_iff.mpr c6
  subst c6
  have H1 : (some (0, 0, 0, 0)) = some (r1, r2, r3, r4) := by rw [if_neg (show ¬ (false = true) by decide)] at H; exact H
  clear H
  have H := H1
  clear H1
  simp only [Option.some.injEq, Prod.mk.injEq] at H
  obtain ⟨rfl, rfl, rfl, rfl⟩ := H
  go_enter Tryd.func22, Tryd.ntmps22
  go_wp2_with (first | ((with_reducible refine gate_dst (N := 7) rfl ?_); refine box_event ?hg (N := 7) ?hd (cs := #[.int .i64 a3_0, .int .i64 a3_1, .int .i64 a3_2, .int .i64 a3_3]) (t := 32) ?hr ?_; (case hd => rfl); (case hg => rfl); (case hr => first | (go_simp; done) | (go_simp; rfl)); intro gb223 hg w62 hbox hb; have n0_ := hb_ HB hb; have n1_ := Aside0.mk (hbox); have n2_ := Aside0.mk ((by rw [hg]; exact (below_size (hq_ HB)) : w.heap.size ≤ gb223)); have n3_ := Aside0.mk ((by rw [hg]; exact (below_size (hq_ HB)) : w.heap.size ≤ gb223)); clear HB; have HB := n0_; have BK223 := n1_; have GW223 := n2_; have GE223 := n3_; clear n0_ n1_ n2_ n3_; clear hb hbox hg) | ((with_reducible refine gate_dst (N := 8) rfl ?_); refine box_event ?hg (N := 8) ?hd (cs := #[.int .i64 0, .int .i64 0, .int .i64 0, .int .i64 0]) (t := 32) ?hr ?_; (case hd => rfl); (case hg => rfl); (case hr => first | (go_simp; done) | (go_simp; rfl)); intro gb224 hg w63 hbox hb; have n0_ := bb_ BK223 hb; have n1_ := hb_ HB hb; have n2_ := Aside0.mk (hbox); have n3_ := Aside0.mk ((by rw [hg]; exact (below_size (hq_ HB)) : w.heap.size ≤ gb224)); have n4_ := Aside0.mk ((by rw [hg]; exact (below_size (hq_ HB)) : w.heap.size ≤ gb224)); have n5_ := Aside0.mk ((by rw [hg]; exact Nat.ne_of_lt (blk_lt (g := gb223) (o := .cells #[.int .i64 a3_0, .int .i64 a3_1, .int .i64 a3_2, .int .i64 a3_3] 32 (0, 0)) (bq_ BK223)) : gb223 ≠ gb224)); have n6_ := Aside0.mk ((by rw [hg]; exact Nat.ne_of_gt (blk_lt (g := gb223) (o := .cells #[.int .i64 a3_0, .int .i64 a3_1, .int .i64 a3_2, .int .i64 a3_3] 32 (0, 0)) (bq_ BK223)) : gb224 ≠ gb223)); clear BK223; clear HB; have BK223 := n0_; have HB := n1_; have BK224 := n2_; have GW224 := n3_; have GE224 := n4_; have NB223_224 := n5_; have NB224_223 := n6_; clear n0_ n1_ n2_ n3_ n4_ n5_ n6_; clear hb hbox hg) | ((with_reducible refine gate_callee (f := 38) rfl ?_); refine goesL_ (some 14) rfl rfl Tryd.func38 (by kernel_rfl) rfl #[.int .i64 a1, .int .i64 a2] rfl (by (try simp only [List.map_toArray, List.map_cons, List.map_nil]) <;> rfl) ?_; (with_reducible refine (compositorref07_sized.calls a1 a2 false _ A5.out).mono ?_); rintro e w' ⟨rfl, ⟨nd, rfl⟩⟩; refine ⟨_, rfl, ?_⟩; (try (rw [drewN_self w63]; generalize hq_ : World.drewN w63 _ = w63; have n0_ : Aside0 (w63.heap[gb223]? = some (.cells #[.int .i64 a3_0, .int .i64 a3_1, .int .i64 a3_2, .int .i64 a3_3] 32 (0, 0))) := ⟨by rw [← hq_]; exact (bq_ BK223)⟩; have n1_ : Aside0 (w63.heap[gb224]? = some (.cells #[.int .i64 0, .int .i64 0, .int .i64 0, .int .i64 0] 32 (0, 0))) := ⟨by rw [← hq_]; exact (bq_ BK224)⟩; have n2_ : Aside0 (Below w.heap.size w w63) := ⟨by rw [← hq_]; exact (hq_ HB)⟩; clear BK223 BK224 HB hq_; have BK223 := n0_; have BK224 := n1_; have HB := n2_; clear n0_ n1_ n2_; have hcy0_0 : w63.cell? ⟨gb223, 0, none⟩ = some (.int .i64 a3_0) := (blk_cell BK223.out 0).trans rfl; have hfy0_0 := blk_frozen BK223.out 0; have hcy0_1 : w63.cell? ⟨gb223, 1, none⟩ = some (.int .i64 a3_1) := (blk_cell BK223.out 1).trans rfl; have hfy0_1 := blk_frozen BK223.out 1; have hcy0_2 : w63.cell? ⟨gb223, 2, none⟩ = some (.int .i64 a3_2) := (blk_cell BK223.out 2).trans rfl; have hfy0_2 := blk_frozen BK223.out 2; have hcy0_3 : w63.cell? ⟨gb223, 3, none⟩ = some (.int .i64 a3_3) := (blk_cell BK223.out 3).trans rfl; have hfy0_3 := blk_frozen BK223.out 3; have hcy1_0 : w63.cell? ⟨gb224, 0, none⟩ = some (.int .i64 0) := (blk_cell BK224.out 0).trans rfl; have hfy1_0 := blk_frozen BK224.out 0; have hcy1_1 : w63.cell? ⟨gb224, 1, none⟩ = some (.int .i64 0) := (blk_cell BK224.out 1).trans rfl; have hfy1_1 := blk_frozen BK224.out 1; have hcy1_2 : w63.cell? ⟨gb224, 2, none⟩ = some (.int .i64 0) := (blk_cell BK224.out 2).trans rfl; have hfy1_2 := blk_frozen BK224.out 2; have hcy1_3 : w63.cell? ⟨gb224, 3, none⟩ = some (.int .i64 0) := (blk_cell BK224.out 3).trans rfl; have hfy1_3 := blk_frozen BK224.out 3)); have hnb64 := NB224_223.out; have hnc64 := NB223_224.out; have hcz65_0 : w63.cell? ⟨gb224, 0, none⟩ = some (.int .i64 0) := (blk_cell BK224.out 0).trans rfl; have hcz65_1 : w63.cell? ⟨gb224, 1, none⟩ = some (.int .i64 0) := (blk_cell BK224.out 1).trans rfl; have hcz65_2 : w63.cell? ⟨gb224, 2, none⟩ = some (.int .i64 0) := (blk_cell BK224.out 2).trans rfl; have hcz65_3 : w63.cell? ⟨gb224, 3, none⟩ = some (.int .i64 0) := (blk_cell BK224.out 3).trans rfl; have hfz65_0 := blk_frozen BK224.out 0; have hfz65_1 := blk_frozen BK224.out 1; have hfz65_2 := blk_frozen BK224.out 2; have hfz65_3 := blk_frozen BK224.out 3))
  refine bodyPost_ret (results_cell_row rfl _ _ gb224 32 #[.int .i64 0, .int .i64 0, .int .i64 0, .int .i64 0] (0, 0) _ rfl (by (with_reducible repeat (first | refine blk_drewN ?_ _ | refine blk_drew ?_ | refine blk_alloc ?_ _)); refine blk_put (cs := #[.int .i64 0, .int .i64 0, .int .i64 0, .int .i64 0]) ?_ 3 _ rfl; (with_reducible repeat (first | refine blk_drewN ?_ _ | refine blk_drew ?_ | refine blk_alloc ?_ _)); refine blk_put (cs := #[.int .i64 0, .int .i64 0, .int .i64 0, .int .i64 0]) ?_ 2 _ rfl; (with_reducible repeat (first | refine blk_drewN ?_ _ | refine blk_drew ?_ | refine blk_alloc ?_ _)); refine blk_put (cs := #[.int .i64 0, .int .i64 0, .int .i64 0, .int .i64 0]) ?_ 1 _ rfl; (with_reducible repeat (first | refine blk_drewN ?_ _ | refine blk_drew ?_ | refine blk_alloc ?_ _)); refine blk_put (cs := #[.int .i64 0, .int .i64 0, .int .i64 0, .int .i64 0]) ?_ 0 _ rfl; (with_reducible repeat (first | refine blk_drewN ?_ _ | refine blk_drew ?_ | refine blk_alloc ?_ _)); exact BK224.out) Tryd.underlying32 rfl (by kernel_rfl)) rfl ?_
  exact ⟨by first | rfl | (simp [errW_none, errW_some] <;> rfl) | (simp [*, errW_none, errW_some] <;> rfl), by repeat (first | (with_reducible first | exact HB.out | apply below_alloc | apply pw_below_drewN | apply below_drew1 | refine below_set ?_ GE223.out | refine below_set ?_ GE224.out) | exact HB.out)⟩

end Go.Proofs.YtpihfglghcoojaaDoor.All
