-- Written by a program of this session, which runs the kit's print.py and puts in functions that this session typed. Not trusted: Lean checks it.
import Derived.Test.YtmockeaiccpogaaHand
import Derived.Test.YtmockeaiccpogaaAllx0
import Derived.Test.YtmockeaiccpogaaAllx1
import Derived.Test.YtmockeaiccpogaaAllx8
import Derived.Test.YtmockeaiccpogaaAllx17
import Derived.Test.YtmockeaiccpogaaAllx20
import Derived.Test.YtmockeaiccpogaaAllx22
import Derived.Test.YtmockeaiccpogaaAllx29
import Derived.Test.YtmockeaiccpogaaAllx33
import Derived.Test.YtmockeaiccpogaaAllx34
import Derived.Test.YtmockeaiccpogaaAllx36
namespace Go.Proofs.Ytmockeaiccpogaa.All
open Go.Proofs.YtmockeaiccpogaaSq
open Go.RowKit Go.Proofs.YtmockeaiccpogaaW.PrintWords Go.Proofs.YtmockeaiccpogaaW.PrintLast Go.Proofs.YtmockeaiccpogaaW.PrintMore
attribute [local go_sem] max2_int min2_int max_two min_two max_three min_three max_four min_four   -- for this text's walks alone
set_option linter.unusedVariables false
set_option linter.unusedSimpArgs false

attribute [local go_sem high] eqA43
/-! ### compositorlaw09_BufferBasics: function 6 -/
abbrev zq6.q0 := Go.Proofs.YtmockeaiccpogaaHand.bz 38 0
abbrev zq6.q1 := Go.Proofs.YtmockeaiccpogaaHand.bz 38 1
abbrev zq6.q2 := Go.Proofs.YtmockeaiccpogaaHand.bz 38 5
abbrev zq6.q3 := Go.Proofs.YtmockeaiccpogaaHand.bz 38 7
abbrev zq6.q4 := Go.Proofs.YtmockeaiccpogaaHand.bz 38 15
abbrev zq6.q5 := Go.Proofs.YtmockeaiccpogaaHand.bz 38 31
abbrev zq6.q6 := Go.Proofs.YtmockeaiccpogaaHand.bz 38 63
abbrev zq6.q7 := Go.Proofs.YtmockeaiccpogaaHand.bz 38 191
abbrev zq6.q8 := Go.Proofs.YtmockeaiccpogaaHand.bz 38 703
abbrev zq6.q9 := Go.Proofs.YtmockeaiccpogaaHand.bz 38 8895
abbrev zq6.q10 := Go.Proofs.YtmockeaiccpogaaHand.bz 38 41663
abbrev zq6.q11 := Go.Proofs.YtmockeaiccpogaaHand.bz 38 41727
abbrev zq6.q12 := Go.Proofs.YtmockeaiccpogaaHand.bz 38 41983
abbrev zq6.q13 := Go.Proofs.YtmockeaiccpogaaHand.bz 38 43007
abbrev zq6.q14 := Go.Proofs.YtmockeaiccpogaaHand.bz 38 47103
abbrev zq6.q15 := Go.Proofs.YtmockeaiccpogaaHand.bz 38 63487
abbrev zq6.q16 := Go.Proofs.YtmockeaiccpogaaHand.bz 38 129023
abbrev zq6.q17 := Go.Proofs.YtmockeaiccpogaaHand.bz 38 131071
abbrev zq6.q18 := Go.Proofs.YtmockeaiccpogaaHand.bz 38 262143
abbrev zq6.q19 := Go.Proofs.YtmockeaiccpogaaHand.bz 38 524287
abbrev zq6.q20 := Go.Proofs.YtmockeaiccpogaaHand.bz 38 1048575
abbrev zq6.q21 := Go.Proofs.YtmockeaiccpogaaHand.bz 38 2097151
abbrev zq6.q22 := Go.Proofs.YtmockeaiccpogaaHand.bz 38 4194303
abbrev zq6.q23 := Go.Proofs.YtmockeaiccpogaaHand.bz 38 8388607
abbrev zq6.q24 := Go.Proofs.YtmockeaiccpogaaHand.bz 38 25165823
abbrev zq6.q25 := Go.Proofs.YtmockeaiccpogaaHand.bz 38 58720255
abbrev zq6.q26 := Go.Proofs.YtmockeaiccpogaaHand.bz 38 67108863
abbrev zq6.q27 := Go.Proofs.YtmockeaiccpogaaHand.bz 38 134217727
abbrev zq6.q28 := Go.Proofs.YtmockeaiccpogaaHand.bz 38 268435455
abbrev zq6.q29 := Go.Proofs.YtmockeaiccpogaaHand.bz 38 536870911
abbrev zq6.q30 := Go.Proofs.YtmockeaiccpogaaHand.bz 38 1073741823
abbrev zq6.q31 := Go.Proofs.YtmockeaiccpogaaHand.bz 38 2147483647
abbrev zq6.q32 := Go.Proofs.YtmockeaiccpogaaHand.bz 38 4294967295
abbrev zq6.q33 := Go.Proofs.YtmockeaiccpogaaHand.bz 38 8589934591
abbrev zq6.q34 := Go.Proofs.YtmockeaiccpogaaHand.bz 38 17179869183
abbrev zq6.q35 := Go.Proofs.YtmockeaiccpogaaHand.bz 38 34359738367
abbrev zq6.q36 := Go.Proofs.YtmockeaiccpogaaHand.bz 38 68719476735
abbrev zq6.q37 := Go.Proofs.YtmockeaiccpogaaHand.bz 38 137438953471
abbrev zq6.q38 := Go.Proofs.YtmockeaiccpogaaHand.bz 38 274877906943
def compositorlaw09_BufferBasics.j0 : Nat → Bool → Int → Int → List (S43) → Int → Int → List (S43) → Int → Int → Option (Bool)
 | 0, _, _, _, _, _, _, _, _, _ => none
 | k + 1, x14, x376000, x376001, x376002, x377000, x377001, x377002, x378000, x378001 => if x14 = true then ((compositorlaw09_exampleHolds.f k).bind fun t380 => (some t380)) else ((buffer_Valid.f x376000 x376001 x376002).bind fun t381 => ((compositorref09_Valid.f k x376000 x376001 x376002).bind fun t382 => (if (t381 == t382) = true then ((buffer_At.f k x376000 x376001 x376002 x378000 x378001).bind fun bt383 => ((compositorref09_At.f x376000 x376001 x376002 x378000 x378001).bind fun bt387 => (if (bt383.1 == bt387.1 && (bt383.2.1 == bt387.2.1 && (bt383.2.2.1 == bt387.2.2.1 && (bt383.2.2.2 == bt387.2.2.2)))) = true then ((buffer_Equal.f k x376000 x376001 x376002 x377000 x377001 x377002).bind fun t391 => ((compositorref09_Equal.f k x376000 x376001 x376002 x377000 x377001 x377002).bind fun t392 => (if (t391 == t392) = true then ((buffer_Equal.f k x376000 x376001 x376002 x376000 x376001 x376002).bind fun t393 => (if t393 = true then ((compositorlaw09_exampleHolds.f k).bind fun t394 => (some t394)) else (some false))) else (some false)))) else (some false)))) else (some false))))
def compositorlaw09_BufferBasics.f (k : Nat) (a0_0 : Int) (a0_1 : Int) (l0_2 : List (S43)) (a1_0 : Int) (a1_1 : Int) (l1_2 : List (S43)) (a2_0 : Int) (a2_1 : Int) : Option (Bool) := (compositorlaw09_small.f a0_0 a0_1 l0_2).bind fun t378 => (if t378 = true then ((compositorlaw09_small.f a1_0 a1_1 l1_2).bind fun t379 => (compositorlaw09_BufferBasics.j0 k (!t379) a0_0 a0_1 l0_2 a1_0 a1_1 l1_2 a2_0 a2_1)) else (compositorlaw09_BufferBasics.j0 k true a0_0 a0_1 l0_2 a1_0 a1_1 l1_2 a2_0 a2_1))
theorem compositorlaw09_BufferBasics.mono_l : ∀ k, (∀ y0 y1 y2 y3 y4 y5 y6 y7 y8, LeO (compositorlaw09_BufferBasics.j0 k y0 y1 y2 y3 y4 y5 y6 y7 y8) (compositorlaw09_BufferBasics.j0 (k + 1) y0 y1 y2 y3 y4 y5 y6 y7 y8))
 | 0 => fun _ _ _ _ _ _ _ _ _ r h => by simp [compositorlaw09_BufferBasics.j0] at h
 | k + 1 => by
  have ih0 := compositorlaw09_BufferBasics.mono_l k
  ·
   intro y0 y1 y2 y3 y4 y5 y6 y7 y8
   unfold compositorlaw09_BufferBasics.j0
   repeat' first
   | (with_reducible exact ih0 _ _ _ _ _ _ _ _ _)
   | (with_reducible exact buffer_At.mono _ _ _ _ _ _)
   | (with_reducible exact buffer_Equal.mono _ _ _ _ _ _ _)
   | (with_reducible exact compositorlaw09_exampleHolds.mono _)
   | (with_reducible exact compositorref09_Equal.mono _ _ _ _ _ _ _)
   | (with_reducible exact compositorref09_Valid.mono _ _ _ _)
   | (with_reducible exact LeO.refl _)
   | (with_reducible exact LeO.none _)
   | (with_reducible refine LeO.ite ?_ ?_)
   | (with_reducible refine LeO.bind ?_ (fun _ => ?_))
   | exact ih0 _ _ _ _ _ _ _ _ _
   | exact buffer_At.mono _ _ _ _ _ _
   | exact buffer_Equal.mono _ _ _ _ _ _ _
   | exact compositorlaw09_exampleHolds.mono _
   | exact compositorref09_Equal.mono _ _ _ _ _ _ _
   | exact compositorref09_Valid.mono _ _ _ _
   | exact LeO.none _
   | refine LeO.ite ?_ ?_
   | refine LeO.bind ?_ (fun _ => ?_)
theorem compositorlaw09_BufferBasics.mono : ∀ a0 a1 a2 a3 a4 a5 a6 a7 k, LeO (compositorlaw09_BufferBasics.f k a0 a1 a2 a3 a4 a5 a6 a7) (compositorlaw09_BufferBasics.f (k + 1) a0 a1 a2 a3 a4 a5 a6 a7) := by
 intro a0 a1 a2 a3 a4 a5 a6 a7 k
 have ih0 := compositorlaw09_BufferBasics.mono_l k
 unfold compositorlaw09_BufferBasics.f
 repeat' first
   | (with_reducible exact ih0 _ _ _ _ _ _ _ _ _)
   | (with_reducible exact buffer_At.mono _ _ _ _ _ _)
   | (with_reducible exact buffer_Equal.mono _ _ _ _ _ _ _)
   | (with_reducible exact compositorlaw09_exampleHolds.mono _)
   | (with_reducible exact compositorref09_Equal.mono _ _ _ _ _ _ _)
   | (with_reducible exact compositorref09_Valid.mono _ _ _ _)
   | (with_reducible exact LeO.refl _)
   | (with_reducible exact LeO.none _)
   | (with_reducible refine LeO.ite ?_ ?_)
   | (with_reducible refine LeO.bind ?_ (fun _ => ?_))
   | exact ih0 _ _ _ _ _ _ _ _ _
   | exact buffer_At.mono _ _ _ _ _ _
   | exact buffer_Equal.mono _ _ _ _ _ _ _
   | exact compositorlaw09_exampleHolds.mono _
   | exact compositorref09_Equal.mono _ _ _ _ _ _ _
   | exact compositorref09_Valid.mono _ _ _ _
   | exact LeO.none _
   | refine LeO.ite ?_ ?_
   | refine LeO.bind ?_ (fun _ => ?_)
def compositorlaw09_BufferBasics.T3 : Bool × List (List Nat × List Nat) := (true, [([], []), ([0], [0]), ([], []), ([2, 1], [2]), ([1, 3], [1, 3]), ([4, 3], [4]), ([5], [5]), ([5], [5]), ([7, 5], [5, 7]), ([5], [5]), ([9, 5], [5, 9]), ([6, 8, 10, 5, 5], [5, 6, 8, 10]), ([5], [5]), ([5], [5]), ([13, 5], [5, 13]), ([5], [5]), ([15, 5], [5, 15]), ([12, 14, 16, 11, 5], [5, 12, 14, 16]), ([11, 17, 5], [5, 11, 17]), ([5, 18], [5, 18]), ([19, 17], [19]), ([20], [20]), ([20], [20]), ([21, 22, 20, 20], [20, 21, 22]), ([20], [20]), ([20], [20]), ([24, 25, 23, 20], [20, 24, 25]), ([23, 26, 20], [20, 23, 26]), ([20, 27], [20, 27]), ([28, 26], [28]), ([29], [29]), ([29], [29]), ([30, 31, 29, 29], [29, 30, 31]), ([29, 32], [29, 32]), ([33, 32], [33]), ([34, 34], [34]), ([34, 35], [34, 35]), ([36, 35, 0, 1, 2, 3, 4, 5, 6, 7, 8, 9, 10, 11, 12, 13, 14, 15, 16, 17, 18, 19, 20, 21, 22, 23, 24, 25, 26, 27, 28, 29, 30, 31, 32, 33, 34, 35, 36], [36])])
def compositorlaw09_BufferBasics.B3 : List Nat := [0, 1, 0, 7, 15, 31, 63, 63, 191, 63, 575, 2047, 63, 63, 8255, 63, 32831, 131071, 262143, 524287, 1048575, 2097151, 2097151, 8388607, 2097151, 2097151, 67108863, 134217727, 268435455, 536870911, 1073741823, 1073741823, 4294967295, 8589934591, 17179869183, 34359738367, 68719476735, 137438953471]
theorem compositorlaw09_BufferBasics.tab3 : rtab .any (opsOf Try.f6 3) = compositorlaw09_BufferBasics.T3 := by kernel_rfl
theorem compositorlaw09_BufferBasics.bits3 : waitsOk compositorlaw09_BufferBasics.T3.2 compositorlaw09_BufferBasics.B3 = true := by kernel_rfl
set_option maxHeartbeats 8000000 in
set_option maxRecDepth 100000 in
theorem compositorlaw09_BufferBasics.calls (k : Nat) (a0_0 : Int) (a0_1 : Int) (A0_2 : Option Addr) (c0_2 : Nat) (l0_2 : List (S43)) (a1_0 : Int) (a1_1 : Int) (A1_2 : Option Addr) (c1_2 : Nat) (l1_2 : List (S43)) (a2_0 : Int) (a2_1 : Int) (w : World) (hr0_2 : Kd.C k43 w A0_2 l0_2.length l0_2) (hc0_2 : l0_2.length ≤ c0_2) (hr1_2 : Kd.C k43 w A1_2 l1_2.length l1_2) (hc1_2 : l1_2.length ≤ c1_2) (h : compositorlaw09_BufferBasics.f k a0_0 a0_1 l0_2 a1_0 a1_1 l1_2 a2_0 a2_1 = some true) :
  Calls Try.prog 6 #[.agg #[.int .i64 a0_0, .int .i64 a0_1, .slice A0_2 l0_2.length c0_2], .agg #[.int .i64 a1_0, .int .i64 a1_1, .slice A1_2 l1_2.length c1_2], .agg #[.int .i64 a2_0, .int .i64 a2_1]] w fun e w' => e = .returned (.bool true) ∧ Below w.heap.size w w' := by
 have hu27 := Try.underlying27
 have hu41 := Try.underlying41
 have HR0_2 := Aside0.mk hr0_2
 have HC0_2 := Aside0.mk hc0_2
 clear hr0_2 hc0_2
 have HR1_2 := Aside0.mk hr1_2
 have HC1_2 := Aside0.mk hc1_2
 clear hr1_2 hc1_2
 have HB := Aside0.mk (Below.refl w.heap.size w)
 have H : ((compositorlaw09_small.f a0_0 a0_1 l0_2).bind fun t378 => (if t378 = true then ((compositorlaw09_small.f a1_0 a1_1 l1_2).bind fun t379 => (compositorlaw09_BufferBasics.j0 k (!t379) a0_0 a0_1 l0_2 a1_0 a1_1 l1_2 a2_0 a2_1)) else (compositorlaw09_BufferBasics.j0 k true a0_0 a0_1 l0_2 a1_0 a1_1 l1_2 a2_0 a2_1))) = some true := h
 clear h
 have HC4 := Aside0.mk H
 clear H
 go_enter Try.func6, Try.ntmps6
 go_upto_region 1 with (first | ((with_reducible refine gate_dst (N := 3) rfl ?_); refine box_event ?hg (N := 3) ?hd (cs := #[.int .i64 a0_0, .int .i64 a0_1, .slice A0_2 l0_2.length c0_2]) (t := 27) ?hr ?_; (case hd => rfl); (case hg => rfl); (case hr => first | (go_simp; done) | (go_simp; rfl)); intro gb375 hg w5 hbox hb; have n0_ := hb_ HB hb; have n1_ := Aside0.mk (hbox); have n2_ := Aside0.mk ((by rw [hg]; exact (below_size (hq_ HB)) : w.heap.size ≤ gb375)); have n3_ := Aside0.mk ((by rw [hg]; exact (below_size (hq_ HB)) : w.heap.size ≤ gb375)); clear HB; have HB := n0_; have BK375 := n1_; have GW375 := n2_; have GE375 := n3_; clear n0_ n1_ n2_ n3_; clear hb hbox hg) | ((with_reducible refine gate_dst (N := 4) rfl ?_); refine box_event ?hg (N := 4) ?hd (cs := #[.int .i64 a1_0, .int .i64 a1_1, .slice A1_2 l1_2.length c1_2]) (t := 27) ?hr ?_; (case hd => rfl); (case hg => rfl); (case hr => first | (go_simp; done) | (go_simp; rfl)); intro gb376 hg w6 hbox hb; have n0_ := bb_ BK375 hb; have n1_ := hb_ HB hb; have n2_ := Aside0.mk (hbox); have n3_ := Aside0.mk ((by rw [hg]; exact (below_size (hq_ HB)) : w.heap.size ≤ gb376)); have n4_ := Aside0.mk ((by rw [hg]; exact (below_size (hq_ HB)) : w.heap.size ≤ gb376)); have n5_ := Aside0.mk ((by rw [hg]; exact Nat.ne_of_lt (blk_lt (g := gb375) (o := .cells #[.int .i64 a0_0, .int .i64 a0_1, .slice A0_2 l0_2.length c0_2] 27 (0, 0)) (bq_ BK375)) : gb375 ≠ gb376)); have n6_ := Aside0.mk ((by rw [hg]; exact Nat.ne_of_gt (blk_lt (g := gb375) (o := .cells #[.int .i64 a0_0, .int .i64 a0_1, .slice A0_2 l0_2.length c0_2] 27 (0, 0)) (bq_ BK375)) : gb376 ≠ gb375)); clear BK375; clear HB; have BK375 := n0_; have HB := n1_; have BK376 := n2_; have GW376 := n3_; have GE376 := n4_; have NB375_376 := n5_; have NB376_375 := n6_; clear n0_ n1_ n2_ n3_ n4_ n5_ n6_; clear hb hbox hg) | ((with_reducible refine gate_dst (N := 5) rfl ?_); refine box_event ?hg (N := 5) ?hd (cs := #[.int .i64 a2_0, .int .i64 a2_1]) (t := 41) ?hr ?_; (case hd => rfl); (case hg => rfl); (case hr => first | (go_simp; done) | (go_simp; rfl)); intro gb377 hg w7 hbox hb; have n0_ := bb_ BK375 hb; have n1_ := bb_ BK376 hb; have n2_ := hb_ HB hb; have n3_ := Aside0.mk (hbox); have n4_ := Aside0.mk ((by rw [hg]; exact (below_size (hq_ HB)) : w.heap.size ≤ gb377)); have n5_ := Aside0.mk ((by rw [hg]; exact (below_size (hq_ HB)) : w.heap.size ≤ gb377)); have n6_ := Aside0.mk ((by rw [hg]; exact Nat.ne_of_lt (blk_lt (g := gb375) (o := .cells #[.int .i64 a0_0, .int .i64 a0_1, .slice A0_2 l0_2.length c0_2] 27 (0, 0)) (bq_ BK375)) : gb375 ≠ gb377)); have n7_ := Aside0.mk ((by rw [hg]; exact Nat.ne_of_gt (blk_lt (g := gb375) (o := .cells #[.int .i64 a0_0, .int .i64 a0_1, .slice A0_2 l0_2.length c0_2] 27 (0, 0)) (bq_ BK375)) : gb377 ≠ gb375)); have n8_ := Aside0.mk ((by rw [hg]; exact Nat.ne_of_lt (blk_lt (g := gb376) (o := .cells #[.int .i64 a1_0, .int .i64 a1_1, .slice A1_2 l1_2.length c1_2] 27 (0, 0)) (bq_ BK376)) : gb376 ≠ gb377)); have n9_ := Aside0.mk ((by rw [hg]; exact Nat.ne_of_gt (blk_lt (g := gb376) (o := .cells #[.int .i64 a1_0, .int .i64 a1_1, .slice A1_2 l1_2.length c1_2] 27 (0, 0)) (bq_ BK376)) : gb377 ≠ gb376)); clear BK375; clear BK376; clear HB; have BK375 := n0_; have BK376 := n1_; have HB := n2_; have BK377 := n3_; have GW377 := n4_; have GE377 := n5_; have NB375_377 := n6_; have NB377_375 := n7_; have NB376_377 := n8_; have NB377_376 := n9_; clear n0_ n1_ n2_ n3_ n4_ n5_ n6_ n7_ n8_ n9_; clear hb hbox hg))
 (try simp only [Act.put, List.setIfInBounds_toArray, List.set_cons_zero, List.set_cons_succ])
 go_cut [14] (fun v14 wc => ∃ (kq : Nat) (x14_3 : Bool), v14 = .bool x14_3 ∧ Aside0 (compositorlaw09_BufferBasics.j0 kq x14_3 a0_0 a0_1 l0_2 a1_0 a1_1 l1_2 a2_0 a2_1 = some true) ∧ Aside0 (kq ≤ k) ∧ Aside0 (wc.heap[gb375]? = some (.cells #[.int .i64 a0_0, .int .i64 a0_1, (.slice A0_2 l0_2.length c0_2)] 27 (0, 0))) ∧ Aside0 (wc.heap[gb376]? = some (.cells #[.int .i64 a1_0, .int .i64 a1_1, (.slice A1_2 l1_2.length c1_2)] 27 (0, 0))) ∧ Aside0 (wc.heap[gb377]? = some (.cells #[.int .i64 a2_0, .int .i64 a2_1] 41 (0, 0))) ∧ Aside0 (Below w.heap.size w wc))
 case first =>
  have H := HC4.out
  clear HC4
  replace H := Option.bind_eq_some_iff.mp H
  obtain ⟨t378, A80, H⟩ := H
  try dsimp only at H
  have A8 := Aside0.mk A80
  clear A80
  by_cases c9 : t378 = true
  ·
   subst c9
   have H1 : ((compositorlaw09_small.f a1_0 a1_1 l1_2).bind fun t379 => (compositorlaw09_BufferBasics.j0 k (!t379) a0_0 a0_1 l0_2 a1_0 a1_1 l1_2 a2_0 a2_1)) = some true := by rw [if_pos rfl] at H; exact H
   clear H
   have H := H1
   clear H1
   replace H := Option.bind_eq_some_iff.mp H
   obtain ⟨t379, A100, H⟩ := H
   try dsimp only at H
   have A10 := Aside0.mk A100
   clear A100
   have H' := Aside0.mk H
   clear H
   have hnb11 := NB375_376.out
   have hnc11 := NB376_375.out
   have hnb12 := NB375_377.out
   have hnc12 := NB377_375.out
   have hcz13_0 : w7.cell? ⟨gb375, 0, none⟩ = some (.int .i64 a0_0) := (blk_cell BK375.out 0).trans rfl
   have hcz13_1 : w7.cell? ⟨gb375, 1, none⟩ = some (.int .i64 a0_1) := (blk_cell BK375.out 1).trans rfl
   have hcz13_2 : w7.cell? ⟨gb375, 2, none⟩ = some (.slice A0_2 l0_2.length c0_2) := (blk_cell BK375.out 2).trans rfl
   have hfz13_0 := blk_frozen BK375.out 0
   have hfz13_1 := blk_frozen BK375.out 1
   have hfz13_2 := blk_frozen BK375.out 2
   go_wp2_with (first | ((with_reducible refine gate_callee (f := 22) rfl ?_); refine goesL_ (some 8) rfl rfl Try.func22 (by kernel_rfl) rfl #[.agg #[.int .i64 a0_0, .int .i64 a0_1, .slice A0_2 l0_2.length c0_2]] rfl (by (try simp only [List.map_toArray, List.map_cons, List.map_nil]) <;> rfl) ?_; (with_reducible refine (compositorlaw09_small.calls a0_0 a0_1 _ _ l0_2 true _ ?side1 ?side2 A8.out).mono ?_); (case side1 => repeat (first | exact (Kd.C_below HR0_2.out HB.out) | (with_reducible refine Kd.C_alloc ?_ _) | (with_reducible refine Kd.C_drewN ?_ _) | (with_reducible refine Kd.C_drew ?_))); (case side2 => exact HC0_2.out); rintro e w14 ⟨rfl, hb⟩; refine ⟨_, rfl, ?_⟩; have n0_ := bb_ BK375 hb; have n1_ := bb_ BK376 hb; have n2_ := bb_ BK377 hb; have n3_ := hb_ HB hb; clear BK375; clear BK376; clear BK377; clear HB; have BK375 := n0_; have BK376 := n1_; have BK377 := n2_; have HB := n3_; clear n0_ n1_ n2_ n3_; (try clear hb); (try clear hb2); (try clear hk); (try clear hi); have hnb15 := NB376_377.out; have hnc15 := NB377_376.out; have hcz16_0 : w14.cell? ⟨gb376, 0, none⟩ = some (.int .i64 a1_0) := (blk_cell BK376.out 0).trans rfl; have hcz16_1 : w14.cell? ⟨gb376, 1, none⟩ = some (.int .i64 a1_1) := (blk_cell BK376.out 1).trans rfl; have hcz16_2 : w14.cell? ⟨gb376, 2, none⟩ = some (.slice A1_2 l1_2.length c1_2) := (blk_cell BK376.out 2).trans rfl; have hfz16_0 := blk_frozen BK376.out 0; have hfz16_1 := blk_frozen BK376.out 1; have hfz16_2 := blk_frozen BK376.out 2) | (go_at_call 22; (with_reducible refine (compositorlaw09_small.calls a1_0 a1_1 _ _ l1_2 t379 _ ?side1 ?side2 A10.out).mono ?_); (case side1 => repeat (first | exact (Kd.C_below HR1_2.out HB.out) | (with_reducible refine Kd.C_alloc ?_ _) | (with_reducible refine Kd.C_drewN ?_ _) | (with_reducible refine Kd.C_drew ?_))); (case side2 => exact HC1_2.out); rintro e w17 ⟨rfl, hb⟩; have n0_ := bb_ BK375 hb; have n1_ := bb_ BK376 hb; have n2_ := bb_ BK377 hb; have n3_ := hb_ HB hb; clear BK375; clear BK376; clear BK377; clear HB; have BK375 := n0_; have BK376 := n1_; have BK377 := n2_; have HB := n3_; clear n0_ n1_ n2_ n3_; (try clear hb); (try clear hb2); (try clear hk); (try clear hi)))
   go_meet
   case rel => exact ⟨_, (!t379), (by first | rfl | (simp; done) | (simp [*]; done)), H', ⟨by first | omega | exact Nat.le_refl _⟩, bf_ BK375, bf_ BK376, bf_ BK377, ⟨by repeat (first | (with_reducible first | exact HB.out | apply below_alloc | apply pw_below_drewN | apply below_drew1 | refine below_set ?_ GE375.out | refine below_set ?_ GE376.out | refine below_set ?_ GE377.out) | exact HB.out)⟩⟩
  ·
   replace c9 := Bool.eq_false_iff.mpr c9
   subst c9
   have H1 : (compositorlaw09_BufferBasics.j0 k true a0_0 a0_1 l0_2 a1_0 a1_1 l1_2 a2_0 a2_1) = some true := by rw [if_neg (show ¬ (false = true) by decide)] at H; exact H
   clear H
   have H := H1
   clear H1
   have H' := Aside0.mk H
   clear H
   have hnb18 := NB375_376.out
   have hnc18 := NB376_375.out
   have hnb19 := NB375_377.out
   have hnc19 := NB377_375.out
   have hcz20_0 : w7.cell? ⟨gb375, 0, none⟩ = some (.int .i64 a0_0) := (blk_cell BK375.out 0).trans rfl
   have hcz20_1 : w7.cell? ⟨gb375, 1, none⟩ = some (.int .i64 a0_1) := (blk_cell BK375.out 1).trans rfl
   have hcz20_2 : w7.cell? ⟨gb375, 2, none⟩ = some (.slice A0_2 l0_2.length c0_2) := (blk_cell BK375.out 2).trans rfl
   have hfz20_0 := blk_frozen BK375.out 0
   have hfz20_1 := blk_frozen BK375.out 1
   have hfz20_2 := blk_frozen BK375.out 2
   go_wp2_with (first | ((with_reducible refine gate_callee (f := 22) rfl ?_); refine goesL_ (some 8) rfl rfl Try.func22 (by kernel_rfl) rfl #[.agg #[.int .i64 a0_0, .int .i64 a0_1, .slice A0_2 l0_2.length c0_2]] rfl (by (try simp only [List.map_toArray, List.map_cons, List.map_nil]) <;> rfl) ?_; (with_reducible refine (compositorlaw09_small.calls a0_0 a0_1 _ _ l0_2 false _ ?side1 ?side2 A8.out).mono ?_); (case side1 => repeat (first | exact (Kd.C_below HR0_2.out HB.out) | (with_reducible refine Kd.C_alloc ?_ _) | (with_reducible refine Kd.C_drewN ?_ _) | (with_reducible refine Kd.C_drew ?_))); (case side2 => exact HC0_2.out); rintro e w21 ⟨rfl, hb⟩; refine ⟨_, rfl, ?_⟩; have n0_ := bb_ BK375 hb; have n1_ := bb_ BK376 hb; have n2_ := bb_ BK377 hb; have n3_ := hb_ HB hb; clear BK375; clear BK376; clear BK377; clear HB; have BK375 := n0_; have BK376 := n1_; have BK377 := n2_; have HB := n3_; clear n0_ n1_ n2_ n3_; (try clear hb); (try clear hb2); (try clear hk); (try clear hi)))
   go_meet
   case rel => exact ⟨_, (true), (by first | rfl | (simp; done) | (simp [*]; done)), H', ⟨by first | omega | exact Nat.le_refl _⟩, bf_ BK375, bf_ BK376, bf_ BK377, ⟨by repeat (first | (with_reducible first | exact HB.out | apply below_alloc | apply pw_below_drewN | apply below_drew1 | refine below_set ?_ GE375.out | refine below_set ?_ GE376.out | refine below_set ?_ GE377.out) | exact HB.out)⟩⟩
 case rest =>
  clear HC4
  try clear c1
  try clear c2
  try clear p2
  try clear c6
  try clear c9
  try clear c11
  try clear c12
  try clear c15
  try clear c18
  try clear c19
  try clear hcz13_0
  try clear hcz13_1
  try clear hcz13_2
  try clear hcz16_0
  try clear hcz16_1
  try clear hcz16_2
  try clear hcz20_0
  try clear hcz20_1
  try clear hcz20_2
  try clear hfz13_0
  try clear hfz13_1
  try clear hfz13_2
  try clear hfz16_0
  try clear hfz16_1
  try clear hfz16_2
  try clear hfz20_0
  try clear hfz20_1
  try clear hfz20_2
  obtain ⟨kq, x14_3, rfl, HA, HJ3, BK375, BK376, BK377, HB⟩ := hcut
  cases kq with
  | zero => exact absurd HA.out (by simp [compositorlaw09_BufferBasics.j0])
  | succ kj3 =>
   have H := HA.out
   clear HA
   simp only [compositorlaw09_BufferBasics.j0] at H
   by_cases c22 : x14_3 = true
   ·
    subst c22
    have H1 : ((compositorlaw09_exampleHolds.f kj3).bind fun t380 => (some t380)) = some true := by rw [if_pos rfl] at H; exact H
    clear H
    have H := H1
    clear H1
    replace H := Option.bind_eq_some_iff.mp H
    obtain ⟨t380, A230, H⟩ := H
    try dsimp only at H
    have A23 := Aside0.mk A230
    clear A230
    have Hq_ := Option.some.inj H
    go_wp2_with (first | ((with_reducible refine gate_callee (f := 13) rfl ?_); refine goesL_ (some 15) rfl rfl Try.func13 (by kernel_rfl) rfl #[] rfl (by (try simp only [List.map_toArray, List.map_cons, List.map_nil]) <;> rfl) ?_; (with_reducible refine (compositorlaw09_exampleHolds.calls kj3  t380 _ A23.out).mono ?_); rintro e w24 ⟨rfl, hb⟩; refine ⟨_, rfl, ?_⟩; have n0_ := bb_ BK375 hb; have n1_ := bb_ BK376 hb; have n2_ := bb_ BK377 hb; have n3_ := hb_ HB hb; clear BK375; clear BK376; clear BK377; clear HB; have BK375 := n0_; have BK376 := n1_; have BK377 := n2_; have HB := n3_; clear n0_ n1_ n2_ n3_; (try clear hb); (try clear hb2); (try clear hk); (try clear hi)))
    go_ret
    exact ⟨by first | rfl | (simp [errW_none, errW_some] <;> rfl) | (simp [*, errW_none, errW_some] <;> rfl), by repeat (first | (with_reducible first | exact HB.out | apply below_alloc | apply pw_below_drewN | apply below_drew1 | refine below_set ?_ GE375.out | refine below_set ?_ GE376.out | refine below_set ?_ GE377.out) | exact HB.out)⟩
   ·
    replace c22 := Bool.eq_false_iff.mpr c22
    subst c22
    have H1 : ((buffer_Valid.f a0_0 a0_1 l0_2).bind fun t381 => ((compositorref09_Valid.f kj3 a0_0 a0_1 l0_2).bind fun t382 => (if (t381 == t382) = true then ((buffer_At.f kj3 a0_0 a0_1 l0_2 a2_0 a2_1).bind fun bt383 => ((compositorref09_At.f a0_0 a0_1 l0_2 a2_0 a2_1).bind fun bt387 => (if (bt383.1 == bt387.1 && (bt383.2.1 == bt387.2.1 && (bt383.2.2.1 == bt387.2.2.1 && (bt383.2.2.2 == bt387.2.2.2)))) = true then ((buffer_Equal.f kj3 a0_0 a0_1 l0_2 a1_0 a1_1 l1_2).bind fun t391 => ((compositorref09_Equal.f kj3 a0_0 a0_1 l0_2 a1_0 a1_1 l1_2).bind fun t392 => (if (t391 == t392) = true then ((buffer_Equal.f kj3 a0_0 a0_1 l0_2 a0_0 a0_1 l0_2).bind fun t393 => (if t393 = true then ((compositorlaw09_exampleHolds.f kj3).bind fun t394 => (some t394)) else (some false))) else (some false)))) else (some false)))) else (some false)))) = some true := by rw [if_neg (show ¬ (false = true) by decide)] at H; exact H
    clear H
    have H := H1
    clear H1
    replace H := Option.bind_eq_some_iff.mp H
    obtain ⟨t381, A250, H⟩ := H
    try dsimp only at H
    have A25 := Aside0.mk A250
    clear A250
    replace H := Option.bind_eq_some_iff.mp H
    obtain ⟨t382, A260, H⟩ := H
    try dsimp only at H
    have A26 := Aside0.mk A260
    clear A260
    by_cases c27 : (t381 == t382) = true
    ·
     rw [if_pos c27] at H
     have c27b0 : (t381 == t382) = true := c27
     (try (have c27b1 : decide (t381 = t382) = true := by simpa using c27))
     (try (have c27b2 : (t381 == t382) = true := by simpa using c27))
     clear c27
     replace H := Option.bind_eq_some_iff.mp H
     obtain ⟨⟨t383, t384, t385, t386⟩, A280, H⟩ := H
     try dsimp only at H
     have A28 := Aside0.mk A280
     clear A280
     replace H := Option.bind_eq_some_iff.mp H
     obtain ⟨⟨t387, t388, t389, t390⟩, A290, H⟩ := H
     try dsimp only at H
     have A29 := Aside0.mk A290
     clear A290
     by_cases c30 : (t383 == t387 && (t384 == t388 && (t385 == t389 && (t386 == t390)))) = true
     ·
      rw [if_pos c30] at H
      have c30b0 : (t383 == t387 && (t384 == t388 && (t385 == t389 && (t386 == t390)))) = true := c30
      (try (have c30b1 : decide (t383 = t387 && (t384 == t388 && (t385 == t389 && (t386 == t390)))) = true := by simpa using c30))
      (try (have c30b2 : (t383 == t387 && (t384 == t388 && (t385 == t389 && (t386 == t390)))) = true := by simpa using c30))
      clear c30
      replace H := Option.bind_eq_some_iff.mp H
      obtain ⟨t391, A310, H⟩ := H
      try dsimp only at H
      have A31 := Aside0.mk A310
      clear A310
      replace H := Option.bind_eq_some_iff.mp H
      obtain ⟨t392, A320, H⟩ := H
      try dsimp only at H
      have A32 := Aside0.mk A320
      clear A320
      by_cases c33 : (t391 == t392) = true
      ·
       rw [if_pos c33] at H
       have c33b0 : (t391 == t392) = true := c33
       (try (have c33b1 : decide (t391 = t392) = true := by simpa using c33))
       (try (have c33b2 : (t391 == t392) = true := by simpa using c33))
       clear c33
       replace H := Option.bind_eq_some_iff.mp H
       obtain ⟨t393, A340, H⟩ := H
       try dsimp only at H
       have A34 := Aside0.mk A340
       clear A340
       by_cases c35 : t393 = true
       ·
        subst c35
        have H1 : ((compositorlaw09_exampleHolds.f kj3).bind fun t394 => (some t394)) = some true := by rw [if_pos rfl] at H; exact H
        clear H
        have H := H1
        clear H1
        replace H := Option.bind_eq_some_iff.mp H
        obtain ⟨t394, A360, H⟩ := H
        try dsimp only at H
        have A36 := Aside0.mk A360
        clear A360
        have Hq_ := Option.some.inj H
        try go_wp2
        replace BK375 := Aside0.mk (blk_drew BK375.out)
        replace BK376 := Aside0.mk (blk_drew BK376.out)
        replace BK377 := Aside0.mk (blk_drew BK377.out)
        replace HB := Aside0.mk (below_drew1 HB.out)
        refine start_ (n := 38) (S := fun w' => w'.cell? ⟨gb375, 0, none⟩ = some (.int .i64 a0_0) ∧ w'.cell? ⟨gb375, 1, none⟩ = some (.int .i64 a0_1) ∧ w'.cell? ⟨gb375, 2, none⟩ = some (.slice A0_2 l0_2.length c0_2) ∧ w'.cell? ⟨gb377, 0, none⟩ = some (.int .i64 a2_0) ∧ w'.cell? ⟨gb377, 1, none⟩ = some (.int .i64 a2_1) ∧ w'.cell? ⟨gb376, 0, none⟩ = some (.int .i64 a1_0) ∧ w'.cell? ⟨gb376, 1, none⟩ = some (.int .i64 a1_1) ∧ w'.cell? ⟨gb376, 2, none⟩ = some (.slice A1_2 l1_2.length c1_2)) (ds := []) zq6.q0 (by kernel_rfl) rfl rfl ⟨c_ BK375 0, ⟨c_ BK375 1, ⟨c_ BK375 2, ⟨c_ BK377 0, ⟨c_ BK377 1, ⟨c_ BK376 0, ⟨c_ BK376 1, (c_ BK376 2)⟩⟩⟩⟩⟩⟩⟩ (fun hHeld => ?_); refine with_tabW compositorlaw09_BufferBasics.tab3 compositorlaw09_BufferBasics.bits3 (fun HT_ HW_ => ?_)
        generalize wc.drew = w37 at BK375 BK376 BK377 HB hHeld ⊢
        refine tk8_ 0 16 zq6.q1 HT_ HW_ hHeld ?_
        refine tk8_ 2 18 zq6.q2 HT_ HW_ hHeld ?_
        refine one_ (i := 1) (N := some 17) zq6.q3 rfl rfl (one_of HT_.out (by kernel_rfl)) (by decide) (fun K hK => ?_)
        refine gs_ Try.func26 #[.agg #[.int .i64 a0_0, .int .i64 a0_1, .slice A0_2 l0_2.length c0_2]] ?_
        with_reducible refine (buffer_Valid.calls a0_0 a0_1 _ _ l0_2 t381 _ ?side1 ?side2 A25.out).mono ?_
        (case side1 => repeat (first | exact (Kd.C_below HR0_2.out HB.out) | (with_reducible refine Kd.C_alloc ?_ _) | (with_reducible refine Kd.C_drewN ?_ _) | (with_reducible refine Kd.C_drew ?_)))
        (case side2 => exact HC0_2.out)
        rintro e w38 ⟨rfl, hb⟩
        refine ⟨_, rfl, ?_⟩
        replace BK375 := bb_ BK375 hb
        replace BK376 := bb_ BK376 hb
        replace BK377 := bb_ BK377 hb
        replace HB := hb_ HB hb
        (try clear hb); (try clear hb2); (try clear hk); (try clear hi)
        refine hK.out _ _ ⟨c_ BK375 0, ⟨c_ BK375 1, ⟨c_ BK375 2, ⟨c_ BK377 0, ⟨c_ BK377 1, ⟨c_ BK376 0, ⟨c_ BK376 1, (c_ BK376 2)⟩⟩⟩⟩⟩⟩⟩ (fun hHeld => ?_)
        clear hK K
        refine norm_ (a' := ?_) ?_ ?_
        rotate_left
        ·
         show Act.put _ (some 17) _ = _
         simp only [Act.put, List.setIfInBounds_toArray, List.set_cons_zero, List.set_cons_succ, i64_w, i32_w]
         rfl
        refine one_ (i := 3) (N := some 19) zq6.q4 rfl rfl (one_of HT_.out (by kernel_rfl)) (by decide) (fun K hK => ?_)
        refine gs_ Try.func25 #[.agg #[.int .i64 a0_0, .int .i64 a0_1, .slice A0_2 l0_2.length c0_2]] ?_
        with_reducible refine (compositorref09_Valid.calls kj3 a0_0 a0_1 _ _ l0_2 t382 _ ?side1 ?side2 A26.out).mono ?_
        (case side1 => repeat (first | exact (Kd.C_below HR0_2.out HB.out) | (with_reducible refine Kd.C_alloc ?_ _) | (with_reducible refine Kd.C_drewN ?_ _) | (with_reducible refine Kd.C_drew ?_)))
        (case side2 => exact HC0_2.out)
        rintro e w39 ⟨rfl, hb⟩
        refine ⟨_, rfl, ?_⟩
        replace BK375 := bb_ BK375 hb
        replace BK376 := bb_ BK376 hb
        replace BK377 := bb_ BK377 hb
        replace HB := hb_ HB hb
        (try clear hb); (try clear hb2); (try clear hk); (try clear hi)
        refine hK.out _ _ ⟨c_ BK375 0, ⟨c_ BK375 1, ⟨c_ BK375 2, ⟨c_ BK377 0, ⟨c_ BK377 1, ⟨c_ BK376 0, ⟨c_ BK376 1, (c_ BK376 2)⟩⟩⟩⟩⟩⟩⟩ (fun hHeld => ?_)
        clear hK K
        refine norm_ (a' := ?_) ?_ ?_
        rotate_left
        ·
         show Act.put _ (some 19) _ = _
         simp only [Act.put, List.setIfInBounds_toArray, List.set_cons_zero, List.set_cons_succ, i64_w, i32_w]
         rfl
        refine pv_ 4 20 zq6.q5 HT_ ?_
        refine pv_ 5 21 zq6.q6 HT_ ?_
        refine pv_ 7 23 zq6.q7 HT_ ?_
        refine pv_ 9 25 zq6.q8 HT_ ?_
        refine pv_ 13 29 zq6.q9 HT_ ?_
        refine pv_ 15 31 zq6.q10 HT_ ?_
        refine tk8_ 6 22 zq6.q11 HT_ HW_ hHeld ?_
        refine tk8_ 8 24 zq6.q12 HT_ HW_ hHeld ?_
        refine tk8_ 10 26 zq6.q13 HT_ HW_ hHeld ?_
        refine tk8_ 12 28 zq6.q14 HT_ HW_ hHeld ?_
        refine tk8_ 14 30 zq6.q15 HT_ HW_ hHeld ?_
        refine tk8_ 16 32 zq6.q16 HT_ HW_ hHeld ?_
        refine one_ (i := 11) (N := some 27) zq6.q17 rfl rfl (one_of HT_.out (by kernel_rfl)) (by decide) (fun K hK => ?_)
        refine gs_ Try.func27 #[.agg #[.int .i64 a0_0, .int .i64 a0_1, .slice A0_2 l0_2.length c0_2], .int .i64 a2_0, .int .i64 a2_1] ?_
        with_reducible refine (buffer_At.calls kj3 a0_0 a0_1 _ _ l0_2 a2_0 a2_1 t383 t384 t385 t386 _ ?side1 ?side2 A28.out).mono ?_
        (case side1 => repeat (first | exact (Kd.C_below HR0_2.out HB.out) | (with_reducible refine Kd.C_alloc ?_ _) | (with_reducible refine Kd.C_drewN ?_ _) | (with_reducible refine Kd.C_drew ?_)))
        (case side2 => exact HC0_2.out)
        rintro e w40 ⟨rfl, hb⟩
        refine ⟨_, rfl, ?_⟩
        replace BK375 := bb_ BK375 hb
        replace BK376 := bb_ BK376 hb
        replace BK377 := bb_ BK377 hb
        replace HB := hb_ HB hb
        (try clear hb); (try clear hb2); (try clear hk); (try clear hi)
        refine hK.out _ _ ⟨c_ BK375 0, ⟨c_ BK375 1, ⟨c_ BK375 2, ⟨c_ BK377 0, ⟨c_ BK377 1, ⟨c_ BK376 0, ⟨c_ BK376 1, (c_ BK376 2)⟩⟩⟩⟩⟩⟩⟩ (fun hHeld => ?_)
        clear hK K
        refine norm_ (a' := ?_) ?_ ?_
        rotate_left
        ·
         show Act.put _ (some 27) _ = _
         simp only [Act.put, List.setIfInBounds_toArray, List.set_cons_zero, List.set_cons_succ, i64_w, i32_w]
         rfl
        refine one_ (i := 17) (N := some 33) zq6.q18 rfl rfl (one_of HT_.out (by kernel_rfl)) (by decide) (fun K hK => ?_)
        refine gs_ Try.func28 #[.agg #[.int .i64 a0_0, .int .i64 a0_1, .slice A0_2 l0_2.length c0_2], .int .i64 a2_0, .int .i64 a2_1] ?_
        with_reducible refine (compositorref09_At.calls a0_0 a0_1 _ _ l0_2 a2_0 a2_1 t387 t388 t389 t390 _ ?side1 ?side2 A29.out).mono ?_
        (case side1 => repeat (first | exact (Kd.C_below HR0_2.out HB.out) | (with_reducible refine Kd.C_alloc ?_ _) | (with_reducible refine Kd.C_drewN ?_ _) | (with_reducible refine Kd.C_drew ?_)))
        (case side2 => exact HC0_2.out)
        rintro e w41 ⟨rfl, hb⟩
        refine ⟨_, rfl, ?_⟩
        replace BK375 := bb_ BK375 hb
        replace BK376 := bb_ BK376 hb
        replace BK377 := bb_ BK377 hb
        replace HB := hb_ HB hb
        (try clear hb); (try clear hb2); (try clear hk); (try clear hi)
        refine hK.out _ _ ⟨c_ BK375 0, ⟨c_ BK375 1, ⟨c_ BK375 2, ⟨c_ BK377 0, ⟨c_ BK377 1, ⟨c_ BK376 0, ⟨c_ BK376 1, (c_ BK376 2)⟩⟩⟩⟩⟩⟩⟩ (fun hHeld => ?_)
        clear hK K
        refine norm_ (a' := ?_) ?_ ?_
        rotate_left
        ·
         show Act.put _ (some 33) _ = _
         simp only [Act.put, List.setIfInBounds_toArray, List.set_cons_zero, List.set_cons_succ, i64_w, i32_w]
         rfl
        refine pv_ 18 34 zq6.q19 HT_ ?_
        refine pv_ 19 35 zq6.q20 HT_ ?_
        refine pv_ 20 36 zq6.q21 HT_ ?_
        refine tk8_ 21 37 zq6.q22 HT_ HW_ hHeld ?_
        refine tk8_ 22 38 zq6.q23 HT_ HW_ hHeld ?_
        refine tk8_ 24 40 zq6.q24 HT_ HW_ hHeld ?_
        refine tk8_ 25 41 zq6.q25 HT_ HW_ hHeld ?_
        refine one_ (i := 23) (N := some 39) zq6.q26 rfl rfl (one_of HT_.out (by kernel_rfl)) (by decide) (fun K hK => ?_)
        refine gs_ Try.func29 #[.agg #[.int .i64 a0_0, .int .i64 a0_1, .slice A0_2 l0_2.length c0_2], .agg #[.int .i64 a1_0, .int .i64 a1_1, .slice A1_2 l1_2.length c1_2]] ?_
        with_reducible refine (buffer_Equal.calls kj3 a0_0 a0_1 _ _ l0_2 a1_0 a1_1 _ _ l1_2 t391 _ ?side1 ?side2 ?side3 ?side4 A31.out).mono ?_
        (case side1 => repeat (first | exact (Kd.C_below HR0_2.out HB.out) | (with_reducible refine Kd.C_alloc ?_ _) | (with_reducible refine Kd.C_drewN ?_ _) | (with_reducible refine Kd.C_drew ?_)))
        (case side2 => exact HC0_2.out)
        (case side3 => repeat (first | exact (Kd.C_below HR1_2.out HB.out) | (with_reducible refine Kd.C_alloc ?_ _) | (with_reducible refine Kd.C_drewN ?_ _) | (with_reducible refine Kd.C_drew ?_)))
        (case side4 => exact HC1_2.out)
        rintro e w42 ⟨rfl, hb⟩
        refine ⟨_, rfl, ?_⟩
        replace BK375 := bb_ BK375 hb
        replace BK376 := bb_ BK376 hb
        replace BK377 := bb_ BK377 hb
        replace HB := hb_ HB hb
        (try clear hb); (try clear hb2); (try clear hk); (try clear hi)
        refine hK.out _ _ ⟨c_ BK375 0, ⟨c_ BK375 1, ⟨c_ BK375 2, ⟨c_ BK377 0, ⟨c_ BK377 1, ⟨c_ BK376 0, ⟨c_ BK376 1, (c_ BK376 2)⟩⟩⟩⟩⟩⟩⟩ (fun hHeld => ?_)
        clear hK K
        refine norm_ (a' := ?_) ?_ ?_
        rotate_left
        ·
         show Act.put _ (some 39) _ = _
         simp only [Act.put, List.setIfInBounds_toArray, List.set_cons_zero, List.set_cons_succ, i64_w, i32_w]
         rfl
        refine one_ (i := 26) (N := some 42) zq6.q27 rfl rfl (one_of HT_.out (by kernel_rfl)) (by decide) (fun K hK => ?_)
        refine gs_ Try.func16 #[.agg #[.int .i64 a0_0, .int .i64 a0_1, .slice A0_2 l0_2.length c0_2], .agg #[.int .i64 a1_0, .int .i64 a1_1, .slice A1_2 l1_2.length c1_2]] ?_
        with_reducible refine (compositorref09_Equal.calls kj3 a0_0 a0_1 _ _ l0_2 a1_0 a1_1 _ _ l1_2 t392 _ ?side1 ?side2 ?side3 ?side4 A32.out).mono ?_
        (case side1 => repeat (first | exact (Kd.C_below HR0_2.out HB.out) | (with_reducible refine Kd.C_alloc ?_ _) | (with_reducible refine Kd.C_drewN ?_ _) | (with_reducible refine Kd.C_drew ?_)))
        (case side2 => exact HC0_2.out)
        (case side3 => repeat (first | exact (Kd.C_below HR1_2.out HB.out) | (with_reducible refine Kd.C_alloc ?_ _) | (with_reducible refine Kd.C_drewN ?_ _) | (with_reducible refine Kd.C_drew ?_)))
        (case side4 => exact HC1_2.out)
        rintro e w43 ⟨rfl, hb⟩
        refine ⟨_, rfl, ?_⟩
        replace BK375 := bb_ BK375 hb
        replace BK376 := bb_ BK376 hb
        replace BK377 := bb_ BK377 hb
        replace HB := hb_ HB hb
        (try clear hb); (try clear hb2); (try clear hk); (try clear hi)
        refine hK.out _ _ ⟨c_ BK375 0, ⟨c_ BK375 1, ⟨c_ BK375 2, ⟨c_ BK377 0, ⟨c_ BK377 1, ⟨c_ BK376 0, ⟨c_ BK376 1, (c_ BK376 2)⟩⟩⟩⟩⟩⟩⟩ (fun hHeld => ?_)
        clear hK K
        refine norm_ (a' := ?_) ?_ ?_
        rotate_left
        ·
         show Act.put _ (some 42) _ = _
         simp only [Act.put, List.setIfInBounds_toArray, List.set_cons_zero, List.set_cons_succ, i64_w, i32_w]
         rfl
        refine pv_ 27 43 zq6.q28 HT_ ?_
        refine pv_ 28 44 zq6.q29 HT_ ?_
        refine pv_ 29 45 zq6.q30 HT_ ?_
        refine tk8_ 30 46 zq6.q31 HT_ HW_ hHeld ?_
        refine tk8_ 31 47 zq6.q32 HT_ HW_ hHeld ?_
        refine one_ (i := 32) (N := some 48) zq6.q33 rfl rfl (one_of HT_.out (by kernel_rfl)) (by decide) (fun K hK => ?_)
        refine gs_ Try.func29 #[.agg #[.int .i64 a0_0, .int .i64 a0_1, .slice A0_2 l0_2.length c0_2], .agg #[.int .i64 a0_0, .int .i64 a0_1, .slice A0_2 l0_2.length c0_2]] ?_
        with_reducible refine (buffer_Equal.calls kj3 a0_0 a0_1 _ _ l0_2 a0_0 a0_1 _ _ l0_2 true _ ?side1 ?side2 ?side3 ?side4 A34.out).mono ?_
        (case side1 => repeat (first | exact (Kd.C_below HR0_2.out HB.out) | (with_reducible refine Kd.C_alloc ?_ _) | (with_reducible refine Kd.C_drewN ?_ _) | (with_reducible refine Kd.C_drew ?_)))
        (case side2 => exact HC0_2.out)
        (case side3 => repeat (first | exact (Kd.C_below HR0_2.out HB.out) | (with_reducible refine Kd.C_alloc ?_ _) | (with_reducible refine Kd.C_drewN ?_ _) | (with_reducible refine Kd.C_drew ?_)))
        (case side4 => exact HC0_2.out)
        rintro e w44 ⟨rfl, hb⟩
        refine ⟨_, rfl, ?_⟩
        replace BK375 := bb_ BK375 hb
        replace BK376 := bb_ BK376 hb
        replace BK377 := bb_ BK377 hb
        replace HB := hb_ HB hb
        (try clear hb); (try clear hb2); (try clear hk); (try clear hi)
        refine hK.out _ _ ⟨c_ BK375 0, ⟨c_ BK375 1, ⟨c_ BK375 2, ⟨c_ BK377 0, ⟨c_ BK377 1, ⟨c_ BK376 0, ⟨c_ BK376 1, (c_ BK376 2)⟩⟩⟩⟩⟩⟩⟩ (fun hHeld => ?_)
        clear hK K
        refine norm_ (a' := ?_) ?_ ?_
        rotate_left
        ·
         show Act.put _ (some 48) _ = _
         simp only [Act.put, List.setIfInBounds_toArray, List.set_cons_zero, List.set_cons_succ, i64_w, i32_w]
         rfl
        refine pv_ 33 49 zq6.q34 HT_ ?_
        refine pv_ 34 50 zq6.q35 HT_ ?_
        refine one_ (i := 35) (N := some 51) zq6.q36 rfl rfl (one_of HT_.out (by kernel_rfl)) (by decide) (fun K hK => ?_)
        refine gs_ Try.func13 #[] ?_
        with_reducible refine (compositorlaw09_exampleHolds.calls kj3  t394 _ A36.out).mono ?_
        rintro e w45 ⟨rfl, hb⟩
        refine ⟨_, rfl, ?_⟩
        replace BK375 := bb_ BK375 hb
        replace BK376 := bb_ BK376 hb
        replace BK377 := bb_ BK377 hb
        replace HB := hb_ HB hb
        (try clear hb); (try clear hb2); (try clear hk); (try clear hi)
        refine hK.out _ _ ⟨c_ BK375 0, ⟨c_ BK375 1, ⟨c_ BK375 2, ⟨c_ BK377 0, ⟨c_ BK377 1, ⟨c_ BK376 0, ⟨c_ BK376 1, (c_ BK376 2)⟩⟩⟩⟩⟩⟩⟩ (fun hHeld => ?_)
        clear hK K
        refine norm_ (a' := ?_) ?_ ?_
        rotate_left
        ·
         show Act.put _ (some 51) _ = _
         simp only [Act.put, List.setIfInBounds_toArray, List.set_cons_zero, List.set_cons_succ, i64_w, i32_w]
         rfl
        refine pv_ 36 52 zq6.q37 HT_ ?_
        refine pv_ 37 6 zq6.q38 HT_ ?_
        refine done_ (done_of HT_.out (by kernel_rfl)) ?_
        try go_wp2
        go_ret
        exact ⟨by first | rfl | (simp [errW_none, errW_some] <;> rfl) | (simp [*, errW_none, errW_some] <;> rfl), by repeat (first | (with_reducible first | exact HB.out | apply below_alloc | apply pw_below_drewN | apply below_drew1 | refine below_set ?_ GE375.out | refine below_set ?_ GE376.out | refine below_set ?_ GE377.out) | exact HB.out)⟩
       ·
        replace c35 := Bool.eq_false_iff.mpr c35
        subst c35
        have H1 : (some false) = some true := by rw [if_neg (show ¬ (false = true) by decide)] at H; exact H
        clear H
        have H := H1
        clear H1
        exact absurd H (by simp)
      ·
       rw [if_neg c33] at H
       have c33b0 : (t391 == t392) = false := by simpa using c33
       (try (have c33b1 : decide (t391 = t392) = false := by simpa using c33))
       (try (have c33b2 : (t391 == t392) = false := by simpa using c33))
       (try (have c33b3 : ¬ (t391 = t392) := by simpa using c33))
       clear c33
       exact absurd H (by simp)
     ·
      rw [if_neg c30] at H
      have c30b0 : (t383 == t387 && (t384 == t388 && (t385 == t389 && (t386 == t390)))) = false := by simpa using c30
      (try (have c30b1 : decide (t383 = t387 && (t384 == t388 && (t385 == t389 && (t386 == t390)))) = false := by simpa using c30))
      (try (have c30b2 : (t383 == t387 && (t384 == t388 && (t385 == t389 && (t386 == t390)))) = false := by simpa using c30))
      (try (have c30b3 : ¬ (t383 = t387 && (t384 == t388 && (t385 == t389 && (t386 == t390)))) := by simpa using c30))
      clear c30
      exact absurd H (by simp)
    ·
     rw [if_neg c27] at H
     have c27b0 : (t381 == t382) = false := by simpa using c27
     (try (have c27b1 : decide (t381 = t382) = false := by simpa using c27))
     (try (have c27b2 : (t381 == t382) = false := by simpa using c27))
     (try (have c27b3 : ¬ (t381 = t382) := by simpa using c27))
     clear c27
     exact absurd H (by simp)

end Go.Proofs.Ytmockeaiccpogaa.All
