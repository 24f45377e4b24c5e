-- The texts behind this claim's law, put together by a program of this session (shake.py): what no text uses is left out. Its words are print.sh's.
import Derived.Test.YtmockeaiccpogaaSk16
section
namespace Go.Proofs.Ytmockeaiccpogaa.All
open Go.Proofs.YtmockeaiccpogaaSq
open Go.RowKit Go.Proofs.YtmockeaiccpogaaW.PrintWords Go.Proofs.YtmockeaiccpogaaW.PrintLast Go.Proofs.YtmockeaiccpogaaW.PrintMore
attribute [local go_sem] max2_int min2_int max_two min_two max_three min_three max_four min_four
set_option linter.unusedVariables false
set_option linter.unusedSimpArgs false
abbrev zq61.q0 := Go.Proofs.YtmockeaiccpogaaHand.bz 11 0
abbrev zq61.q1 := Go.Proofs.YtmockeaiccpogaaHand.bz 11 1
abbrev zq61.q2 := Go.Proofs.YtmockeaiccpogaaHand.bz 11 5
abbrev zq61.q3 := Go.Proofs.YtmockeaiccpogaaHand.bz 11 37
abbrev zq61.q4 := Go.Proofs.YtmockeaiccpogaaHand.bz 11 39
abbrev zq61.q5 := Go.Proofs.YtmockeaiccpogaaHand.bz 11 47
abbrev zq61.q6 := Go.Proofs.YtmockeaiccpogaaHand.bz 11 111
abbrev zq61.q7 := Go.Proofs.YtmockeaiccpogaaHand.bz 11 1023
abbrev zq61.q8 := Go.Proofs.YtmockeaiccpogaaHand.bz 11 127
abbrev zq61.q9 := Go.Proofs.YtmockeaiccpogaaHand.bz 11 623
abbrev zq61.q10 := Go.Proofs.YtmockeaiccpogaaHand.bz 11 255
abbrev zq61.q11 := Go.Proofs.YtmockeaiccpogaaHand.bz 11 639
abbrev zq61.q12 := Go.Proofs.YtmockeaiccpogaaHand.bz 11 511
abbrev zq61.q13 := Go.Proofs.YtmockeaiccpogaaHand.bz 11 767
abbrev zq61.q14 := Go.Proofs.YtmockeaiccpogaaHand.bz 11 2047
mutual
def compositorref09_put.j0 : Nat → Int → Int → Bool → Bool → Int → Int → List (S43) → Int → Int → List (S43) → Option (Int × Int × (List (S43)) × Int)
 | 0, _, _, _, _, _, _, _, _, _, _ => none
 | k + 1, x2, x3, x4, x23, x541000, x541001, x541002, x542000, x542001, x542002 => if x23 = true then (some (0, 0, ([] : List (S43)), 15)) else ((some (([] : List (S43)) : List (S43))).bind fun y545 => (if y545.length + x541002.length < 35184372088832 then (compositorref09_put.l0 k (mx (-1000) (mn x2 1000)) (mx (-1000) (mn x3 1000)) x4 0 x541000 x541001 x541002 x542000 x542001 x542002 x541000 x541001 (y545 ++ x541002)) else (none)))
def compositorref09_put.l0 : Nat → Int → Int → Bool → Int → Int → Int → List (S43) → Int → Int → List (S43) → Int → Int → List (S43) → Option (Int × Int × (List (S43)) × Int)
 | 0, _, _, _, _, _, _, _, _, _, _, _, _, _ => none
 | k + 1, x2, x3, x4, x13, x541000, x541001, x541002, x542000, x542001, x542002, x552000, x552001, x552002 => if x13 < x541001 then (compositorref09_put.l1 k x2 x3 x4 x13 0 x541000 x541001 x541002 x542000 x542001 x542002 x552000 x552001 x552002) else (some (x552000, x552001, x552002, 0))
def compositorref09_put.l1 : Nat → Int → Int → Bool → Int → Int → Int → Int → List (S43) → Int → Int → List (S43) → Int → Int → List (S43) → Option (Int × Int × (List (S43)) × Int)
 | 0, _, _, _, _, _, _, _, _, _, _, _, _, _, _ => none
 | k + 1, x2, x3, x4, x13, x14, x541000, x541001, x541002, x542000, x542001, x542002, x552000, x552001, x552002 => if x14 < x541000 then (if (wrap64 (x14 - x2)) < 0 then (compositorref09_put.j3 k x2 x3 x4 x13 x14 true x541000 x541001 x541002 x542000 x542001 x542002 x552000 x552001 x552002) else (if (wrap64 (x14 - x2)) ≥ x542000 then (compositorref09_put.j3 k x2 x3 x4 x13 x14 true x541000 x541001 x541002 x542000 x542001 x542002 x552000 x552001 x552002) else (if (wrap64 (x13 - x3)) < 0 then (compositorref09_put.j3 k x2 x3 x4 x13 x14 true x541000 x541001 x541002 x542000 x542001 x542002 x552000 x552001 x552002) else (compositorref09_put.j3 k x2 x3 x4 x13 x14 (decide ((wrap64 (x13 - x3)) ≥ x542001)) x541000 x541001 x541002 x542000 x542001 x542002 x552000 x552001 x552002)))) else (compositorref09_put.l0 k x2 x3 x4 (wrap64 (x13 + 1)) x541000 x541001 x541002 x542000 x542001 x542002 x552000 x552001 x552002)
def compositorref09_put.j3 : Nat → Int → Int → Bool → Int → Int → Bool → Int → Int → List (S43) → Int → Int → List (S43) → Int → Int → List (S43) → Option (Int × Int × (List (S43)) × Int)
 | 0, _, _, _, _, _, _, _, _, _, _, _, _, _, _, _ => none
 | k + 1, x2, x3, x4, x13, x14, x77, x541000, x541001, x541002, x542000, x542001, x542002, x552000, x552001, x552002 => if x77 = true then (compositorref09_put.l1 k x2 x3 x4 x13 (wrap64 (x14 + 1)) x541000 x541001 x541002 x542000 x542001 x542002 x552000 x552001 x552002) else ((compositorref09_At.f x542000 x542001 x542002 (wrap64 (x14 - x2)) (wrap64 (x13 - x3))).bind fun bt552 => (if x4 = true then ((compositorref09_At.f x541000 x541001 x541002 x14 x13).bind fun bt557 => ((compositorref08_Over.f bt552.1 bt552.2.1 bt552.2.2.1 bt552.2.2.2 bt557.1 bt557.2.1 bt557.2.2.1 bt557.2.2.2).bind fun bt561 => (if 0 ≤ (wrap64 ((wrap64 (x13 * x541000)) + x14)) then (if (wrap64 ((wrap64 (x13 * x541000)) + x14)) < (x552002.length : Int) then (compositorref09_put.l1 k x2 x3 x4 x13 (wrap64 (x14 + 1)) x541000 x541001 x541002 x542000 x542001 x542002 x552000 x552001 (x552002.set ((wrap64 ((wrap64 (x13 * x541000)) + x14)) : Int).toNat (⟨bt561.1, bt561.2.1, bt561.2.2.1, bt561.2.2.2⟩ : S43))) else (none)) else (none)))) else (if 0 ≤ (wrap64 ((wrap64 (x13 * x541000)) + x14)) then (if (wrap64 ((wrap64 (x13 * x541000)) + x14)) < (x552002.length : Int) then (compositorref09_put.l1 k x2 x3 x4 x13 (wrap64 (x14 + 1)) x541000 x541001 x541002 x542000 x542001 x542002 x552000 x552001 (x552002.set ((wrap64 ((wrap64 (x13 * x541000)) + x14)) : Int).toNat (⟨bt552.1, bt552.2.1, bt552.2.2.1, bt552.2.2.2⟩ : S43))) else (none)) else (none))))
end
def compositorref09_put.f (k : Nat) (a0_0 : Int) (a0_1 : Int) (l0_2 : List (S43)) (a1_0 : Int) (a1_1 : Int) (l1_2 : List (S43)) (a2 : Int) (a3 : Int) (a4 : Bool) : Option (Int × Int × (List (S43)) × Int) := (compositorref09_Valid.f k a0_0 a0_1 l0_2).bind fun t543 => (if t543 = true then ((compositorref09_Valid.f k a1_0 a1_1 l1_2).bind fun t544 => (compositorref09_put.j0 k a2 a3 a4 (!t544) a0_0 a0_1 l0_2 a1_0 a1_1 l1_2)) else (compositorref09_put.j0 k a2 a3 a4 true a0_0 a0_1 l0_2 a1_0 a1_1 l1_2))
def compositorref09_put.T3 : Bool × List (List Nat × List Nat) := (true, [([], []), ([0], [0]), ([], []), ([2], [2]), ([], []), ([], []), ([5], [5]), ([4, 6], [4, 6]), ([1, 3, 7], [1, 3, 7]), ([], []), ([9, 8, 7, 0, 1, 2, 3, 4, 5, 6, 7, 8, 9], [8, 9])])
def compositorref09_put.B3 : List Nat := [0, 1, 0, 4, 0, 0, 32, 112, 255, 0, 1023]
theorem compositorref09_put.tab3 : rtab .any (opsOf Try.f61 3) = compositorref09_put.T3 := by kernel_rfl
theorem compositorref09_put.bits3 : waitsOk compositorref09_put.T3.2 compositorref09_put.B3 = true := by kernel_rfl
set_option maxHeartbeats 8000000 in
set_option maxRecDepth 100000 in
theorem compositorref09_put.calls (k : Nat) (a0_0 : Int) (a0_1 : Int) (A0_2 : Option Addr) (c0_2 : Nat) (l0_2 : List (S43)) (a1_0 : Int) (a1_1 : Int) (A1_2 : Option Addr) (c1_2 : Nat) (l1_2 : List (S43)) (a2 : Int) (a3 : Int) (a4 : Bool) (r1 : Int) (r2 : Int) (r3 : List (S43)) (r4 : Int) (w : World) (hr0_2 : Kd.C k43 w A0_2 l0_2.length l0_2) (hc0_2 : l0_2.length ≤ c0_2) (hr1_2 : Kd.C k43 w A1_2 l1_2.length l1_2) (hc1_2 : l1_2.length ≤ c1_2) (h : compositorref09_put.f k a0_0 a0_1 l0_2 a1_0 a1_1 l1_2 a2 a3 a4 = some (r1, r2, r3, r4)) :
  Calls Try.prog 61 #[.agg #[.int .i64 a0_0, .int .i64 a0_1, .slice A0_2 l0_2.length c0_2], .agg #[.int .i64 a1_0, .int .i64 a1_1, .slice A1_2 l1_2.length c1_2], .int .i64 a2, .int .i64 a3, .bool a4] w fun e w' => ∃ v2_ : Value, e = .returned (.tuple #[.agg #[.int .i64 r1, .int .i64 r2, v2_], .int .i64 r4]) ∧ Kd.R k43 43 w' w.heap.size (fun _ => True) v2_ r3 ∧ Below w.heap.size w w' := by
 have hu27 := Try.underlying27
 have hu43 := Try.underlying43
 have HR0_2 := Aside0.mk hr0_2
 have HC0_2 := Aside0.mk hc0_2
 clear hr0_2 hc0_2
 have HR1_2 := Aside0.mk hr1_2
 have HC1_2 := Aside0.mk hc1_2
 clear hr1_2 hc1_2
 have HB := Aside0.mk (Below.refl w.heap.size w)
 have H : ((compositorref09_Valid.f k a0_0 a0_1 l0_2).bind fun t543 => (if t543 = true then ((compositorref09_Valid.f k a1_0 a1_1 l1_2).bind fun t544 => (compositorref09_put.j0 k a2 a3 a4 (!t544) a0_0 a0_1 l0_2 a1_0 a1_1 l1_2)) else (compositorref09_put.j0 k a2 a3 a4 true a0_0 a0_1 l0_2 a1_0 a1_1 l1_2))) = some (r1, r2, r3, r4) := h
 clear h
 have HC6 := Aside0.mk H
 clear H
 go_enter Try.func61, Try.ntmps61
 go_upto_region 1 with (first | ((with_reducible refine gate_dst (N := 5) rfl ?_); refine box_event ?hg (N := 5) ?hd (cs := #[.int .i64 a0_0, .int .i64 a0_1, .slice A0_2 l0_2.length c0_2]) (t := 27) ?hr ?_; (case hd => rfl); (case hg => rfl); (case hr => first | (go_simp; done) | (go_simp; rfl)); intro gb540 hg w7 hbox hb; have n0_ := hb_ HB hb; have n1_ := Aside0.mk (hbox); have n2_ := Aside0.mk ((by rw [hg]; exact (below_size (hq_ HB)) : w.heap.size ≤ gb540)); have n3_ := Aside0.mk ((by rw [hg]; exact (below_size (hq_ HB)) : w.heap.size ≤ gb540)); clear HB; have HB := n0_; have BK540 := n1_; have GW540 := n2_; have GE540 := n3_; clear n0_ n1_ n2_ n3_; clear hb hbox hg) | ((with_reducible refine gate_dst (N := 6) rfl ?_); refine box_event ?hg (N := 6) ?hd (cs := #[.int .i64 a1_0, .int .i64 a1_1, .slice A1_2 l1_2.length c1_2]) (t := 27) ?hr ?_; (case hd => rfl); (case hg => rfl); (case hr => first | (go_simp; done) | (go_simp; rfl)); intro gb541 hg w8 hbox hb; have n0_ := bb_ BK540 hb; have n1_ := hb_ HB hb; have n2_ := Aside0.mk (hbox); have n3_ := Aside0.mk ((by rw [hg]; exact (below_size (hq_ HB)) : w.heap.size ≤ gb541)); have n4_ := Aside0.mk ((by rw [hg]; exact (below_size (hq_ HB)) : w.heap.size ≤ gb541)); have n5_ := Aside0.mk ((by rw [hg]; exact Nat.ne_of_lt (blk_lt (g := gb540) (o := .cells #[.int .i64 a0_0, .int .i64 a0_1, .slice A0_2 l0_2.length c0_2] 27 (0, 0)) (bq_ BK540)) : gb540 ≠ gb541)); have n6_ := Aside0.mk ((by rw [hg]; exact Nat.ne_of_gt (blk_lt (g := gb540) (o := .cells #[.int .i64 a0_0, .int .i64 a0_1, .slice A0_2 l0_2.length c0_2] 27 (0, 0)) (bq_ BK540)) : gb541 ≠ gb540)); clear BK540; clear HB; have BK540 := n0_; have HB := n1_; have BK541 := n2_; have GW541 := n3_; have GE541 := n4_; have NB540_541 := n5_; have NB541_540 := n6_; clear n0_ n1_ n2_ n3_ n4_ n5_ n6_; clear hb hbox hg) | ((with_reducible refine gate_dst (N := 10) rfl ?_); refine box_event ?hg (N := 10) ?hd (cs := #[.int .i64 0, .int .i64 0, .slice none 0 0]) (t := 27) ?hr ?_; (case hd => rfl); (case hg => rfl); (case hr => first | (go_simp; done) | (go_simp; rfl)); intro gb542 hg w9 hbox hb; have n0_ := bb_ BK540 hb; have n1_ := bb_ BK541 hb; have n2_ := hb_ HB hb; have n3_ := Aside0.mk (hbox); have n4_ := Aside0.mk ((by rw [hg]; exact (below_size (hq_ HB)) : w.heap.size ≤ gb542)); have n5_ := Aside0.mk ((by rw [hg]; exact (below_size (hq_ HB)) : w.heap.size ≤ gb542)); have n6_ := Aside0.mk ((by rw [hg]; exact Nat.ne_of_lt (blk_lt (g := gb540) (o := .cells #[.int .i64 a0_0, .int .i64 a0_1, .slice A0_2 l0_2.length c0_2] 27 (0, 0)) (bq_ BK540)) : gb540 ≠ gb542)); have n7_ := Aside0.mk ((by rw [hg]; exact Nat.ne_of_gt (blk_lt (g := gb540) (o := .cells #[.int .i64 a0_0, .int .i64 a0_1, .slice A0_2 l0_2.length c0_2] 27 (0, 0)) (bq_ BK540)) : gb542 ≠ gb540)); have n8_ := Aside0.mk ((by rw [hg]; exact Nat.ne_of_lt (blk_lt (g := gb541) (o := .cells #[.int .i64 a1_0, .int .i64 a1_1, .slice A1_2 l1_2.length c1_2] 27 (0, 0)) (bq_ BK541)) : gb541 ≠ gb542)); have n9_ := Aside0.mk ((by rw [hg]; exact Nat.ne_of_gt (blk_lt (g := gb541) (o := .cells #[.int .i64 a1_0, .int .i64 a1_1, .slice A1_2 l1_2.length c1_2] 27 (0, 0)) (bq_ BK541)) : gb542 ≠ gb541)); clear BK540; clear BK541; clear HB; have BK540 := n0_; have BK541 := n1_; have HB := n2_; have BK542 := n3_; have GW542 := n4_; have GE542 := n5_; have NB540_542 := n6_; have NB542_540 := n7_; have NB541_542 := n8_; have NB542_541 := n9_; clear n0_ n1_ n2_ n3_ n4_ n5_ n6_ n7_ n8_ n9_; clear hb hbox hg))
 (try simp only [Act.put, List.setIfInBounds_toArray, List.set_cons_zero, List.set_cons_succ])
 go_cut [23] (fun v23 wc => ∃ (kq : Nat) (x23_5 : Bool), v23 = .bool x23_5 ∧ Aside0 (compositorref09_put.j0 kq a2 a3 a4 x23_5 a0_0 a0_1 l0_2 a1_0 a1_1 l1_2 = some (r1, r2, r3, r4)) ∧ Aside0 (kq ≤ k) ∧ Aside0 (wc.heap[gb540]? = some (.cells #[.int .i64 a0_0, .int .i64 a0_1, (.slice A0_2 l0_2.length c0_2)] 27 (0, 0))) ∧ Aside0 (wc.heap[gb541]? = some (.cells #[.int .i64 a1_0, .int .i64 a1_1, (.slice A1_2 l1_2.length c1_2)] 27 (0, 0))) ∧ Aside0 (wc.heap[gb542]? = some (.cells #[.int .i64 0, .int .i64 0, (.slice none 0 0)] 27 (0, 0))) ∧ Aside0 (Below w.heap.size w wc))
 case first =>
  have H := HC6.out
  clear HC6
  replace H := Option.bind_eq_some_iff.mp H
  obtain ⟨t543, A100, H⟩ := H
  try dsimp only at H
  have A10 := Aside0.mk A100
  clear A100
  by_cases c11 : t543 = true
  ·
   subst c11
   have H1 : ((compositorref09_Valid.f k a1_0 a1_1 l1_2).bind fun t544 => (compositorref09_put.j0 k a2 a3 a4 (!t544) a0_0 a0_1 l0_2 a1_0 a1_1 l1_2)) = some (r1, r2, r3, r4) := by rw [if_pos rfl] at H; exact H
   clear H
   have H := H1
   clear H1
   replace H := Option.bind_eq_some_iff.mp H
   obtain ⟨t544, A120, H⟩ := H
   try dsimp only at H
   have A12 := Aside0.mk A120
   clear A120
   have H' := Aside0.mk H
   clear H
   have hnb13 := NB540_541.out
   have hnc13 := NB541_540.out
   have hnb14 := NB540_542.out
   have hnc14 := NB542_540.out
   have hcz15_0 : w9.cell? ⟨gb540, 0, none⟩ = some (.int .i64 a0_0) := (blk_cell BK540.out 0).trans rfl
   have hcz15_1 : w9.cell? ⟨gb540, 1, none⟩ = some (.int .i64 a0_1) := (blk_cell BK540.out 1).trans rfl
   have hcz15_2 : w9.cell? ⟨gb540, 2, none⟩ = some (.slice A0_2 l0_2.length c0_2) := (blk_cell BK540.out 2).trans rfl
   have hfz15_0 := blk_frozen BK540.out 0
   have hfz15_1 := blk_frozen BK540.out 1
   have hfz15_2 := blk_frozen BK540.out 2
   go_wp2_with (first | ((with_reducible refine gate_callee (f := 25) rfl ?_); refine goesL_ (some 17) rfl rfl Try.func25 (by kernel_rfl) rfl #[.agg #[.int .i64 a0_0, .int .i64 a0_1, .slice A0_2 l0_2.length c0_2]] rfl (by (try simp only [List.map_toArray, List.map_cons, List.map_nil]) <;> rfl) ?_; (with_reducible refine (compositorref09_Valid.calls k a0_0 a0_1 _ _ l0_2 true _ ?side1 ?side2 A10.out).mono ?_); (case side1 => repeat (first | exact (Kd.C_below HR0_2.out HB.out) | (with_reducible refine Kd.C_alloc ?_ _) | (with_reducible refine Kd.C_drewN ?_ _) | (with_reducible refine Kd.C_drew ?_))); (case side2 => exact HC0_2.out); rintro e w16 ⟨rfl, hb⟩; refine ⟨_, rfl, ?_⟩; have n0_ := bb_ BK540 hb; have n1_ := bb_ BK541 hb; have n2_ := bb_ BK542 hb; have n3_ := hb_ HB hb; clear BK540; clear BK541; clear BK542; clear HB; have BK540 := n0_; have BK541 := n1_; have BK542 := n2_; have HB := n3_; clear n0_ n1_ n2_ n3_; (try clear hb); (try clear hb2); (try clear hk); (try clear hi); have hnb17 := NB541_542.out; have hnc17 := NB542_541.out; have hcz18_0 : w16.cell? ⟨gb541, 0, none⟩ = some (.int .i64 a1_0) := (blk_cell BK541.out 0).trans rfl; have hcz18_1 : w16.cell? ⟨gb541, 1, none⟩ = some (.int .i64 a1_1) := (blk_cell BK541.out 1).trans rfl; have hcz18_2 : w16.cell? ⟨gb541, 2, none⟩ = some (.slice A1_2 l1_2.length c1_2) := (blk_cell BK541.out 2).trans rfl; have hfz18_0 := blk_frozen BK541.out 0; have hfz18_1 := blk_frozen BK541.out 1; have hfz18_2 := blk_frozen BK541.out 2) | (go_at_call 25; (with_reducible refine (compositorref09_Valid.calls k a1_0 a1_1 _ _ l1_2 t544 _ ?side1 ?side2 A12.out).mono ?_); (case side1 => repeat (first | exact (Kd.C_below HR1_2.out HB.out) | (with_reducible refine Kd.C_alloc ?_ _) | (with_reducible refine Kd.C_drewN ?_ _) | (with_reducible refine Kd.C_drew ?_))); (case side2 => exact HC1_2.out); rintro e w19 ⟨rfl, hb⟩; have n0_ := bb_ BK540 hb; have n1_ := bb_ BK541 hb; have n2_ := bb_ BK542 hb; have n3_ := hb_ HB hb; clear BK540; clear BK541; clear BK542; clear HB; have BK540 := n0_; have BK541 := n1_; have BK542 := n2_; have HB := n3_; clear n0_ n1_ n2_ n3_; (try clear hb); (try clear hb2); (try clear hk); (try clear hi)))
   go_meet
   case rel => exact ⟨_, (!t544), (by first | rfl | (simp; done) | (simp [*]; done)), H', ⟨by first | omega | exact Nat.le_refl _⟩, bf_ BK540, bf_ BK541, bf_ BK542, ⟨by repeat (first | (with_reducible first | exact HB.out | apply below_alloc | apply pw_below_drewN | apply below_drew1 | refine below_set ?_ GE540.out | refine below_set ?_ GE541.out | refine below_set ?_ GE542.out) | exact HB.out)⟩⟩
  ·
   replace c11 := Bool.eq_false_iff.mpr c11
   subst c11
   have H1 : (compositorref09_put.j0 k a2 a3 a4 true a0_0 a0_1 l0_2 a1_0 a1_1 l1_2) = some (r1, r2, r3, r4) := by rw [if_neg (show ¬ (false = true) by decide)] at H; exact H
   clear H
   have H := H1
   clear H1
   have H' := Aside0.mk H
   clear H
   have hnb20 := NB540_541.out
   have hnc20 := NB541_540.out
   have hnb21 := NB540_542.out
   have hnc21 := NB542_540.out
   have hcz22_0 : w9.cell? ⟨gb540, 0, none⟩ = some (.int .i64 a0_0) := (blk_cell BK540.out 0).trans rfl
   have hcz22_1 : w9.cell? ⟨gb540, 1, none⟩ = some (.int .i64 a0_1) := (blk_cell BK540.out 1).trans rfl
   have hcz22_2 : w9.cell? ⟨gb540, 2, none⟩ = some (.slice A0_2 l0_2.length c0_2) := (blk_cell BK540.out 2).trans rfl
   have hfz22_0 := blk_frozen BK540.out 0
   have hfz22_1 := blk_frozen BK540.out 1
   have hfz22_2 := blk_frozen BK540.out 2
   go_wp2_with (first | ((with_reducible refine gate_callee (f := 25) rfl ?_); refine goesL_ (some 17) rfl rfl Try.func25 (by kernel_rfl) rfl #[.agg #[.int .i64 a0_0, .int .i64 a0_1, .slice A0_2 l0_2.length c0_2]] rfl (by (try simp only [List.map_toArray, List.map_cons, List.map_nil]) <;> rfl) ?_; (with_reducible refine (compositorref09_Valid.calls k a0_0 a0_1 _ _ l0_2 false _ ?side1 ?side2 A10.out).mono ?_); (case side1 => repeat (first | exact (Kd.C_below HR0_2.out HB.out) | (with_reducible refine Kd.C_alloc ?_ _) | (with_reducible refine Kd.C_drewN ?_ _) | (with_reducible refine Kd.C_drew ?_))); (case side2 => exact HC0_2.out); rintro e w23 ⟨rfl, hb⟩; refine ⟨_, rfl, ?_⟩; have n0_ := bb_ BK540 hb; have n1_ := bb_ BK541 hb; have n2_ := bb_ BK542 hb; have n3_ := hb_ HB hb; clear BK540; clear BK541; clear BK542; clear HB; have BK540 := n0_; have BK541 := n1_; have BK542 := n2_; have HB := n3_; clear n0_ n1_ n2_ n3_; (try clear hb); (try clear hb2); (try clear hk); (try clear hi)))
   go_meet
   case rel => exact ⟨_, (true), (by first | rfl | (simp; done) | (simp [*]; done)), H', ⟨by first | omega | exact Nat.le_refl _⟩, bf_ BK540, bf_ BK541, bf_ BK542, ⟨by repeat (first | (with_reducible first | exact HB.out | apply below_alloc | apply pw_below_drewN | apply below_drew1 | refine below_set ?_ GE540.out | refine below_set ?_ GE541.out | refine below_set ?_ GE542.out) | exact HB.out)⟩⟩
 case rest =>
  clear HC6
  try clear c1
  try clear c2
  try clear p2
  try clear c6
  try clear c11
  try clear c13
  try clear c14
  try clear c17
  try clear c20
  try clear c21
  try clear hcz15_0
  try clear hcz15_1
  try clear hcz15_2
  try clear hcz18_0
  try clear hcz18_1
  try clear hcz18_2
  try clear hcz22_0
  try clear hcz22_1
  try clear hcz22_2
  try clear hfz15_0
  try clear hfz15_1
  try clear hfz15_2
  try clear hfz18_0
  try clear hfz18_1
  try clear hfz18_2
  try clear hfz22_0
  try clear hfz22_1
  try clear hfz22_2
  obtain ⟨kq, x23_5, rfl, HA, HJ5, BK540, BK541, BK542, HB⟩ := hcut
  cases kq with
  | zero => exact absurd HA.out (by simp [compositorref09_put.j0])
  | succ kj5 =>
   have H := HA.out
   clear HA
   simp only [compositorref09_put.j0] at H
   by_cases c24 : x23_5 = true
   ·
    subst c24
    have H1 : (some (0, 0, ([] : List (S43)), 15)) = some (r1, r2, r3, r4) := by rw [if_pos rfl] at H; exact H
    clear H
    have H := H1
    clear H1
    simp only [Option.some.injEq, Prod.mk.injEq] at H
    obtain ⟨rfl, rfl, rfl, rfl⟩ := H
    have hnb25 := NB542_540.out
    have hnc25 := NB540_542.out
    have hnb26 := NB542_541.out
    have hnc26 := NB541_542.out
    have hcz27_0 : wc.cell? ⟨gb542, 0, none⟩ = some (.int .i64 0) := (blk_cell BK542.out 0).trans rfl
    have hcz27_1 : wc.cell? ⟨gb542, 1, none⟩ = some (.int .i64 0) := (blk_cell BK542.out 1).trans rfl
    have hcz27_2 : wc.cell? ⟨gb542, 2, none⟩ = some (.slice none 0 0) := (blk_cell BK542.out 2).trans rfl
    have hfz27_0 := blk_frozen BK542.out 0
    have hfz27_1 := blk_frozen BK542.out 1
    have hfz27_2 := blk_frozen BK542.out 2
    go_wp2
    refine bodyPost_ret (results_ct rfl _ _ gb542 27 #[.int .i64 0, .int .i64 0, .slice none 0 0] (0, 0) _ rfl (by (with_reducible repeat (first | refine blk_drewN ?_ _ | refine blk_drew ?_ | refine blk_alloc ?_ _)); refine blk_put (cs := #[.int .i64 0, .int .i64 0, .slice none 0 0]) ?_ 2 _ rfl; (with_reducible repeat (first | refine blk_drewN ?_ _ | refine blk_drew ?_ | refine blk_alloc ?_ _)); refine blk_put (cs := #[.int .i64 0, .int .i64 0, .slice none 0 0]) ?_ 1 _ rfl; (with_reducible repeat (first | refine blk_drewN ?_ _ | refine blk_drew ?_ | refine blk_alloc ?_ _)); refine blk_put (cs := #[.int .i64 0, .int .i64 0, .slice none 0 0]) ?_ 0 _ rfl; (with_reducible repeat (first | refine blk_drewN ?_ _ | refine blk_drew ?_ | refine blk_alloc ?_ _)); exact BK542.out) Try.underlying27 rfl (by kernel_rfl)) rfl ?_
    exact ⟨_, by first | rfl | (simp [errW_none, errW_some] <;> rfl) | (simp [*, errW_none, errW_some] <;> rfl), by first | exact Kd.R_nil _ _ _ _ _ | exact Kd.N_nil _ _ _ _ _ | exact Kd.V_nil _ _ _ _ _ | exact Kd.Q_nil _ _ _ _ _ | exact Kd.S_nil _ _ _ _ _, by repeat (first | (with_reducible first | exact HB.out | apply below_alloc | apply pw_below_drewN | apply below_drew1 | refine below_set ?_ GE540.out | refine below_set ?_ GE541.out | refine below_set ?_ GE542.out) | exact HB.out)⟩
   ·
    replace c24 := Bool.eq_false_iff.mpr c24
    subst c24
    have H1 : ((some (([] : List (S43)) : List (S43))).bind fun y545 => (if y545.length + l0_2.length < 35184372088832 then (compositorref09_put.l0 kj5 (mx (-1000) (mn a2 1000)) (mx (-1000) (mn a3 1000)) a4 0 a0_0 a0_1 l0_2 a1_0 a1_1 l1_2 a0_0 a0_1 (y545 ++ l0_2)) else (none))) = some (r1, r2, r3, r4) := by rw [if_neg (show ¬ (false = true) by decide)] at H; exact H
    clear H
    have H := H1
    clear H1
    obtain ⟨y545, hy545⟩ : ∃ y_ : List (S43), y_ = (([] : List (S43))) := ⟨_, rfl⟩
    replace H : (if y545.length + l0_2.length < 35184372088832 then (compositorref09_put.l0 kj5 (mx (-1000) (mn a2 1000)) (mx (-1000) (mn a3 1000)) a4 0 a0_0 a0_1 l0_2 a1_0 a1_1 l1_2 a0_0 a0_1 (y545 ++ l0_2)) else (none)) = some (r1, r2, r3, r4) := by first | (rw [hy545]; with_reducible exact H) | (have H2_ := (Option.bind_some _ _).symm.trans H; rw [hy545]; with_reducible exact H2_) | (have H2_ := (Option.bind_some _ _).symm.trans H; with_reducible exact H2_) | with_reducible exact H | (rw [hy545]; exact H) | exact H
    have Ny545 := Aside0.mk hy545
    clear hy545
    by_cases c28 : y545.length + l0_2.length < 35184372088832
    ·
     rw [if_pos c28] at H
     have LMc28 := Aside0.mk c28
     clear c28
     obtain ⟨y548, hy548⟩ : ∃ y_ : List (S43), y_ = (y545 ++ l0_2) := ⟨_, rfl⟩
     replace H : (compositorref09_put.l0 kj5 (mx (-1000) (mn a2 1000)) (mx (-1000) (mn a3 1000)) a4 0 a0_0 a0_1 l0_2 a1_0 a1_1 l1_2 a0_0 a0_1 y548) = some (r1, r2, r3, r4) := by first | (rw [hy548]; with_reducible exact H) | (have H2_ := (Option.bind_some _ _).symm.trans H; rw [hy548]; with_reducible exact H2_) | (have H2_ := (Option.bind_some _ _).symm.trans H; with_reducible exact H2_) | with_reducible exact H | (rw [hy548]; exact H) | exact H
     have Ny548 := Aside0.mk hy548
     clear hy548
     obtain ⟨ji29, hji29⟩ : ∃ j_ : Int, (mn a2 1000) = j_ := ⟨_, rfl⟩
     replace H : (compositorref09_put.l0 kj5 (mx (-1000) (ji29)) (mx (-1000) (mn a3 1000)) a4 0 a0_0 a0_1 l0_2 a1_0 a1_1 l1_2 a0_0 a0_1 y548) = some (r1, r2, r3, r4) := by first | (rw [hji29] at H; exact H) | (simp only [hji29] at H ⊢; exact H)
     have hji29_ : (if 1000 < a2 then 1000 else a2) = ji29 := hji29
     obtain ⟨ji30, hji30⟩ : ∃ j_ : Int, (mx (-1000) (ji29)) = j_ := ⟨_, rfl⟩
     replace H : (compositorref09_put.l0 kj5 ji30 (mx (-1000) (mn a3 1000)) a4 0 a0_0 a0_1 l0_2 a1_0 a1_1 l1_2 a0_0 a0_1 y548) = some (r1, r2, r3, r4) := by first | (rw [hji30] at H; exact H) | (simp only [hji30] at H ⊢; exact H)
     have hji30_ : (if (-1000) < (ji29) then (ji29) else (-1000)) = ji30 := hji30
     obtain ⟨ji31, hji31⟩ : ∃ j_ : Int, (mn a3 1000) = j_ := ⟨_, rfl⟩
     replace H : (compositorref09_put.l0 kj5 ji30 (mx (-1000) (ji31)) a4 0 a0_0 a0_1 l0_2 a1_0 a1_1 l1_2 a0_0 a0_1 y548) = some (r1, r2, r3, r4) := by first | (rw [hji31] at H; exact H) | (simp only [hji31] at H ⊢; exact H)
     have hji31_ : (if 1000 < a3 then 1000 else a3) = ji31 := hji31
     obtain ⟨ji32, hji32⟩ : ∃ j_ : Int, (mx (-1000) (ji31)) = j_ := ⟨_, rfl⟩
     replace H : (compositorref09_put.l0 kj5 ji30 ji32 a4 0 a0_0 a0_1 l0_2 a1_0 a1_1 l1_2 a0_0 a0_1 y548) = some (r1, r2, r3, r4) := by first | (rw [hji32] at H; exact H) | (simp only [hji32] at H ⊢; exact H)
     have hji32_ : (if (-1000) < (ji31) then (ji31) else (-1000)) = ji32 := hji32
     have H' := Aside0.mk H
     clear H
     try go_wp2
     replace BK540 := Aside0.mk (blk_drew BK540.out)
     replace BK541 := Aside0.mk (blk_drew BK541.out)
     replace BK542 := Aside0.mk (blk_drew BK542.out)
     replace HB := Aside0.mk (below_drew1 HB.out)
     refine start_ (n := 11) (S := fun w' => w'.cell? ⟨gb540, 0, none⟩ = some (.int .i64 a0_0) ∧ w'.cell? ⟨gb540, 1, none⟩ = some (.int .i64 a0_1) ∧ w'.cell? ⟨gb540, 2, none⟩ = some (.slice A0_2 l0_2.length c0_2)) (ds := []) zq61.q0 (by kernel_rfl) rfl rfl ⟨c_ BK540 0, ⟨c_ BK540 1, (c_ BK540 2)⟩⟩ (fun hHeld => ?_); refine with_tabW compositorref09_put.tab3 compositorref09_put.bits3 (fun HT_ HW_ => ?_)
     generalize wc.drew = w33 at BK540 BK541 BK542 HB hHeld ⊢
     refine pv_ 0 25 zq61.q1 HT_ ?_
     refine pv_ 2 27 zq61.q2 HT_ ?_
     refine pv_ 5 30 zq61.q3 HT_ ?_
     refine take_ (i := 1) (N := some 26) (v := ?_) (a' := ?_) zq61.q4 rfl rfl (take_ofW HT_.out HW_.out (by kernel_rfl)) (fun _ _ _ h => h) (Or.inl ⟨by rfl, ?_⟩) hHeld ?_ ?_
     rotate_left
     ·
      rintro w' ⟨s0, s1, s2⟩
      go_simp
      with_reducible rfl
     rotate_left
     ·
      simp only [Act.put, List.setIfInBounds_toArray, List.set_cons_zero, List.set_cons_succ, i64_w, i32_w]
      rfl
     refine take_ (i := 3) (N := some 28) (v := ?_) (a' := ?_) zq61.q5 rfl rfl (take_ofW HT_.out HW_.out (by kernel_rfl)) (fun _ _ _ h => h) (Or.inl ⟨by rfl, ?_⟩) hHeld ?_ ?_
     rotate_left
     ·
      rintro w' ⟨s0, s1, s2⟩
      go_simp
      with_reducible rfl
     rotate_left
     ·
      simp only [Act.put, List.setIfInBounds_toArray, List.set_cons_zero, List.set_cons_succ, i64_w, i32_w]
      rfl
     refine take_ (i := 6) (N := some 31) (v := ?_) (a' := ?_) zq61.q6 rfl rfl (take_ofW HT_.out HW_.out (by kernel_rfl)) (fun _ _ _ h => h) (Or.inl ⟨by rfl, ?_⟩) hHeld ?_ ?_
     rotate_left
     ·
      rintro w' ⟨s0, s1, s2⟩
      go_simp
      with_reducible rfl
     rotate_left
     ·
      simp only [Act.put, List.setIfInBounds_toArray, List.set_cons_zero, List.set_cons_succ, i64_w, i32_w]
      rfl
     refine join_ (σ := Value × Value × Nat) 1 zq61.q7 (fun s_ => [(29, s_.1), (32, s_.2.1), (12, .pointer (some ⟨s_.2.2, 0, none⟩)), (33, .agg #[.int .i64 a0_0, .int .i64 a0_1, s_.2.1])]) (fun s_ w' => (w'.cell? ⟨gb540, 0, none⟩ = some (.int .i64 a0_0) ∧ w'.cell? ⟨gb540, 1, none⟩ = some (.int .i64 a0_1) ∧ w'.cell? ⟨gb540, 2, none⟩ = some (.slice A0_2 l0_2.length c0_2)) ∧ (Kd.R k43 43 w' w.heap.size (fun _ => True) s_.2.1 y548) ∧ (w'.heap[gb540]? = some (.cells #[.int .i64 a0_0, .int .i64 a0_1, .slice A0_2 l0_2.length c0_2] 27 (0, 0))) ∧ (w'.heap[gb541]? = some (.cells #[.int .i64 a1_0, .int .i64 a1_1, .slice A1_2 l1_2.length c1_2] 27 (0, 0))) ∧ (w'.heap[gb542]? = some (.cells #[.int .i64 0, .int .i64 0, .slice none 0 0] 27 (0, 0))) ∧ (w'.heap[s_.2.2]? = some (.cells #[.int .i64 0, .int .i64 0, .slice none 0 0] 27 (0, 0))) ∧ (w.heap.size ≤ s_.2.2) ∧ (w.heap.size ≤ s_.2.2) ∧ (gb540 ≠ s_.2.2) ∧ (s_.2.2 ≠ gb540) ∧ (gb541 ≠ s_.2.2) ∧ (s_.2.2 ≠ gb541) ∧ (gb542 ≠ s_.2.2) ∧ (s_.2.2 ≠ gb542) ∧ (Below w.heap.size w w')) ?_ ?_
     rotate_left
     ·
      intro hCont
      refine two_ (i := 4) (j := 9) (Ni := some 29) (Nj := some 12) zq61.q8 zq61.q9 rfl rfl rfl rfl (two_of HT_.out (by kernel_rfl)) (by decide) (by decide) (fun K hK => ?_) (fun K hK => ?_)
      ·
       refine Kd.R_lit_step k43 _ 43 ?hg (N := 29) ?hd (xs := ([] : List (S43))) (inner := []) (ok := fun _ => True) (okp := fun _ => True) ?hr ?hp (fun _ hk => hk) trivial (Below.refl _ _) (Nat.le_refl _) (by simp) ?_; (case hd => rfl); (case hg => rfl); (case hr => first | (go_simp; done) | (go_simp; rfl)); (case hp => exact (Reps.none _ _))
       intro v546 w34 ho35 hb hg_ hnew_
       clear hg_ hnew_
       (first | rw [← Ny545.out] at ho35 | (simp only [Int.reduceToNat] at ho35; rw [← Ny545.out] at ho35))
       have HO547 := Aside0.mk (Kd.R_lower ho35 (below_size (hq_ HB)))
       replace BK540 := bb_ BK540 hb
       replace BK541 := bb_ BK541 hb
       replace BK542 := bb_ BK542 hb
       replace HB := hb_ HB hb
       clear hb ho35
       refine hK.out _ _ ⟨c_ BK540 0, ⟨c_ BK540 1, (c_ BK540 2)⟩⟩ (fun hHeld => ?_)
       clear hK K
       refine norm_ (a' := ?_) ?_ ?_
       rotate_left
       ·
        show Act.put _ (some 29) _ = _
        simp only [Act.put, List.setIfInBounds_toArray, List.set_cons_zero, List.set_cons_succ, i64_w, i32_w]
        rfl
       refine two_ (i := 7) (j := 9) (Ni := some 32) (Nj := some 12) zq61.q10 zq61.q11 rfl rfl rfl rfl (two_of HT_.out (by kernel_rfl)) (by decide) (by decide) (fun K hK => ?_) (fun K hK => ?_)
       ·
        refine Kd.R_append_rows_step k43 (w0 := w) w.heap.size (by rfl) (.tmp 29) (.tmp 31) 25 43 (.agg #[(.int .u8 0), (.int .u8 0), (.int .u8 0), (.int .u8 0)]) 4 rfl Try.underlying25 info43 rfl (by decide) (by omega) v546 y545 l0_2 _ _ _ (fun _ => True) (fun _ => False) rfl rfl ?aO ?aR (fun _ _ h => h) (fun _ h => h.elim) ?aF ?aB ?aS ?aL ?_
        (case aR => repeat (first | exact (Kd.C_below HR0_2.out HB.out) | (with_reducible refine Kd.C_alloc ?_ _) | (with_reducible refine Kd.C_drewN ?_ _) | (with_reducible refine Kd.C_drew ?_)))
        (case aB => exact (hq_ HB))
        (case aF => exact (fun _ _ => trivial))
        (case aO => exact (by (with_reducible repeat (first | apply Kd.R_alloc | apply Kd.R_drewN | apply Kd.R_drew)); exact HO547.out))
        (case aS => exact (below_size (hq_ HB)))
        (case aL => have := LMc28.out; omega)
        intro v549 w36 ho hb hg hat
        rw [← Ny548.out] at ho
        replace BK540 := Aside0.mk (blk_grown (g := gb540) (o := .cells #[.int .i64 a0_0, .int .i64 a0_1, .slice A0_2 l0_2.length c0_2] 27 (0, 0)) (bq_ BK540) hg (Kd.R_ne HO547.out BK540.out (by decide)))
        replace BK541 := Aside0.mk (blk_grown (g := gb541) (o := .cells #[.int .i64 a1_0, .int .i64 a1_1, .slice A1_2 l1_2.length c1_2] 27 (0, 0)) (bq_ BK541) hg (Kd.R_ne HO547.out BK541.out (by decide)))
        replace BK542 := Aside0.mk (blk_grown (g := gb542) (o := .cells #[.int .i64 0, .int .i64 0, .slice none 0 0] 27 (0, 0)) (bq_ BK542) hg (Kd.R_ne HO547.out BK542.out (by decide)))
        replace HB := Aside0.mk (hb)
        have HO550 := Aside0.mk (ho)
        clear HO547
        clear ho hb hg hat
        obtain ⟨Ao37, co37, eo37⟩ := Kd.R_slice HO550.out
        (first | subst eo37 | (injection eo37 with f1_ f2_ f3_; have f4_ := f1_.symm; have f5_ := f3_.symm; clear f1_ f2_ f3_; subst f4_; subst f5_))
        refine hK.out _ _ ⟨c_ BK540 0, ⟨c_ BK540 1, (c_ BK540 2)⟩⟩ (fun hHeld => ?_)
        clear hK K
        refine norm_ (a' := ?_) ?_ ?_
        rotate_left
        ·
         show Act.put _ (some 32) _ = _
         simp only [Act.put, List.setIfInBounds_toArray, List.set_cons_zero, List.set_cons_succ, i64_w, i32_w]
         rfl
        refine pv_ 8 33 zq61.q12 HT_ ?_
        refine one_ (i := 9) (N := some 12) zq61.q7 rfl rfl (one_of HT_.out (by kernel_rfl)) (by decide) (fun K hK => ?_)
        refine box_step ?hg (N := 12) ?hd (cs := #[.int .i64 0, .int .i64 0, .slice none 0 0]) (t := 27) ?hr ?_; (case hd => rfl); (case hg => rfl); (case hr => first | (go_simp; done) | (go_simp; rfl))
        intro gb551 hg w38 hbox hb
        replace HO550 := Aside0.mk (Kd.R_below (by (with_reducible repeat (first | apply Kd.R_alloc | apply Kd.R_drewN | apply Kd.R_drew)); exact HO550.out) hb)
        have BK551 := Aside0.mk (hbox)
        have GW551 := Aside0.mk ((by rw [hg]; exact (below_size (hq_ HB)) : w.heap.size ≤ gb551))
        have GE551 := Aside0.mk ((by rw [hg]; exact (below_size (hq_ HB)) : w.heap.size ≤ gb551))
        replace HB := hb_ HB hb
        have NB540_551 := Aside0.mk ((by rw [hg]; exact Nat.ne_of_lt (blk_lt (g := gb540) (o := .cells #[.int .i64 a0_0, .int .i64 a0_1, .slice A0_2 l0_2.length c0_2] 27 (0, 0)) (bq_ BK540)) : gb540 ≠ gb551))
        have NB551_540 := Aside0.mk ((by rw [hg]; exact Nat.ne_of_gt (blk_lt (g := gb540) (o := .cells #[.int .i64 a0_0, .int .i64 a0_1, .slice A0_2 l0_2.length c0_2] 27 (0, 0)) (bq_ BK540)) : gb551 ≠ gb540))
        replace BK540 := bb_ BK540 hb
        have NB541_551 := Aside0.mk ((by rw [hg]; exact Nat.ne_of_lt (blk_lt (g := gb541) (o := .cells #[.int .i64 a1_0, .int .i64 a1_1, .slice A1_2 l1_2.length c1_2] 27 (0, 0)) (bq_ BK541)) : gb541 ≠ gb551))
        have NB551_541 := Aside0.mk ((by rw [hg]; exact Nat.ne_of_gt (blk_lt (g := gb541) (o := .cells #[.int .i64 a1_0, .int .i64 a1_1, .slice A1_2 l1_2.length c1_2] 27 (0, 0)) (bq_ BK541)) : gb551 ≠ gb541))
        replace BK541 := bb_ BK541 hb
        have NB542_551 := Aside0.mk ((by rw [hg]; exact Nat.ne_of_lt (blk_lt (g := gb542) (o := .cells #[.int .i64 0, .int .i64 0, .slice none 0 0] 27 (0, 0)) (bq_ BK542)) : gb542 ≠ gb551))
        have NB551_542 := Aside0.mk ((by rw [hg]; exact Nat.ne_of_gt (blk_lt (g := gb542) (o := .cells #[.int .i64 0, .int .i64 0, .slice none 0 0] 27 (0, 0)) (bq_ BK542)) : gb551 ≠ gb542))
        replace BK542 := bb_ BK542 hb
        clear hb hbox hg
        refine hK.out _ _ ⟨c_ BK540 0, ⟨c_ BK540 1, (c_ BK540 2)⟩⟩ (fun hHeld => ?_)
        clear hK K
        refine norm_ (a' := ?_) ?_ ?_
        rotate_left
        ·
         show Act.put _ (some 12) _ = _
         simp only [Act.put, List.setIfInBounds_toArray, List.set_cons_zero, List.set_cons_succ, i64_w, i32_w]
         rfl
        exact norm_ (by simp only [putAll, Act.put, List.setIfInBounds_toArray, List.set_cons_zero, List.set_cons_succ]) (hCont (v546, .slice Ao37 y548.length co37, gb551) _ ⟨hHeld, (by (with_reducible repeat (first | apply Kd.R_alloc | apply Kd.R_drewN | apply Kd.R_drew)); exact HO550.out), (bq_ BK540), (bq_ BK541), (bq_ BK542), (bq_ BK551), GW551.out, GE551.out, NB540_551.out, NB551_540.out, NB541_551.out, NB551_541.out, NB542_551.out, NB551_542.out, (hq_ HB)⟩)
       ·
        refine box_step ?hg (N := 12) ?hd (cs := #[.int .i64 0, .int .i64 0, .slice none 0 0]) (t := 27) ?hr ?_; (case hd => rfl); (case hg => rfl); (case hr => first | (go_simp; done) | (go_simp; rfl))
        intro gb551 hg w36 hbox hb
        replace HO547 := Aside0.mk (Kd.R_below (by (with_reducible repeat (first | apply Kd.R_alloc | apply Kd.R_drewN | apply Kd.R_drew)); exact HO547.out) hb)
        have BK551 := Aside0.mk (hbox)
        have GW551 := Aside0.mk ((by rw [hg]; exact (below_size (hq_ HB)) : w.heap.size ≤ gb551))
        have GE551 := Aside0.mk ((by rw [hg]; exact (below_size (hq_ HB)) : w.heap.size ≤ gb551))
        replace HB := hb_ HB hb
        have NB540_551 := Aside0.mk ((by rw [hg]; exact Nat.ne_of_lt (blk_lt (g := gb540) (o := .cells #[.int .i64 a0_0, .int .i64 a0_1, .slice A0_2 l0_2.length c0_2] 27 (0, 0)) (bq_ BK540)) : gb540 ≠ gb551))
        have NB551_540 := Aside0.mk ((by rw [hg]; exact Nat.ne_of_gt (blk_lt (g := gb540) (o := .cells #[.int .i64 a0_0, .int .i64 a0_1, .slice A0_2 l0_2.length c0_2] 27 (0, 0)) (bq_ BK540)) : gb551 ≠ gb540))
        replace BK540 := bb_ BK540 hb
        have NB541_551 := Aside0.mk ((by rw [hg]; exact Nat.ne_of_lt (blk_lt (g := gb541) (o := .cells #[.int .i64 a1_0, .int .i64 a1_1, .slice A1_2 l1_2.length c1_2] 27 (0, 0)) (bq_ BK541)) : gb541 ≠ gb551))
        have NB551_541 := Aside0.mk ((by rw [hg]; exact Nat.ne_of_gt (blk_lt (g := gb541) (o := .cells #[.int .i64 a1_0, .int .i64 a1_1, .slice A1_2 l1_2.length c1_2] 27 (0, 0)) (bq_ BK541)) : gb551 ≠ gb541))
        replace BK541 := bb_ BK541 hb
        have NB542_551 := Aside0.mk ((by rw [hg]; exact Nat.ne_of_lt (blk_lt (g := gb542) (o := .cells #[.int .i64 0, .int .i64 0, .slice none 0 0] 27 (0, 0)) (bq_ BK542)) : gb542 ≠ gb551))
        have NB551_542 := Aside0.mk ((by rw [hg]; exact Nat.ne_of_gt (blk_lt (g := gb542) (o := .cells #[.int .i64 0, .int .i64 0, .slice none 0 0] 27 (0, 0)) (bq_ BK542)) : gb551 ≠ gb542))
        replace BK542 := bb_ BK542 hb
        clear hb hbox hg
        refine hK.out _ _ ⟨c_ BK540 0, ⟨c_ BK540 1, (c_ BK540 2)⟩⟩ (fun hHeld => ?_)
        clear hK K
        refine norm_ (a' := ?_) ?_ ?_
        rotate_left
        ·
         show Act.put _ (some 12) _ = _
         simp only [Act.put, List.setIfInBounds_toArray, List.set_cons_zero, List.set_cons_succ, i64_w, i32_w]
         rfl
        refine one_ (i := 7) (N := some 32) zq61.q13 rfl rfl (one_of HT_.out (by kernel_rfl)) (by decide) (fun K hK => ?_)
        refine Kd.R_append_rows_step k43 (w0 := w) w.heap.size (by rfl) (.tmp 29) (.tmp 31) 25 43 (.agg #[(.int .u8 0), (.int .u8 0), (.int .u8 0), (.int .u8 0)]) 4 rfl Try.underlying25 info43 rfl (by decide) (by omega) v546 y545 l0_2 _ _ _ (fun _ => True) (fun _ => False) rfl rfl ?aO ?aR (fun _ _ h => h) (fun _ h => h.elim) ?aF ?aB ?aS ?aL ?_
        (case aR => repeat (first | exact (Kd.C_below HR0_2.out HB.out) | (with_reducible refine Kd.C_alloc ?_ _) | (with_reducible refine Kd.C_drewN ?_ _) | (with_reducible refine Kd.C_drew ?_)))
        (case aB => exact (hq_ HB))
        (case aF => exact (fun _ _ => trivial))
        (case aO => exact (by (with_reducible repeat (first | apply Kd.R_alloc | apply Kd.R_drewN | apply Kd.R_drew)); exact HO547.out))
        (case aS => exact (below_size (hq_ HB)))
        (case aL => have := LMc28.out; omega)
        intro v549 w37 ho hb hg hat
        rw [← Ny548.out] at ho
        replace BK540 := Aside0.mk (blk_grown (g := gb540) (o := .cells #[.int .i64 a0_0, .int .i64 a0_1, .slice A0_2 l0_2.length c0_2] 27 (0, 0)) (bq_ BK540) hg (Kd.R_ne HO547.out BK540.out (by decide)))
        replace BK541 := Aside0.mk (blk_grown (g := gb541) (o := .cells #[.int .i64 a1_0, .int .i64 a1_1, .slice A1_2 l1_2.length c1_2] 27 (0, 0)) (bq_ BK541) hg (Kd.R_ne HO547.out BK541.out (by decide)))
        replace BK542 := Aside0.mk (blk_grown (g := gb542) (o := .cells #[.int .i64 0, .int .i64 0, .slice none 0 0] 27 (0, 0)) (bq_ BK542) hg (Kd.R_ne HO547.out BK542.out (by decide)))
        replace BK551 := Aside0.mk (blk_grown (g := gb551) (o := .cells #[.int .i64 0, .int .i64 0, .slice none 0 0] 27 (0, 0)) (bq_ BK551) hg (Kd.R_ne HO547.out BK551.out (by decide)))
        replace HB := Aside0.mk (hb)
        have HO550 := Aside0.mk (ho)
        clear HO547
        clear ho hb hg hat
        obtain ⟨Ao38, co38, eo38⟩ := Kd.R_slice HO550.out
        (first | subst eo38 | (injection eo38 with f1_ f2_ f3_; have f4_ := f1_.symm; have f5_ := f3_.symm; clear f1_ f2_ f3_; subst f4_; subst f5_))
        refine hK.out _ _ ⟨c_ BK540 0, ⟨c_ BK540 1, (c_ BK540 2)⟩⟩ (fun hHeld => ?_)
        clear hK K
        refine norm_ (a' := ?_) ?_ ?_
        rotate_left
        ·
         show Act.put _ (some 32) _ = _
         simp only [Act.put, List.setIfInBounds_toArray, List.set_cons_zero, List.set_cons_succ, i64_w, i32_w]
         rfl
        refine pv_ 8 33 zq61.q7 HT_ ?_
        exact norm_ (by simp only [putAll, Act.put, List.setIfInBounds_toArray, List.set_cons_zero, List.set_cons_succ]) (hCont (v546, .slice Ao38 y548.length co38, gb551) _ ⟨hHeld, (by (with_reducible repeat (first | apply Kd.R_alloc | apply Kd.R_drewN | apply Kd.R_drew)); exact HO550.out), (bq_ BK540), (bq_ BK541), (bq_ BK542), (bq_ BK551), GW551.out, GE551.out, NB540_551.out, NB551_540.out, NB541_551.out, NB551_541.out, NB542_551.out, NB551_542.out, (hq_ HB)⟩)
      ·
       refine box_step ?hg (N := 12) ?hd (cs := #[.int .i64 0, .int .i64 0, .slice none 0 0]) (t := 27) ?hr ?_; (case hd => rfl); (case hg => rfl); (case hr => first | (go_simp; done) | (go_simp; rfl))
       intro gb551 hg w34 hbox hb
       have BK551 := Aside0.mk (hbox)
       have GW551 := Aside0.mk ((by rw [hg]; exact (below_size (hq_ HB)) : w.heap.size ≤ gb551))
       have GE551 := Aside0.mk ((by rw [hg]; exact (below_size (hq_ HB)) : w.heap.size ≤ gb551))
       replace HB := hb_ HB hb
       have NB540_551 := Aside0.mk ((by rw [hg]; exact Nat.ne_of_lt (blk_lt (g := gb540) (o := .cells #[.int .i64 a0_0, .int .i64 a0_1, .slice A0_2 l0_2.length c0_2] 27 (0, 0)) (bq_ BK540)) : gb540 ≠ gb551))
       have NB551_540 := Aside0.mk ((by rw [hg]; exact Nat.ne_of_gt (blk_lt (g := gb540) (o := .cells #[.int .i64 a0_0, .int .i64 a0_1, .slice A0_2 l0_2.length c0_2] 27 (0, 0)) (bq_ BK540)) : gb551 ≠ gb540))
       replace BK540 := bb_ BK540 hb
       have NB541_551 := Aside0.mk ((by rw [hg]; exact Nat.ne_of_lt (blk_lt (g := gb541) (o := .cells #[.int .i64 a1_0, .int .i64 a1_1, .slice A1_2 l1_2.length c1_2] 27 (0, 0)) (bq_ BK541)) : gb541 ≠ gb551))
       have NB551_541 := Aside0.mk ((by rw [hg]; exact Nat.ne_of_gt (blk_lt (g := gb541) (o := .cells #[.int .i64 a1_0, .int .i64 a1_1, .slice A1_2 l1_2.length c1_2] 27 (0, 0)) (bq_ BK541)) : gb551 ≠ gb541))
       replace BK541 := bb_ BK541 hb
       have NB542_551 := Aside0.mk ((by rw [hg]; exact Nat.ne_of_lt (blk_lt (g := gb542) (o := .cells #[.int .i64 0, .int .i64 0, .slice none 0 0] 27 (0, 0)) (bq_ BK542)) : gb542 ≠ gb551))
       have NB551_542 := Aside0.mk ((by rw [hg]; exact Nat.ne_of_gt (blk_lt (g := gb542) (o := .cells #[.int .i64 0, .int .i64 0, .slice none 0 0] 27 (0, 0)) (bq_ BK542)) : gb551 ≠ gb542))
       replace BK542 := bb_ BK542 hb
       clear hb hbox hg
       refine hK.out _ _ ⟨c_ BK540 0, ⟨c_ BK540 1, (c_ BK540 2)⟩⟩ (fun hHeld => ?_)
       clear hK K
       refine norm_ (a' := ?_) ?_ ?_
       rotate_left
       ·
        show Act.put _ (some 12) _ = _
        simp only [Act.put, List.setIfInBounds_toArray, List.set_cons_zero, List.set_cons_succ, i64_w, i32_w]
        rfl
       refine one_ (i := 4) (N := some 29) zq61.q11 rfl rfl (one_of HT_.out (by kernel_rfl)) (by decide) (fun K hK => ?_)
       refine Kd.R_lit_step k43 _ 43 ?hg (N := 29) ?hd (xs := ([] : List (S43))) (inner := []) (ok := fun _ => True) (okp := fun _ => True) ?hr ?hp (fun _ hk => hk) trivial (Below.refl _ _) (Nat.le_refl _) (by simp) ?_; (case hd => rfl); (case hg => rfl); (case hr => first | (go_simp; done) | (go_simp; rfl)); (case hp => exact (Reps.none _ _))
       intro v546 w35 ho36 hb hg_ hnew_
       clear hg_ hnew_
       (first | rw [← Ny545.out] at ho36 | (simp only [Int.reduceToNat] at ho36; rw [← Ny545.out] at ho36))
       have HO547 := Aside0.mk (Kd.R_lower ho36 (below_size (hq_ HB)))
       replace BK540 := bb_ BK540 hb
       replace BK541 := bb_ BK541 hb
       replace BK542 := bb_ BK542 hb
       replace BK551 := bb_ BK551 hb
       replace HB := hb_ HB hb
       clear hb ho36
       refine hK.out _ _ ⟨c_ BK540 0, ⟨c_ BK540 1, (c_ BK540 2)⟩⟩ (fun hHeld => ?_)
       clear hK K
       refine norm_ (a' := ?_) ?_ ?_
       rotate_left
       ·
        show Act.put _ (some 29) _ = _
        simp only [Act.put, List.setIfInBounds_toArray, List.set_cons_zero, List.set_cons_succ, i64_w, i32_w]
        rfl
       refine one_ (i := 7) (N := some 32) zq61.q13 rfl rfl (one_of HT_.out (by kernel_rfl)) (by decide) (fun K hK => ?_)
       refine Kd.R_append_rows_step k43 (w0 := w) w.heap.size (by rfl) (.tmp 29) (.tmp 31) 25 43 (.agg #[(.int .u8 0), (.int .u8 0), (.int .u8 0), (.int .u8 0)]) 4 rfl Try.underlying25 info43 rfl (by decide) (by omega) v546 y545 l0_2 _ _ _ (fun _ => True) (fun _ => False) rfl rfl ?aO ?aR (fun _ _ h => h) (fun _ h => h.elim) ?aF ?aB ?aS ?aL ?_
       (case aR => repeat (first | exact (Kd.C_below HR0_2.out HB.out) | (with_reducible refine Kd.C_alloc ?_ _) | (with_reducible refine Kd.C_drewN ?_ _) | (with_reducible refine Kd.C_drew ?_)))
       (case aB => exact (hq_ HB))
       (case aF => exact (fun _ _ => trivial))
       (case aO => exact (by (with_reducible repeat (first | apply Kd.R_alloc | apply Kd.R_drewN | apply Kd.R_drew)); exact HO547.out))
       (case aS => exact (below_size (hq_ HB)))
       (case aL => have := LMc28.out; omega)
       intro v549 w37 ho hb hg hat
       rw [← Ny548.out] at ho
       replace BK540 := Aside0.mk (blk_grown (g := gb540) (o := .cells #[.int .i64 a0_0, .int .i64 a0_1, .slice A0_2 l0_2.length c0_2] 27 (0, 0)) (bq_ BK540) hg (Kd.R_ne HO547.out BK540.out (by decide)))
       replace BK541 := Aside0.mk (blk_grown (g := gb541) (o := .cells #[.int .i64 a1_0, .int .i64 a1_1, .slice A1_2 l1_2.length c1_2] 27 (0, 0)) (bq_ BK541) hg (Kd.R_ne HO547.out BK541.out (by decide)))
       replace BK542 := Aside0.mk (blk_grown (g := gb542) (o := .cells #[.int .i64 0, .int .i64 0, .slice none 0 0] 27 (0, 0)) (bq_ BK542) hg (Kd.R_ne HO547.out BK542.out (by decide)))
       replace BK551 := Aside0.mk (blk_grown (g := gb551) (o := .cells #[.int .i64 0, .int .i64 0, .slice none 0 0] 27 (0, 0)) (bq_ BK551) hg (Kd.R_ne HO547.out BK551.out (by decide)))
       replace HB := Aside0.mk (hb)
       have HO550 := Aside0.mk (ho)
       clear HO547
       clear ho hb hg hat
       obtain ⟨Ao38, co38, eo38⟩ := Kd.R_slice HO550.out
       (first | subst eo38 | (injection eo38 with f1_ f2_ f3_; have f4_ := f1_.symm; have f5_ := f3_.symm; clear f1_ f2_ f3_; subst f4_; subst f5_))
       refine hK.out _ _ ⟨c_ BK540 0, ⟨c_ BK540 1, (c_ BK540 2)⟩⟩ (fun hHeld => ?_)
       clear hK K
       refine norm_ (a' := ?_) ?_ ?_
       rotate_left
       ·
        show Act.put _ (some 32) _ = _
        simp only [Act.put, List.setIfInBounds_toArray, List.set_cons_zero, List.set_cons_succ, i64_w, i32_w]
        rfl
       refine pv_ 8 33 zq61.q7 HT_ ?_
       exact norm_ (by simp only [putAll, Act.put, List.setIfInBounds_toArray, List.set_cons_zero, List.set_cons_succ]) (hCont (v546, .slice Ao38 y548.length co38, gb551) _ ⟨hHeld, (by (with_reducible repeat (first | apply Kd.R_alloc | apply Kd.R_drewN | apply Kd.R_drew)); exact HO550.out), (bq_ BK540), (bq_ BK541), (bq_ BK542), (bq_ BK551), GW551.out, GE551.out, NB540_551.out, NB551_540.out, NB541_551.out, NB551_541.out, NB542_551.out, NB551_542.out, (hq_ HB)⟩)
     rintro ⟨v546, v549, gb551⟩ w39 ⟨hS_, h0_, h1_, h2_, h3_, h4_, h5_, h6_, h7_, h8_, h9_, h10_, h11_, h12_, h13_⟩
     have HO550 := Aside0.mk h0_
     replace BK540 := Aside0.mk h1_
     replace BK541 := Aside0.mk h2_
     replace BK542 := Aside0.mk h3_
     have BK551 := Aside0.mk h4_
     have GW551 := Aside0.mk h5_
     have GE551 := Aside0.mk h6_
     have NB540_551 := Aside0.mk h7_
     have NB551_540 := Aside0.mk h8_
     have NB541_551 := Aside0.mk h9_
     have NB551_541 := Aside0.mk h10_
     have NB542_551 := Aside0.mk h11_
     have NB551_542 := Aside0.mk h12_
     replace HB := Aside0.mk h13_
     clear h0_ h1_ h2_ h3_ h4_ h5_ h6_ h7_ h8_ h9_ h10_ h11_ h12_ h13_
     have hHeld := hS_
     obtain ⟨Ao40, co40, eo40⟩ := Kd.R_slice HO550.out
     (first | subst eo40 | (injection eo40 with f1_ f2_ f3_; have f4_ := f1_.symm; have f5_ := f3_.symm; clear f1_ f2_ f3_; subst f4_; subst f5_))
     refine norm_ (a' := ?_) ?_ ?_
     rotate_left
     ·
      simp only [putAll, Act.put, List.setIfInBounds_toArray, List.set_cons_zero, List.set_cons_succ]
      rfl
     refine one_ (i := 10) (N := none) zq61.q14 rfl rfl (one_of HT_.out (by kernel_rfl)) (by decide) (fun K hK => ?_)
     have hs41 : w39.cell? ⟨gb551, 0, none⟩ = some (.int .i64 0) := (blk_cell BK551.out 0).trans rfl
     have hfs41 := blk_frozen BK551.out 0
     have hns41_0 := NB540_551.out
     have hns41_1 := NB541_551.out
     have hns41_2 := NB542_551.out
     have hms41_0 := NB551_540.out
     have hms41_1 := NB551_541.out
     have hms41_2 := NB551_542.out
     have hs42 : w39.cell? ⟨gb551, 1, none⟩ = some (.int .i64 0) := (blk_cell BK551.out 1).trans rfl
     have hfs42 := blk_frozen BK551.out 1
     have hns42_0 := NB540_551.out
     have hns42_1 := NB541_551.out
     have hns42_2 := NB542_551.out
     have hms42_0 := NB551_540.out
     have hms42_1 := NB551_541.out
     have hms42_2 := NB551_542.out
     have hs43 : w39.cell? ⟨gb551, 2, none⟩ = some (.slice none 0 0) := (blk_cell BK551.out 2).trans rfl
     have hfs43 := blk_frozen BK551.out 2
     have hns43_0 := NB540_551.out
     have hns43_1 := NB541_551.out
     have hns43_2 := NB542_551.out
     have hms43_0 := NB551_540.out
     have hms43_1 := NB551_541.out
     have hms43_2 := NB551_542.out
     refine skip_ (w1 := ?_) (by rfl) rfl ?_ ?_
     rotate_left
     ·
      go_simp
      rfl
     refine hK.out _ _ ⟨((cell_far (p := ⟨gb551, _, none⟩) NB540_551.out _).trans (((cell_far (p := ⟨gb551, _, none⟩) NB540_551.out _).trans (((cell_far (p := ⟨gb551, _, none⟩) NB540_551.out _).trans (hHeld.1)))))), ((cell_far (p := ⟨gb551, _, none⟩) NB540_551.out _).trans (((cell_far (p := ⟨gb551, _, none⟩) NB540_551.out _).trans (((cell_far (p := ⟨gb551, _, none⟩) NB540_551.out _).trans (hHeld.2.1)))))), ((cell_far (p := ⟨gb551, _, none⟩) NB540_551.out _).trans (((cell_far (p := ⟨gb551, _, none⟩) NB540_551.out _).trans (((cell_far (p := ⟨gb551, _, none⟩) NB540_551.out _).trans (hHeld.2.2))))))⟩ (fun hHeld => ?_)
     clear hK K
     refine done_ (done_of HT_.out (by kernel_rfl)) ?_
     try go_wp2
     go_loopg [13] kj5 (fun kq v13 w' => ∃ (x13_2 : Int) (x552002_2 : List (S43)) (u552002 : Value), v13 = .int .i64 x13_2 ∧ Aside0 (compositorref09_put.l0 kq ji30 ji32 a4 x13_2 a0_0 a0_1 l0_2 a1_0 a1_1 l1_2 a0_0 a0_1 x552002_2 = some (r1, r2, r3, r4)) ∧ Aside0 (kq ≤ kj5) ∧ Aside0 (Kd.R k43 43 w' w.heap.size (fun _ => True) u552002 x552002_2) ∧ Aside0 (w'.heap[gb540]? = some (.cells #[.int .i64 a0_0, .int .i64 a0_1, (.slice A0_2 l0_2.length c0_2)] 27 (0, 0))) ∧ Aside0 (w'.heap[gb541]? = some (.cells #[.int .i64 a1_0, .int .i64 a1_1, (.slice A1_2 l1_2.length c1_2)] 27 (0, 0))) ∧ Aside0 (w'.heap[gb542]? = some (.cells #[.int .i64 0, .int .i64 0, (.slice none 0 0)] 27 (0, 0))) ∧ Aside0 (w'.heap[gb551]? = some (.cells #[.int .i64 a0_0, .int .i64 a0_1, u552002] 27 (0, 0))) ∧ Aside0 (Below w.heap.size w w'))
     case atStart => exact ⟨(0), (y548), (.slice Ao40 y548.length co40), (by first | rfl | (simp; done) | (simp [*]; done)), H', ⟨Nat.le_refl _⟩, ⟨by (with_reducible repeat (first | apply Kd.R_alloc | apply Kd.R_drewN | apply Kd.R_drew)); exact Kd.R_mono (Kd.R_far (p := ⟨gb551, 2, none⟩) (Kd.R_far (p := ⟨gb551, 1, none⟩) (Kd.R_far (p := ⟨gb551, 0, none⟩) (Kd.R_types HO550.out BK551.out (by decide)) (fun _ hk => hk.2) (.int .i64 a0_0)) (fun _ hk => hk.2) (.int .i64 a0_1)) (fun _ hk => hk.2) (.slice Ao40 y548.length co40)) (fun _ hk => trivial)⟩, bf_ BK540, bf_ BK541, bf_ BK542, ⟨by (with_reducible repeat (first | refine blk_drewN ?_ _ | refine blk_drew ?_ | refine blk_alloc ?_ _)); refine blk_put (cs := #[.int .i64 a0_0, .int .i64 a0_1, .slice none 0 0]) ?_ 2 _ rfl; (with_reducible repeat (first | refine blk_drewN ?_ _ | refine blk_drew ?_ | refine blk_alloc ?_ _)); refine blk_put (cs := #[.int .i64 a0_0, .int .i64 0, .slice none 0 0]) ?_ 1 _ rfl; (with_reducible repeat (first | refine blk_drewN ?_ _ | refine blk_drew ?_ | refine blk_alloc ?_ _)); refine blk_put (cs := #[.int .i64 0, .int .i64 0, .slice none 0 0]) ?_ 0 _ rfl; (with_reducible repeat (first | refine blk_drewN ?_ _ | refine blk_drew ?_ | refine blk_alloc ?_ _)); exact BK551.out⟩, ⟨by repeat (first | (with_reducible first | exact HB.out | apply below_alloc | apply pw_below_drewN | apply below_drew1 | refine below_set ?_ GE540.out | refine below_set ?_ GE541.out | refine below_set ?_ GE542.out | refine below_set ?_ GE551.out) | exact HB.out)⟩⟩
     case round =>
      clear H'
      try clear c1
      try clear c2
      try clear p2
      try clear c6
      try clear c11
      try clear c13
      try clear c14
      try clear c17
      try clear c20
      try clear c21
      try clear c24
      try clear c25
      try clear c26
      try clear c28
      try clear hcz15_0
      try clear hcz15_1
      try clear hcz15_2
      try clear hcz18_0
      try clear hcz18_1
      try clear hcz18_2
      try clear hcz22_0
      try clear hcz22_1
      try clear hcz22_2
      try clear hcz27_0
      try clear hcz27_1
      try clear hcz27_2
      try clear hfz15_0
      try clear hfz15_1
      try clear hfz15_2
      try clear hfz18_0
      try clear hfz18_1
      try clear hfz18_2
      try clear hfz22_0
      try clear hfz22_1
      try clear hfz22_2
      try clear hfz27_0
      try clear hfz27_1
      try clear hfz27_2
      try clear p2
      obtain ⟨x13_2, x552002_2, u552002, rfl, HA, HK2, HO_552002, BK540, BK541, BK542, BK551, HB⟩ := hrel
      cases gk with
      | zero => exact absurd HA.out (by simp [compositorref09_put.l0])
      | succ k2 =>
       have H := HA.out
       clear HA
       simp only [compositorref09_put.l0] at H
       by_cases c44 : x13_2 < a0_1
       ·
        rw [if_pos c44] at H
        have c44b0 : decide (x13_2 < a0_1) = true := decide_eq_true c44
        clear c44
        have H' := Aside0.mk H
        clear H
        have hnb45 := NB540_541.out
        have hnc45 := NB541_540.out
        have hnb46 := NB540_542.out
        have hnc46 := NB542_540.out
        have hnb47 := NB540_551.out
        have hnc47 := NB551_540.out
        have hcz48_0 : wr.cell? ⟨gb540, 0, none⟩ = some (.int .i64 a0_0) := (blk_cell BK540.out 0).trans rfl
        have hcz48_1 : wr.cell? ⟨gb540, 1, none⟩ = some (.int .i64 a0_1) := (blk_cell BK540.out 1).trans rfl
        have hcz48_2 : wr.cell? ⟨gb540, 2, none⟩ = some (.slice A0_2 l0_2.length c0_2) := (blk_cell BK540.out 2).trans rfl
        have hfz48_0 := blk_frozen BK540.out 0
        have hfz48_1 := blk_frozen BK540.out 1
        have hfz48_2 := blk_frozen BK540.out 2
        go_wp2
        go_loopg [14] k2 (fun kq v14 w' => ∃ (x14_3 : Int) (x552002_3 : List (S43)) (u552002 : Value), v14 = .int .i64 x14_3 ∧ Aside0 (compositorref09_put.l1 kq ji30 ji32 a4 x13_2 x14_3 a0_0 a0_1 l0_2 a1_0 a1_1 l1_2 a0_0 a0_1 x552002_3 = some (r1, r2, r3, r4)) ∧ Aside0 (kq ≤ k2) ∧ Aside0 (Kd.R k43 43 w' w.heap.size (fun _ => True) u552002 x552002_3) ∧ Aside0 (w'.heap[gb540]? = some (.cells #[.int .i64 a0_0, .int .i64 a0_1, (.slice A0_2 l0_2.length c0_2)] 27 (0, 0))) ∧ Aside0 (w'.heap[gb541]? = some (.cells #[.int .i64 a1_0, .int .i64 a1_1, (.slice A1_2 l1_2.length c1_2)] 27 (0, 0))) ∧ Aside0 (w'.heap[gb542]? = some (.cells #[.int .i64 0, .int .i64 0, (.slice none 0 0)] 27 (0, 0))) ∧ Aside0 (w'.heap[gb551]? = some (.cells #[.int .i64 a0_0, .int .i64 a0_1, u552002] 27 (0, 0))) ∧ Aside0 (Below w.heap.size w w'))
        case atStart => exact ⟨(0), (x552002_2), (u552002), (by first | rfl | (simp; done) | (simp [*]; done)), H', ⟨Nat.le_refl _⟩, ⟨by (with_reducible repeat (first | apply Kd.R_alloc | apply Kd.R_drewN | apply Kd.R_drew)); exact HO_552002.out⟩, bf_ BK540, bf_ BK541, bf_ BK542, bf_ BK551, ⟨by repeat (first | (with_reducible first | exact HB.out | apply below_alloc | apply pw_below_drewN | apply below_drew1 | refine below_set ?_ GE540.out | refine below_set ?_ GE541.out | refine below_set ?_ GE542.out | refine below_set ?_ GE551.out) | exact HB.out)⟩⟩
        case round =>
         clear H'
         try clear c1
         try clear c2
         try clear p2
         try clear c4
         try clear c6
         try clear c11
         try clear c13
         try clear c14
         try clear c17
         try clear c20
         try clear c21
         try clear c24
         try clear c25
         try clear c26
         try clear c28
         try clear c44
         try clear c44b0
         try clear c45
         try clear c46
         try clear c47
         try clear hcz15_0
         try clear hcz15_1
         try clear hcz15_2
         try clear hcz18_0
         try clear hcz18_1
         try clear hcz18_2
         try clear hcz22_0
         try clear hcz22_1
         try clear hcz22_2
         try clear hcz27_0
         try clear hcz27_1
         try clear hcz27_2
         try clear hcz48_0
         try clear hcz48_1
         try clear hcz48_2
         try clear hfz15_0
         try clear hfz15_1
         try clear hfz15_2
         try clear hfz18_0
         try clear hfz18_1
         try clear hfz18_2
         try clear hfz22_0
         try clear hfz22_1
         try clear hfz22_2
         try clear hfz27_0
         try clear hfz27_1
         try clear hfz27_2
         try clear hfz48_0
         try clear hfz48_1
         try clear hfz48_2
         try clear p2
         obtain ⟨x14_3, x552002_3, u552002, rfl, HA, HK3, HO_552002, BK540, BK541, BK542, BK551, HB⟩ := hrel
         cases gk with
         | zero => exact absurd HA.out (by simp [compositorref09_put.l1])
         | succ k3 =>
          have H := HA.out
          clear HA
          simp only [compositorref09_put.l1] at H
          by_cases c49 : x14_3 < a0_0
          ·
           rw [if_pos c49] at H
           have c49b0 : decide (x14_3 < a0_0) = true := decide_eq_true c49
           clear c49
           have HC50 := Aside0.mk H
           clear H
           have hnb51 := NB540_541.out
           have hnc51 := NB541_540.out
           have hnb52 := NB540_542.out
           have hnc52 := NB542_540.out
           have hnb53 := NB540_551.out
           have hnc53 := NB551_540.out
           have hcz54_0 : wr.cell? ⟨gb540, 0, none⟩ = some (.int .i64 a0_0) := (blk_cell BK540.out 0).trans rfl
           have hcz54_1 : wr.cell? ⟨gb540, 1, none⟩ = some (.int .i64 a0_1) := (blk_cell BK540.out 1).trans rfl
           have hcz54_2 : wr.cell? ⟨gb540, 2, none⟩ = some (.slice A0_2 l0_2.length c0_2) := (blk_cell BK540.out 2).trans rfl
           have hfz54_0 := blk_frozen BK540.out 0
           have hfz54_1 := blk_frozen BK540.out 1
           have hfz54_2 := blk_frozen BK540.out 2
           go_upto_region 11 with (fail)
           go_cut [77] (fun v77 wc => ∃ (kq : Nat) (x77_49 : Bool), v77 = .bool x77_49 ∧ Aside0 (compositorref09_put.j3 kq ji30 ji32 a4 x13_2 x14_3 x77_49 a0_0 a0_1 l0_2 a1_0 a1_1 l1_2 a0_0 a0_1 x552002_3 = some (r1, r2, r3, r4)) ∧ Aside0 (kq ≤ k3) ∧ Aside0 (Kd.R k43 43 wc w.heap.size (fun _ => True) u552002 x552002_3) ∧ Aside0 (wc.heap[gb540]? = some (.cells #[.int .i64 a0_0, .int .i64 a0_1, (.slice A0_2 l0_2.length c0_2)] 27 (0, 0))) ∧ Aside0 (wc.heap[gb541]? = some (.cells #[.int .i64 a1_0, .int .i64 a1_1, (.slice A1_2 l1_2.length c1_2)] 27 (0, 0))) ∧ Aside0 (wc.heap[gb542]? = some (.cells #[.int .i64 0, .int .i64 0, (.slice none 0 0)] 27 (0, 0))) ∧ Aside0 (wc.heap[gb551]? = some (.cells #[.int .i64 a0_0, .int .i64 a0_1, u552002] 27 (0, 0))) ∧ Aside0 (Below w.heap.size w wc))
           case first =>
            have H := HC50.out
            clear HC50
            by_cases c55 : (wrap64 (x14_3 - ji30)) < 0
            ·
             rw [if_pos c55] at H
             have c55b0 : decide ((wrap64 (x14_3 - ji30)) < 0) = true := decide_eq_true c55
             clear c55
             (first | rw [c55b0] | (simp only [i64_w, i32_w]; rw [c55b0]) | skip)
             have H' := Aside0.mk H
             clear H
             go_wp2
             go_meet
             case rel => exact ⟨_, (true), (by first | rfl | (simp; done) | (simp [*]; done)), H', ⟨by have := HJ5.out; have := HK2.out; have := HK3.out; first | omega | exact Nat.le_refl _⟩, ⟨by (with_reducible repeat (first | apply Kd.R_alloc | apply Kd.R_drewN | apply Kd.R_drew)); exact HO_552002.out⟩, bf_ BK540, bf_ BK541, bf_ BK542, bf_ BK551, ⟨by repeat (first | (with_reducible first | exact HB.out | apply below_alloc | apply pw_below_drewN | apply below_drew1 | refine below_set ?_ GE540.out | refine below_set ?_ GE541.out | refine below_set ?_ GE542.out | refine below_set ?_ GE551.out) | exact HB.out)⟩⟩
            ·
             rw [if_neg c55] at H
             have c55b0 : decide ((wrap64 (x14_3 - ji30)) < 0) = false := decide_eq_false c55
             clear c55
             (first | rw [c55b0] | (simp only [i64_w, i32_w]; rw [c55b0]) | skip)
             by_cases c56 : (wrap64 (x14_3 - ji30)) ≥ a1_0
             ·
              rw [if_pos c56] at H
              have c56b0 : decide (a1_0 ≤ (wrap64 (x14_3 - ji30))) = true := decide_eq_true c56
              clear c56
              have H' := Aside0.mk H
              clear H
              have hnb57 := NB541_540.out
              have hnc57 := NB540_541.out
              have hnb58 := NB541_542.out
              have hnc58 := NB542_541.out
              have hnb59 := NB541_551.out
              have hnc59 := NB551_541.out
              have hcz60_0 : wr.cell? ⟨gb541, 0, none⟩ = some (.int .i64 a1_0) := (blk_cell BK541.out 0).trans rfl
              have hcz60_1 : wr.cell? ⟨gb541, 1, none⟩ = some (.int .i64 a1_1) := (blk_cell BK541.out 1).trans rfl
              have hcz60_2 : wr.cell? ⟨gb541, 2, none⟩ = some (.slice A1_2 l1_2.length c1_2) := (blk_cell BK541.out 2).trans rfl
              have hfz60_0 := blk_frozen BK541.out 0
              have hfz60_1 := blk_frozen BK541.out 1
              have hfz60_2 := blk_frozen BK541.out 2
              go_wp2
              go_meet
              case rel => exact ⟨_, (true), (by first | rfl | (simp; done) | (simp [*]; done)), H', ⟨by have := HJ5.out; have := HK2.out; have := HK3.out; first | omega | exact Nat.le_refl _⟩, ⟨by (with_reducible repeat (first | apply Kd.R_alloc | apply Kd.R_drewN | apply Kd.R_drew)); exact HO_552002.out⟩, bf_ BK540, bf_ BK541, bf_ BK542, bf_ BK551, ⟨by repeat (first | (with_reducible first | exact HB.out | apply below_alloc | apply pw_below_drewN | apply below_drew1 | refine below_set ?_ GE540.out | refine below_set ?_ GE541.out | refine below_set ?_ GE542.out | refine below_set ?_ GE551.out) | exact HB.out)⟩⟩
             ·
              rw [if_neg c56] at H
              have c56b0 : decide (a1_0 ≤ (wrap64 (x14_3 - ji30))) = false := decide_eq_false c56
              clear c56
              by_cases c61 : (wrap64 (x13_2 - ji32)) < 0
              ·
               rw [if_pos c61] at H
               have c61b0 : decide ((wrap64 (x13_2 - ji32)) < 0) = true := decide_eq_true c61
               clear c61
               have H' := Aside0.mk H
               clear H
               have hnb62 := NB541_540.out
               have hnc62 := NB540_541.out
               have hnb63 := NB541_542.out
               have hnc63 := NB542_541.out
               have hnb64 := NB541_551.out
               have hnc64 := NB551_541.out
               have hcz65_0 : wr.cell? ⟨gb541, 0, none⟩ = some (.int .i64 a1_0) := (blk_cell BK541.out 0).trans rfl
               have hcz65_1 : wr.cell? ⟨gb541, 1, none⟩ = some (.int .i64 a1_1) := (blk_cell BK541.out 1).trans rfl
               have hcz65_2 : wr.cell? ⟨gb541, 2, none⟩ = some (.slice A1_2 l1_2.length c1_2) := (blk_cell BK541.out 2).trans rfl
               have hfz65_0 := blk_frozen BK541.out 0
               have hfz65_1 := blk_frozen BK541.out 1
               have hfz65_2 := blk_frozen BK541.out 2
               go_wp2
               go_meet
               case rel => exact ⟨_, (true), (by first | rfl | (simp; done) | (simp [*]; done)), H', ⟨by have := HJ5.out; have := HK2.out; have := HK3.out; first | omega | exact Nat.le_refl _⟩, ⟨by (with_reducible repeat (first | apply Kd.R_alloc | apply Kd.R_drewN | apply Kd.R_drew)); exact HO_552002.out⟩, bf_ BK540, bf_ BK541, bf_ BK542, bf_ BK551, ⟨by repeat (first | (with_reducible first | exact HB.out | apply below_alloc | apply pw_below_drewN | apply below_drew1 | refine below_set ?_ GE540.out | refine below_set ?_ GE541.out | refine below_set ?_ GE542.out | refine below_set ?_ GE551.out) | exact HB.out)⟩⟩
              ·
               rw [if_neg c61] at H
               have c61b0 : decide ((wrap64 (x13_2 - ji32)) < 0) = false := decide_eq_false c61
               clear c61
               have H' := Aside0.mk H
               clear H
               have hnb66 := NB541_540.out
               have hnc66 := NB540_541.out
               have hnb67 := NB541_542.out
               have hnc67 := NB542_541.out
               have hnb68 := NB541_551.out
               have hnc68 := NB551_541.out
               have hcz69_0 : wr.cell? ⟨gb541, 0, none⟩ = some (.int .i64 a1_0) := (blk_cell BK541.out 0).trans rfl
               have hcz69_1 : wr.cell? ⟨gb541, 1, none⟩ = some (.int .i64 a1_1) := (blk_cell BK541.out 1).trans rfl
               have hcz69_2 : wr.cell? ⟨gb541, 2, none⟩ = some (.slice A1_2 l1_2.length c1_2) := (blk_cell BK541.out 2).trans rfl
               have hfz69_0 := blk_frozen BK541.out 0
               have hfz69_1 := blk_frozen BK541.out 1
               have hfz69_2 := blk_frozen BK541.out 2
               go_wp2
               go_meet
               case rel => exact ⟨_, (decide ((wrap64 (x13_2 - ji32)) ≥ a1_1)), (by first | rfl | (simp; done) | (simp only [← hji32] <;> (first | rfl | simp)) | (simp [*]; done)), H', ⟨by have := HJ5.out; have := HK2.out; have := HK3.out; first | omega | exact Nat.le_refl _⟩, ⟨by (with_reducible repeat (first | apply Kd.R_alloc | apply Kd.R_drewN | apply Kd.R_drew)); exact HO_552002.out⟩, bf_ BK540, bf_ BK541, bf_ BK542, bf_ BK551, ⟨by repeat (first | (with_reducible first | exact HB.out | apply below_alloc | apply pw_below_drewN | apply below_drew1 | refine below_set ?_ GE540.out | refine below_set ?_ GE541.out | refine below_set ?_ GE542.out | refine below_set ?_ GE551.out) | exact HB.out)⟩⟩
           case rest =>
            clear HC50
            try clear c1
            try clear c2
            try clear p2
            try clear c4
            try clear c5
            try clear c6
            try clear p6
            try clear c11
            try clear c13
            try clear c14
            try clear c17
            try clear c20
            try clear c21
            try clear c24
            try clear c25
            try clear c26
            try clear c28
            try clear c44
            try clear c44b0
            try clear c45
            try clear c46
            try clear c47
            try clear c49
            try clear c49b0
            try clear c51
            try clear c52
            try clear c53
            try clear c55
            try clear c55b0
            try clear c56
            try clear c56b0
            try clear c57
            try clear c58
            try clear c59
            try clear c61
            try clear c61b0
            try clear c62
            try clear c63
            try clear c64
            try clear p64
            try clear c66
            try clear c67
            try clear c68
            try clear hcz15_0
            try clear hcz15_1
            try clear hcz15_2
            try clear hcz18_0
            try clear hcz18_1
            try clear hcz18_2
            try clear hcz22_0
            try clear hcz22_1
            try clear hcz22_2
            try clear hcz27_0
            try clear hcz27_1
            try clear hcz27_2
            try clear hcz48_0
            try clear hcz48_1
            try clear hcz48_2
            try clear hcz54_0
            try clear hcz54_1
            try clear hcz54_2
            try clear hcz60_0
            try clear hcz60_1
            try clear hcz60_2
            try clear hcz65_0
            try clear hcz65_1
            try clear hcz65_2
            try clear hcz69_0
            try clear hcz69_1
            try clear hcz69_2
            try clear hfz15_0
            try clear hfz15_1
            try clear hfz15_2
            try clear hfz18_0
            try clear hfz18_1
            try clear hfz18_2
            try clear hfz22_0
            try clear hfz22_1
            try clear hfz22_2
            try clear hfz27_0
            try clear hfz27_1
            try clear hfz27_2
            try clear hfz48_0
            try clear hfz48_1
            try clear hfz48_2
            try clear hfz54_0
            try clear hfz54_1
            try clear hfz54_2
            try clear hfz60_0
            try clear hfz60_1
            try clear hfz60_2
            try clear hfz65_0
            try clear hfz65_1
            try clear hfz65_2
            try clear hfz69_0
            try clear hfz69_1
            try clear hfz69_2
            try clear p2
            obtain ⟨kq, x77_49, rfl, HA, HJ49, HO_552002, BK540, BK541, BK542, BK551, HB⟩ := hcut
            cases kq with
            | zero => exact absurd HA.out (by simp [compositorref09_put.j3])
            | succ kj49 =>
             have H := HA.out
             clear HA
             simp only [compositorref09_put.j3] at H
             by_cases c70 : x77_49 = true
             ·
              subst c70
              have H1 : (compositorref09_put.l1 kj49 ji30 ji32 a4 x13_2 (wrap64 (x14_3 + 1)) a0_0 a0_1 l0_2 a1_0 a1_1 l1_2 a0_0 a0_1 x552002_3) = some (r1, r2, r3, r4) := by rw [if_pos rfl] at H; exact H
              clear H
              have H := H1
              clear H1
              have H' := Aside0.mk H
              clear H
              go_wp2
              go_roundg kj49
              case measure => have := HJ5.out; have := HK2.out; have := HK3.out; have := HJ49.out; omega
              case rel => exact ⟨(wrap64 (x14_3 + 1)), (x552002_3), (u552002), (by first | rfl | (simp; done) | (simp [*]; done)), H', ⟨by have := HJ5.out; have := HK2.out; have := HK3.out; have := HJ49.out; omega⟩, ⟨by (with_reducible repeat (first | apply Kd.R_alloc | apply Kd.R_drewN | apply Kd.R_drew)); exact HO_552002.out⟩, bf_ BK540, bf_ BK541, bf_ BK542, bf_ BK551, ⟨by repeat (first | (with_reducible first | exact HB.out | apply below_alloc | apply pw_below_drewN | apply below_drew1 | refine below_set ?_ GE540.out | refine below_set ?_ GE541.out | refine below_set ?_ GE542.out | refine below_set ?_ GE551.out) | exact HB.out)⟩⟩
             ·
              replace c70 := Bool.eq_false_iff.mpr c70
              subst c70
              have H1 : ((compositorref09_At.f a1_0 a1_1 l1_2 (wrap64 (x14_3 - ji30)) (wrap64 (x13_2 - ji32))).bind fun bt552 => (if a4 = true then ((compositorref09_At.f a0_0 a0_1 l0_2 x14_3 x13_2).bind fun bt557 => ((compositorref08_Over.f bt552.1 bt552.2.1 bt552.2.2.1 bt552.2.2.2 bt557.1 bt557.2.1 bt557.2.2.1 bt557.2.2.2).bind fun bt561 => (if 0 ≤ (wrap64 ((wrap64 (x13_2 * a0_0)) + x14_3)) then (if (wrap64 ((wrap64 (x13_2 * a0_0)) + x14_3)) < (x552002_3.length : Int) then (compositorref09_put.l1 kj49 ji30 ji32 a4 x13_2 (wrap64 (x14_3 + 1)) a0_0 a0_1 l0_2 a1_0 a1_1 l1_2 a0_0 a0_1 (x552002_3.set ((wrap64 ((wrap64 (x13_2 * a0_0)) + x14_3)) : Int).toNat (⟨bt561.1, bt561.2.1, bt561.2.2.1, bt561.2.2.2⟩ : S43))) else (none)) else (none)))) else (if 0 ≤ (wrap64 ((wrap64 (x13_2 * a0_0)) + x14_3)) then (if (wrap64 ((wrap64 (x13_2 * a0_0)) + x14_3)) < (x552002_3.length : Int) then (compositorref09_put.l1 kj49 ji30 ji32 a4 x13_2 (wrap64 (x14_3 + 1)) a0_0 a0_1 l0_2 a1_0 a1_1 l1_2 a0_0 a0_1 (x552002_3.set ((wrap64 ((wrap64 (x13_2 * a0_0)) + x14_3)) : Int).toNat (⟨bt552.1, bt552.2.1, bt552.2.2.1, bt552.2.2.2⟩ : S43))) else (none)) else (none)))) = some (r1, r2, r3, r4) := by rw [if_neg (show ¬ (false = true) by decide)] at H; exact H
              clear H
              have H := H1
              clear H1
              replace H := Option.bind_eq_some_iff.mp H
              obtain ⟨⟨t552, t553, t554, t555⟩, A710, H⟩ := H
              try dsimp only at H
              have A71 := Aside0.mk A710
              clear A710
              by_cases c72 : a4 = true
              ·
               subst c72
               have H1 : ((compositorref09_At.f a0_0 a0_1 l0_2 x14_3 x13_2).bind fun bt557 => ((compositorref08_Over.f t552 t553 t554 t555 bt557.1 bt557.2.1 bt557.2.2.1 bt557.2.2.2).bind fun bt561 => (if 0 ≤ (wrap64 ((wrap64 (x13_2 * a0_0)) + x14_3)) then (if (wrap64 ((wrap64 (x13_2 * a0_0)) + x14_3)) < (x552002_3.length : Int) then (compositorref09_put.l1 kj49 ji30 ji32 true x13_2 (wrap64 (x14_3 + 1)) a0_0 a0_1 l0_2 a1_0 a1_1 l1_2 a0_0 a0_1 (x552002_3.set ((wrap64 ((wrap64 (x13_2 * a0_0)) + x14_3)) : Int).toNat (⟨bt561.1, bt561.2.1, bt561.2.2.1, bt561.2.2.2⟩ : S43))) else (none)) else (none)))) = some (r1, r2, r3, r4) := by rw [if_pos rfl] at H; exact H
               clear H
               have H := H1
               clear H1
               replace H := Option.bind_eq_some_iff.mp H
               obtain ⟨⟨t557, t558, t559, t560⟩, A730, H⟩ := H
               try dsimp only at H
               have A73 := Aside0.mk A730
               clear A730
               replace H := Option.bind_eq_some_iff.mp H
               obtain ⟨⟨t561, t562, t563, t564⟩, A740, H⟩ := H
               try dsimp only at H
               have A74 := Aside0.mk A740
               clear A740
               obtain ⟨ji75, hji75⟩ : ∃ j_ : Int, (wrap64 ((wrap64 (x13_2 * a0_0)) + x14_3)) = j_ := ⟨_, rfl⟩
               replace H : (if 0 ≤ (ji75) then (if (ji75) < (x552002_3.length : Int) then (compositorref09_put.l1 kj49 ji30 ji32 true x13_2 (wrap64 (x14_3 + 1)) a0_0 a0_1 l0_2 a1_0 a1_1 l1_2 a0_0 a0_1 (x552002_3.set ((ji75) : Int).toNat (⟨t561, t562, t563, t564⟩ : S43))) else (none)) else (none)) = some (r1, r2, r3, r4) := by first | (rw [hji75] at H; exact H) | (simp only [hji75] at H ⊢; exact H)
               (try rw [hji75] at A71)
               (try rw [hji75] at A73)
               (try rw [hji75] at A74)
               have hji75w : (IntKind.i64.wrap ((wrap64 (x13_2 * a0_0)) + x14_3)) = ji75 := (i64_w _).trans hji75
               by_cases c76 : 0 ≤ (ji75)
               ·
                rw [if_pos c76] at H
                have c76b0 : decide (0 ≤ (ji75)) = true := decide_eq_true c76
                clear c76
                by_cases c77 : (ji75) < (x552002_3.length : Int)
                ·
                 rw [if_pos c77] at H
                 have c77b0 : decide ((ji75) < (x552002_3.length : Int)) = true := decide_eq_true c77
                 clear c77
                 obtain ⟨y565, hy565⟩ : ∃ y_ : List (S43), y_ = (x552002_3.set ((ji75) : Int).toNat (⟨t561, t562, t563, t564⟩ : S43)) := ⟨_, rfl⟩
                 replace H : (compositorref09_put.l1 kj49 ji30 ji32 true x13_2 (wrap64 (x14_3 + 1)) a0_0 a0_1 l0_2 a1_0 a1_1 l1_2 a0_0 a0_1 y565) = some (r1, r2, r3, r4) := by first | (rw [hy565]; with_reducible exact H) | (have H2_ := (Option.bind_some _ _).symm.trans H; rw [hy565]; with_reducible exact H2_) | (have H2_ := (Option.bind_some _ _).symm.trans H; with_reducible exact H2_) | with_reducible exact H | (rw [hy565]; exact H) | exact H
                 have Ny565 := Aside0.mk hy565
                 clear hy565
                 have H' := Aside0.mk H
                 clear H
                 have hnb79 := NB541_540.out
                 have hnc79 := NB540_541.out
                 have hnb80 := NB541_542.out
                 have hnc80 := NB542_541.out
                 have hnb81 := NB541_551.out
                 have hnc81 := NB551_541.out
                 have hcz82_0 : wc.cell? ⟨gb541, 0, none⟩ = some (.int .i64 a1_0) := (blk_cell BK541.out 0).trans rfl
                 have hcz82_1 : wc.cell? ⟨gb541, 1, none⟩ = some (.int .i64 a1_1) := (blk_cell BK541.out 1).trans rfl
                 have hcz82_2 : wc.cell? ⟨gb541, 2, none⟩ = some (.slice A1_2 l1_2.length c1_2) := (blk_cell BK541.out 2).trans rfl
                 have hfz82_0 := blk_frozen BK541.out 0
                 have hfz82_1 := blk_frozen BK541.out 1
                 have hfz82_2 := blk_frozen BK541.out 2
                 try go_wp2_with (first | ((with_reducible refine gate_callee (f := 28) rfl ?_); refine goesL_ (some 85) rfl rfl Try.func28 (by kernel_rfl) rfl #[.agg #[.int .i64 a1_0, .int .i64 a1_1, .slice A1_2 l1_2.length c1_2], .int .i64 (wrap64 (x14_3 - ji30)), .int .i64 (wrap64 (x13_2 - ji32))] rfl (by (try simp only [List.map_toArray, List.map_cons, List.map_nil]); first | done | (simp only [hji30, hji32]; rfl) | rfl | (simp only [List.length_drop, List.length_take]; rfl)) ?_; (with_reducible refine (compositorref09_At.calls a1_0 a1_1 _ _ l1_2 (wrap64 (x14_3 - ji30)) (wrap64 (x13_2 - ji32)) t552 t553 t554 t555 _ ?side1 ?side2 A71.out).mono ?_); (case side1 => repeat (first | exact (Kd.C_below HR1_2.out HB.out) | (with_reducible refine Kd.C_alloc ?_ _) | (with_reducible refine Kd.C_drewN ?_ _) | (with_reducible refine Kd.C_drew ?_))); (case side2 => exact HC1_2.out); rintro e w83 ⟨rfl, hb⟩; refine ⟨_, rfl, ?_⟩; have n0_ := Aside0.mk (Kd.R_below (by (with_reducible repeat (first | apply Kd.R_alloc | apply Kd.R_drewN | apply Kd.R_drew)); exact HO_552002.out) hb); have n1_ := bb_ BK540 hb; have n2_ := bb_ BK541 hb; have n3_ := bb_ BK542 hb; have n4_ := bb_ BK551 hb; have n5_ := hb_ HB hb; clear HO_552002; clear BK540; clear BK541; clear BK542; clear BK551; clear HB; have HO_552002 := n0_; have BK540 := n1_; have BK541 := n2_; have BK542 := n3_; have BK551 := n4_; have HB := n5_; clear n0_ n1_ n2_ n3_ n4_ n5_; (try clear hb); (try clear hb2); (try clear hk); (try clear hi)) | ((with_reducible refine gate_dst (N := 15) rfl ?_); refine box_event ?hg (N := 15) ?hd (cs := #[.int .u8 0, .int .u8 0, .int .u8 0, .int .u8 0]) (t := 43) ?hr ?_; (case hd => rfl); (case hg => rfl); (case hr => first | (go_simp; done) | (go_simp; rfl)); intro gb556 hg w84 hbox hb; have n0_ := Aside0.mk (Kd.R_below (Kd.R_elderB (by (with_reducible repeat (first | apply Kd.R_alloc | apply Kd.R_drewN | apply Kd.R_drew)); exact HO_552002.out) gb556 (Nat.le_of_eq hg.symm)) hb); have n1_ := bb_ BK540 hb; have n2_ := bb_ BK541 hb; have n3_ := bb_ BK542 hb; have n4_ := bb_ BK551 hb; have n5_ := hb_ HB hb; have n6_ := Aside0.mk (hbox); have n7_ := Aside0.mk ((by rw [hg]; exact (below_size (hq_ HB)) : w.heap.size ≤ gb556)); have n8_ := Aside0.mk ((by rw [hg]; exact (below_size (hq_ HB)) : w.heap.size ≤ gb556)); have n9_ := Aside0.mk ((by rw [hg]; exact Nat.ne_of_lt (blk_lt (g := gb540) (o := .cells #[.int .i64 a0_0, .int .i64 a0_1, .slice A0_2 l0_2.length c0_2] 27 (0, 0)) (bq_ BK540)) : gb540 ≠ gb556)); have n10_ := Aside0.mk ((by rw [hg]; exact Nat.ne_of_gt (blk_lt (g := gb540) (o := .cells #[.int .i64 a0_0, .int .i64 a0_1, .slice A0_2 l0_2.length c0_2] 27 (0, 0)) (bq_ BK540)) : gb556 ≠ gb540)); have n11_ := Aside0.mk ((by rw [hg]; exact Nat.ne_of_lt (blk_lt (g := gb541) (o := .cells #[.int .i64 a1_0, .int .i64 a1_1, .slice A1_2 l1_2.length c1_2] 27 (0, 0)) (bq_ BK541)) : gb541 ≠ gb556)); have n12_ := Aside0.mk ((by rw [hg]; exact Nat.ne_of_gt (blk_lt (g := gb541) (o := .cells #[.int .i64 a1_0, .int .i64 a1_1, .slice A1_2 l1_2.length c1_2] 27 (0, 0)) (bq_ BK541)) : gb556 ≠ gb541)); have n13_ := Aside0.mk ((by rw [hg]; exact Nat.ne_of_lt (blk_lt (g := gb542) (o := .cells #[.int .i64 0, .int .i64 0, .slice none 0 0] 27 (0, 0)) (bq_ BK542)) : gb542 ≠ gb556)); have n14_ := Aside0.mk ((by rw [hg]; exact Nat.ne_of_gt (blk_lt (g := gb542) (o := .cells #[.int .i64 0, .int .i64 0, .slice none 0 0] 27 (0, 0)) (bq_ BK542)) : gb556 ≠ gb542)); have n15_ := Aside0.mk ((by rw [hg]; exact Nat.ne_of_lt (blk_lt (g := gb551) (o := .cells #[.int .i64 a0_0, .int .i64 a0_1, u552002] 27 (0, 0)) (bq_ BK551)) : gb551 ≠ gb556)); have n16_ := Aside0.mk ((by rw [hg]; exact Nat.ne_of_gt (blk_lt (g := gb551) (o := .cells #[.int .i64 a0_0, .int .i64 a0_1, u552002] 27 (0, 0)) (bq_ BK551)) : gb556 ≠ gb551)); clear HO_552002; clear BK540; clear BK541; clear BK542; clear BK551; clear HB; have HO_552002 := n0_; have BK540 := n1_; have BK541 := n2_; have BK542 := n3_; have BK551 := n4_; have HB := n5_; have BK556 := n6_; have GW556 := n7_; have GE556 := n8_; have NB540_556 := n9_; have NB556_540 := n10_; have NB541_556 := n11_; have NB556_541 := n12_; have NB542_556 := n13_; have NB556_542 := n14_; have NB551_556 := n15_; have NB556_551 := n16_; clear n0_ n1_ n2_ n3_ n4_ n5_ n6_ n7_ n8_ n9_ n10_ n11_ n12_ n13_ n14_ n15_ n16_; clear hb hbox hg; have hnb85 := NB556_540.out; have hnc85 := NB540_556.out; have hnb86 := NB556_541.out; have hnc86 := NB541_556.out; have hnb87 := NB556_542.out; have hnc87 := NB542_556.out; have hnb88 := NB556_551.out; have hnc88 := NB551_556.out; have hcz89_0 : w84.cell? ⟨gb556, 0, none⟩ = some (.int .u8 0) := (blk_cell BK556.out 0).trans rfl; have hcz89_1 : w84.cell? ⟨gb556, 1, none⟩ = some (.int .u8 0) := (blk_cell BK556.out 1).trans rfl; have hcz89_2 : w84.cell? ⟨gb556, 2, none⟩ = some (.int .u8 0) := (blk_cell BK556.out 2).trans rfl; have hcz89_3 : w84.cell? ⟨gb556, 3, none⟩ = some (.int .u8 0) := (blk_cell BK556.out 3).trans rfl; have hfz89_0 := blk_frozen BK556.out 0; have hfz89_1 := blk_frozen BK556.out 1; have hfz89_2 := blk_frozen BK556.out 2; have hfz89_3 := blk_frozen BK556.out 3))
                 have n0_ : Aside0 (Kd.R k43 43 ((((w84.setCell ⟨gb556, 0, none⟩ (.int .u8 t552)).setCell ⟨gb556, 1, none⟩ (.int .u8 t553)).setCell ⟨gb556, 2, none⟩ (.int .u8 t554)).setCell ⟨gb556, 3, none⟩ (.int .u8 t555)) w.heap.size (fun k_ => k_ ≠ gb556) u552002 x552002_3) := ⟨by (with_reducible repeat (first | apply Kd.R_alloc | apply Kd.R_drewN | apply Kd.R_drew)); exact Kd.R_mono (Kd.R_far (p := ⟨gb556, 3, none⟩) (Kd.R_far (p := ⟨gb556, 2, none⟩) (Kd.R_far (p := ⟨gb556, 1, none⟩) (Kd.R_far (p := ⟨gb556, 0, none⟩) (Kd.R_mono HO_552002.out (fun k_ hk => (⟨hk, hk.2⟩ : _ ∧ k_ ≠ gb556))) (fun _ hk => hk.2) (.int .u8 t552)) (fun _ hk => hk.2) (.int .u8 t553)) (fun _ hk => hk.2) (.int .u8 t554)) (fun _ hk => hk.2) (.int .u8 t555)) (fun _ hk => hk.1.2)⟩
                 have n1_ : Aside0 (((((w84.setCell ⟨gb556, 0, none⟩ (.int .u8 t552)).setCell ⟨gb556, 1, none⟩ (.int .u8 t553)).setCell ⟨gb556, 2, none⟩ (.int .u8 t554)).setCell ⟨gb556, 3, none⟩ (.int .u8 t555)).heap[gb540]? = some (.cells #[.int .i64 a0_0, .int .i64 a0_1, .slice A0_2 l0_2.length c0_2] 27 (0, 0))) := bf_ BK540
                 have n2_ : Aside0 (((((w84.setCell ⟨gb556, 0, none⟩ (.int .u8 t552)).setCell ⟨gb556, 1, none⟩ (.int .u8 t553)).setCell ⟨gb556, 2, none⟩ (.int .u8 t554)).setCell ⟨gb556, 3, none⟩ (.int .u8 t555)).heap[gb541]? = some (.cells #[.int .i64 a1_0, .int .i64 a1_1, .slice A1_2 l1_2.length c1_2] 27 (0, 0))) := bf_ BK541
                 have n3_ : Aside0 (((((w84.setCell ⟨gb556, 0, none⟩ (.int .u8 t552)).setCell ⟨gb556, 1, none⟩ (.int .u8 t553)).setCell ⟨gb556, 2, none⟩ (.int .u8 t554)).setCell ⟨gb556, 3, none⟩ (.int .u8 t555)).heap[gb542]? = some (.cells #[.int .i64 0, .int .i64 0, .slice none 0 0] 27 (0, 0))) := bf_ BK542
                 have n4_ : Aside0 (((((w84.setCell ⟨gb556, 0, none⟩ (.int .u8 t552)).setCell ⟨gb556, 1, none⟩ (.int .u8 t553)).setCell ⟨gb556, 2, none⟩ (.int .u8 t554)).setCell ⟨gb556, 3, none⟩ (.int .u8 t555)).heap[gb551]? = some (.cells #[.int .i64 a0_0, .int .i64 a0_1, u552002] 27 (0, 0))) := bf_ BK551
                 have n5_ : Aside0 (((((w84.setCell ⟨gb556, 0, none⟩ (.int .u8 t552)).setCell ⟨gb556, 1, none⟩ (.int .u8 t553)).setCell ⟨gb556, 2, none⟩ (.int .u8 t554)).setCell ⟨gb556, 3, none⟩ (.int .u8 t555)).heap[gb556]? = some (.cells #[.int .u8 t552, .int .u8 t553, .int .u8 t554, .int .u8 t555] 43 (0, 0))) := ⟨by (with_reducible repeat (first | refine blk_drewN ?_ _ | refine blk_drew ?_ | refine blk_alloc ?_ _)); refine blk_put (cs := #[.int .u8 t552, .int .u8 t553, .int .u8 t554, .int .u8 0]) ?_ 3 _ rfl; (with_reducible repeat (first | refine blk_drewN ?_ _ | refine blk_drew ?_ | refine blk_alloc ?_ _)); refine blk_put (cs := #[.int .u8 t552, .int .u8 t553, .int .u8 0, .int .u8 0]) ?_ 2 _ rfl; (with_reducible repeat (first | refine blk_drewN ?_ _ | refine blk_drew ?_ | refine blk_alloc ?_ _)); refine blk_put (cs := #[.int .u8 t552, .int .u8 0, .int .u8 0, .int .u8 0]) ?_ 1 _ rfl; (with_reducible repeat (first | refine blk_drewN ?_ _ | refine blk_drew ?_ | refine blk_alloc ?_ _)); refine blk_put (cs := #[.int .u8 0, .int .u8 0, .int .u8 0, .int .u8 0]) ?_ 0 _ rfl; (with_reducible repeat (first | refine blk_drewN ?_ _ | refine blk_drew ?_ | refine blk_alloc ?_ _)); exact BK556.out⟩
                 have n6_ : Aside0 (Below w.heap.size w ((((w84.setCell ⟨gb556, 0, none⟩ (.int .u8 t552)).setCell ⟨gb556, 1, none⟩ (.int .u8 t553)).setCell ⟨gb556, 2, none⟩ (.int .u8 t554)).setCell ⟨gb556, 3, none⟩ (.int .u8 t555))) := ⟨by repeat (first | (with_reducible first | exact HB.out | apply below_alloc | apply pw_below_drewN | apply below_drew1 | refine below_set ?_ GE540.out | refine below_set ?_ GE541.out | refine below_set ?_ GE542.out | refine below_set ?_ GE551.out | refine below_set ?_ GE556.out) | exact HB.out)⟩
                 (try clear HO_552002)
                 (try clear BK540)
                 (try clear BK541)
                 (try clear BK542)
                 (try clear BK551)
                 (try clear BK556)
                 (try clear HB)
                 generalize ((((w84.setCell ⟨gb556, 0, none⟩ (.int .u8 t552)).setCell ⟨gb556, 1, none⟩ (.int .u8 t553)).setCell ⟨gb556, 2, none⟩ (.int .u8 t554)).setCell ⟨gb556, 3, none⟩ (.int .u8 t555)) = w90 at n0_ n1_ n2_ n3_ n4_ n5_ n6_ ⊢
                 have HO_552002 := n0_
                 have BK540 := n1_
                 have BK541 := n2_
                 have BK542 := n3_
                 have BK551 := n4_
                 have BK556 := n5_
                 have HB := n6_
                 clear n0_ n1_ n2_ n3_ n4_ n5_ n6_
                 replace HO_552002 := Aside0.mk (Kd.R_drew HO_552002.out)
                 replace BK540 := Aside0.mk (blk_drew BK540.out)
                 replace BK541 := Aside0.mk (blk_drew BK541.out)
                 replace BK542 := Aside0.mk (blk_drew BK542.out)
                 replace BK551 := Aside0.mk (blk_drew BK551.out)
                 replace BK556 := Aside0.mk (blk_drew BK556.out)
                 replace HB := Aside0.mk (below_drew1 HB.out)
                 refine start_ (n := 7) (S := fun w' => w'.cell? ⟨gb556, 0, none⟩ = some (.int .u8 t552) ∧ w'.cell? ⟨gb556, 1, none⟩ = some (.int .u8 t553) ∧ w'.cell? ⟨gb556, 2, none⟩ = some (.int .u8 t554) ∧ w'.cell? ⟨gb556, 3, none⟩ = some (.int .u8 t555) ∧ w'.cell? ⟨gb540, 0, none⟩ = some (.int .i64 a0_0) ∧ w'.cell? ⟨gb540, 1, none⟩ = some (.int .i64 a0_1) ∧ w'.cell? ⟨gb540, 2, none⟩ = some (.slice A0_2 l0_2.length c0_2)) (ds := [6]) #[false, false, false, false, false, false, false] (by kernel_rfl) rfl rfl (a4_ BK556 ⟨c_ BK540 0, ⟨c_ BK540 1, (c_ BK540 2)⟩⟩) (fun hHeld => ?_)
                 generalize w90.drew = w91 at HO_552002 BK540 BK541 BK542 BK551 BK556 HB hHeld ⊢
                 refine pure_ (i := 2) (N := some 89) (v := ?_) (a' := ?_) #[false, false, true, false, false, false, false] rfl rfl (by kernel_rfl) (fun _ _ _ h => h) (Or.inl ⟨by rfl, ?_⟩) ?_ ?_
                 rotate_left
                 ·
                  intro w'
                  go_simp
                  with_reducible rfl
                 rotate_left
                 ·
                  simp only [Act.put, List.setIfInBounds_toArray, List.set_cons_zero, List.set_cons_succ, i64_w, i32_w]
                  rfl
                 refine pure_ (i := 3) (N := some 90) (v := ?_) (a' := ?_) #[false, false, true, true, false, false, false] rfl rfl (by kernel_rfl) (fun _ _ _ h => h) (Or.inl ⟨by rfl, ?_⟩) ?_ ?_
                 rotate_left
                 ·
                  intro w'
                  go_simp
                  with_reducible rfl
                 rotate_left
                 ·
                  simp only [Act.put, List.setIfInBounds_toArray, List.set_cons_zero, List.set_cons_succ, i64_w, i32_w]
                  rfl
                 refine take_ (i := 0) (N := some 87) (v := ?_) (a' := ?_) #[true, false, true, true, false, false, false] rfl rfl (by kernel_rfl) (fun _ _ _ h => h) (Or.inl ⟨by rfl, ?_⟩) hHeld ?_ ?_
                 rotate_left
                 ·
                  rintro w' ⟨s0, s1, s2, s3, s4, s5, s6⟩
                  go_simp
                  with_reducible rfl
                 rotate_left
                 ·
                  simp only [Act.put, List.setIfInBounds_toArray, List.set_cons_zero, List.set_cons_succ, i64_w, i32_w]
                  rfl
                 refine take_ (i := 1) (N := some 88) (v := ?_) (a' := ?_) #[true, true, true, true, false, false, false] rfl rfl (by kernel_rfl) (fun _ _ _ h => h) (Or.inl ⟨by rfl, ?_⟩) hHeld ?_ ?_
                 rotate_left
                 ·
                  rintro w' ⟨s0, s1, s2, s3, s4, s5, s6⟩
                  go_simp
                  with_reducible rfl
                 rotate_left
                 ·
                  simp only [Act.put, List.setIfInBounds_toArray, List.set_cons_zero, List.set_cons_succ, i64_w, i32_w]
                  rfl
                 refine one_ (i := 4) (N := some 91) #[true, true, true, true, true, false, false] rfl rfl (by kernel_rfl) (by decide) (fun K hK => ?_)
                 refine gs_ Try.func28 #[.agg #[.int .i64 a0_0, .int .i64 a0_1, .slice A0_2 l0_2.length c0_2], .int .i64 x14_3, .int .i64 x13_2] ?_
                 with_reducible refine (compositorref09_At.calls a0_0 a0_1 _ _ l0_2 x14_3 x13_2 t557 t558 t559 t560 _ ?side1 ?side2 A73.out).mono ?_
                 (case side1 => repeat (first | exact (Kd.C_below HR0_2.out HB.out) | (with_reducible refine Kd.C_alloc ?_ _) | (with_reducible refine Kd.C_drewN ?_ _) | (with_reducible refine Kd.C_drew ?_)))
                 (case side2 => exact HC0_2.out)
                 rintro e w92 ⟨rfl, hb⟩
                 refine ⟨_, rfl, ?_⟩
                 replace HO_552002 := Aside0.mk (Kd.R_below (by (with_reducible repeat (first | apply Kd.R_alloc | apply Kd.R_drewN | apply Kd.R_drew)); exact HO_552002.out) hb)
                 replace BK540 := bb_ BK540 hb
                 replace BK541 := bb_ BK541 hb
                 replace BK542 := bb_ BK542 hb
                 replace BK551 := bb_ BK551 hb
                 replace BK556 := bb_ BK556 hb
                 replace HB := hb_ HB hb
                 (try clear hb); (try clear hb2); (try clear hk); (try clear hi)
                 refine hK.out _ _ (a4_ BK556 ⟨c_ BK540 0, ⟨c_ BK540 1, (c_ BK540 2)⟩⟩) (fun hHeld => ?_)
                 clear hK K
                 refine norm_ (a' := ?_) ?_ ?_
                 rotate_left
                 ·
                  show Act.put _ (some 91) _ = _
                  simp only [Act.put, List.setIfInBounds_toArray, List.set_cons_zero, List.set_cons_succ, i64_w, i32_w]
                  rfl
                 refine one_ (i := 5) (N := some 92) #[true, true, true, true, true, true, false] rfl rfl (by kernel_rfl) (by decide) (fun K hK => ?_)
                 refine gs_ Try.func71 #[.agg #[.int .u8 t552, .int .u8 t553, .int .u8 t554, .int .u8 t555], .agg #[.int .u8 t557, .int .u8 t558, .int .u8 t559, .int .u8 t560]] ?_
                 with_reducible refine (compositorref08_Over.calls t552 t553 t554 t555 t557 t558 t559 t560 t561 t562 t563 t564 _ A74.out).mono ?_
                 rintro e w93 ⟨rfl, hb⟩
                 refine ⟨_, rfl, ?_⟩
                 replace HO_552002 := Aside0.mk (Kd.R_below (by (with_reducible repeat (first | apply Kd.R_alloc | apply Kd.R_drewN | apply Kd.R_drew)); exact HO_552002.out) hb)
                 replace BK540 := bb_ BK540 hb
                 replace BK541 := bb_ BK541 hb
                 replace BK542 := bb_ BK542 hb
                 replace BK551 := bb_ BK551 hb
                 replace BK556 := bb_ BK556 hb
                 replace HB := hb_ HB hb
                 (try clear hb); (try clear hb2); (try clear hk); (try clear hi)
                 refine hK.out _ _ (a4_ BK556 ⟨c_ BK540 0, ⟨c_ BK540 1, (c_ BK540 2)⟩⟩) (fun hHeld => ?_)
                 clear hK K
                 refine norm_ (a' := ?_) ?_ ?_
                 rotate_left
                 ·
                  show Act.put _ (some 92) _ = _
                  simp only [Act.put, List.setIfInBounds_toArray, List.set_cons_zero, List.set_cons_succ, i64_w, i32_w]
                  rfl
                 refine last_ (i := 6) (N := none) #[true, true, true, true, true, true, true] rfl rfl (by kernel_rfl) (by decide) (fun K hK => ?_)
                 have hs94 : w93.cell? ⟨gb556, 0, none⟩ = some (.int .u8 t552) := (blk_cell BK556.out 0).trans rfl
                 have hfs94 := blk_frozen BK556.out 0
                 have hns94_0 := NB540_556.out
                 have hns94_1 := NB541_556.out
                 have hns94_2 := NB542_556.out
                 have hns94_3 := NB551_556.out
                 have hms94_0 := NB556_540.out
                 have hms94_1 := NB556_541.out
                 have hms94_2 := NB556_542.out
                 have hms94_3 := NB556_551.out
                 have hs95 : w93.cell? ⟨gb556, 1, none⟩ = some (.int .u8 t553) := (blk_cell BK556.out 1).trans rfl
                 have hfs95 := blk_frozen BK556.out 1
                 have hns95_0 := NB540_556.out
                 have hns95_1 := NB541_556.out
                 have hns95_2 := NB542_556.out
                 have hns95_3 := NB551_556.out
                 have hms95_0 := NB556_540.out
                 have hms95_1 := NB556_541.out
                 have hms95_2 := NB556_542.out
                 have hms95_3 := NB556_551.out
                 have hs96 : w93.cell? ⟨gb556, 2, none⟩ = some (.int .u8 t554) := (blk_cell BK556.out 2).trans rfl
                 have hfs96 := blk_frozen BK556.out 2
                 have hns96_0 := NB540_556.out
                 have hns96_1 := NB541_556.out
                 have hns96_2 := NB542_556.out
                 have hns96_3 := NB551_556.out
                 have hms96_0 := NB556_540.out
                 have hms96_1 := NB556_541.out
                 have hms96_2 := NB556_542.out
                 have hms96_3 := NB556_551.out
                 have hs97 : w93.cell? ⟨gb556, 3, none⟩ = some (.int .u8 t555) := (blk_cell BK556.out 3).trans rfl
                 have hfs97 := blk_frozen BK556.out 3
                 have hns97_0 := NB540_556.out
                 have hns97_1 := NB541_556.out
                 have hns97_2 := NB542_556.out
                 have hns97_3 := NB551_556.out
                 have hms97_0 := NB556_540.out
                 have hms97_1 := NB556_541.out
                 have hms97_2 := NB556_542.out
                 have hms97_3 := NB556_551.out
                 refine skip_ (w1 := ?_) (by rfl) rfl ?_ ?_
                 rotate_left
                 ·
                  go_simp
                  rfl
                 refine hK.out _ _ ?_
                 clear hK K
                 refine done_ (by kernel_rfl) ?_
                 have n0_ : Aside0 (Kd.R k43 43 ((((w93.setCell ⟨gb556, 0, none⟩ (.int .u8 t561)).setCell ⟨gb556, 1, none⟩ (.int .u8 t562)).setCell ⟨gb556, 2, none⟩ (.int .u8 t563)).setCell ⟨gb556, 3, none⟩ (.int .u8 t564)) w.heap.size (fun k_ => k_ ≠ gb556) u552002 x552002_3) := ⟨by (with_reducible repeat (first | apply Kd.R_alloc | apply Kd.R_drewN | apply Kd.R_drew)); exact Kd.R_mono (Kd.R_far (p := ⟨gb556, 3, none⟩) (Kd.R_far (p := ⟨gb556, 2, none⟩) (Kd.R_far (p := ⟨gb556, 1, none⟩) (Kd.R_far (p := ⟨gb556, 0, none⟩) (Kd.R_mono HO_552002.out (fun k_ hk => (⟨hk, hk⟩ : _ ∧ k_ ≠ gb556))) (fun _ hk => hk.2) (.int .u8 t561)) (fun _ hk => hk.2) (.int .u8 t562)) (fun _ hk => hk.2) (.int .u8 t563)) (fun _ hk => hk.2) (.int .u8 t564)) (fun _ hk => hk.1)⟩
                 have n1_ : Aside0 (((((w93.setCell ⟨gb556, 0, none⟩ (.int .u8 t561)).setCell ⟨gb556, 1, none⟩ (.int .u8 t562)).setCell ⟨gb556, 2, none⟩ (.int .u8 t563)).setCell ⟨gb556, 3, none⟩ (.int .u8 t564)).heap[gb540]? = some (.cells #[.int .i64 a0_0, .int .i64 a0_1, .slice A0_2 l0_2.length c0_2] 27 (0, 0))) := bf_ BK540
                 have n2_ : Aside0 (((((w93.setCell ⟨gb556, 0, none⟩ (.int .u8 t561)).setCell ⟨gb556, 1, none⟩ (.int .u8 t562)).setCell ⟨gb556, 2, none⟩ (.int .u8 t563)).setCell ⟨gb556, 3, none⟩ (.int .u8 t564)).heap[gb541]? = some (.cells #[.int .i64 a1_0, .int .i64 a1_1, .slice A1_2 l1_2.length c1_2] 27 (0, 0))) := bf_ BK541
                 have n3_ : Aside0 (((((w93.setCell ⟨gb556, 0, none⟩ (.int .u8 t561)).setCell ⟨gb556, 1, none⟩ (.int .u8 t562)).setCell ⟨gb556, 2, none⟩ (.int .u8 t563)).setCell ⟨gb556, 3, none⟩ (.int .u8 t564)).heap[gb542]? = some (.cells #[.int .i64 0, .int .i64 0, .slice none 0 0] 27 (0, 0))) := bf_ BK542
                 have n4_ : Aside0 (((((w93.setCell ⟨gb556, 0, none⟩ (.int .u8 t561)).setCell ⟨gb556, 1, none⟩ (.int .u8 t562)).setCell ⟨gb556, 2, none⟩ (.int .u8 t563)).setCell ⟨gb556, 3, none⟩ (.int .u8 t564)).heap[gb551]? = some (.cells #[.int .i64 a0_0, .int .i64 a0_1, u552002] 27 (0, 0))) := bf_ BK551
                 have n5_ : Aside0 (((((w93.setCell ⟨gb556, 0, none⟩ (.int .u8 t561)).setCell ⟨gb556, 1, none⟩ (.int .u8 t562)).setCell ⟨gb556, 2, none⟩ (.int .u8 t563)).setCell ⟨gb556, 3, none⟩ (.int .u8 t564)).heap[gb556]? = some (.cells #[.int .u8 t561, .int .u8 t562, .int .u8 t563, .int .u8 t564] 43 (0, 0))) := ⟨by (with_reducible repeat (first | refine blk_drewN ?_ _ | refine blk_drew ?_ | refine blk_alloc ?_ _)); refine blk_put (cs := #[.int .u8 t561, .int .u8 t562, .int .u8 t563, .int .u8 t555]) ?_ 3 _ rfl; (with_reducible repeat (first | refine blk_drewN ?_ _ | refine blk_drew ?_ | refine blk_alloc ?_ _)); refine blk_put (cs := #[.int .u8 t561, .int .u8 t562, .int .u8 t554, .int .u8 t555]) ?_ 2 _ rfl; (with_reducible repeat (first | refine blk_drewN ?_ _ | refine blk_drew ?_ | refine blk_alloc ?_ _)); refine blk_put (cs := #[.int .u8 t561, .int .u8 t553, .int .u8 t554, .int .u8 t555]) ?_ 1 _ rfl; (with_reducible repeat (first | refine blk_drewN ?_ _ | refine blk_drew ?_ | refine blk_alloc ?_ _)); refine blk_put (cs := #[.int .u8 t552, .int .u8 t553, .int .u8 t554, .int .u8 t555]) ?_ 0 _ rfl; (with_reducible repeat (first | refine blk_drewN ?_ _ | refine blk_drew ?_ | refine blk_alloc ?_ _)); exact BK556.out⟩
                 have n6_ : Aside0 (Below w.heap.size w ((((w93.setCell ⟨gb556, 0, none⟩ (.int .u8 t561)).setCell ⟨gb556, 1, none⟩ (.int .u8 t562)).setCell ⟨gb556, 2, none⟩ (.int .u8 t563)).setCell ⟨gb556, 3, none⟩ (.int .u8 t564))) := ⟨by repeat (first | (with_reducible first | exact HB.out | apply below_alloc | apply pw_below_drewN | apply below_drew1 | refine below_set ?_ GE540.out | refine below_set ?_ GE541.out | refine below_set ?_ GE542.out | refine below_set ?_ GE551.out | refine below_set ?_ GE556.out) | exact HB.out)⟩
                 (try clear HO_552002)
                 (try clear BK540)
                 (try clear BK541)
                 (try clear BK542)
                 (try clear BK551)
                 (try clear BK556)
                 (try clear HB)
                 generalize ((((w93.setCell ⟨gb556, 0, none⟩ (.int .u8 t561)).setCell ⟨gb556, 1, none⟩ (.int .u8 t562)).setCell ⟨gb556, 2, none⟩ (.int .u8 t563)).setCell ⟨gb556, 3, none⟩ (.int .u8 t564)) = w98 at n0_ n1_ n2_ n3_ n4_ n5_ n6_ ⊢
                 have HO_552002 := n0_
                 have BK540 := n1_
                 have BK541 := n2_
                 have BK542 := n3_
                 have BK551 := n4_
                 have BK556 := n5_
                 have HB := n6_
                 clear n0_ n1_ n2_ n3_ n4_ n5_ n6_
                 have hnb99 := NB551_540.out
                 have hnc99 := NB540_551.out
                 have hnb100 := NB551_542.out
                 have hnc100 := NB542_551.out
                 have hcz101_0 : w98.cell? ⟨gb551, 0, none⟩ = some (.int .i64 a0_0) := (blk_cell BK551.out 0).trans rfl
                 have hcz101_1 : w98.cell? ⟨gb551, 1, none⟩ = some (.int .i64 a0_1) := (blk_cell BK551.out 1).trans rfl
                 have hcz101_2 : w98.cell? ⟨gb551, 2, none⟩ = some (u552002) := (blk_cell BK551.out 2).trans rfl
                 have hfz101_0 := blk_frozen BK551.out 0
                 have hfz101_1 := blk_frozen BK551.out 1
                 have hfz101_2 := blk_frozen BK551.out 2
                 have hnb102 := NB540_542.out
                 have hnc102 := NB542_540.out
                 have hcz103_0 : w98.cell? ⟨gb540, 0, none⟩ = some (.int .i64 a0_0) := (blk_cell BK540.out 0).trans rfl
                 have hcz103_1 : w98.cell? ⟨gb540, 1, none⟩ = some (.int .i64 a0_1) := (blk_cell BK540.out 1).trans rfl
                 have hcz103_2 : w98.cell? ⟨gb540, 2, none⟩ = some (.slice A0_2 l0_2.length c0_2) := (blk_cell BK540.out 2).trans rfl
                 have hfz103_0 := blk_frozen BK540.out 0
                 have hfz103_1 := blk_frozen BK540.out 1
                 have hfz103_2 := blk_frozen BK540.out 2
                 have hcz104_0 : w98.cell? ⟨gb556, 0, none⟩ = some (.int .u8 t561) := (blk_cell BK556.out 0).trans rfl
                 have hcz104_1 : w98.cell? ⟨gb556, 1, none⟩ = some (.int .u8 t562) := (blk_cell BK556.out 1).trans rfl
                 have hcz104_2 : w98.cell? ⟨gb556, 2, none⟩ = some (.int .u8 t563) := (blk_cell BK556.out 2).trans rfl
                 have hcz104_3 : w98.cell? ⟨gb556, 3, none⟩ = some (.int .u8 t564) := (blk_cell BK556.out 3).trans rfl
                 have hfz104_0 := blk_frozen BK556.out 0
                 have hfz104_1 := blk_frozen BK556.out 1
                 have hfz104_2 := blk_frozen BK556.out 2
                 have hfz104_3 := blk_frozen BK556.out 3
                 have p78 : 0 ≤ ((ji75) : Int) := of_decide_eq_true (by first | (with_reducible assumption) | assumption)
                 have q78 : ((ji75) : Int) < ((x552002_3.length : Int) : Int) := of_decide_eq_true (by first | (with_reducible assumption) | assumption)
                 obtain ⟨go78, co78, eo78, gb78, gl78, cl78, HG78⟩ := Kd.R_form HO_552002.out (by omega)
                 (first | cases eo78 | (injection eo78 with ea_ en_ ec_; (first | subst ea_ | (injection ea_ with ea_; subst ea_)); subst ec_; clear en_))
                 have GB78 := Aside0.mk gb78
                 have GG78 := Aside0.mk HG78
                 clear gb78 gl78 HG78
                 obtain ⟨ce78, hcl78, hM78, hcc78, hfr78⟩ := Kd.R_elem HO_552002.out z43 ((ji75) : Int) p78 q78
                 obtain rfl := k43_openM hM78
                 have hx78_0 : w98.cell? ⟨go78, ((ji75) : Int).toNat * 4, none⟩ = some (.int .u8 ((rd_T43 x552002_3 (ji75)).f0)) := hcc78 0 _ rfl
                 have hx78_1 : w98.cell? ⟨go78, ((ji75) : Int).toNat * 4 + 1, none⟩ = some (.int .u8 ((rd_T43 x552002_3 (ji75)).f1)) := hcc78 1 _ rfl
                 have hx78_2 : w98.cell? ⟨go78, ((ji75) : Int).toNat * 4 + 2, none⟩ = some (.int .u8 ((rd_T43 x552002_3 (ji75)).f2)) := hcc78 2 _ rfl
                 have hx78_3 : w98.cell? ⟨go78, ((ji75) : Int).toNat * 4 + 3, none⟩ = some (.int .u8 ((rd_T43 x552002_3 (ji75)).f3)) := hcc78 3 _ rfl
                 have hf78_0 : w98.frozen? ⟨go78, ((ji75) : Int).toNat * 4, none⟩ = false := hfr78 0
                 have hf78_1 : w98.frozen? ⟨go78, ((ji75) : Int).toNat * 4 + 1, none⟩ = false := hfr78 1
                 have hf78_2 : w98.frozen? ⟨go78, ((ji75) : Int).toNat * 4 + 2, none⟩ = false := hfr78 2
                 have hf78_3 : w98.frozen? ⟨go78, ((ji75) : Int).toNat * 4 + 3, none⟩ = false := hfr78 3
                 clear hcl78 hcc78 hfr78 hM78
                 replace p78 := eq_true p78
                 replace q78 := eq_true q78
                 have HX105 := Aside0.mk (show Kd.R k43 43 w98 w.heap.size (fun k_ => k_ ≠ gb556) (.slice (some ⟨go78, 0, none⟩) x552002_3.length co78) x552002_3 from (by (with_reducible repeat (first | apply Kd.R_alloc | apply Kd.R_drewN | apply Kd.R_drew)); exact HO_552002.out))
                 obtain ⟨ce105, hcl105, hM105, hcc105, hfr105⟩ := Kd.R_elem HX105.out z43 ((ji75) : Int) (of_decide_eq_true (by first | (with_reducible assumption) | assumption)) (by have h_ : ((ji75) : Int) < ((x552002_3.length : Int) : Int) := of_decide_eq_true (by first | (with_reducible assumption) | assumption); first | exact h_ | (have e_ := (Kd.R_reads' HO_552002.out).1; omega) | simpa using h_)
                 obtain rfl := k43_openM hM105
                 have HP105 := Kd.R_seg HX105.out ((ji75) : Int) (of_decide_eq_true (by first | (with_reducible assumption) | assumption)) (by have h_ : ((ji75) : Int) < ((x552002_3.length : Int) : Int) := of_decide_eq_true (by first | (with_reducible assumption) | assumption); first | exact h_ | (have e_ := (Kd.R_reads' HO_552002.out).1; omega) | simpa using h_) (seg := [.int .u8 t561, .int .u8 t562, .int .u8 t563, .int .u8 t564]) (j := 0) hcl105 hcc105 (show 4 ≤ 4 from by decide) (x' := (⟨t561, t562, t563, t564⟩ : S43)) (k43_mkM _ _ _ (⟨t561, t562, t563, t564⟩ : S43) ) (fun _ hk => hk)
                 have hx105_0 := hcc105 0 _ rfl
                 (try simp only [show (k43).sz = 4 from rfl, Nat.mul_one, Nat.add_zero] at hx105_0)
                 have hf105_0 := hfr105 0
                 (try simp only [show (k43).sz = 4 from rfl, Nat.mul_one, Nat.add_zero] at hf105_0)
                 have hx105_1 := hcc105 1 _ rfl
                 (try simp only [show (k43).sz = 4 from rfl, Nat.mul_one, Nat.add_zero] at hx105_1)
                 have hf105_1 := hfr105 1
                 (try simp only [show (k43).sz = 4 from rfl, Nat.mul_one, Nat.add_zero] at hf105_1)
                 have hx105_2 := hcc105 2 _ rfl
                 (try simp only [show (k43).sz = 4 from rfl, Nat.mul_one, Nat.add_zero] at hx105_2)
                 have hf105_2 := hfr105 2
                 (try simp only [show (k43).sz = 4 from rfl, Nat.mul_one, Nat.add_zero] at hf105_2)
                 have hx105_3 := hcc105 3 _ rfl
                 (try simp only [show (k43).sz = 4 from rfl, Nat.mul_one, Nat.add_zero] at hx105_3)
                 have hf105_3 := hfr105 3
                 (try simp only [show (k43).sz = 4 from rfl, Nat.mul_one, Nat.add_zero] at hf105_3)
                 clear hcl105 hcc105 hfr105 hM105
                 try go_wp2_with (first | ((with_reducible refine gate_store (t := 43) (p := 102) rfl ?_); refine store_event (t := 43) (p := 102) (v := ?vo_w106) (w1 := ((((w98.setCell ⟨go78, ((ji75) : Int).toNat * 4, none⟩ (.int .u8 t561)).setCell ⟨go78, ((ji75) : Int).toNat * 4 + 1, none⟩ (.int .u8 t562)).setCell ⟨go78, ((ji75) : Int).toNat * 4 + 2, none⟩ (.int .u8 t563)).setCell ⟨go78, ((ji75) : Int).toNat * 4 + 3, none⟩ (.int .u8 t564))) ?hg ?ho ?hn ?hr ?_; (case ho => rfl); (case hg => rfl); (case hn => rfl); (case hr => first | (go_simp; done) | (go_simp; rfl)); intro w106 hw; have hg : w98.grownBy w106 (some go78) := (by rw [hw]; exact HP105.2); have hp_ : Kd.R k43 43 w106 w.heap.size (fun k_ => k_ ≠ gb556) (.slice (some ⟨go78, 0, none⟩) x552002_3.length co78) y565 := (by rw [hw, Ny565.out]; exact HP105.1); clear HP105; have n0_ := Aside0.mk (hp_); have n1_ := Aside0.mk (blk_grown (g := gb540) (o := .cells #[.int .i64 a0_0, .int .i64 a0_1, .slice A0_2 l0_2.length c0_2] 27 (0, 0)) (bq_ BK540) hg (Kd.R_ne HO_552002.out BK540.out (by decide))); have n2_ := Aside0.mk (blk_grown (g := gb541) (o := .cells #[.int .i64 a1_0, .int .i64 a1_1, .slice A1_2 l1_2.length c1_2] 27 (0, 0)) (bq_ BK541) hg (Kd.R_ne HO_552002.out BK541.out (by decide))); have n3_ := Aside0.mk (blk_grown (g := gb542) (o := .cells #[.int .i64 0, .int .i64 0, .slice none 0 0] 27 (0, 0)) (bq_ BK542) hg (Kd.R_ne HO_552002.out BK542.out (by decide))); have n4_ := Aside0.mk (blk_grown (g := gb551) (o := .cells #[.int .i64 a0_0, .int .i64 a0_1, .slice (some ⟨go78, 0, none⟩) x552002_3.length co78] 27 (0, 0)) (bq_ BK551) hg (Kd.R_ne HO_552002.out BK551.out (by decide))); have n5_ := Aside0.mk (blk_grown (g := gb556) (o := .cells #[.int .u8 t561, .int .u8 t562, .int .u8 t563, .int .u8 t564] 43 (0, 0)) (bq_ BK556) hg (Kd.R_away HO_552002.out (fun _ hk => hk))); have n6_ := Aside0.mk ((by rw [hw]; exact below_set (below_set (below_set (below_set (HB.out) GB78.out) GB78.out) GB78.out) GB78.out : Below w.heap.size w w106)); clear HO_552002; clear BK540; clear BK541; clear BK542; clear BK551; clear BK556; clear HB; have HO_552002 := n0_; have BK540 := n1_; have BK541 := n2_; have BK542 := n3_; have BK551 := n4_; have BK556 := n5_; have HB := n6_; clear n0_ n1_ n2_ n3_ n4_ n5_ n6_; clear hg hw hp_))
                 go_roundg kj49
                 case measure => have := HJ5.out; have := HK2.out; have := HK3.out; have := HJ49.out; omega
                 case rel => exact ⟨(wrap64 (x14_3 + 1)), (y565), (.slice (some ⟨go78, 0, none⟩) x552002_3.length co78), (by first | rfl | (simp; done) | (simp [*]; done)), H', ⟨by have := HJ5.out; have := HK2.out; have := HK3.out; have := HJ49.out; omega⟩, ⟨by (with_reducible repeat (first | apply Kd.R_alloc | apply Kd.R_drewN | apply Kd.R_drew)); exact Kd.R_mono HO_552002.out (fun _ hk => trivial)⟩, bf_ BK540, bf_ BK541, bf_ BK542, bf_ BK551, ⟨by repeat (first | (with_reducible first | exact HB.out | apply below_alloc | apply pw_below_drewN | apply below_drew1 | refine below_set ?_ GE540.out | refine below_set ?_ GE541.out | refine below_set ?_ GE542.out | refine below_set ?_ GE551.out | refine below_set ?_ GE556.out) | exact HB.out)⟩⟩
                ·
                 rw [if_neg c77] at H
                 exact absurd H (by simp)
               ·
                rw [if_neg c76] at H
                exact absurd H (by simp)
              ·
               replace c72 := Bool.eq_false_iff.mpr c72
               subst c72
               have H1 : (if 0 ≤ (wrap64 ((wrap64 (x13_2 * a0_0)) + x14_3)) then (if (wrap64 ((wrap64 (x13_2 * a0_0)) + x14_3)) < (x552002_3.length : Int) then (compositorref09_put.l1 kj49 ji30 ji32 false x13_2 (wrap64 (x14_3 + 1)) a0_0 a0_1 l0_2 a1_0 a1_1 l1_2 a0_0 a0_1 (x552002_3.set ((wrap64 ((wrap64 (x13_2 * a0_0)) + x14_3)) : Int).toNat (⟨t552, t553, t554, t555⟩ : S43))) else (none)) else (none)) = some (r1, r2, r3, r4) := by rw [if_neg (show ¬ (false = true) by decide)] at H; exact H
               clear H
               have H := H1
               clear H1
               obtain ⟨ji107, hji107⟩ : ∃ j_ : Int, (wrap64 ((wrap64 (x13_2 * a0_0)) + x14_3)) = j_ := ⟨_, rfl⟩
               replace H : (if 0 ≤ (ji107) then (if (ji107) < (x552002_3.length : Int) then (compositorref09_put.l1 kj49 ji30 ji32 false x13_2 (wrap64 (x14_3 + 1)) a0_0 a0_1 l0_2 a1_0 a1_1 l1_2 a0_0 a0_1 (x552002_3.set ((ji107) : Int).toNat (⟨t552, t553, t554, t555⟩ : S43))) else (none)) else (none)) = some (r1, r2, r3, r4) := by first | (rw [hji107] at H; exact H) | (simp only [hji107] at H ⊢; exact H)
               (try rw [hji107] at A71)
               have hji107w : (IntKind.i64.wrap ((wrap64 (x13_2 * a0_0)) + x14_3)) = ji107 := (i64_w _).trans hji107
               by_cases c108 : 0 ≤ (ji107)
               ·
                rw [if_pos c108] at H
                have c108b0 : decide (0 ≤ (ji107)) = true := decide_eq_true c108
                clear c108
                by_cases c109 : (ji107) < (x552002_3.length : Int)
                ·
                 rw [if_pos c109] at H
                 have c109b0 : decide ((ji107) < (x552002_3.length : Int)) = true := decide_eq_true c109
                 clear c109
                 obtain ⟨y566, hy566⟩ : ∃ y_ : List (S43), y_ = (x552002_3.set ((ji107) : Int).toNat (⟨t552, t553, t554, t555⟩ : S43)) := ⟨_, rfl⟩
                 replace H : (compositorref09_put.l1 kj49 ji30 ji32 false x13_2 (wrap64 (x14_3 + 1)) a0_0 a0_1 l0_2 a1_0 a1_1 l1_2 a0_0 a0_1 y566) = some (r1, r2, r3, r4) := by first | (rw [hy566]; with_reducible exact H) | (have H2_ := (Option.bind_some _ _).symm.trans H; rw [hy566]; with_reducible exact H2_) | (have H2_ := (Option.bind_some _ _).symm.trans H; with_reducible exact H2_) | with_reducible exact H | (rw [hy566]; exact H) | exact H
                 have Ny566 := Aside0.mk hy566
                 clear hy566
                 have H' := Aside0.mk H
                 clear H
                 have hnb111 := NB541_540.out
                 have hnc111 := NB540_541.out
                 have hnb112 := NB541_542.out
                 have hnc112 := NB542_541.out
                 have hnb113 := NB541_551.out
                 have hnc113 := NB551_541.out
                 have hcz114_0 : wc.cell? ⟨gb541, 0, none⟩ = some (.int .i64 a1_0) := (blk_cell BK541.out 0).trans rfl
                 have hcz114_1 : wc.cell? ⟨gb541, 1, none⟩ = some (.int .i64 a1_1) := (blk_cell BK541.out 1).trans rfl
                 have hcz114_2 : wc.cell? ⟨gb541, 2, none⟩ = some (.slice A1_2 l1_2.length c1_2) := (blk_cell BK541.out 2).trans rfl
                 have hfz114_0 := blk_frozen BK541.out 0
                 have hfz114_1 := blk_frozen BK541.out 1
                 have hfz114_2 := blk_frozen BK541.out 2
                 go_wp2_with (first | ((with_reducible refine gate_callee (f := 28) rfl ?_); refine goesL_ (some 85) rfl rfl Try.func28 (by kernel_rfl) rfl #[.agg #[.int .i64 a1_0, .int .i64 a1_1, .slice A1_2 l1_2.length c1_2], .int .i64 (wrap64 (x14_3 - ji30)), .int .i64 (wrap64 (x13_2 - ji32))] rfl (by (try simp only [List.map_toArray, List.map_cons, List.map_nil]); first | done | (simp only [hji30, hji32]; rfl) | rfl | (simp only [List.length_drop, List.length_take]; rfl)) ?_; (with_reducible refine (compositorref09_At.calls a1_0 a1_1 _ _ l1_2 (wrap64 (x14_3 - ji30)) (wrap64 (x13_2 - ji32)) t552 t553 t554 t555 _ ?side1 ?side2 A71.out).mono ?_); (case side1 => repeat (first | exact (Kd.C_below HR1_2.out HB.out) | (with_reducible refine Kd.C_alloc ?_ _) | (with_reducible refine Kd.C_drewN ?_ _) | (with_reducible refine Kd.C_drew ?_))); (case side2 => exact HC1_2.out); rintro e w115 ⟨rfl, hb⟩; refine ⟨_, rfl, ?_⟩; have n0_ := Aside0.mk (Kd.R_below (by (with_reducible repeat (first | apply Kd.R_alloc | apply Kd.R_drewN | apply Kd.R_drew)); exact HO_552002.out) hb); have n1_ := bb_ BK540 hb; have n2_ := bb_ BK541 hb; have n3_ := bb_ BK542 hb; have n4_ := bb_ BK551 hb; have n5_ := hb_ HB hb; clear HO_552002; clear BK540; clear BK541; clear BK542; clear BK551; clear HB; have HO_552002 := n0_; have BK540 := n1_; have BK541 := n2_; have BK542 := n3_; have BK551 := n4_; have HB := n5_; clear n0_ n1_ n2_ n3_ n4_ n5_; (try clear hb); (try clear hb2); (try clear hk); (try clear hi)) | ((with_reducible refine gate_dst (N := 15) rfl ?_); refine box_event ?hg (N := 15) ?hd (cs := #[.int .u8 0, .int .u8 0, .int .u8 0, .int .u8 0]) (t := 43) ?hr ?_; (case hd => rfl); (case hg => rfl); (case hr => first | (go_simp; done) | (go_simp; rfl)); intro gb556 hg w116 hbox hb; have n0_ := Aside0.mk (Kd.R_below (Kd.R_elderB (by (with_reducible repeat (first | apply Kd.R_alloc | apply Kd.R_drewN | apply Kd.R_drew)); exact HO_552002.out) gb556 (Nat.le_of_eq hg.symm)) hb); have n1_ := bb_ BK540 hb; have n2_ := bb_ BK541 hb; have n3_ := bb_ BK542 hb; have n4_ := bb_ BK551 hb; have n5_ := hb_ HB hb; have n6_ := Aside0.mk (hbox); have n7_ := Aside0.mk ((by rw [hg]; exact (below_size (hq_ HB)) : w.heap.size ≤ gb556)); have n8_ := Aside0.mk ((by rw [hg]; exact (below_size (hq_ HB)) : w.heap.size ≤ gb556)); have n9_ := Aside0.mk ((by rw [hg]; exact Nat.ne_of_lt (blk_lt (g := gb540) (o := .cells #[.int .i64 a0_0, .int .i64 a0_1, .slice A0_2 l0_2.length c0_2] 27 (0, 0)) (bq_ BK540)) : gb540 ≠ gb556)); have n10_ := Aside0.mk ((by rw [hg]; exact Nat.ne_of_gt (blk_lt (g := gb540) (o := .cells #[.int .i64 a0_0, .int .i64 a0_1, .slice A0_2 l0_2.length c0_2] 27 (0, 0)) (bq_ BK540)) : gb556 ≠ gb540)); have n11_ := Aside0.mk ((by rw [hg]; exact Nat.ne_of_lt (blk_lt (g := gb541) (o := .cells #[.int .i64 a1_0, .int .i64 a1_1, .slice A1_2 l1_2.length c1_2] 27 (0, 0)) (bq_ BK541)) : gb541 ≠ gb556)); have n12_ := Aside0.mk ((by rw [hg]; exact Nat.ne_of_gt (blk_lt (g := gb541) (o := .cells #[.int .i64 a1_0, .int .i64 a1_1, .slice A1_2 l1_2.length c1_2] 27 (0, 0)) (bq_ BK541)) : gb556 ≠ gb541)); have n13_ := Aside0.mk ((by rw [hg]; exact Nat.ne_of_lt (blk_lt (g := gb542) (o := .cells #[.int .i64 0, .int .i64 0, .slice none 0 0] 27 (0, 0)) (bq_ BK542)) : gb542 ≠ gb556)); have n14_ := Aside0.mk ((by rw [hg]; exact Nat.ne_of_gt (blk_lt (g := gb542) (o := .cells #[.int .i64 0, .int .i64 0, .slice none 0 0] 27 (0, 0)) (bq_ BK542)) : gb556 ≠ gb542)); have n15_ := Aside0.mk ((by rw [hg]; exact Nat.ne_of_lt (blk_lt (g := gb551) (o := .cells #[.int .i64 a0_0, .int .i64 a0_1, u552002] 27 (0, 0)) (bq_ BK551)) : gb551 ≠ gb556)); have n16_ := Aside0.mk ((by rw [hg]; exact Nat.ne_of_gt (blk_lt (g := gb551) (o := .cells #[.int .i64 a0_0, .int .i64 a0_1, u552002] 27 (0, 0)) (bq_ BK551)) : gb556 ≠ gb551)); clear HO_552002; clear BK540; clear BK541; clear BK542; clear BK551; clear HB; have HO_552002 := n0_; have BK540 := n1_; have BK541 := n2_; have BK542 := n3_; have BK551 := n4_; have HB := n5_; have BK556 := n6_; have GW556 := n7_; have GE556 := n8_; have NB540_556 := n9_; have NB556_540 := n10_; have NB541_556 := n11_; have NB556_541 := n12_; have NB542_556 := n13_; have NB556_542 := n14_; have NB551_556 := n15_; have NB556_551 := n16_; clear n0_ n1_ n2_ n3_ n4_ n5_ n6_ n7_ n8_ n9_ n10_ n11_ n12_ n13_ n14_ n15_ n16_; clear hb hbox hg; have hnb117 := NB556_540.out; have hnc117 := NB540_556.out; have hnb118 := NB556_541.out; have hnc118 := NB541_556.out; have hnb119 := NB556_542.out; have hnc119 := NB542_556.out; have hnb120 := NB556_551.out; have hnc120 := NB551_556.out; have hcz121_0 : w116.cell? ⟨gb556, 0, none⟩ = some (.int .u8 0) := (blk_cell BK556.out 0).trans rfl; have hcz121_1 : w116.cell? ⟨gb556, 1, none⟩ = some (.int .u8 0) := (blk_cell BK556.out 1).trans rfl; have hcz121_2 : w116.cell? ⟨gb556, 2, none⟩ = some (.int .u8 0) := (blk_cell BK556.out 2).trans rfl; have hcz121_3 : w116.cell? ⟨gb556, 3, none⟩ = some (.int .u8 0) := (blk_cell BK556.out 3).trans rfl; have hfz121_0 := blk_frozen BK556.out 0; have hfz121_1 := blk_frozen BK556.out 1; have hfz121_2 := blk_frozen BK556.out 2; have hfz121_3 := blk_frozen BK556.out 3) | ((with_reducible refine gate_store (t := 43) (p := 15) rfl ?_); refine store_event (t := 43) (p := 15) (v := ?vo_w122) (w1 := ((((w116.setCell ⟨gb556, 0, none⟩ (.int .u8 t552)).setCell ⟨gb556, 1, none⟩ (.int .u8 t553)).setCell ⟨gb556, 2, none⟩ (.int .u8 t554)).setCell ⟨gb556, 3, none⟩ (.int .u8 t555))) ?hg ?ho ?hn ?hr ?_; (case ho => rfl); (case hg => rfl); (case hn => rfl); (case hr => first | (go_simp; done) | (go_simp; rfl)); intro w122 hw; have n0_ : Aside0 (Kd.R k43 43 w122 w.heap.size (fun k_ => k_ ≠ gb556) u552002 x552002_3) := ⟨(by rw [hw]; exact (by (with_reducible repeat (first | apply Kd.R_alloc | apply Kd.R_drewN | apply Kd.R_drew)); exact Kd.R_mono (Kd.R_far (p := ⟨gb556, 3, none⟩) (Kd.R_far (p := ⟨gb556, 2, none⟩) (Kd.R_far (p := ⟨gb556, 1, none⟩) (Kd.R_far (p := ⟨gb556, 0, none⟩) (Kd.R_mono HO_552002.out (fun k_ hk => (⟨hk, hk.2⟩ : _ ∧ k_ ≠ gb556))) (fun _ hk => hk.2) (.int .u8 t552)) (fun _ hk => hk.2) (.int .u8 t553)) (fun _ hk => hk.2) (.int .u8 t554)) (fun _ hk => hk.2) (.int .u8 t555)) (fun _ hk => hk.1.2)))⟩; have n1_ : Aside0 (w122.heap[gb540]? = some (.cells #[.int .i64 a0_0, .int .i64 a0_1, .slice A0_2 l0_2.length c0_2] 27 (0, 0))) := ⟨(by rw [hw]; exact (by (with_reducible repeat (first | refine blk_drewN ?_ _ | refine blk_drew ?_ | refine blk_alloc ?_ _)); refine blk_far ?_ NB540_556.out _; (with_reducible repeat (first | refine blk_drewN ?_ _ | refine blk_drew ?_ | refine blk_alloc ?_ _)); refine blk_far ?_ NB540_556.out _; (with_reducible repeat (first | refine blk_drewN ?_ _ | refine blk_drew ?_ | refine blk_alloc ?_ _)); refine blk_far ?_ NB540_556.out _; (with_reducible repeat (first | refine blk_drewN ?_ _ | refine blk_drew ?_ | refine blk_alloc ?_ _)); refine blk_far ?_ NB540_556.out _; (with_reducible repeat (first | refine blk_drewN ?_ _ | refine blk_drew ?_ | refine blk_alloc ?_ _)); exact BK540.out))⟩; have n2_ : Aside0 (w122.heap[gb541]? = some (.cells #[.int .i64 a1_0, .int .i64 a1_1, .slice A1_2 l1_2.length c1_2] 27 (0, 0))) := ⟨(by rw [hw]; exact (by (with_reducible repeat (first | refine blk_drewN ?_ _ | refine blk_drew ?_ | refine blk_alloc ?_ _)); refine blk_far ?_ NB541_556.out _; (with_reducible repeat (first | refine blk_drewN ?_ _ | refine blk_drew ?_ | refine blk_alloc ?_ _)); refine blk_far ?_ NB541_556.out _; (with_reducible repeat (first | refine blk_drewN ?_ _ | refine blk_drew ?_ | refine blk_alloc ?_ _)); refine blk_far ?_ NB541_556.out _; (with_reducible repeat (first | refine blk_drewN ?_ _ | refine blk_drew ?_ | refine blk_alloc ?_ _)); refine blk_far ?_ NB541_556.out _; (with_reducible repeat (first | refine blk_drewN ?_ _ | refine blk_drew ?_ | refine blk_alloc ?_ _)); exact BK541.out))⟩; have n3_ : Aside0 (w122.heap[gb542]? = some (.cells #[.int .i64 0, .int .i64 0, .slice none 0 0] 27 (0, 0))) := ⟨(by rw [hw]; exact (by (with_reducible repeat (first | refine blk_drewN ?_ _ | refine blk_drew ?_ | refine blk_alloc ?_ _)); refine blk_far ?_ NB542_556.out _; (with_reducible repeat (first | refine blk_drewN ?_ _ | refine blk_drew ?_ | refine blk_alloc ?_ _)); refine blk_far ?_ NB542_556.out _; (with_reducible repeat (first | refine blk_drewN ?_ _ | refine blk_drew ?_ | refine blk_alloc ?_ _)); refine blk_far ?_ NB542_556.out _; (with_reducible repeat (first | refine blk_drewN ?_ _ | refine blk_drew ?_ | refine blk_alloc ?_ _)); refine blk_far ?_ NB542_556.out _; (with_reducible repeat (first | refine blk_drewN ?_ _ | refine blk_drew ?_ | refine blk_alloc ?_ _)); exact BK542.out))⟩; have n4_ : Aside0 (w122.heap[gb551]? = some (.cells #[.int .i64 a0_0, .int .i64 a0_1, u552002] 27 (0, 0))) := ⟨(by rw [hw]; exact (by (with_reducible repeat (first | refine blk_drewN ?_ _ | refine blk_drew ?_ | refine blk_alloc ?_ _)); refine blk_far ?_ NB551_556.out _; (with_reducible repeat (first | refine blk_drewN ?_ _ | refine blk_drew ?_ | refine blk_alloc ?_ _)); refine blk_far ?_ NB551_556.out _; (with_reducible repeat (first | refine blk_drewN ?_ _ | refine blk_drew ?_ | refine blk_alloc ?_ _)); refine blk_far ?_ NB551_556.out _; (with_reducible repeat (first | refine blk_drewN ?_ _ | refine blk_drew ?_ | refine blk_alloc ?_ _)); refine blk_far ?_ NB551_556.out _; (with_reducible repeat (first | refine blk_drewN ?_ _ | refine blk_drew ?_ | refine blk_alloc ?_ _)); exact BK551.out))⟩; have n5_ : Aside0 (w122.heap[gb556]? = some (.cells #[.int .u8 t552, .int .u8 t553, .int .u8 t554, .int .u8 t555] 43 (0, 0))) := ⟨(by rw [hw]; exact (by (with_reducible repeat (first | refine blk_drewN ?_ _ | refine blk_drew ?_ | refine blk_alloc ?_ _)); refine blk_put (cs := #[.int .u8 t552, .int .u8 t553, .int .u8 t554, .int .u8 0]) ?_ 3 _ rfl; (with_reducible repeat (first | refine blk_drewN ?_ _ | refine blk_drew ?_ | refine blk_alloc ?_ _)); refine blk_put (cs := #[.int .u8 t552, .int .u8 t553, .int .u8 0, .int .u8 0]) ?_ 2 _ rfl; (with_reducible repeat (first | refine blk_drewN ?_ _ | refine blk_drew ?_ | refine blk_alloc ?_ _)); refine blk_put (cs := #[.int .u8 t552, .int .u8 0, .int .u8 0, .int .u8 0]) ?_ 1 _ rfl; (with_reducible repeat (first | refine blk_drewN ?_ _ | refine blk_drew ?_ | refine blk_alloc ?_ _)); refine blk_put (cs := #[.int .u8 0, .int .u8 0, .int .u8 0, .int .u8 0]) ?_ 0 _ rfl; (with_reducible repeat (first | refine blk_drewN ?_ _ | refine blk_drew ?_ | refine blk_alloc ?_ _)); exact BK556.out))⟩; have n6_ : Aside0 (Below w.heap.size w w122) := ⟨(by rw [hw]; exact (hq_ HB))⟩; clear hw; clear HO_552002; clear BK540; clear BK541; clear BK542; clear BK551; clear BK556; clear HB; have HO_552002 := n0_; have BK540 := n1_; have BK541 := n2_; have BK542 := n3_; have BK551 := n4_; have BK556 := n5_; have HB := n6_; clear n0_ n1_ n2_ n3_ n4_ n5_ n6_; have hnb123 := NB551_540.out; have hnc123 := NB540_551.out; have hnb124 := NB551_542.out; have hnc124 := NB542_551.out; have hcz125_0 : w122.cell? ⟨gb551, 0, none⟩ = some (.int .i64 a0_0) := (blk_cell BK551.out 0).trans rfl; have hcz125_1 : w122.cell? ⟨gb551, 1, none⟩ = some (.int .i64 a0_1) := (blk_cell BK551.out 1).trans rfl; have hcz125_2 : w122.cell? ⟨gb551, 2, none⟩ = some (u552002) := (blk_cell BK551.out 2).trans rfl; have hfz125_0 := blk_frozen BK551.out 0; have hfz125_1 := blk_frozen BK551.out 1; have hfz125_2 := blk_frozen BK551.out 2; have hnb126 := NB540_542.out; have hnc126 := NB542_540.out; have hcz127_0 : w122.cell? ⟨gb540, 0, none⟩ = some (.int .i64 a0_0) := (blk_cell BK540.out 0).trans rfl; have hcz127_1 : w122.cell? ⟨gb540, 1, none⟩ = some (.int .i64 a0_1) := (blk_cell BK540.out 1).trans rfl; have hcz127_2 : w122.cell? ⟨gb540, 2, none⟩ = some (.slice A0_2 l0_2.length c0_2) := (blk_cell BK540.out 2).trans rfl; have hfz127_0 := blk_frozen BK540.out 0; have hfz127_1 := blk_frozen BK540.out 1; have hfz127_2 := blk_frozen BK540.out 2; have hcz128_0 : w122.cell? ⟨gb556, 0, none⟩ = some (.int .u8 t552) := (blk_cell BK556.out 0).trans rfl; have hcz128_1 : w122.cell? ⟨gb556, 1, none⟩ = some (.int .u8 t553) := (blk_cell BK556.out 1).trans rfl; have hcz128_2 : w122.cell? ⟨gb556, 2, none⟩ = some (.int .u8 t554) := (blk_cell BK556.out 2).trans rfl; have hcz128_3 : w122.cell? ⟨gb556, 3, none⟩ = some (.int .u8 t555) := (blk_cell BK556.out 3).trans rfl; have hfz128_0 := blk_frozen BK556.out 0; have hfz128_1 := blk_frozen BK556.out 1; have hfz128_2 := blk_frozen BK556.out 2; have hfz128_3 := blk_frozen BK556.out 3; have p110 : 0 ≤ ((ji107) : Int) := of_decide_eq_true (by first | (with_reducible assumption) | assumption); have q110 : ((ji107) : Int) < ((x552002_3.length : Int) : Int) := of_decide_eq_true (by first | (with_reducible assumption) | assumption); obtain ⟨go110, co110, eo110, gb110, gl110, cl110, HG110⟩ := Kd.R_form HO_552002.out (by omega); (first | cases eo110 | (injection eo110 with ea_ en_ ec_; (first | subst ea_ | (injection ea_ with ea_; subst ea_)); subst ec_; clear en_)); have GB110 := Aside0.mk gb110; have GG110 := Aside0.mk HG110; clear gb110 gl110 HG110; obtain ⟨ce110, hcl110, hM110, hcc110, hfr110⟩ := Kd.R_elem HO_552002.out z43 ((ji107) : Int) p110 q110; obtain rfl := k43_openM hM110; have hx110_0 : w122.cell? ⟨go110, ((ji107) : Int).toNat * 4, none⟩ = some (.int .u8 ((rd_T43 x552002_3 (ji107)).f0)) := hcc110 0 _ rfl; have hx110_1 : w122.cell? ⟨go110, ((ji107) : Int).toNat * 4 + 1, none⟩ = some (.int .u8 ((rd_T43 x552002_3 (ji107)).f1)) := hcc110 1 _ rfl; have hx110_2 : w122.cell? ⟨go110, ((ji107) : Int).toNat * 4 + 2, none⟩ = some (.int .u8 ((rd_T43 x552002_3 (ji107)).f2)) := hcc110 2 _ rfl; have hx110_3 : w122.cell? ⟨go110, ((ji107) : Int).toNat * 4 + 3, none⟩ = some (.int .u8 ((rd_T43 x552002_3 (ji107)).f3)) := hcc110 3 _ rfl; have hf110_0 : w122.frozen? ⟨go110, ((ji107) : Int).toNat * 4, none⟩ = false := hfr110 0; have hf110_1 : w122.frozen? ⟨go110, ((ji107) : Int).toNat * 4 + 1, none⟩ = false := hfr110 1; have hf110_2 : w122.frozen? ⟨go110, ((ji107) : Int).toNat * 4 + 2, none⟩ = false := hfr110 2; have hf110_3 : w122.frozen? ⟨go110, ((ji107) : Int).toNat * 4 + 3, none⟩ = false := hfr110 3; clear hcl110 hcc110 hfr110 hM110; replace p110 := eq_true p110; replace q110 := eq_true q110; have HX129 := Aside0.mk (show Kd.R k43 43 w122 w.heap.size (fun k_ => k_ ≠ gb556) (.slice (some ⟨go110, 0, none⟩) x552002_3.length co110) x552002_3 from (by (with_reducible repeat (first | apply Kd.R_alloc | apply Kd.R_drewN | apply Kd.R_drew)); exact HO_552002.out)); obtain ⟨ce129, hcl129, hM129, hcc129, hfr129⟩ := Kd.R_elem HX129.out z43 ((ji107) : Int) (of_decide_eq_true (by first | (with_reducible assumption) | assumption)) (by have h_ : ((ji107) : Int) < ((x552002_3.length : Int) : Int) := of_decide_eq_true (by first | (with_reducible assumption) | assumption); first | exact h_ | (have e_ := (Kd.R_reads' HO_552002.out).1; omega) | simpa using h_); obtain rfl := k43_openM hM129; have HP129 := Kd.R_seg HX129.out ((ji107) : Int) (of_decide_eq_true (by first | (with_reducible assumption) | assumption)) (by have h_ : ((ji107) : Int) < ((x552002_3.length : Int) : Int) := of_decide_eq_true (by first | (with_reducible assumption) | assumption); first | exact h_ | (have e_ := (Kd.R_reads' HO_552002.out).1; omega) | simpa using h_) (seg := [.int .u8 t552, .int .u8 t553, .int .u8 t554, .int .u8 t555]) (j := 0) hcl129 hcc129 (show 4 ≤ 4 from by decide) (x' := (⟨t552, t553, t554, t555⟩ : S43)) (k43_mkM _ _ _ (⟨t552, t553, t554, t555⟩ : S43) ) (fun _ hk => hk); have hx129_0 := hcc129 0 _ rfl; (try simp only [show (k43).sz = 4 from rfl, Nat.mul_one, Nat.add_zero] at hx129_0); have hf129_0 := hfr129 0; (try simp only [show (k43).sz = 4 from rfl, Nat.mul_one, Nat.add_zero] at hf129_0); have hx129_1 := hcc129 1 _ rfl; (try simp only [show (k43).sz = 4 from rfl, Nat.mul_one, Nat.add_zero] at hx129_1); have hf129_1 := hfr129 1; (try simp only [show (k43).sz = 4 from rfl, Nat.mul_one, Nat.add_zero] at hf129_1); have hx129_2 := hcc129 2 _ rfl; (try simp only [show (k43).sz = 4 from rfl, Nat.mul_one, Nat.add_zero] at hx129_2); have hf129_2 := hfr129 2; (try simp only [show (k43).sz = 4 from rfl, Nat.mul_one, Nat.add_zero] at hf129_2); have hx129_3 := hcc129 3 _ rfl; (try simp only [show (k43).sz = 4 from rfl, Nat.mul_one, Nat.add_zero] at hx129_3); have hf129_3 := hfr129 3; (try simp only [show (k43).sz = 4 from rfl, Nat.mul_one, Nat.add_zero] at hf129_3); clear hcl129 hcc129 hfr129 hM129) | ((with_reducible refine gate_store (t := 43) (p := 102) rfl ?_); refine store_event (t := 43) (p := 102) (v := ?vo_w130) (w1 := ((((w122.setCell ⟨go110, ((ji107) : Int).toNat * 4, none⟩ (.int .u8 t552)).setCell ⟨go110, ((ji107) : Int).toNat * 4 + 1, none⟩ (.int .u8 t553)).setCell ⟨go110, ((ji107) : Int).toNat * 4 + 2, none⟩ (.int .u8 t554)).setCell ⟨go110, ((ji107) : Int).toNat * 4 + 3, none⟩ (.int .u8 t555))) ?hg ?ho ?hn ?hr ?_; (case ho => rfl); (case hg => rfl); (case hn => rfl); (case hr => first | (go_simp; done) | (go_simp; rfl)); intro w130 hw; have hg : w122.grownBy w130 (some go110) := (by rw [hw]; exact HP129.2); have hp_ : Kd.R k43 43 w130 w.heap.size (fun k_ => k_ ≠ gb556) (.slice (some ⟨go110, 0, none⟩) x552002_3.length co110) y566 := (by rw [hw, Ny566.out]; exact HP129.1); clear HP129; have n0_ := Aside0.mk (hp_); have n1_ := Aside0.mk (blk_grown (g := gb540) (o := .cells #[.int .i64 a0_0, .int .i64 a0_1, .slice A0_2 l0_2.length c0_2] 27 (0, 0)) (bq_ BK540) hg (Kd.R_ne HO_552002.out BK540.out (by decide))); have n2_ := Aside0.mk (blk_grown (g := gb541) (o := .cells #[.int .i64 a1_0, .int .i64 a1_1, .slice A1_2 l1_2.length c1_2] 27 (0, 0)) (bq_ BK541) hg (Kd.R_ne HO_552002.out BK541.out (by decide))); have n3_ := Aside0.mk (blk_grown (g := gb542) (o := .cells #[.int .i64 0, .int .i64 0, .slice none 0 0] 27 (0, 0)) (bq_ BK542) hg (Kd.R_ne HO_552002.out BK542.out (by decide))); have n4_ := Aside0.mk (blk_grown (g := gb551) (o := .cells #[.int .i64 a0_0, .int .i64 a0_1, .slice (some ⟨go110, 0, none⟩) x552002_3.length co110] 27 (0, 0)) (bq_ BK551) hg (Kd.R_ne HO_552002.out BK551.out (by decide))); have n5_ := Aside0.mk (blk_grown (g := gb556) (o := .cells #[.int .u8 t552, .int .u8 t553, .int .u8 t554, .int .u8 t555] 43 (0, 0)) (bq_ BK556) hg (Kd.R_away HO_552002.out (fun _ hk => hk))); have n6_ := Aside0.mk ((by rw [hw]; exact below_set (below_set (below_set (below_set (HB.out) GB110.out) GB110.out) GB110.out) GB110.out : Below w.heap.size w w130)); clear HO_552002; clear BK540; clear BK541; clear BK542; clear BK551; clear BK556; clear HB; have HO_552002 := n0_; have BK540 := n1_; have BK541 := n2_; have BK542 := n3_; have BK551 := n4_; have BK556 := n5_; have HB := n6_; clear n0_ n1_ n2_ n3_ n4_ n5_ n6_; clear hg hw hp_))
                 go_roundg kj49
                 case measure => have := HJ5.out; have := HK2.out; have := HK3.out; have := HJ49.out; omega
                 case rel => exact ⟨(wrap64 (x14_3 + 1)), (y566), (.slice (some ⟨go110, 0, none⟩) x552002_3.length co110), (by first | rfl | (simp; done) | (simp [*]; done)), H', ⟨by have := HJ5.out; have := HK2.out; have := HK3.out; have := HJ49.out; omega⟩, ⟨by (with_reducible repeat (first | apply Kd.R_alloc | apply Kd.R_drewN | apply Kd.R_drew)); exact Kd.R_mono HO_552002.out (fun _ hk => trivial)⟩, bf_ BK540, bf_ BK541, bf_ BK542, bf_ BK551, ⟨by repeat (first | (with_reducible first | exact HB.out | apply below_alloc | apply pw_below_drewN | apply below_drew1 | refine below_set ?_ GE540.out | refine below_set ?_ GE541.out | refine below_set ?_ GE542.out | refine below_set ?_ GE551.out | refine below_set ?_ GE556.out) | exact HB.out)⟩⟩
                ·
                 rw [if_neg c109] at H
                 exact absurd H (by simp)
               ·
                rw [if_neg c108] at H
                exact absurd H (by simp)
          ·
           rw [if_neg c49] at H
           have c49b0 : decide (x14_3 < a0_0) = false := decide_eq_false c49
           clear c49
           have H' := Aside0.mk H
           clear H
           have hnb131 := NB540_541.out
           have hnc131 := NB541_540.out
           have hnb132 := NB540_542.out
           have hnc132 := NB542_540.out
           have hnb133 := NB540_551.out
           have hnc133 := NB551_540.out
           have hcz134_0 : wr.cell? ⟨gb540, 0, none⟩ = some (.int .i64 a0_0) := (blk_cell BK540.out 0).trans rfl
           have hcz134_1 : wr.cell? ⟨gb540, 1, none⟩ = some (.int .i64 a0_1) := (blk_cell BK540.out 1).trans rfl
           have hcz134_2 : wr.cell? ⟨gb540, 2, none⟩ = some (.slice A0_2 l0_2.length c0_2) := (blk_cell BK540.out 2).trans rfl
           have hfz134_0 := blk_frozen BK540.out 0
           have hfz134_1 := blk_frozen BK540.out 1
           have hfz134_2 := blk_frozen BK540.out 2
           go_wp2
           go_roundg k3
           case measure => have := HJ5.out; have := HK2.out; have := HK3.out; omega
           case rel => exact ⟨(wrap64 (x13_2 + 1)), (x552002_3), (u552002), (by first | rfl | (simp; done) | (simp [*]; done)), H', ⟨by have := HJ5.out; have := HK2.out; have := HK3.out; omega⟩, ⟨by (with_reducible repeat (first | apply Kd.R_alloc | apply Kd.R_drewN | apply Kd.R_drew)); exact HO_552002.out⟩, bf_ BK540, bf_ BK541, bf_ BK542, bf_ BK551, ⟨by repeat (first | (with_reducible first | exact HB.out | apply below_alloc | apply pw_below_drewN | apply below_drew1 | refine below_set ?_ GE540.out | refine below_set ?_ GE541.out | refine below_set ?_ GE542.out | refine below_set ?_ GE551.out) | exact HB.out)⟩⟩
       ·
        rw [if_neg c44] at H
        have c44b0 : decide (x13_2 < a0_1) = false := decide_eq_false c44
        clear c44
        simp only [Option.some.injEq, Prod.mk.injEq] at H
        obtain ⟨rfl, rfl, rfl, rfl⟩ := H
        have hnb135 := NB540_541.out
        have hnc135 := NB541_540.out
        have hnb136 := NB540_542.out
        have hnc136 := NB542_540.out
        have hnb137 := NB540_551.out
        have hnc137 := NB551_540.out
        have hcz138_0 : wr.cell? ⟨gb540, 0, none⟩ = some (.int .i64 a0_0) := (blk_cell BK540.out 0).trans rfl
        have hcz138_1 : wr.cell? ⟨gb540, 1, none⟩ = some (.int .i64 a0_1) := (blk_cell BK540.out 1).trans rfl
        have hcz138_2 : wr.cell? ⟨gb540, 2, none⟩ = some (.slice A0_2 l0_2.length c0_2) := (blk_cell BK540.out 2).trans rfl
        have hfz138_0 := blk_frozen BK540.out 0
        have hfz138_1 := blk_frozen BK540.out 1
        have hfz138_2 := blk_frozen BK540.out 2
        have hnb139 := NB551_541.out
        have hnc139 := NB541_551.out
        have hnb140 := NB551_542.out
        have hnc140 := NB542_551.out
        have hcz141_0 : wr.cell? ⟨gb551, 0, none⟩ = some (.int .i64 a0_0) := (blk_cell BK551.out 0).trans rfl
        have hcz141_1 : wr.cell? ⟨gb551, 1, none⟩ = some (.int .i64 a0_1) := (blk_cell BK551.out 1).trans rfl
        have hcz141_2 : wr.cell? ⟨gb551, 2, none⟩ = some (u552002) := (blk_cell BK551.out 2).trans rfl
        have hfz141_0 := blk_frozen BK551.out 0
        have hfz141_1 := blk_frozen BK551.out 1
        have hfz141_2 := blk_frozen BK551.out 2
        have hnb142 := NB542_541.out
        have hnc142 := NB541_542.out
        have hcz143_0 : wr.cell? ⟨gb542, 0, none⟩ = some (.int .i64 0) := (blk_cell BK542.out 0).trans rfl
        have hcz143_1 : wr.cell? ⟨gb542, 1, none⟩ = some (.int .i64 0) := (blk_cell BK542.out 1).trans rfl
        have hcz143_2 : wr.cell? ⟨gb542, 2, none⟩ = some (.slice none 0 0) := (blk_cell BK542.out 2).trans rfl
        have hfz143_0 := blk_frozen BK542.out 0
        have hfz143_1 := blk_frozen BK542.out 1
        have hfz143_2 := blk_frozen BK542.out 2
        obtain ⟨Ao144, co144, eo144⟩ := Kd.R_slice HO_552002.out
        subst eo144
        go_wp2
        refine bodyPost_ret (results_ct rfl _ _ gb542 27 #[.int .i64 a0_0, .int .i64 a0_1, .slice Ao144 x552002_2.length co144] (0, 0) _ rfl (by (with_reducible repeat (first | refine blk_drewN ?_ _ | refine blk_drew ?_ | refine blk_alloc ?_ _)); refine blk_put (cs := #[.int .i64 a0_0, .int .i64 a0_1, .slice none 0 0]) ?_ 2 _ rfl; (with_reducible repeat (first | refine blk_drewN ?_ _ | refine blk_drew ?_ | refine blk_alloc ?_ _)); refine blk_put (cs := #[.int .i64 a0_0, .int .i64 0, .slice none 0 0]) ?_ 1 _ rfl; (with_reducible repeat (first | refine blk_drewN ?_ _ | refine blk_drew ?_ | refine blk_alloc ?_ _)); refine blk_put (cs := #[.int .i64 0, .int .i64 0, .slice none 0 0]) ?_ 0 _ rfl; (with_reducible repeat (first | refine blk_drewN ?_ _ | refine blk_drew ?_ | refine blk_alloc ?_ _)); exact BK542.out) Try.underlying27 rfl (by kernel_rfl)) rfl ?_
        exact ⟨_, by first | rfl | (simp [errW_none, errW_some] <;> rfl) | (simp only [← hji29, ← hji30, ← hji31, ← hji32]; first | rfl | (simp [errW_none, errW_some] <;> rfl)) | (simp [*, errW_none, errW_some] <;> rfl), by (with_reducible repeat (first | apply Kd.R_alloc | apply Kd.R_drewN | apply Kd.R_drew)); exact Kd.R_mono (Kd.R_far (p := ⟨gb542, 2, none⟩) (Kd.R_far (p := ⟨gb542, 1, none⟩) (Kd.R_far (p := ⟨gb542, 0, none⟩) (Kd.R_types HO_552002.out BK542.out (by decide)) (fun _ hk => hk.2) (.int .i64 a0_0)) (fun _ hk => hk.2) (.int .i64 a0_1)) (fun _ hk => hk.2) (.slice Ao144 x552002_2.length co144)) (fun _ hk => trivial), by repeat (first | (with_reducible first | exact HB.out | apply below_alloc | apply pw_below_drewN | apply below_drew1 | refine below_set ?_ GE540.out | refine below_set ?_ GE541.out | refine below_set ?_ GE542.out | refine below_set ?_ GE551.out) | exact HB.out)⟩
    ·
     rw [if_neg c28] at H
     exact absurd H (by simp)
end Go.Proofs.Ytmockeaiccpogaa.All
end
section
namespace Go.Proofs.Ytmockeaiccpogaa.All
open Go.RowKit Go.Proofs.YtmockeaiccpogaaW.PrintWords Go.Proofs.YtmockeaiccpogaaW.PrintLast Go.Proofs.YtmockeaiccpogaaW.PrintMore
attribute [local go_sem] max2_int min2_int max_two min_two max_three min_three max_four min_four
set_option linter.unusedVariables false
set_option linter.unusedSimpArgs false
def compositorref09_Paste.f (k : Nat) (a0_0 : Int) (a0_1 : Int) (l0_2 : List (S43)) (a1_0 : Int) (a1_1 : Int) (l1_2 : List (S43)) (a2 : Int) (a3 : Int) : Option (Int × Int × (List (S43)) × Int) := (compositorref09_put.f k a0_0 a0_1 l0_2 a1_0 a1_1 l1_2 a2 a3 false).bind fun bt570 => (some (bt570.1, bt570.2.1, bt570.2.2.1, bt570.2.2.2))
set_option maxHeartbeats 8000000 in
set_option maxRecDepth 100000 in
theorem compositorref09_Paste.calls (k : Nat) (a0_0 : Int) (a0_1 : Int) (A0_2 : Option Addr) (c0_2 : Nat) (l0_2 : List (S43)) (a1_0 : Int) (a1_1 : Int) (A1_2 : Option Addr) (c1_2 : Nat) (l1_2 : List (S43)) (a2 : Int) (a3 : Int) (r1 : Int) (r2 : Int) (r3 : List (S43)) (r4 : Int) (w : World) (hr0_2 : Kd.C k43 w A0_2 l0_2.length l0_2) (hc0_2 : l0_2.length ≤ c0_2) (hr1_2 : Kd.C k43 w A1_2 l1_2.length l1_2) (hc1_2 : l1_2.length ≤ c1_2) (h : compositorref09_Paste.f k a0_0 a0_1 l0_2 a1_0 a1_1 l1_2 a2 a3 = some (r1, r2, r3, r4)) :
    Calls Try.prog 34 #[.agg #[.int .i64 a0_0, .int .i64 a0_1, .slice A0_2 l0_2.length c0_2], .agg #[.int .i64 a1_0, .int .i64 a1_1, .slice A1_2 l1_2.length c1_2], .int .i64 a2, .int .i64 a3] w fun e w' => ∃ v2_ : Value, e = .returned (.tuple #[.agg #[.int .i64 r1, .int .i64 r2, v2_], .int .i64 r4]) ∧ Kd.R k43 43 w' w.heap.size (fun _ => True) v2_ r3 ∧ Below w.heap.size w w' := by
  have hu27 := Try.underlying27
  have HR0_2 := Aside0.mk hr0_2
  have HC0_2 := Aside0.mk hc0_2
  clear hr0_2 hc0_2
  have HR1_2 := Aside0.mk hr1_2
  have HC1_2 := Aside0.mk hc1_2
  clear hr1_2 hc1_2
  have HB := Aside0.mk (Below.refl w.heap.size w)
  have H : ((compositorref09_put.f k a0_0 a0_1 l0_2 a1_0 a1_1 l1_2 a2 a3 false).bind fun bt570 => (some (bt570.1, bt570.2.1, bt570.2.2.1, bt570.2.2.2))) = some (r1, r2, r3, r4) := h
  clear h
  replace H := Option.bind_eq_some_iff.mp H
  obtain ⟨⟨t570, t571, t572, t575⟩, A50, H⟩ := H
  replace H : (some (t570, t571, t572, t575)) = some (r1, r2, r3, r4) := H
  have A5 := Aside0.mk A50
  clear A50
  simp only [Option.some.injEq, Prod.mk.injEq] at H
  obtain ⟨rfl, rfl, rfl, rfl⟩ := H
  go_enter Try.func34, Try.ntmps34
  go_wp2_with (first | ((with_reducible refine gate_dst (N := 4) rfl ?_); refine box_event ?hg (N := 4) ?hd (cs := #[.int .i64 a0_0, .int .i64 a0_1, .slice A0_2 l0_2.length c0_2]) (t := 27) ?hr ?_; (case hd => rfl); (case hg => rfl); (case hr => first | (go_simp; done) | (go_simp; rfl)); intro gb567 hg w6 hbox hb; have n0_ := Aside0.mk (below_step (by repeat (first | (with_reducible first | exact HB.out | apply below_alloc | apply pw_below_drewN | apply below_drew1) | exact HB.out)) hb); have n1_ := Aside0.mk (hbox); have n2_ := Aside0.mk ((by rw [hg]; exact (below_size (by repeat (first | (with_reducible first | exact HB.out | apply below_alloc | apply pw_below_drewN | apply below_drew1) | exact HB.out))) : w.heap.size ≤ gb567)); have n3_ := Aside0.mk ((by rw [hg]; exact (below_size (by repeat (first | (with_reducible first | exact HB.out | apply below_alloc | apply pw_below_drewN | apply below_drew1) | exact HB.out))) : w.heap.size ≤ gb567)); clear HB; have HB := n0_; have BK567 := n1_; have GW567 := n2_; have GE567 := n3_; clear n0_ n1_ n2_ n3_; clear hb hbox hg) | ((with_reducible refine gate_dst (N := 5) rfl ?_); refine box_event ?hg (N := 5) ?hd (cs := #[.int .i64 a1_0, .int .i64 a1_1, .slice A1_2 l1_2.length c1_2]) (t := 27) ?hr ?_; (case hd => rfl); (case hg => rfl); (case hr => first | (go_simp; done) | (go_simp; rfl)); intro gb568 hg w7 hbox hb; have n0_ := Aside0.mk (blk_below (g := gb567) (o := .cells #[.int .i64 a0_0, .int .i64 a0_1, .slice A0_2 l0_2.length c0_2] 27 (0, 0)) (by (with_reducible repeat (first | refine blk_drewN ?_ _ | refine blk_drew ?_ | refine blk_alloc ?_ _)); exact BK567.out) hb); have n1_ := Aside0.mk (below_step (by repeat (first | (with_reducible first | exact HB.out | apply below_alloc | apply pw_below_drewN | apply below_drew1 | refine below_set ?_ GE567.out) | exact HB.out)) hb); have n2_ := Aside0.mk (hbox); have n3_ := Aside0.mk ((by rw [hg]; exact (below_size (by repeat (first | (with_reducible first | exact HB.out | apply below_alloc | apply pw_below_drewN | apply below_drew1 | refine below_set ?_ GE567.out) | exact HB.out))) : w.heap.size ≤ gb568)); have n4_ := Aside0.mk ((by rw [hg]; exact (below_size (by repeat (first | (with_reducible first | exact HB.out | apply below_alloc | apply pw_below_drewN | apply below_drew1 | refine below_set ?_ GE567.out) | exact HB.out))) : w.heap.size ≤ gb568)); have n5_ := Aside0.mk ((by rw [hg]; exact Nat.ne_of_lt (blk_lt (g := gb567) (o := .cells #[.int .i64 a0_0, .int .i64 a0_1, .slice A0_2 l0_2.length c0_2] 27 (0, 0)) (by (with_reducible repeat (first | refine blk_drewN ?_ _ | refine blk_drew ?_ | refine blk_alloc ?_ _)); exact BK567.out)) : gb567 ≠ gb568)); have n6_ := Aside0.mk ((by rw [hg]; exact Nat.ne_of_gt (blk_lt (g := gb567) (o := .cells #[.int .i64 a0_0, .int .i64 a0_1, .slice A0_2 l0_2.length c0_2] 27 (0, 0)) (by (with_reducible repeat (first | refine blk_drewN ?_ _ | refine blk_drew ?_ | refine blk_alloc ?_ _)); exact BK567.out)) : gb568 ≠ gb567)); clear BK567; clear HB; have BK567 := n0_; have HB := n1_; have BK568 := n2_; have GW568 := n3_; have GE568 := n4_; have NB567_568 := n5_; have NB568_567 := n6_; clear n0_ n1_ n2_ n3_ n4_ n5_ n6_; clear hb hbox hg) | ((with_reducible refine gate_dst (N := 8) rfl ?_); refine box_event ?hg (N := 8) ?hd (cs := #[.int .i64 0, .int .i64 0, .slice none 0 0]) (t := 27) ?hr ?_; (case hd => rfl); (case hg => rfl); (case hr => first | (go_simp; done) | (go_simp; rfl)); intro gb569 hg w8 hbox hb; have n0_ := Aside0.mk (blk_below (g := gb567) (o := .cells #[.int .i64 a0_0, .int .i64 a0_1, .slice A0_2 l0_2.length c0_2] 27 (0, 0)) (by (with_reducible repeat (first | refine blk_drewN ?_ _ | refine blk_drew ?_ | refine blk_alloc ?_ _)); exact BK567.out) hb); have n1_ := Aside0.mk (blk_below (g := gb568) (o := .cells #[.int .i64 a1_0, .int .i64 a1_1, .slice A1_2 l1_2.length c1_2] 27 (0, 0)) (by (with_reducible repeat (first | refine blk_drewN ?_ _ | refine blk_drew ?_ | refine blk_alloc ?_ _)); exact BK568.out) hb); have n2_ := Aside0.mk (below_step (by repeat (first | (with_reducible first | exact HB.out | apply below_alloc | apply pw_below_drewN | apply below_drew1 | refine below_set ?_ GE567.out | refine below_set ?_ GE568.out) | exact HB.out)) hb); have n3_ := Aside0.mk (hbox); have n4_ := Aside0.mk ((by rw [hg]; exact (below_size (by repeat (first | (with_reducible first | exact HB.out | apply below_alloc | apply pw_below_drewN | apply below_drew1 | refine below_set ?_ GE567.out | refine below_set ?_ GE568.out) | exact HB.out))) : w.heap.size ≤ gb569)); have n5_ := Aside0.mk ((by rw [hg]; exact (below_size (by repeat (first | (with_reducible first | exact HB.out | apply below_alloc | apply pw_below_drewN | apply below_drew1 | refine below_set ?_ GE567.out | refine below_set ?_ GE568.out) | exact HB.out))) : w.heap.size ≤ gb569)); have n6_ := Aside0.mk ((by rw [hg]; exact Nat.ne_of_lt (blk_lt (g := gb567) (o := .cells #[.int .i64 a0_0, .int .i64 a0_1, .slice A0_2 l0_2.length c0_2] 27 (0, 0)) (by (with_reducible repeat (first | refine blk_drewN ?_ _ | refine blk_drew ?_ | refine blk_alloc ?_ _)); exact BK567.out)) : gb567 ≠ gb569)); have n7_ := Aside0.mk ((by rw [hg]; exact Nat.ne_of_gt (blk_lt (g := gb567) (o := .cells #[.int .i64 a0_0, .int .i64 a0_1, .slice A0_2 l0_2.length c0_2] 27 (0, 0)) (by (with_reducible repeat (first | refine blk_drewN ?_ _ | refine blk_drew ?_ | refine blk_alloc ?_ _)); exact BK567.out)) : gb569 ≠ gb567)); have n8_ := Aside0.mk ((by rw [hg]; exact Nat.ne_of_lt (blk_lt (g := gb568) (o := .cells #[.int .i64 a1_0, .int .i64 a1_1, .slice A1_2 l1_2.length c1_2] 27 (0, 0)) (by (with_reducible repeat (first | refine blk_drewN ?_ _ | refine blk_drew ?_ | refine blk_alloc ?_ _)); exact BK568.out)) : gb568 ≠ gb569)); have n9_ := Aside0.mk ((by rw [hg]; exact Nat.ne_of_gt (blk_lt (g := gb568) (o := .cells #[.int .i64 a1_0, .int .i64 a1_1, .slice A1_2 l1_2.length c1_2] 27 (0, 0)) (by (with_reducible repeat (first | refine blk_drewN ?_ _ | refine blk_drew ?_ | refine blk_alloc ?_ _)); exact BK568.out)) : gb569 ≠ gb568)); clear BK567; clear BK568; clear HB; have BK567 := n0_; have BK568 := n1_; have HB := n2_; have BK569 := n3_; have GW569 := n4_; have GE569 := n5_; have NB567_569 := n6_; have NB569_567 := n7_; have NB568_569 := n8_; have NB569_568 := n9_; clear n0_ n1_ n2_ n3_ n4_ n5_ n6_ n7_ n8_ n9_; clear hb hbox hg; have hnb9 := NB567_568.out; have hnc9 := NB568_567.out; have hnb10 := NB567_569.out; have hnc10 := NB569_567.out; have hcz11_0 : w8.cell? ⟨gb567, 0, none⟩ = some (.int .i64 a0_0) := (blk_cell BK567.out 0).trans rfl; have hcz11_1 : w8.cell? ⟨gb567, 1, none⟩ = some (.int .i64 a0_1) := (blk_cell BK567.out 1).trans rfl; have hcz11_2 : w8.cell? ⟨gb567, 2, none⟩ = some (.slice A0_2 l0_2.length c0_2) := (blk_cell BK567.out 2).trans rfl; have hfz11_0 := blk_frozen BK567.out 0; have hfz11_1 := blk_frozen BK567.out 1; have hfz11_2 := blk_frozen BK567.out 2; have hnb12 := NB568_569.out; have hnc12 := NB569_568.out; have hcz13_0 : w8.cell? ⟨gb568, 0, none⟩ = some (.int .i64 a1_0) := (blk_cell BK568.out 0).trans rfl; have hcz13_1 : w8.cell? ⟨gb568, 1, none⟩ = some (.int .i64 a1_1) := (blk_cell BK568.out 1).trans rfl; have hcz13_2 : w8.cell? ⟨gb568, 2, none⟩ = some (.slice A1_2 l1_2.length c1_2) := (blk_cell BK568.out 2).trans rfl; have hfz13_0 := blk_frozen BK568.out 0; have hfz13_1 := blk_frozen BK568.out 1; have hfz13_2 := blk_frozen BK568.out 2) | ((with_reducible refine gate_callee (f := 61) rfl ?_); refine goesL_ (some 14) rfl rfl Try.func61 (by kernel_rfl) rfl #[.agg #[.int .i64 a0_0, .int .i64 a0_1, .slice A0_2 l0_2.length c0_2], .agg #[.int .i64 a1_0, .int .i64 a1_1, .slice A1_2 l1_2.length c1_2], .int .i64 a2, .int .i64 a3, .bool false] rfl (by (try simp only [List.map_toArray, List.map_cons, List.map_nil]); first | done | rfl | (simp only [List.length_drop, List.length_take]; rfl)) ?_; (with_reducible refine (compositorref09_put.calls k a0_0 a0_1 _ _ l0_2 a1_0 a1_1 _ _ l1_2 a2 a3 false t570 t571 t572 t575 _ ?side1 ?side2 ?side3 ?side4 A5.out).mono ?_); (case side1 => repeat (first | exact (Kd.C_below HR0_2.out HB.out) | (with_reducible refine Kd.C_alloc ?_ _) | (with_reducible refine Kd.C_drewN ?_ _) | (with_reducible refine Kd.C_drew ?_))); (case side2 => exact HC0_2.out); (case side3 => repeat (first | exact (Kd.C_below HR1_2.out HB.out) | (with_reducible refine Kd.C_alloc ?_ _) | (with_reducible refine Kd.C_drewN ?_ _) | (with_reducible refine Kd.C_drew ?_))); (case side4 => exact HC1_2.out); rintro e w14 ⟨v573, rfl, ho0, hb⟩; refine ⟨_, rfl, ?_⟩; have n0_ := Aside0.mk (Kd.R_lower ho0 (below_size (by repeat (first | (with_reducible first | exact HB.out | apply below_alloc | apply pw_below_drewN | apply below_drew1 | refine below_set ?_ GE567.out | refine below_set ?_ GE568.out | refine below_set ?_ GE569.out) | exact HB.out)))); have n1_ := Aside0.mk (blk_below (g := gb567) (o := .cells #[.int .i64 a0_0, .int .i64 a0_1, .slice A0_2 l0_2.length c0_2] 27 (0, 0)) (by (with_reducible repeat (first | refine blk_drewN ?_ _ | refine blk_drew ?_ | refine blk_alloc ?_ _)); exact BK567.out) hb); have n2_ := Aside0.mk (blk_below (g := gb568) (o := .cells #[.int .i64 a1_0, .int .i64 a1_1, .slice A1_2 l1_2.length c1_2] 27 (0, 0)) (by (with_reducible repeat (first | refine blk_drewN ?_ _ | refine blk_drew ?_ | refine blk_alloc ?_ _)); exact BK568.out) hb); have n3_ := Aside0.mk (blk_below (g := gb569) (o := .cells #[.int .i64 0, .int .i64 0, .slice none 0 0] 27 (0, 0)) (by (with_reducible repeat (first | refine blk_drewN ?_ _ | refine blk_drew ?_ | refine blk_alloc ?_ _)); exact BK569.out) hb); have n4_ := Aside0.mk (below_step (by repeat (first | (with_reducible first | exact HB.out | apply below_alloc | apply pw_below_drewN | apply below_drew1 | refine below_set ?_ GE567.out | refine below_set ?_ GE568.out | refine below_set ?_ GE569.out) | exact HB.out)) hb); clear BK567; clear BK568; clear BK569; clear HB; have HO574 := n0_; have BK567 := n1_; have BK568 := n2_; have BK569 := n3_; have HB := n4_; clear n0_ n1_ n2_ n3_ n4_; (try clear hb); (try clear hb2); (try clear hk); (try clear hi); (try clear ho0); have hcz15_0 : w14.cell? ⟨gb569, 0, none⟩ = some (.int .i64 0) := (blk_cell BK569.out 0).trans rfl; have hcz15_1 : w14.cell? ⟨gb569, 1, none⟩ = some (.int .i64 0) := (blk_cell BK569.out 1).trans rfl; have hcz15_2 : w14.cell? ⟨gb569, 2, none⟩ = some (.slice none 0 0) := (blk_cell BK569.out 2).trans rfl; have hfz15_0 := blk_frozen BK569.out 0; have hfz15_1 := blk_frozen BK569.out 1; have hfz15_2 := blk_frozen BK569.out 2; obtain ⟨Ao16, co16, eo16⟩ := Kd.R_slice HO574.out; subst eo16))
  refine bodyPost_ret (results_ct rfl _ _ gb569 27 #[.int .i64 t570, .int .i64 t571, .slice Ao16 t572.length co16] (0, 0) _ rfl (by (with_reducible repeat (first | refine blk_drewN ?_ _ | refine blk_drew ?_ | refine blk_alloc ?_ _)); refine blk_put (cs := #[.int .i64 t570, .int .i64 t571, .slice none 0 0]) ?_ 2 _ rfl; (with_reducible repeat (first | refine blk_drewN ?_ _ | refine blk_drew ?_ | refine blk_alloc ?_ _)); refine blk_put (cs := #[.int .i64 t570, .int .i64 0, .slice none 0 0]) ?_ 1 _ rfl; (with_reducible repeat (first | refine blk_drewN ?_ _ | refine blk_drew ?_ | refine blk_alloc ?_ _)); refine blk_put (cs := #[.int .i64 0, .int .i64 0, .slice none 0 0]) ?_ 0 _ rfl; (with_reducible repeat (first | refine blk_drewN ?_ _ | refine blk_drew ?_ | refine blk_alloc ?_ _)); exact BK569.out) Try.underlying27 rfl (by kernel_rfl)) rfl ?_
  exact ⟨_, by first | rfl | (simp [errW_none, errW_some] <;> rfl) | (simp [*, errW_none, errW_some] <;> rfl), by (with_reducible repeat (first | apply Kd.R_alloc | apply Kd.R_drewN | apply Kd.R_drew)); exact Kd.R_mono (Kd.R_far (p := ⟨gb569, 2, none⟩) (Kd.R_far (p := ⟨gb569, 1, none⟩) (Kd.R_far (p := ⟨gb569, 0, none⟩) (Kd.R_types HO574.out BK569.out (by decide)) (fun _ hk => hk.2) (.int .i64 t570)) (fun _ hk => hk.2) (.int .i64 t571)) (fun _ hk => hk.2) (.slice Ao16 t572.length co16)) (fun _ hk => trivial), by repeat (first | (with_reducible first | exact HB.out | apply below_alloc | apply pw_below_drewN | apply below_drew1 | refine below_set ?_ GE567.out | refine below_set ?_ GE568.out | refine below_set ?_ GE569.out) | exact HB.out)⟩
end Go.Proofs.Ytmockeaiccpogaa.All
end
section
namespace Go.Proofs.Ytmockeaiccpogaa.All
open Go.RowKit Go.Proofs.YtmockeaiccpogaaW.PrintWords Go.Proofs.YtmockeaiccpogaaW.PrintLast Go.Proofs.YtmockeaiccpogaaW.PrintMore
attribute [local go_sem] max2_int min2_int max_two min_two max_three min_three max_four min_four
set_option linter.unusedVariables false
set_option linter.unusedSimpArgs false
section
open Go.Proofs.YtmockeaiccpogaaHand
def pixel_Scale.pr (a b : Int) : Int := (wrap64 (Int.tdiv (wrap64 ((wrap64 ((wrap64 (a)) * (wrap64 (b)))) + 127)) 255)) % 256
theorem pixel_Scale.product_calls (a0 a1 : Int) (w : World) : Calls Try.prog 79 #[.int .u8 a0, .int .u8 a1] w fun e w' => e = .returned (.int .u8 (pixel_Scale.pr a0 a1)) ∧ w' = w := by
  go_enter Try.func79, Try.ntmps79
  go_wp2
  go_ret
  exact ⟨rfl, rfl⟩
theorem pixel_Scale.lit_calls (a0 k : Int) (g : Nat) (w : World) (hk : w.cell? ⟨g, 0, none⟩ = some (.int .u8 k)) : Calls Try.prog 78 #[.int .u8 a0, .pointer (some ⟨g, 0, none⟩)] w fun e w' => e = .returned (.int .u8 (pixel_Scale.pr a0 k)) ∧ w' = w := by
  go_enter Try.func78, Try.ntmps78
  go_wp2_with (go_at_call 79; refine (pixel_Scale.product_calls _ _ _).mono ?_; rintro e w' ⟨rfl, rfl⟩)
  go_ret
  exact ⟨rfl, rfl⟩
set_option maxHeartbeats 2000000 in
theorem pixel_Scale.each_calls (a b c d k : Int) (g : Nat) (w : World) (hk : w.cell? ⟨g, 0, none⟩ = some (.int .u8 k)) : Calls Try.prog 77 #[.agg #[.int .u8 a, .int .u8 b, .int .u8 c, .int .u8 d], .func (Fn.func 78) #[] #[.pointer (some ⟨g, 0, none⟩)]] w fun e w' => e = .returned (.agg #[.int .u8 (pixel_Scale.pr a k), .int .u8 (pixel_Scale.pr b k), .int .u8 (pixel_Scale.pr c k), .int .u8 (pixel_Scale.pr d k)]) ∧ Below w.heap.size w w' := by
  go_enter Try.func77, Try.ntmps77
  go_wp2_with fail
  have hg : g < w.heap.size := World.block_lt_of_cell? w _ hk
  have F : ∀ W : World, W = (w.alloc (Obj.cells #[Value.int IntKind.u8 a, Value.int IntKind.u8 b, Value.int IntKind.u8 c, Value.int IntKind.u8 d] 43)).alloc (Obj.cells #[Value.int IntKind.u8 0, Value.int IntKind.u8 0, Value.int IntKind.u8 0, Value.int IntKind.u8 0] 43) →
     W.cell? ⟨g, 0, none⟩ = some (.int .u8 k) ∧ W.cell? ⟨w.heap.size, 0, none⟩ = some (.int .u8 a) ∧ W.cell? ⟨w.heap.size, 1, none⟩ = some (.int .u8 b) ∧ W.cell? ⟨w.heap.size, 2, none⟩ = some (.int .u8 c) ∧ W.cell? ⟨w.heap.size, 3, none⟩ = some (.int .u8 d) ∧ W.heap[w.heap.size + 1]? = some (.cells #[Value.int IntKind.u8 0, Value.int IntKind.u8 0, Value.int IntKind.u8 0, Value.int IntKind.u8 0] 43 (0, 0)) ∧ Below w.heap.size w W := by
    rintro W rfl
    refine ⟨?_, ?_, ?_, ?_, ?_, ?_, ?_⟩
    · rw [World.cell?_alloc_past _ _ _ (by simp; omega), World.cell?_alloc_past _ _ _ (by omega)]; exact hk
    · rw [World.cell?_alloc_past _ _ _ (by simp)]; exact (blk_cell (blk_new w _) 0).trans rfl
    · rw [World.cell?_alloc_past _ _ _ (by simp)]; exact (blk_cell (blk_new w _) 1).trans rfl
    · rw [World.cell?_alloc_past _ _ _ (by simp)]; exact (blk_cell (blk_new w _) 2).trans rfl
    · rw [World.cell?_alloc_past _ _ _ (by simp)]; exact (blk_cell (blk_new w _) 3).trans rfl
    · have := blk_new (w.alloc (Obj.cells #[Value.int IntKind.u8 a, Value.int IntKind.u8 b, Value.int IntKind.u8 c, Value.int IntKind.u8 d] 43)) (Obj.cells #[Value.int IntKind.u8 0, Value.int IntKind.u8 0, Value.int IntKind.u8 0, Value.int IntKind.u8 0] 43)
      simpa using this
    · exact below_alloc (below_alloc (Below.refl _ _) _) _
  generalize (w.alloc (Obj.cells #[Value.int IntKind.u8 a, Value.int IntKind.u8 b, Value.int IntKind.u8 c, Value.int IntKind.u8 d] 43)).alloc (Obj.cells #[Value.int IntKind.u8 0, Value.int IntKind.u8 0, Value.int IntKind.u8 0, Value.int IntKind.u8 0] 43) = W at *
  obtain ⟨h0, h1, h2, h3, h4, hB, hBel⟩ := F W rfl
  clear F hk
  go_still_tail 17, (by kernel_rfl)
  still_call (pixel_Scale.lit_calls a k g _ (by exact h0))
  repeat still_step
  still_call (pixel_Scale.lit_calls b k g _ (by exact h0))
  repeat still_step
  still_call (pixel_Scale.lit_calls c k g _ (by exact h0))
  repeat still_step
  still_call (pixel_Scale.lit_calls d k g _ (by exact h0))
  repeat still_step
  refine wpStill_nil ?_
  change wpList _ _ _ _ _ W.drew
  have hB2 : W.drew.heap[w.heap.size + 1]? = some (.cells #[Value.int IntKind.u8 0, Value.int IntKind.u8 0, Value.int IntKind.u8 0, Value.int IntKind.u8 0] 43 (0, 0)) := hB
  have hBel2 := below_drew hBel
  clear h0 h1 h2 h3 h4 hBel hB
  generalize W.drew = W2 at hB2 hBel2 ⊢
  have hc0 := (blk_cell hB2 0).trans rfl
  have hc1 := (blk_cell hB2 1).trans rfl
  have hc2 := (blk_cell hB2 2).trans rfl
  have hc3 := (blk_cell hB2 3).trans rfl
  have hf0 := blk_frozen hB2 0
  have hf1 := blk_frozen hB2 1
  have hf2 := blk_frozen hB2 2
  have hf3 := blk_frozen hB2 3
  have hB3 := Aside0.mk hB2
  clear hB2
  go_wp2
  refine bodyPost_ret (results_cell_row rfl _ _ (w.heap.size + 1) 43 #[.int .u8 (pixel_Scale.pr a k), .int .u8 (pixel_Scale.pr b k), .int .u8 (pixel_Scale.pr c k), .int .u8 (pixel_Scale.pr d k)] (0, 0) _ rfl (by
    refine blk_put (cs := #[.int .u8 (pixel_Scale.pr a k), .int .u8 (pixel_Scale.pr b k), .int .u8 (pixel_Scale.pr c k), .int .u8 0]) ?_ 3 _ rfl
    refine blk_put (cs := #[.int .u8 (pixel_Scale.pr a k), .int .u8 (pixel_Scale.pr b k), .int .u8 0, .int .u8 0]) ?_ 2 _ rfl
    refine blk_put (cs := #[.int .u8 (pixel_Scale.pr a k), .int .u8 0, .int .u8 0, .int .u8 0]) ?_ 1 _ rfl
    refine blk_put (cs := #[.int .u8 0, .int .u8 0, .int .u8 0, .int .u8 0]) ?_ 0 _ rfl
    exact hB3.out) Try.underlying43 rfl (by kernel_rfl)) rfl ?_
  refine ⟨rfl, ?_⟩
  repeat (first | exact hBel2 | refine below_set ?_ (by omega))
def pixel_Scale.f (a0_0 a0_1 a0_2 a0_3 a1 : Int) : Option (Int × Int × Int × Int) := (pixel_Clamp.f a0_0 a0_1 a0_2 a0_3).bind fun c => some (pixel_Scale.pr c.1 a1, pixel_Scale.pr c.2.1 a1, pixel_Scale.pr c.2.2.1 a1, pixel_Scale.pr c.2.2.2 a1)
set_option maxHeartbeats 2000000 in
theorem pixel_Scale.calls (a0_0 a0_1 a0_2 a0_3 a1 r1 r2 r3 r4 : Int) (w : World) (h : pixel_Scale.f a0_0 a0_1 a0_2 a0_3 a1 = some (r1, r2, r3, r4)) :
    Calls Try.prog 72 #[.agg #[.int .u8 a0_0, .int .u8 a0_1, .int .u8 a0_2, .int .u8 a0_3], .int .u8 a1] w fun e w' => e = .returned (.agg #[.int .u8 r1, .int .u8 r2, .int .u8 r3, .int .u8 r4]) ∧ Below w.heap.size w w' := by
  obtain ⟨⟨c0, c1, c2, c3⟩, hcl0, h⟩ := Option.bind_eq_some_iff.mp h
  obtain ⟨rfl, rfl, rfl, rfl⟩ : pixel_Scale.pr c0 a1 = r1 ∧ pixel_Scale.pr c1 a1 = r2 ∧ pixel_Scale.pr c2 a1 = r3 ∧ pixel_Scale.pr c3 a1 = r4 := by simpa using h
  have hcl := Aside0.mk hcl0
  clear hcl0 h
  go_enter Try.func72, Try.ntmps72
  go_wp2_with fail
  obtain ⟨-, hK0, hR0, hb0⟩ := allocs3 w (Obj.cells #[Value.int IntKind.u8 a0_0, Value.int IntKind.u8 a0_1, Value.int IntKind.u8 a0_2, Value.int IntKind.u8 a0_3] 43) (Obj.cells #[.int .u8 a1] 5) (Obj.cells #[Value.int IntKind.u8 0, Value.int IntKind.u8 0, Value.int IntKind.u8 0, Value.int IntKind.u8 0] 43)
  generalize ((w.alloc (Obj.cells #[Value.int IntKind.u8 a0_0, Value.int IntKind.u8 a0_1, Value.int IntKind.u8 a0_2, Value.int IntKind.u8 a0_3] 43)).alloc (Obj.cells #[.int .u8 a1] 5)).alloc (Obj.cells #[Value.int IntKind.u8 0, Value.int IntKind.u8 0, Value.int IntKind.u8 0, Value.int IntKind.u8 0] 43) = W at hK0 hR0 hb0 ⊢
  have hK := Aside0.mk hK0
  have hR := Aside0.mk hR0
  have hb := Aside0.mk hb0
  clear hK0 hR0 hb0
  refine (pixel_Clamp.calls _ _ _ _ c0 c1 c2 c3 W hcl.out).mono ?_
  rintro e w1 ⟨rfl, hb1⟩
  have hb2 := Aside0.mk hb1
  clear hb1
  go_wp2_with fail
  refine (pixel_Scale.each_calls c0 c1 c2 c3 a1 (w.heap.size + 1) w1 ((blk_cell (blk_below hK.out hb2.out) 0).trans rfl)).mono ?_
  rintro e w2 ⟨rfl, hb3⟩
  have hB3 := Aside0.mk (blk_below (blk_below hR.out hb2.out) hb3)
  have hBel2 := Aside0.mk (below_then (below_then hb.out (by have := hb.out.size; omega) hb2.out) (by have := hb.out.size; have := hb2.out.size; omega) hb3)
  clear hb3
  have hc0 := (blk_cell hB3.out 0).trans rfl
  have hc1 := (blk_cell hB3.out 1).trans rfl
  have hc2 := (blk_cell hB3.out 2).trans rfl
  have hc3 := (blk_cell hB3.out 3).trans rfl
  have hf0 := blk_frozen hB3.out 0
  have hf1 := blk_frozen hB3.out 1
  have hf2 := blk_frozen hB3.out 2
  have hf3 := blk_frozen hB3.out 3
  go_wp2
  refine bodyPost_ret (results_cell_row rfl _ _ (w.heap.size + 1 + 1) 43 #[.int .u8 (pixel_Scale.pr c0 a1), .int .u8 (pixel_Scale.pr c1 a1), .int .u8 (pixel_Scale.pr c2 a1), .int .u8 (pixel_Scale.pr c3 a1)] (0, 0) _ rfl (by
    refine blk_put (cs := #[.int .u8 (pixel_Scale.pr c0 a1), .int .u8 (pixel_Scale.pr c1 a1), .int .u8 (pixel_Scale.pr c2 a1), .int .u8 0]) ?_ 3 _ rfl
    refine blk_put (cs := #[.int .u8 (pixel_Scale.pr c0 a1), .int .u8 (pixel_Scale.pr c1 a1), .int .u8 0, .int .u8 0]) ?_ 2 _ rfl
    refine blk_put (cs := #[.int .u8 (pixel_Scale.pr c0 a1), .int .u8 0, .int .u8 0, .int .u8 0]) ?_ 1 _ rfl
    refine blk_put (cs := #[.int .u8 0, .int .u8 0, .int .u8 0, .int .u8 0]) ?_ 0 _ rfl
    exact hB3.out) Try.underlying43 rfl (by kernel_rfl)) rfl ?_
  refine ⟨rfl, ?_⟩
  repeat (first | exact hBel2.out | refine below_set ?_ (by omega))
end
def pixel_Over.f (a0_0 : Int) (a0_1 : Int) (a0_2 : Int) (a0_3 : Int) (a1_0 : Int) (a1_1 : Int) (a1_2 : Int) (a1_3 : Int) : Option (Int × Int × Int × Int) := (pixel_Clamp.f a0_0 a0_1 a0_2 a0_3).bind fun bt112 => ((pixel_Scale.f a1_0 a1_1 a1_2 a1_3 ((255 - bt112.2.2.2) % 256)).bind fun bt116 => (some ((bt112.1 + bt116.1) % 256, (bt112.2.1 + bt116.2.1) % 256, (bt112.2.2.1 + bt116.2.2.1) % 256, (bt112.2.2.2 + bt116.2.2.2) % 256)))
set_option maxHeartbeats 8000000 in
set_option maxRecDepth 100000 in
theorem pixel_Over.calls (a0_0 : Int) (a0_1 : Int) (a0_2 : Int) (a0_3 : Int) (a1_0 : Int) (a1_1 : Int) (a1_2 : Int) (a1_3 : Int) (r1 : Int) (r2 : Int) (r3 : Int) (r4 : Int) (w : World) (h : pixel_Over.f a0_0 a0_1 a0_2 a0_3 a1_0 a1_1 a1_2 a1_3 = some (r1, r2, r3, r4)) :
    Calls Try.prog 63 #[.agg #[.int .u8 a0_0, .int .u8 a0_1, .int .u8 a0_2, .int .u8 a0_3], .agg #[.int .u8 a1_0, .int .u8 a1_1, .int .u8 a1_2, .int .u8 a1_3]] w fun e w' => e = .returned (.agg #[.int .u8 r1, .int .u8 r2, .int .u8 r3, .int .u8 r4]) ∧ Below w.heap.size w w' := by
  have hu43 := Try.underlying43
  have HB := Aside0.mk (Below.refl w.heap.size w)
  have H : ((pixel_Clamp.f a0_0 a0_1 a0_2 a0_3).bind fun bt112 => ((pixel_Scale.f a1_0 a1_1 a1_2 a1_3 ((255 - bt112.2.2.2) % 256)).bind fun bt116 => (some ((bt112.1 + bt116.1) % 256, (bt112.2.1 + bt116.2.1) % 256, (bt112.2.2.1 + bt116.2.2.1) % 256, (bt112.2.2.2 + bt116.2.2.2) % 256)))) = some (r1, r2, r3, r4) := h
  clear h
  replace H := Option.bind_eq_some_iff.mp H
  obtain ⟨⟨t112, t113, t114, t115⟩, A30, H⟩ := H
  replace H : ((pixel_Scale.f a1_0 a1_1 a1_2 a1_3 ((255 - t115) % 256)).bind fun bt116 => (some ((t112 + bt116.1) % 256, (t113 + bt116.2.1) % 256, (t114 + bt116.2.2.1) % 256, (t115 + bt116.2.2.2) % 256))) = some (r1, r2, r3, r4) := H
  have A3 := Aside0.mk A30
  clear A30
  replace H := Option.bind_eq_some_iff.mp H
  obtain ⟨⟨t116, t117, t118, t119⟩, A40, H⟩ := H
  replace H : (some ((t112 + t116) % 256, (t113 + t117) % 256, (t114 + t118) % 256, (t115 + t119) % 256)) = some (r1, r2, r3, r4) := H
  have A4 := Aside0.mk A40
  clear A40
  simp only [Option.some.injEq, Prod.mk.injEq] at H
  obtain ⟨rfl, rfl, rfl, rfl⟩ := H
  go_enter Try.func63, Try.ntmps63
  go_wp2_with (first | ((with_reducible refine gate_dst (N := 2) rfl ?_); refine box_event ?hg (N := 2) ?hd (cs := #[.int .u8 a0_0, .int .u8 a0_1, .int .u8 a0_2, .int .u8 a0_3]) (t := 43) ?hr ?_; (case hd => rfl); (case hg => rfl); (case hr => first | (go_simp; done) | (go_simp; rfl)); intro gb109 hg w5 hbox hb; have n0_ := Aside0.mk (below_step (by repeat (first | (with_reducible first | exact HB.out | apply below_alloc | apply pw_below_drewN | apply below_drew1) | exact HB.out)) hb); have n1_ := Aside0.mk (hbox); have n2_ := Aside0.mk ((by rw [hg]; exact (below_size (by repeat (first | (with_reducible first | exact HB.out | apply below_alloc | apply pw_below_drewN | apply below_drew1) | exact HB.out))) : w.heap.size ≤ gb109)); have n3_ := Aside0.mk ((by rw [hg]; exact (below_size (by repeat (first | (with_reducible first | exact HB.out | apply below_alloc | apply pw_below_drewN | apply below_drew1) | exact HB.out))) : w.heap.size ≤ gb109)); clear HB; have HB := n0_; have BK109 := n1_; have GW109 := n2_; have GE109 := n3_; clear n0_ n1_ n2_ n3_; clear hb hbox hg) | ((with_reducible refine gate_dst (N := 3) rfl ?_); refine box_event ?hg (N := 3) ?hd (cs := #[.int .u8 a1_0, .int .u8 a1_1, .int .u8 a1_2, .int .u8 a1_3]) (t := 43) ?hr ?_; (case hd => rfl); (case hg => rfl); (case hr => first | (go_simp; done) | (go_simp; rfl)); intro gb110 hg w6 hbox hb; have n0_ := Aside0.mk (blk_below (g := gb109) (o := .cells #[.int .u8 a0_0, .int .u8 a0_1, .int .u8 a0_2, .int .u8 a0_3] 43 (0, 0)) (by (with_reducible repeat (first | refine blk_drewN ?_ _ | refine blk_drew ?_ | refine blk_alloc ?_ _)); exact BK109.out) hb); have n1_ := Aside0.mk (below_step (by repeat (first | (with_reducible first | exact HB.out | apply below_alloc | apply pw_below_drewN | apply below_drew1 | refine below_set ?_ GE109.out) | exact HB.out)) hb); have n2_ := Aside0.mk (hbox); have n3_ := Aside0.mk ((by rw [hg]; exact (below_size (by repeat (first | (with_reducible first | exact HB.out | apply below_alloc | apply pw_below_drewN | apply below_drew1 | refine below_set ?_ GE109.out) | exact HB.out))) : w.heap.size ≤ gb110)); have n4_ := Aside0.mk ((by rw [hg]; exact (below_size (by repeat (first | (with_reducible first | exact HB.out | apply below_alloc | apply pw_below_drewN | apply below_drew1 | refine below_set ?_ GE109.out) | exact HB.out))) : w.heap.size ≤ gb110)); have n5_ := Aside0.mk ((by rw [hg]; exact Nat.ne_of_lt (blk_lt (g := gb109) (o := .cells #[.int .u8 a0_0, .int .u8 a0_1, .int .u8 a0_2, .int .u8 a0_3] 43 (0, 0)) (by (with_reducible repeat (first | refine blk_drewN ?_ _ | refine blk_drew ?_ | refine blk_alloc ?_ _)); exact BK109.out)) : gb109 ≠ gb110)); have n6_ := Aside0.mk ((by rw [hg]; exact Nat.ne_of_gt (blk_lt (g := gb109) (o := .cells #[.int .u8 a0_0, .int .u8 a0_1, .int .u8 a0_2, .int .u8 a0_3] 43 (0, 0)) (by (with_reducible repeat (first | refine blk_drewN ?_ _ | refine blk_drew ?_ | refine blk_alloc ?_ _)); exact BK109.out)) : gb110 ≠ gb109)); clear BK109; clear HB; have BK109 := n0_; have HB := n1_; have BK110 := n2_; have GW110 := n3_; have GE110 := n4_; have NB109_110 := n5_; have NB110_109 := n6_; clear n0_ n1_ n2_ n3_ n4_ n5_ n6_; clear hb hbox hg) | ((with_reducible refine gate_dst (N := 4) rfl ?_); refine box_event ?hg (N := 4) ?hd (cs := #[.int .u8 0, .int .u8 0, .int .u8 0, .int .u8 0]) (t := 43) ?hr ?_; (case hd => rfl); (case hg => rfl); (case hr => first | (go_simp; done) | (go_simp; rfl)); intro gb111 hg w7 hbox hb; have n0_ := Aside0.mk (blk_below (g := gb109) (o := .cells #[.int .u8 a0_0, .int .u8 a0_1, .int .u8 a0_2, .int .u8 a0_3] 43 (0, 0)) (by (with_reducible repeat (first | refine blk_drewN ?_ _ | refine blk_drew ?_ | refine blk_alloc ?_ _)); exact BK109.out) hb); have n1_ := Aside0.mk (blk_below (g := gb110) (o := .cells #[.int .u8 a1_0, .int .u8 a1_1, .int .u8 a1_2, .int .u8 a1_3] 43 (0, 0)) (by (with_reducible repeat (first | refine blk_drewN ?_ _ | refine blk_drew ?_ | refine blk_alloc ?_ _)); exact BK110.out) hb); have n2_ := Aside0.mk (below_step (by repeat (first | (with_reducible first | exact HB.out | apply below_alloc | apply pw_below_drewN | apply below_drew1 | refine below_set ?_ GE109.out | refine below_set ?_ GE110.out) | exact HB.out)) hb); have n3_ := Aside0.mk (hbox); have n4_ := Aside0.mk ((by rw [hg]; exact (below_size (by repeat (first | (with_reducible first | exact HB.out | apply below_alloc | apply pw_below_drewN | apply below_drew1 | refine below_set ?_ GE109.out | refine below_set ?_ GE110.out) | exact HB.out))) : w.heap.size ≤ gb111)); have n5_ := Aside0.mk ((by rw [hg]; exact (below_size (by repeat (first | (with_reducible first | exact HB.out | apply below_alloc | apply pw_below_drewN | apply below_drew1 | refine below_set ?_ GE109.out | refine below_set ?_ GE110.out) | exact HB.out))) : w.heap.size ≤ gb111)); have n6_ := Aside0.mk ((by rw [hg]; exact Nat.ne_of_lt (blk_lt (g := gb109) (o := .cells #[.int .u8 a0_0, .int .u8 a0_1, .int .u8 a0_2, .int .u8 a0_3] 43 (0, 0)) (by (with_reducible repeat (first | refine blk_drewN ?_ _ | refine blk_drew ?_ | refine blk_alloc ?_ _)); exact BK109.out)) : gb109 ≠ gb111)); have n7_ := Aside0.mk ((by rw [hg]; exact Nat.ne_of_gt (blk_lt (g := gb109) (o := .cells #[.int .u8 a0_0, .int .u8 a0_1, .int .u8 a0_2, .int .u8 a0_3] 43 (0, 0)) (by (with_reducible repeat (first | refine blk_drewN ?_ _ | refine blk_drew ?_ | refine blk_alloc ?_ _)); exact BK109.out)) : gb111 ≠ gb109)); have n8_ := Aside0.mk ((by rw [hg]; exact Nat.ne_of_lt (blk_lt (g := gb110) (o := .cells #[.int .u8 a1_0, .int .u8 a1_1, .int .u8 a1_2, .int .u8 a1_3] 43 (0, 0)) (by (with_reducible repeat (first | refine blk_drewN ?_ _ | refine blk_drew ?_ | refine blk_alloc ?_ _)); exact BK110.out)) : gb110 ≠ gb111)); have n9_ := Aside0.mk ((by rw [hg]; exact Nat.ne_of_gt (blk_lt (g := gb110) (o := .cells #[.int .u8 a1_0, .int .u8 a1_1, .int .u8 a1_2, .int .u8 a1_3] 43 (0, 0)) (by (with_reducible repeat (first | refine blk_drewN ?_ _ | refine blk_drew ?_ | refine blk_alloc ?_ _)); exact BK110.out)) : gb111 ≠ gb110)); clear BK109; clear BK110; clear HB; have BK109 := n0_; have BK110 := n1_; have HB := n2_; have BK111 := n3_; have GW111 := n4_; have GE111 := n5_; have NB109_111 := n6_; have NB111_109 := n7_; have NB110_111 := n8_; have NB111_110 := n9_; clear n0_ n1_ n2_ n3_ n4_ n5_ n6_ n7_ n8_ n9_; clear hb hbox hg; have hnb8 := NB109_110.out; have hnc8 := NB110_109.out; have hnb9 := NB109_111.out; have hnc9 := NB111_109.out; have hcz10_0 : w7.cell? ⟨gb109, 0, none⟩ = some (.int .u8 a0_0) := (blk_cell BK109.out 0).trans rfl; have hcz10_1 : w7.cell? ⟨gb109, 1, none⟩ = some (.int .u8 a0_1) := (blk_cell BK109.out 1).trans rfl; have hcz10_2 : w7.cell? ⟨gb109, 2, none⟩ = some (.int .u8 a0_2) := (blk_cell BK109.out 2).trans rfl; have hcz10_3 : w7.cell? ⟨gb109, 3, none⟩ = some (.int .u8 a0_3) := (blk_cell BK109.out 3).trans rfl; have hfz10_0 := blk_frozen BK109.out 0; have hfz10_1 := blk_frozen BK109.out 1; have hfz10_2 := blk_frozen BK109.out 2; have hfz10_3 := blk_frozen BK109.out 3) | ((with_reducible refine gate_callee (f := 40) rfl ?_); refine goesL_ (some 6) rfl rfl Try.func40 (by kernel_rfl) rfl #[.agg #[.int .u8 a0_0, .int .u8 a0_1, .int .u8 a0_2, .int .u8 a0_3]] rfl (by (try simp only [List.map_toArray, List.map_cons, List.map_nil]); first | done | rfl | (simp only [List.length_drop, List.length_take]; rfl)) ?_; (with_reducible refine (pixel_Clamp.calls a0_0 a0_1 a0_2 a0_3 t112 t113 t114 t115 _ A3.out).mono ?_); rintro e w11 ⟨rfl, hb⟩; refine ⟨_, rfl, ?_⟩; have n0_ := Aside0.mk (blk_below (g := gb109) (o := .cells #[.int .u8 a0_0, .int .u8 a0_1, .int .u8 a0_2, .int .u8 a0_3] 43 (0, 0)) (by (with_reducible repeat (first | refine blk_drewN ?_ _ | refine blk_drew ?_ | refine blk_alloc ?_ _)); exact BK109.out) hb); have n1_ := Aside0.mk (blk_below (g := gb110) (o := .cells #[.int .u8 a1_0, .int .u8 a1_1, .int .u8 a1_2, .int .u8 a1_3] 43 (0, 0)) (by (with_reducible repeat (first | refine blk_drewN ?_ _ | refine blk_drew ?_ | refine blk_alloc ?_ _)); exact BK110.out) hb); have n2_ := Aside0.mk (blk_below (g := gb111) (o := .cells #[.int .u8 0, .int .u8 0, .int .u8 0, .int .u8 0] 43 (0, 0)) (by (with_reducible repeat (first | refine blk_drewN ?_ _ | refine blk_drew ?_ | refine blk_alloc ?_ _)); exact BK111.out) hb); have n3_ := Aside0.mk (below_step (by repeat (first | (with_reducible first | exact HB.out | apply below_alloc | apply pw_below_drewN | apply below_drew1 | refine below_set ?_ GE109.out | refine below_set ?_ GE110.out | refine below_set ?_ GE111.out) | exact HB.out)) hb); clear BK109; clear BK110; clear BK111; clear HB; have BK109 := n0_; have BK110 := n1_; have BK111 := n2_; have HB := n3_; clear n0_ n1_ n2_ n3_; (try clear hb); (try clear hb2); (try clear hk); (try clear hi); have hcz12_0 : w11.cell? ⟨gb109, 0, none⟩ = some (.int .u8 a0_0) := (blk_cell BK109.out 0).trans rfl; have hcz12_1 : w11.cell? ⟨gb109, 1, none⟩ = some (.int .u8 a0_1) := (blk_cell BK109.out 1).trans rfl; have hcz12_2 : w11.cell? ⟨gb109, 2, none⟩ = some (.int .u8 a0_2) := (blk_cell BK109.out 2).trans rfl; have hcz12_3 : w11.cell? ⟨gb109, 3, none⟩ = some (.int .u8 a0_3) := (blk_cell BK109.out 3).trans rfl; have hfz12_0 := blk_frozen BK109.out 0; have hfz12_1 := blk_frozen BK109.out 1; have hfz12_2 := blk_frozen BK109.out 2; have hfz12_3 := blk_frozen BK109.out 3; have hnb13 := NB110_111.out; have hnc13 := NB111_110.out; have hcz14_0 : w11.cell? ⟨gb110, 0, none⟩ = some (.int .u8 a1_0) := (blk_cell BK110.out 0).trans rfl; have hcz14_1 : w11.cell? ⟨gb110, 1, none⟩ = some (.int .u8 a1_1) := (blk_cell BK110.out 1).trans rfl; have hcz14_2 : w11.cell? ⟨gb110, 2, none⟩ = some (.int .u8 a1_2) := (blk_cell BK110.out 2).trans rfl; have hcz14_3 : w11.cell? ⟨gb110, 3, none⟩ = some (.int .u8 a1_3) := (blk_cell BK110.out 3).trans rfl; have hfz14_0 := blk_frozen BK110.out 0; have hfz14_1 := blk_frozen BK110.out 1; have hfz14_2 := blk_frozen BK110.out 2; have hfz14_3 := blk_frozen BK110.out 3) | ((with_reducible refine gate_callee (f := 72) rfl ?_); refine goesL_ (some 11) rfl rfl Try.func72 (by kernel_rfl) rfl #[.agg #[.int .u8 a1_0, .int .u8 a1_1, .int .u8 a1_2, .int .u8 a1_3], .int .u8 ((255 - t115) % 256)] rfl (by (try simp only [List.map_toArray, List.map_cons, List.map_nil]); first | done | rfl | (simp only [List.length_drop, List.length_take]; rfl)) ?_; (with_reducible refine (pixel_Scale.calls a1_0 a1_1 a1_2 a1_3 ((255 - t115) % 256) t116 t117 t118 t119 _ A4.out).mono ?_); rintro e w15 ⟨rfl, hb⟩; refine ⟨_, rfl, ?_⟩; have n0_ := Aside0.mk (blk_below (g := gb109) (o := .cells #[.int .u8 t112, .int .u8 t113, .int .u8 t114, .int .u8 t115] 43 (0, 0)) (by (with_reducible repeat (first | refine blk_drewN ?_ _ | refine blk_drew ?_ | refine blk_alloc ?_ _)); refine blk_put (cs := #[.int .u8 t112, .int .u8 t113, .int .u8 t114, .int .u8 a0_3]) ?_ 3 _ rfl; (with_reducible repeat (first | refine blk_drewN ?_ _ | refine blk_drew ?_ | refine blk_alloc ?_ _)); refine blk_put (cs := #[.int .u8 t112, .int .u8 t113, .int .u8 a0_2, .int .u8 a0_3]) ?_ 2 _ rfl; (with_reducible repeat (first | refine blk_drewN ?_ _ | refine blk_drew ?_ | refine blk_alloc ?_ _)); refine blk_put (cs := #[.int .u8 t112, .int .u8 a0_1, .int .u8 a0_2, .int .u8 a0_3]) ?_ 1 _ rfl; (with_reducible repeat (first | refine blk_drewN ?_ _ | refine blk_drew ?_ | refine blk_alloc ?_ _)); refine blk_put (cs := #[.int .u8 a0_0, .int .u8 a0_1, .int .u8 a0_2, .int .u8 a0_3]) ?_ 0 _ rfl; (with_reducible repeat (first | refine blk_drewN ?_ _ | refine blk_drew ?_ | refine blk_alloc ?_ _)); exact BK109.out) hb); have n1_ := Aside0.mk (blk_below (g := gb110) (o := .cells #[.int .u8 a1_0, .int .u8 a1_1, .int .u8 a1_2, .int .u8 a1_3] 43 (0, 0)) (by (with_reducible repeat (first | refine blk_drewN ?_ _ | refine blk_drew ?_ | refine blk_alloc ?_ _)); refine blk_far ?_ NB110_109.out _; (with_reducible repeat (first | refine blk_drewN ?_ _ | refine blk_drew ?_ | refine blk_alloc ?_ _)); refine blk_far ?_ NB110_109.out _; (with_reducible repeat (first | refine blk_drewN ?_ _ | refine blk_drew ?_ | refine blk_alloc ?_ _)); refine blk_far ?_ NB110_109.out _; (with_reducible repeat (first | refine blk_drewN ?_ _ | refine blk_drew ?_ | refine blk_alloc ?_ _)); refine blk_far ?_ NB110_109.out _; (with_reducible repeat (first | refine blk_drewN ?_ _ | refine blk_drew ?_ | refine blk_alloc ?_ _)); exact BK110.out) hb); have n2_ := Aside0.mk (blk_below (g := gb111) (o := .cells #[.int .u8 0, .int .u8 0, .int .u8 0, .int .u8 0] 43 (0, 0)) (by (with_reducible repeat (first | refine blk_drewN ?_ _ | refine blk_drew ?_ | refine blk_alloc ?_ _)); refine blk_far ?_ NB111_109.out _; (with_reducible repeat (first | refine blk_drewN ?_ _ | refine blk_drew ?_ | refine blk_alloc ?_ _)); refine blk_far ?_ NB111_109.out _; (with_reducible repeat (first | refine blk_drewN ?_ _ | refine blk_drew ?_ | refine blk_alloc ?_ _)); refine blk_far ?_ NB111_109.out _; (with_reducible repeat (first | refine blk_drewN ?_ _ | refine blk_drew ?_ | refine blk_alloc ?_ _)); refine blk_far ?_ NB111_109.out _; (with_reducible repeat (first | refine blk_drewN ?_ _ | refine blk_drew ?_ | refine blk_alloc ?_ _)); exact BK111.out) hb); have n3_ := Aside0.mk (below_step (by repeat (first | (with_reducible first | exact HB.out | apply below_alloc | apply pw_below_drewN | apply below_drew1 | refine below_set ?_ GE109.out | refine below_set ?_ GE110.out | refine below_set ?_ GE111.out) | exact HB.out)) hb); clear BK109; clear BK110; clear BK111; clear HB; have BK109 := n0_; have BK110 := n1_; have BK111 := n2_; have HB := n3_; clear n0_ n1_ n2_ n3_; (try clear hb); (try clear hb2); (try clear hk); (try clear hi); have hcz16_0 : w15.cell? ⟨gb110, 0, none⟩ = some (.int .u8 a1_0) := (blk_cell BK110.out 0).trans rfl; have hcz16_1 : w15.cell? ⟨gb110, 1, none⟩ = some (.int .u8 a1_1) := (blk_cell BK110.out 1).trans rfl; have hcz16_2 : w15.cell? ⟨gb110, 2, none⟩ = some (.int .u8 a1_2) := (blk_cell BK110.out 2).trans rfl; have hcz16_3 : w15.cell? ⟨gb110, 3, none⟩ = some (.int .u8 a1_3) := (blk_cell BK110.out 3).trans rfl; have hfz16_0 := blk_frozen BK110.out 0; have hfz16_1 := blk_frozen BK110.out 1; have hfz16_2 := blk_frozen BK110.out 2; have hfz16_3 := blk_frozen BK110.out 3; have hcz17_0 : w15.cell? ⟨gb109, 0, none⟩ = some (.int .u8 t112) := (blk_cell BK109.out 0).trans rfl; have hcz17_1 : w15.cell? ⟨gb109, 1, none⟩ = some (.int .u8 t113) := (blk_cell BK109.out 1).trans rfl; have hcz17_2 : w15.cell? ⟨gb109, 2, none⟩ = some (.int .u8 t114) := (blk_cell BK109.out 2).trans rfl; have hcz17_3 : w15.cell? ⟨gb109, 3, none⟩ = some (.int .u8 t115) := (blk_cell BK109.out 3).trans rfl; have hfz17_0 := blk_frozen BK109.out 0; have hfz17_1 := blk_frozen BK109.out 1; have hfz17_2 := blk_frozen BK109.out 2; have hfz17_3 := blk_frozen BK109.out 3; have hcz18_0 : w15.cell? ⟨gb111, 0, none⟩ = some (.int .u8 0) := (blk_cell BK111.out 0).trans rfl; have hcz18_1 : w15.cell? ⟨gb111, 1, none⟩ = some (.int .u8 0) := (blk_cell BK111.out 1).trans rfl; have hcz18_2 : w15.cell? ⟨gb111, 2, none⟩ = some (.int .u8 0) := (blk_cell BK111.out 2).trans rfl; have hcz18_3 : w15.cell? ⟨gb111, 3, none⟩ = some (.int .u8 0) := (blk_cell BK111.out 3).trans rfl; have hfz18_0 := blk_frozen BK111.out 0; have hfz18_1 := blk_frozen BK111.out 1; have hfz18_2 := blk_frozen BK111.out 2; have hfz18_3 := blk_frozen BK111.out 3))
  refine bodyPost_ret (results_cell_row rfl _ _ gb111 43 #[.int .u8 ((t112 + t116) % 256), .int .u8 ((t113 + t117) % 256), .int .u8 ((t114 + t118) % 256), .int .u8 ((t115 + t119) % 256)] (0, 0) _ rfl (by (with_reducible repeat (first | refine blk_drewN ?_ _ | refine blk_drew ?_ | refine blk_alloc ?_ _)); refine blk_put (cs := #[.int .u8 ((t112 + t116) % 256), .int .u8 ((t113 + t117) % 256), .int .u8 ((t114 + t118) % 256), .int .u8 0]) ?_ 3 _ rfl; (with_reducible repeat (first | refine blk_drewN ?_ _ | refine blk_drew ?_ | refine blk_alloc ?_ _)); refine blk_put (cs := #[.int .u8 ((t112 + t116) % 256), .int .u8 ((t113 + t117) % 256), .int .u8 0, .int .u8 0]) ?_ 2 _ rfl; (with_reducible repeat (first | refine blk_drewN ?_ _ | refine blk_drew ?_ | refine blk_alloc ?_ _)); refine blk_put (cs := #[.int .u8 ((t112 + t116) % 256), .int .u8 0, .int .u8 0, .int .u8 0]) ?_ 1 _ rfl; (with_reducible repeat (first | refine blk_drewN ?_ _ | refine blk_drew ?_ | refine blk_alloc ?_ _)); refine blk_put (cs := #[.int .u8 0, .int .u8 0, .int .u8 0, .int .u8 0]) ?_ 0 _ rfl; (with_reducible repeat (first | refine blk_drewN ?_ _ | refine blk_drew ?_ | refine blk_alloc ?_ _)); refine blk_far ?_ NB111_110.out _; (with_reducible repeat (first | refine blk_drewN ?_ _ | refine blk_drew ?_ | refine blk_alloc ?_ _)); refine blk_far ?_ NB111_110.out _; (with_reducible repeat (first | refine blk_drewN ?_ _ | refine blk_drew ?_ | refine blk_alloc ?_ _)); refine blk_far ?_ NB111_110.out _; (with_reducible repeat (first | refine blk_drewN ?_ _ | refine blk_drew ?_ | refine blk_alloc ?_ _)); refine blk_far ?_ NB111_110.out _; (with_reducible repeat (first | refine blk_drewN ?_ _ | refine blk_drew ?_ | refine blk_alloc ?_ _)); exact BK111.out) Try.underlying43 rfl (by kernel_rfl)) rfl ?_
  exact ⟨by first | rfl | (simp [errW_none, errW_some] <;> rfl) | (simp [*, errW_none, errW_some] <;> rfl), by repeat (first | (with_reducible first | exact HB.out | apply below_alloc | apply pw_below_drewN | apply below_drew1 | refine below_set ?_ GE109.out | refine below_set ?_ GE110.out | refine below_set ?_ GE111.out) | exact HB.out)⟩
end Go.Proofs.Ytmockeaiccpogaa.All
end
section
namespace Go.Proofs.Ytmockeaiccpogaa.All
open Go.Proofs.YtmockeaiccpogaaSq
open Go.RowKit Go.Proofs.YtmockeaiccpogaaW.PrintWords Go.Proofs.YtmockeaiccpogaaW.PrintLast Go.Proofs.YtmockeaiccpogaaW.PrintMore
attribute [local go_sem] max2_int min2_int max_two min_two max_three min_three max_four min_four
set_option linter.unusedVariables false
set_option linter.unusedSimpArgs false
section
open Go.Proofs.YtmockeaiccpogaaHand Go.Proofs.YtmockeaiccpogaaSq
def ov (s d : S43) : S43 := (pixel_Over.f s.f0 s.f1 s.f2 s.f3 d.f0 d.f1 d.f2 d.f3).elim z43 fun t => ⟨t.1, t.2.1, t.2.2.1, t.2.2.2⟩
theorem ov_some (s d : S43) : pixel_Over.f s.f0 s.f1 s.f2 s.f3 d.f0 d.f1 d.f2 d.f3 = some ((ov s d).f0, (ov s d).f1, (ov s d).f2, (ov s d).f3) := by
  unfold ov pixel_Over.f pixel_Clamp.f pixel_Scale.f pixel_Clamp.f
  rfl
theorem over_get {l s : List S43} {lo : Nat} (h : lo + s.length ≤ l.length) {j : Nat} (hj : lo + s.length ≤ j) : (over l lo s).getD j z43 = l.getD j z43 := by
  unfold over
  rw [List.getD_eq_getElem?_getD, List.getD_eq_getElem?_getD, List.getElem?_append_right (by simp; omega), List.getElem?_drop]
  congr 2
  simp
  omega
theorem over_snoc {l s : List S43} {lo : Nat} (x : S43) (h : lo + s.length < l.length) : (over l lo s).set (lo + s.length) x = over l lo (s ++ [x]) := by
  unfold over
  rw [List.set_append_right _ _ (by simp; exact Nat.min_le_left _ _)]
  have e : lo + s.length - (List.take lo l ++ s).length = 0 := by simp; omega
  rw [e, List.drop_eq_getElem_cons h]
  simp [Nat.add_assoc]
def zip (l sr : List S43) (lo k : Nat) : List S43 := List.zipWith ov (sr.take k) ((l.drop lo).take k)
theorem zip_length {l sr : List S43} {lo k : Nat} (h : lo + sr.length ≤ l.length) (hk : k ≤ sr.length) : (zip l sr lo k).length = k := by
  unfold zip
  simp
  omega
theorem zip_succ {l sr : List S43} {lo k : Nat} (h : lo + sr.length ≤ l.length) (hk : k < sr.length) : zip l sr lo (k + 1) = zip l sr lo k ++ [ov (sr.getD k z43) (l.getD (lo + k) z43)] := by
  unfold zip
  have hk2 : k < (l.drop lo).length := by rw [List.length_drop]; omega
  rw [List.take_succ_eq_append_getElem hk, List.take_succ_eq_append_getElem hk2, List.zipWith_append (by rw [List.length_take, List.length_take]; omega)]
  simp [List.getD_eq_getElem?_getD, List.getElem?_eq_getElem hk, List.getElem?_eq_getElem (show lo + k < l.length by omega)]
set_option maxHeartbeats 4000000 in
theorem buffer_BlendOver.lit_calls (w W : World) (g lo n cap : Nat) (sa : Addr) (l sr : List S43) (hb : Below w.heap.size w W) (hBg : w.heap.size ≤ g) (hR0 : Kd.R k43 43 W w.heap.size (fun _ => True) (.slice (some ⟨g, 0, none⟩) l.length cap) l) (hC : Kd.C k43 w (some sa) n sr) (hn : 0 < n) (hfit : lo + n ≤ l.length) :
    Calls Try.prog 62 #[.slice (some ⟨g, lo * 4, none⟩) n n, .slice (some sa) n n] W fun e w' => e = .returned (.tuple #[]) ∧ Kd.R k43 43 w' w.heap.size (fun _ => True) (.slice (some ⟨g, 0, none⟩) l.length cap) (over l lo (zip l sr lo n)) ∧ W.grownBy w' (some g) := by
  have hln := hC.1
  have hl63 := hC.2.1
  have hR := Aside0.mk hR0
  have hb3 := Aside0.mk hb
  have hC' := Aside0.mk hC
  have hg3 : Aside0 (W.grownBy W (some g)) := ⟨World.grownBy.refl _ _⟩
  have hln' := Aside0.mk hln
  have hfit' := Aside0.mk hfit
  clear hR0 hb hC hln hfit
  go_enter Try.func62, Try.ntmps62
  go_wp2_with fail
  go_loopw [4, 7] (fun _ v w' => ∃ k : Nat, k ≤ n ∧ v = .int .i64 k ∧ Aside0 (Kd.R k43 43 w' w.heap.size (fun _ => True) (.slice (some ⟨g, 0, none⟩) l.length cap) (over l lo (zip l sr lo k))) ∧ Aside0 (Below w.heap.size w w') ∧ Aside0 (W.grownBy w' (some g))) (fun _ v _ => n - (intOf v).toNat)
  case atStart => exact ⟨0, Nat.zero_le _, rfl, ⟨by rw [show over l lo (zip l sr lo 0) = l by simp [over, zip]]; exact hR.out⟩, hb3, hg3⟩
  case round =>
    clear hR hb3 hg3
    obtain ⟨k, hk, rfl, hR, hb3, hg3⟩ := hrel
    by_cases hlt : k < n
    · have hlt' : (k : Int) < (n : Int) := by omega
      have hk0 : (0 : Int) ≤ (k : Int) := by omega
      have ek : wrap64 ((k : Int) + 1) = ((k + 1 : Nat) : Int) := by unfold wrap64; omega
      obtain ⟨p, hp⟩ : ∃ p, sr.getD k z43 = p := ⟨_, rfl⟩
      obtain ⟨r, hr⟩ : ∃ r, l.getD (lo + k) z43 = r := ⟨_, rfl⟩
      have cellsOk : ∀ W' : World, Below w.heap.size w W' → Kd.R k43 43 W' w.heap.size (fun _ => True) (.slice (some ⟨g, 0, none⟩) l.length cap) (over l lo (zip l sr lo k)) → W'.cell? (sa.add (k * 4)) = some (.int .u8 p.f0) ∧ W'.cell? ⟨(sa.add (k * 4)).block, (sa.add (k * 4)).off + 1, none⟩ = some (.int .u8 p.f1) ∧ W'.cell? ⟨(sa.add (k * 4)).block, (sa.add (k * 4)).off + 2, none⟩ = some (.int .u8 p.f2) ∧ W'.cell? ⟨(sa.add (k * 4)).block, (sa.add (k * 4)).off + 3, none⟩ = some (.int .u8 p.f3) ∧ W'.cell? ⟨g, lo * 4 + k * 4, none⟩ = some (.int .u8 r.f0) ∧ W'.cell? ⟨g, lo * 4 + k * 4 + 1, none⟩ = some (.int .u8 r.f1) ∧ W'.cell? ⟨g, lo * 4 + k * 4 + 2, none⟩ = some (.int .u8 r.f2) ∧ W'.cell? ⟨g, lo * 4 + k * 4 + 3, none⟩ = some (.int .u8 r.f3) := by
        intro W' hb' hR'
        have hzl : (zip l sr lo k).length = k := zip_length (by have := hln'.out; have := hfit'.out; omega) (by have := hln'.out; omega)
        obtain ⟨ad, e, a0, a1, a2, a3⟩ := at_T43 (Kd.C_below hC'.out hb') (k : Int) (by omega) (by omega)
        injection e with e
        subst e
        obtain ⟨c, hcl, hM, hcc, hfr⟩ := Kd.R_elem hR' z43 ((lo + k : Nat) : Int) (by omega) (by have := hfit'.out; omega)
        obtain rfl := k43_openM hM
        simp only [Int.toNat_natCast, show k43.sz = 4 from rfl, Nat.add_mul] at a0 a1 a2 a3 hcc
        rw [over_get (by have := hfit'.out; omega) (by omega), hr] at hcc
        rw [show rd_T43 sr (k : Int) = p from hp] at a0 a1 a2 a3
        exact ⟨a0, a1, a2, a3, hcc 0 _ rfl, hcc 1 _ rfl, hcc 2 _ rfl, hcc 3 _ rfl⟩
      have cO := Aside0.mk cellsOk
      clear cellsOk
      go_wp2_with fail
      refine start_ (n := 13) (S := fun w' => w'.cell? (sa.add (k * 4)) = some (.int .u8 p.f0) ∧ w'.cell? ⟨(sa.add (k * 4)).block, (sa.add (k * 4)).off + 1, none⟩ = some (.int .u8 p.f1) ∧ w'.cell? ⟨(sa.add (k * 4)).block, (sa.add (k * 4)).off + 2, none⟩ = some (.int .u8 p.f2) ∧ w'.cell? ⟨(sa.add (k * 4)).block, (sa.add (k * 4)).off + 3, none⟩ = some (.int .u8 p.f3) ∧ w'.cell? ⟨g, lo * 4 + k * 4, none⟩ = some (.int .u8 r.f0) ∧ w'.cell? ⟨g, lo * 4 + k * 4 + 1, none⟩ = some (.int .u8 r.f1) ∧ w'.cell? ⟨g, lo * 4 + k * 4 + 2, none⟩ = some (.int .u8 r.f2) ∧ w'.cell? ⟨g, lo * 4 + k * 4 + 3, none⟩ = some (.int .u8 r.f3)) (ds := [12]) #[false, false, false, false, false, false, false, false, false, false, false, false, false] (by kernel_rfl) rfl rfl (cO.out _ (below_drew1 hb3.out) (Kd.R_drew hR.out)) (fun hHeld => ?_)
      have HT_ : Aside0 (rtab .any (opsOf Try.f62 3) = rtab .any (opsOf Try.f62 3)) := ⟨rfl⟩
      replace hR := Aside0.mk (Kd.R_drew hR.out)
      replace hb3 := Aside0.mk (below_drew1 hb3.out)
      replace hg3 := Aside0.mk (hg3.out.trans (grownBy_of_below (below_drew (Below.refl _ _))))
      generalize wr.drew = w3 at hR hb3 hg3 hHeld ⊢
      refine pv_ 0 10 #[true, false, false, false, false, false, false, false, false, false, false, false, false] HT_ ?_
      refine pv_ 1 11 #[true, true, false, false, false, false, false, false, false, false, false, false, false] HT_ ?_
      refine pv_ 2 12 #[true, true, true, false, false, false, false, false, false, false, false, false, false] HT_ ?_
      refine pv_ 3 13 #[true, true, true, true, false, false, false, false, false, false, false, false, false] HT_ ?_
      refine pv_ 6 16 #[true, true, true, true, false, false, true, false, false, false, false, false, false] HT_ ?_
      refine pv_ 7 17 #[true, true, true, true, false, false, true, true, false, false, false, false, false] HT_ ?_
      refine pv_ 4 14 #[true, true, true, true, true, false, true, true, false, false, false, false, false] HT_ ?_
      refine pv_ 8 18 #[true, true, true, true, true, false, true, true, true, false, false, false, false] HT_ ?_
      refine take_ (i := 5) (N := some 15) (v := ?_) (a' := ?_) #[true, true, true, true, true, true, true, true, true, false, false, false, false] rfl rfl (take_of HT_.out (by kernel_rfl)) (fun _ _ _ h => h) (Or.inl ⟨by rfl, ?_⟩) hHeld ?_ ?_
      rotate_left
      · rintro w' ⟨s0, s1, s2, s3, s4, s5, s6, s7⟩
        go_simp
        with_reducible rfl
      rotate_left
      · simp only [Act.put, List.setIfInBounds_toArray, List.set_cons_zero, List.set_cons_succ, i64_w, i32_w]
        rfl
      refine take_ (i := 9) (N := some 19) (v := ?_) (a' := ?_) #[true, true, true, true, true, true, true, true, true, true, false, false, false] rfl rfl (take_of HT_.out (by kernel_rfl)) (fun _ _ _ h => h) (Or.inl ⟨by rfl, ?_⟩) hHeld ?_ ?_
      rotate_left
      · rintro w' ⟨s0, s1, s2, s3, s4, s5, s6, s7⟩
        go_simp
        with_reducible rfl
      rotate_left
      · simp only [Act.put, List.setIfInBounds_toArray, List.set_cons_zero, List.set_cons_succ, i64_w, i32_w]
        rfl
      refine one_ (i := 10) (N := some 20) #[true, true, true, true, true, true, true, true, true, true, true, false, false] rfl rfl (one_of HT_.out (by kernel_rfl)) (by decide) (fun K hK => ?_)
      refine goes_ Try.func63 (by kernel_rfl) rfl #[.agg #[.int .u8 p.f0, .int .u8 p.f1, .int .u8 p.f2, .int .u8 p.f3], .agg #[.int .u8 r.f0, .int .u8 r.f1, .int .u8 r.f2, .int .u8 r.f3]] (by rfl) rfl rfl (by (try simp only [List.map_toArray, List.map_cons, List.map_nil]); first | done | rfl) ?_
      refine (pixel_Over.calls _ _ _ _ _ _ _ _ _ _ _ _ _ (ov_some p r)).mono ?_
      rintro e w4 ⟨rfl, hb1⟩
      refine ⟨_, rfl, ?_⟩
      replace hR := Aside0.mk (Kd.R_below hR.out hb1)
      replace hb3 := Aside0.mk (below_step hb3.out hb1)
      replace hg3 := Aside0.mk (hg3.out.trans (grownBy_of_below hb1))
      clear hb1
      refine hK.out _ _ (cO.out w4 hb3.out hR.out) (fun hHeld => ?_)
      clear hK K
      refine norm_ (a' := ?_) ?_ ?_
      rotate_left
      · show Act.put _ (some 20) _ = _
        simp only [Act.put, List.setIfInBounds_toArray, List.set_cons_zero, List.set_cons_succ, i64_w, i32_w]
        rfl
      refine pv_ 11 21 #[true, true, true, true, true, true, true, true, true, true, true, true, false] HT_ ?_
      refine last_ (i := 12) (N := none) #[true, true, true, true, true, true, true, true, true, true, true, true, true] rfl rfl (one_of HT_.out (by kernel_rfl)) (by decide) (fun K hK => ?_)
      have hzl : (zip l sr lo k).length = k := zip_length (by have := hln'.out; have := hfit'.out; omega) (by have := hln'.out; omega)
      obtain ⟨s0, s1, s2, s3, d0, d1, d2, d3⟩ := cO.out w4 hb3.out hR.out
      obtain ⟨c, hcl, hM, hcc, hfr⟩ := Kd.R_elem hR.out z43 ((lo + k : Nat) : Int) (by omega) (by have := hfit'.out; omega)
      have hSeg := Aside0.mk (Kd.R_seg hR.out ((lo + k : Nat) : Int) (by omega) (by have := hfit'.out; omega) (seg := [.int .u8 (ov p r).f0, .int .u8 (ov p r).f1, .int .u8 (ov p r).f2, .int .u8 (ov p r).f3]) (j := 0) hcl hcc (show 0 + 4 ≤ 4 from by decide) (x' := ov p r) (okp := fun k => True ∧ k ≠ g) (by rw [List.drop_eq_nil_of_le (by rw [hcl]; exact Nat.le_refl _)]; exact k43_mkM _ _ _ (ov p r)) (fun _ hk => hk))
      simp only [Int.toNat_natCast, show k43.sz = 4 from rfl, Nat.add_mul] at hfr
      have f0 : w4.frozen? ⟨g, lo * 4 + k * 4, none⟩ = false := hfr 0
      have f1 := hfr 1
      have f2 := hfr 2
      have f3 := hfr 3
      clear hcc hM hcl s0 s1 s2 s3 hfr
      have hx := Aside0.mk (And.intro hzl (And.intro hp hr))
      clear hzl hp hr
      refine skip_ (w1 := ?_) (by rfl) rfl ?_ ?_
      rotate_left
      · go_simp
        rfl
      refine hK.out _ _ ?_
      clear hK K
      refine done_ (done_of HT_.out (by kernel_rfl)) ?_
      clear d0 d1 d2 d3 f0 f1 f2 f3
      go_wp2
      go_roundw
      case measure => simp [intOf]; omega
      case rel =>
        have hle := hx.out.1
        have e1 : lo + k = lo + (zip l sr lo k).length := by rw [hle]
        have hS1 := hSeg.out.1
        have hS2 := hSeg.out.2
        have e2 : (over l lo (zip l sr lo k)).set (lo + k) (ov p r) = over l lo (zip l sr lo (k + 1)) := by
          rw [zip_succ (by have := hln'.out; have := hfit'.out; omega) (by have := hln'.out; omega), hx.out.2.1, hx.out.2.2, ← over_snoc _ (by have := hfit'.out; omega), ← e1]
        simp only [Int.toNat_natCast, show k43.sz = 4 from rfl, Nat.add_mul, e2] at hS1 hS2
        exact ⟨k + 1, hlt, by rw [Int.natCast_add]; rfl, ⟨hS1⟩, ⟨pw_below_grown hb3.out (some g) hb3.out.size hS2 (fun _ h => by cases h; exact hBg)⟩, ⟨hg3.out.trans hS2⟩⟩
    · obtain rfl : k = n := by omega
      go_wp2
      go_end0
      exact ⟨rfl, hR.out, hg3.out⟩
def buffer_BlendOver.f (a0_0 a0_1 : Int) (l : List S43) (a1_0 a1_1 : Int) (s : List S43) (x y : Int) : Option (Int × Int × List S43 × Int) := buffer_combine.g (fun d s => List.zipWith ov s d) a0_0 a0_1 l a1_0 a1_1 s x y
set_option maxHeartbeats 2000000 in
theorem buffer_BlendOver.calls (a0_0 a0_1 : Int) (A0_2 : Option Addr) (c0_2 : Nat) (l0_2 : List S43) (a1_0 a1_1 : Int) (A1_2 : Option Addr) (c1_2 : Nat) (l1_2 : List S43) (x y : Int) (r1 r2 : Int) (r3 : List S43) (r4 : Int) (w : World) (hr0_2 : Kd.C k43 w A0_2 l0_2.length l0_2) (hc0_2 : l0_2.length ≤ c0_2) (hr1_2 : Kd.C k43 w A1_2 l1_2.length l1_2) (hc1_2 : l1_2.length ≤ c1_2)
    (h : buffer_BlendOver.f a0_0 a0_1 l0_2 a1_0 a1_1 l1_2 x y = some (r1, r2, r3, r4)) :
    Calls Try.prog 35 #[.agg #[.int .i64 a0_0, .int .i64 a0_1, .slice A0_2 l0_2.length c0_2], .agg #[.int .i64 a1_0, .int .i64 a1_1, .slice A1_2 l1_2.length c1_2], .int .i64 x, .int .i64 y] w fun e w' => ∃ v2_ : Value, e = .returned (.tuple #[.agg #[.int .i64 r1, .int .i64 r2, v2_], .int .i64 r4]) ∧ Kd.R k43 43 w' w.heap.size (fun _ => True) v2_ r3 ∧ Below w.heap.size w w' := by
  have hh := Aside0.mk h
  clear h
  go_enter Try.func35, Try.ntmps35
  go_wp2_with fail
  obtain ⟨hA0, hB0, hC0, hD0⟩ := allocs3 w (Obj.cells #[.int .i64 a0_0, .int .i64 a0_1, .slice A0_2 l0_2.length c0_2] 27) (Obj.cells #[.int .i64 a1_0, .int .i64 a1_1, .slice A1_2 l1_2.length c1_2] 27) (Obj.cells #[.int .i64 0, .int .i64 0, .slice none 0 0] 27)
  generalize ((w.alloc (Obj.cells #[.int .i64 a0_0, .int .i64 a0_1, .slice A0_2 l0_2.length c0_2] 27)).alloc (Obj.cells #[.int .i64 a1_0, .int .i64 a1_1, .slice A1_2 l1_2.length c1_2] 27)).alloc (Obj.cells #[.int .i64 0, .int .i64 0, .slice none 0 0] 27) = V at hA0 hB0 hC0 hD0 ⊢
  have hR0 := Aside0.mk (Kd.C_below hr0_2 hD0)
  have hR1 := Aside0.mk (Kd.C_below hr1_2 hD0)
  have hC := Aside0.mk hC0
  have hD := Aside0.mk hD0
  clear hA0 hB0 hC0 hD0 hr0_2 hr1_2
  refine (buffer_combine.calls (fun d s => List.zipWith ov s d) (fun d s h => by rw [List.length_zipWith, h, Nat.min_self]) 62 Try.f62 #[] Try.func62 (by kernel_rfl) rfl a0_0 a0_1 A0_2 c0_2 l0_2 a1_0 a1_1 A1_2 c1_2 l1_2 x y r1 r2 r3 r4 V hR0.out hc0_2 hR1.out hc1_2 ?hcl hh.out).mono ?_
  case hcl =>
    intro W g lo n cap sa l sr hb hg hR hC hn hl
    have e : zip l sr lo n = List.zipWith ov sr ((l.drop lo).take n) := by
      unfold zip
      rw [List.take_of_length_le (by rw [hC.1]; exact Nat.le_refl _)]
    rw [← e]
    exact buffer_BlendOver.lit_calls V W g lo n cap sa l sr hb hg hR hC hn hl
  rintro e w1 ⟨v, rfl, hv, hb1⟩
  obtain ⟨Ao, co, eo⟩ := Kd.R_slice hv
  subst eo
  have hu := Aside0.mk (Kd.R_lower hv hD.out.size)
  replace hC := Aside0.mk (blk_below hC.out hb1)
  replace hD := Aside0.mk (below_step hD.out hb1)
  clear hv hb1 hR0 hR1
  have z0 := (blk_cell hC.out 0).trans rfl
  have z1 := (blk_cell hC.out 1).trans rfl
  have z2 := (blk_cell hC.out 2).trans rfl
  have f0 := blk_frozen hC.out 0
  have f1 := blk_frozen hC.out 1
  have f2 := blk_frozen hC.out 2
  go_wp2
  exact bodyPost_ret (results_ct rfl _ _ (w.heap.size + 1 + 1) 27 #[.int .i64 r1, .int .i64 r2, .slice Ao r3.length co] (0, 0) _ rfl (retBuf hC.out _ _ _) Try.underlying27 rfl (by kernel_rfl)) rfl ⟨_, rfl, retBufR hC.out hu.out, below_set (below_set (below_set hD.out (by omega)) (by omega)) (by omega)⟩
end
end Go.Proofs.Ytmockeaiccpogaa.All
end
section
namespace Go.Proofs.Ytmockeaiccpogaa.All
open Go.RowKit Go.Proofs.YtmockeaiccpogaaW.PrintWords Go.Proofs.YtmockeaiccpogaaW.PrintLast Go.Proofs.YtmockeaiccpogaaW.PrintMore
attribute [local go_sem] max2_int min2_int max_two min_two max_three min_three max_four min_four
set_option linter.unusedVariables false
set_option linter.unusedSimpArgs false
def compositorref09_BlendOver.f (k : Nat) (a0_0 : Int) (a0_1 : Int) (l0_2 : List (S43)) (a1_0 : Int) (a1_1 : Int) (l1_2 : List (S43)) (a2 : Int) (a3 : Int) : Option (Int × Int × (List (S43)) × Int) := (compositorref09_put.f k a0_0 a0_1 l0_2 a1_0 a1_1 l1_2 a2 a3 true).bind fun bt579 => (some (bt579.1, bt579.2.1, bt579.2.2.1, bt579.2.2.2))
set_option maxHeartbeats 8000000 in
set_option maxRecDepth 100000 in
theorem compositorref09_BlendOver.calls (k : Nat) (a0_0 : Int) (a0_1 : Int) (A0_2 : Option Addr) (c0_2 : Nat) (l0_2 : List (S43)) (a1_0 : Int) (a1_1 : Int) (A1_2 : Option Addr) (c1_2 : Nat) (l1_2 : List (S43)) (a2 : Int) (a3 : Int) (r1 : Int) (r2 : Int) (r3 : List (S43)) (r4 : Int) (w : World) (hr0_2 : Kd.C k43 w A0_2 l0_2.length l0_2) (hc0_2 : l0_2.length ≤ c0_2) (hr1_2 : Kd.C k43 w A1_2 l1_2.length l1_2) (hc1_2 : l1_2.length ≤ c1_2) (h : compositorref09_BlendOver.f k a0_0 a0_1 l0_2 a1_0 a1_1 l1_2 a2 a3 = some (r1, r2, r3, r4)) :
    Calls Try.prog 36 #[.agg #[.int .i64 a0_0, .int .i64 a0_1, .slice A0_2 l0_2.length c0_2], .agg #[.int .i64 a1_0, .int .i64 a1_1, .slice A1_2 l1_2.length c1_2], .int .i64 a2, .int .i64 a3] w fun e w' => ∃ v2_ : Value, e = .returned (.tuple #[.agg #[.int .i64 r1, .int .i64 r2, v2_], .int .i64 r4]) ∧ Kd.R k43 43 w' w.heap.size (fun _ => True) v2_ r3 ∧ Below w.heap.size w w' := by
  have hu27 := Try.underlying27
  have HR0_2 := Aside0.mk hr0_2
  have HC0_2 := Aside0.mk hc0_2
  clear hr0_2 hc0_2
  have HR1_2 := Aside0.mk hr1_2
  have HC1_2 := Aside0.mk hc1_2
  clear hr1_2 hc1_2
  have HB := Aside0.mk (Below.refl w.heap.size w)
  have H : ((compositorref09_put.f k a0_0 a0_1 l0_2 a1_0 a1_1 l1_2 a2 a3 true).bind fun bt579 => (some (bt579.1, bt579.2.1, bt579.2.2.1, bt579.2.2.2))) = some (r1, r2, r3, r4) := h
  clear h
  replace H := Option.bind_eq_some_iff.mp H
  obtain ⟨⟨t579, t580, t581, t584⟩, A50, H⟩ := H
  replace H : (some (t579, t580, t581, t584)) = some (r1, r2, r3, r4) := H
  have A5 := Aside0.mk A50
  clear A50
  simp only [Option.some.injEq, Prod.mk.injEq] at H
  obtain ⟨rfl, rfl, rfl, rfl⟩ := H
  go_enter Try.func36, Try.ntmps36
  go_wp2_with (first | ((with_reducible refine gate_dst (N := 4) rfl ?_); refine box_event ?hg (N := 4) ?hd (cs := #[.int .i64 a0_0, .int .i64 a0_1, .slice A0_2 l0_2.length c0_2]) (t := 27) ?hr ?_; (case hd => rfl); (case hg => rfl); (case hr => first | (go_simp; done) | (go_simp; rfl)); intro gb576 hg w6 hbox hb; have n0_ := Aside0.mk (below_step (by repeat (first | (with_reducible first | exact HB.out | apply below_alloc | apply pw_below_drewN | apply below_drew1) | exact HB.out)) hb); have n1_ := Aside0.mk (hbox); have n2_ := Aside0.mk ((by rw [hg]; exact (below_size (by repeat (first | (with_reducible first | exact HB.out | apply below_alloc | apply pw_below_drewN | apply below_drew1) | exact HB.out))) : w.heap.size ≤ gb576)); have n3_ := Aside0.mk ((by rw [hg]; exact (below_size (by repeat (first | (with_reducible first | exact HB.out | apply below_alloc | apply pw_below_drewN | apply below_drew1) | exact HB.out))) : w.heap.size ≤ gb576)); clear HB; have HB := n0_; have BK576 := n1_; have GW576 := n2_; have GE576 := n3_; clear n0_ n1_ n2_ n3_; clear hb hbox hg) | ((with_reducible refine gate_dst (N := 5) rfl ?_); refine box_event ?hg (N := 5) ?hd (cs := #[.int .i64 a1_0, .int .i64 a1_1, .slice A1_2 l1_2.length c1_2]) (t := 27) ?hr ?_; (case hd => rfl); (case hg => rfl); (case hr => first | (go_simp; done) | (go_simp; rfl)); intro gb577 hg w7 hbox hb; have n0_ := Aside0.mk (blk_below (g := gb576) (o := .cells #[.int .i64 a0_0, .int .i64 a0_1, .slice A0_2 l0_2.length c0_2] 27 (0, 0)) (by (with_reducible repeat (first | refine blk_drewN ?_ _ | refine blk_drew ?_ | refine blk_alloc ?_ _)); exact BK576.out) hb); have n1_ := Aside0.mk (below_step (by repeat (first | (with_reducible first | exact HB.out | apply below_alloc | apply pw_below_drewN | apply below_drew1 | refine below_set ?_ GE576.out) | exact HB.out)) hb); have n2_ := Aside0.mk (hbox); have n3_ := Aside0.mk ((by rw [hg]; exact (below_size (by repeat (first | (with_reducible first | exact HB.out | apply below_alloc | apply pw_below_drewN | apply below_drew1 | refine below_set ?_ GE576.out) | exact HB.out))) : w.heap.size ≤ gb577)); have n4_ := Aside0.mk ((by rw [hg]; exact (below_size (by repeat (first | (with_reducible first | exact HB.out | apply below_alloc | apply pw_below_drewN | apply below_drew1 | refine below_set ?_ GE576.out) | exact HB.out))) : w.heap.size ≤ gb577)); have n5_ := Aside0.mk ((by rw [hg]; exact Nat.ne_of_lt (blk_lt (g := gb576) (o := .cells #[.int .i64 a0_0, .int .i64 a0_1, .slice A0_2 l0_2.length c0_2] 27 (0, 0)) (by (with_reducible repeat (first | refine blk_drewN ?_ _ | refine blk_drew ?_ | refine blk_alloc ?_ _)); exact BK576.out)) : gb576 ≠ gb577)); have n6_ := Aside0.mk ((by rw [hg]; exact Nat.ne_of_gt (blk_lt (g := gb576) (o := .cells #[.int .i64 a0_0, .int .i64 a0_1, .slice A0_2 l0_2.length c0_2] 27 (0, 0)) (by (with_reducible repeat (first | refine blk_drewN ?_ _ | refine blk_drew ?_ | refine blk_alloc ?_ _)); exact BK576.out)) : gb577 ≠ gb576)); clear BK576; clear HB; have BK576 := n0_; have HB := n1_; have BK577 := n2_; have GW577 := n3_; have GE577 := n4_; have NB576_577 := n5_; have NB577_576 := n6_; clear n0_ n1_ n2_ n3_ n4_ n5_ n6_; clear hb hbox hg) | ((with_reducible refine gate_dst (N := 8) rfl ?_); refine box_event ?hg (N := 8) ?hd (cs := #[.int .i64 0, .int .i64 0, .slice none 0 0]) (t := 27) ?hr ?_; (case hd => rfl); (case hg => rfl); (case hr => first | (go_simp; done) | (go_simp; rfl)); intro gb578 hg w8 hbox hb; have n0_ := Aside0.mk (blk_below (g := gb576) (o := .cells #[.int .i64 a0_0, .int .i64 a0_1, .slice A0_2 l0_2.length c0_2] 27 (0, 0)) (by (with_reducible repeat (first | refine blk_drewN ?_ _ | refine blk_drew ?_ | refine blk_alloc ?_ _)); exact BK576.out) hb); have n1_ := Aside0.mk (blk_below (g := gb577) (o := .cells #[.int .i64 a1_0, .int .i64 a1_1, .slice A1_2 l1_2.length c1_2] 27 (0, 0)) (by (with_reducible repeat (first | refine blk_drewN ?_ _ | refine blk_drew ?_ | refine blk_alloc ?_ _)); exact BK577.out) hb); have n2_ := Aside0.mk (below_step (by repeat (first | (with_reducible first | exact HB.out | apply below_alloc | apply pw_below_drewN | apply below_drew1 | refine below_set ?_ GE576.out | refine below_set ?_ GE577.out) | exact HB.out)) hb); have n3_ := Aside0.mk (hbox); have n4_ := Aside0.mk ((by rw [hg]; exact (below_size (by repeat (first | (with_reducible first | exact HB.out | apply below_alloc | apply pw_below_drewN | apply below_drew1 | refine below_set ?_ GE576.out | refine below_set ?_ GE577.out) | exact HB.out))) : w.heap.size ≤ gb578)); have n5_ := Aside0.mk ((by rw [hg]; exact (below_size (by repeat (first | (with_reducible first | exact HB.out | apply below_alloc | apply pw_below_drewN | apply below_drew1 | refine below_set ?_ GE576.out | refine below_set ?_ GE577.out) | exact HB.out))) : w.heap.size ≤ gb578)); have n6_ := Aside0.mk ((by rw [hg]; exact Nat.ne_of_lt (blk_lt (g := gb576) (o := .cells #[.int .i64 a0_0, .int .i64 a0_1, .slice A0_2 l0_2.length c0_2] 27 (0, 0)) (by (with_reducible repeat (first | refine blk_drewN ?_ _ | refine blk_drew ?_ | refine blk_alloc ?_ _)); exact BK576.out)) : gb576 ≠ gb578)); have n7_ := Aside0.mk ((by rw [hg]; exact Nat.ne_of_gt (blk_lt (g := gb576) (o := .cells #[.int .i64 a0_0, .int .i64 a0_1, .slice A0_2 l0_2.length c0_2] 27 (0, 0)) (by (with_reducible repeat (first | refine blk_drewN ?_ _ | refine blk_drew ?_ | refine blk_alloc ?_ _)); exact BK576.out)) : gb578 ≠ gb576)); have n8_ := Aside0.mk ((by rw [hg]; exact Nat.ne_of_lt (blk_lt (g := gb577) (o := .cells #[.int .i64 a1_0, .int .i64 a1_1, .slice A1_2 l1_2.length c1_2] 27 (0, 0)) (by (with_reducible repeat (first | refine blk_drewN ?_ _ | refine blk_drew ?_ | refine blk_alloc ?_ _)); exact BK577.out)) : gb577 ≠ gb578)); have n9_ := Aside0.mk ((by rw [hg]; exact Nat.ne_of_gt (blk_lt (g := gb577) (o := .cells #[.int .i64 a1_0, .int .i64 a1_1, .slice A1_2 l1_2.length c1_2] 27 (0, 0)) (by (with_reducible repeat (first | refine blk_drewN ?_ _ | refine blk_drew ?_ | refine blk_alloc ?_ _)); exact BK577.out)) : gb578 ≠ gb577)); clear BK576; clear BK577; clear HB; have BK576 := n0_; have BK577 := n1_; have HB := n2_; have BK578 := n3_; have GW578 := n4_; have GE578 := n5_; have NB576_578 := n6_; have NB578_576 := n7_; have NB577_578 := n8_; have NB578_577 := n9_; clear n0_ n1_ n2_ n3_ n4_ n5_ n6_ n7_ n8_ n9_; clear hb hbox hg; have hnb9 := NB576_577.out; have hnc9 := NB577_576.out; have hnb10 := NB576_578.out; have hnc10 := NB578_576.out; have hcz11_0 : w8.cell? ⟨gb576, 0, none⟩ = some (.int .i64 a0_0) := (blk_cell BK576.out 0).trans rfl; have hcz11_1 : w8.cell? ⟨gb576, 1, none⟩ = some (.int .i64 a0_1) := (blk_cell BK576.out 1).trans rfl; have hcz11_2 : w8.cell? ⟨gb576, 2, none⟩ = some (.slice A0_2 l0_2.length c0_2) := (blk_cell BK576.out 2).trans rfl; have hfz11_0 := blk_frozen BK576.out 0; have hfz11_1 := blk_frozen BK576.out 1; have hfz11_2 := blk_frozen BK576.out 2; have hnb12 := NB577_578.out; have hnc12 := NB578_577.out; have hcz13_0 : w8.cell? ⟨gb577, 0, none⟩ = some (.int .i64 a1_0) := (blk_cell BK577.out 0).trans rfl; have hcz13_1 : w8.cell? ⟨gb577, 1, none⟩ = some (.int .i64 a1_1) := (blk_cell BK577.out 1).trans rfl; have hcz13_2 : w8.cell? ⟨gb577, 2, none⟩ = some (.slice A1_2 l1_2.length c1_2) := (blk_cell BK577.out 2).trans rfl; have hfz13_0 := blk_frozen BK577.out 0; have hfz13_1 := blk_frozen BK577.out 1; have hfz13_2 := blk_frozen BK577.out 2) | ((with_reducible refine gate_callee (f := 61) rfl ?_); refine goesL_ (some 14) rfl rfl Try.func61 (by kernel_rfl) rfl #[.agg #[.int .i64 a0_0, .int .i64 a0_1, .slice A0_2 l0_2.length c0_2], .agg #[.int .i64 a1_0, .int .i64 a1_1, .slice A1_2 l1_2.length c1_2], .int .i64 a2, .int .i64 a3, .bool true] rfl (by (try simp only [List.map_toArray, List.map_cons, List.map_nil]); first | done | rfl | (simp only [List.length_drop, List.length_take]; rfl)) ?_; (with_reducible refine (compositorref09_put.calls k a0_0 a0_1 _ _ l0_2 a1_0 a1_1 _ _ l1_2 a2 a3 true t579 t580 t581 t584 _ ?side1 ?side2 ?side3 ?side4 A5.out).mono ?_); (case side1 => repeat (first | exact (Kd.C_below HR0_2.out HB.out) | (with_reducible refine Kd.C_alloc ?_ _) | (with_reducible refine Kd.C_drewN ?_ _) | (with_reducible refine Kd.C_drew ?_))); (case side2 => exact HC0_2.out); (case side3 => repeat (first | exact (Kd.C_below HR1_2.out HB.out) | (with_reducible refine Kd.C_alloc ?_ _) | (with_reducible refine Kd.C_drewN ?_ _) | (with_reducible refine Kd.C_drew ?_))); (case side4 => exact HC1_2.out); rintro e w14 ⟨v582, rfl, ho0, hb⟩; refine ⟨_, rfl, ?_⟩; have n0_ := Aside0.mk (Kd.R_lower ho0 (below_size (by repeat (first | (with_reducible first | exact HB.out | apply below_alloc | apply pw_below_drewN | apply below_drew1 | refine below_set ?_ GE576.out | refine below_set ?_ GE577.out | refine below_set ?_ GE578.out) | exact HB.out)))); have n1_ := Aside0.mk (blk_below (g := gb576) (o := .cells #[.int .i64 a0_0, .int .i64 a0_1, .slice A0_2 l0_2.length c0_2] 27 (0, 0)) (by (with_reducible repeat (first | refine blk_drewN ?_ _ | refine blk_drew ?_ | refine blk_alloc ?_ _)); exact BK576.out) hb); have n2_ := Aside0.mk (blk_below (g := gb577) (o := .cells #[.int .i64 a1_0, .int .i64 a1_1, .slice A1_2 l1_2.length c1_2] 27 (0, 0)) (by (with_reducible repeat (first | refine blk_drewN ?_ _ | refine blk_drew ?_ | refine blk_alloc ?_ _)); exact BK577.out) hb); have n3_ := Aside0.mk (blk_below (g := gb578) (o := .cells #[.int .i64 0, .int .i64 0, .slice none 0 0] 27 (0, 0)) (by (with_reducible repeat (first | refine blk_drewN ?_ _ | refine blk_drew ?_ | refine blk_alloc ?_ _)); exact BK578.out) hb); have n4_ := Aside0.mk (below_step (by repeat (first | (with_reducible first | exact HB.out | apply below_alloc | apply pw_below_drewN | apply below_drew1 | refine below_set ?_ GE576.out | refine below_set ?_ GE577.out | refine below_set ?_ GE578.out) | exact HB.out)) hb); clear BK576; clear BK577; clear BK578; clear HB; have HO583 := n0_; have BK576 := n1_; have BK577 := n2_; have BK578 := n3_; have HB := n4_; clear n0_ n1_ n2_ n3_ n4_; (try clear hb); (try clear hb2); (try clear hk); (try clear hi); (try clear ho0); have hcz15_0 : w14.cell? ⟨gb578, 0, none⟩ = some (.int .i64 0) := (blk_cell BK578.out 0).trans rfl; have hcz15_1 : w14.cell? ⟨gb578, 1, none⟩ = some (.int .i64 0) := (blk_cell BK578.out 1).trans rfl; have hcz15_2 : w14.cell? ⟨gb578, 2, none⟩ = some (.slice none 0 0) := (blk_cell BK578.out 2).trans rfl; have hfz15_0 := blk_frozen BK578.out 0; have hfz15_1 := blk_frozen BK578.out 1; have hfz15_2 := blk_frozen BK578.out 2; obtain ⟨Ao16, co16, eo16⟩ := Kd.R_slice HO583.out; subst eo16))
  refine bodyPost_ret (results_ct rfl _ _ gb578 27 #[.int .i64 t579, .int .i64 t580, .slice Ao16 t581.length co16] (0, 0) _ rfl (by (with_reducible repeat (first | refine blk_drewN ?_ _ | refine blk_drew ?_ | refine blk_alloc ?_ _)); refine blk_put (cs := #[.int .i64 t579, .int .i64 t580, .slice none 0 0]) ?_ 2 _ rfl; (with_reducible repeat (first | refine blk_drewN ?_ _ | refine blk_drew ?_ | refine blk_alloc ?_ _)); refine blk_put (cs := #[.int .i64 t579, .int .i64 0, .slice none 0 0]) ?_ 1 _ rfl; (with_reducible repeat (first | refine blk_drewN ?_ _ | refine blk_drew ?_ | refine blk_alloc ?_ _)); refine blk_put (cs := #[.int .i64 0, .int .i64 0, .slice none 0 0]) ?_ 0 _ rfl; (with_reducible repeat (first | refine blk_drewN ?_ _ | refine blk_drew ?_ | refine blk_alloc ?_ _)); exact BK578.out) Try.underlying27 rfl (by kernel_rfl)) rfl ?_
  exact ⟨_, by first | rfl | (simp [errW_none, errW_some] <;> rfl) | (simp [*, errW_none, errW_some] <;> rfl), by (with_reducible repeat (first | apply Kd.R_alloc | apply Kd.R_drewN | apply Kd.R_drew)); exact Kd.R_mono (Kd.R_far (p := ⟨gb578, 2, none⟩) (Kd.R_far (p := ⟨gb578, 1, none⟩) (Kd.R_far (p := ⟨gb578, 0, none⟩) (Kd.R_types HO583.out BK578.out (by decide)) (fun _ hk => hk.2) (.int .i64 t579)) (fun _ hk => hk.2) (.int .i64 t580)) (fun _ hk => hk.2) (.slice Ao16 t581.length co16)) (fun _ hk => trivial), by repeat (first | (with_reducible first | exact HB.out | apply below_alloc | apply pw_below_drewN | apply below_drew1 | refine below_set ?_ GE576.out | refine below_set ?_ GE577.out | refine below_set ?_ GE578.out) | exact HB.out)⟩
end Go.Proofs.Ytmockeaiccpogaa.All
end
