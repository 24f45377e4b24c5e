-- Written by a program of this session, which runs the kit's print.py and puts in functions that this session typed. Not trusted: Lean checks it.
import Derived.Test.YthpmfhfnkgbkjaaHand
import Derived.Test.YthpmfhfnkgbkjaaAllx0
import Derived.Test.YthpmfhfnkgbkjaaAllx3
import Derived.Test.YthpmfhfnkgbkjaaAllx4
import Derived.Test.YthpmfhfnkgbkjaaAllx6
import Derived.Test.YthpmfhfnkgbkjaaAllx7
import Derived.Test.YthpmfhfnkgbkjaaAllx8
namespace Go.Proofs.Ythpmfhfnkgbkjaa.All
open Go.Proofs.YthpmfhfnkgbkjaaSq
open Go.RowKit Go.Proofs.YthpmfhfnkgbkjaaW.PrintWords Go.Proofs.YthpmfhfnkgbkjaaW.PrintLast Go.Proofs.YthpmfhfnkgbkjaaW.PrintMore
attribute [local go_sem] max2_int min2_int max_two min_two max_three min_three max_four min_four   -- for this text's walks alone
set_option linter.unusedVariables false
set_option linter.unusedSimpArgs false

/-! ### scale_Nearest: function 13 -/
section
open Go.Proofs.YthpmfhfnkgbkjaaHand Go.Proofs.YthpmfhfnkgbkjaaSq
def scale_Nearest.px (W H : Int) (l : List S43) (n m x y : Int) : S43 := rd_T43 l (((2 * y + 1) * H / (2 * m)) * W + (2 * x + 1) * W / (2 * n))
theorem scale_Nearest.size_t {a : Int} (h : 1 ≤ a ∧ a ≤ 256) : buffer_size.f a = some true := by
  unfold buffer_size.f
  rw [if_pos h.1]
  simpa using h.2
theorem scale_Nearest.quo {x n W : Int} (hx : 0 ≤ x) (hxn : x < n) (hn : n ≤ 256) (hW : 1 ≤ W ∧ W ≤ 256) :
    wrap64 (Int.tdiv (wrap64 (wrap64 (wrap64 (2 * x) + 1) * W)) (wrap64 (2 * n))) = (2 * x + 1) * W / (2 * n) ∧ 0 ≤ (2 * x + 1) * W / (2 * n) ∧ (2 * x + 1) * W / (2 * n) < W := by
  have e1 : wrap64 (2 * x) = 2 * x := by unfold wrap64; omega
  have e2 : wrap64 (2 * x + 1) = 2 * x + 1 := by unfold wrap64; omega
  have e3 : wrap64 (2 * n) = 2 * n := by unfold wrap64; omega
  have p1 : 0 ≤ (2 * x + 1) * W := Int.mul_nonneg (by omega) (by omega)
  have p2 : (2 * x + 1) * W ≤ 512 * 256 := Int.mul_le_mul (by omega) hW.2 (by omega) (by omega)
  have e4 : wrap64 ((2 * x + 1) * W) = (2 * x + 1) * W := by unfold wrap64; omega
  have p3 : (2 * x + 1) * W < W * (2 * n) := by rw [Int.mul_comm]; exact Int.mul_lt_mul_of_pos_left (by omega) (by omega)
  have p4 : (2 * x + 1) * W / (2 * n) < W := Int.ediv_lt_of_lt_mul (by omega) p3
  have p5 : 0 ≤ (2 * x + 1) * W / (2 * n) := Int.ediv_nonneg p1 (by omega)
  rw [e1, e2, e3, e4, Int.tdiv_eq_ediv_of_nonneg p1]
  refine ⟨?_, p5, p4⟩
  unfold wrap64
  omega
theorem scale_Nearest.at_eq {W H X Y : Int} {l : List S43} (hW : 1 ≤ W ∧ W ≤ 256) (hH : 1 ≤ H ∧ H ≤ 256) (hX : 0 ≤ X ∧ X < W) (hY : 0 ≤ Y ∧ Y < H) (hlen : (l.length : Int) = W * H) :
    buffer_At.f 1 W H l X Y = some ((rd_T43 l (Y * W + X)).f0, (rd_T43 l (Y * W + X)).f1, (rd_T43 l (Y * W + X)).f2, (rd_T43 l (Y * W + X)).f3) := by
  have p1 : 0 ≤ Y * W := Int.mul_nonneg hY.1 (by omega)
  have p2 : (Y + 1) * W ≤ H * W := Int.mul_le_mul_of_nonneg_right (by omega) (by omega)
  have p3 : H * W ≤ 256 * 256 := Int.mul_le_mul hH.2 hW.2 (by omega) (by omega)
  have p4 : (Y + 1) * W = Y * W + W := by rw [Int.add_mul, Int.one_mul]
  have p5 : W * H = H * W := Int.mul_comm _ _
  have e1 : wrap64 (Y * W) = Y * W := by unfold wrap64; omega
  have e2 : wrap64 (Y * W + X) = Y * W + X := by unfold wrap64; omega
  have d : decide (Y ≥ H) = false := by simpa using hY.2
  simp only [buffer_At.f, scale_Nearest.size_t hW, scale_Nearest.size_t hH, Option.bind_some, if_true]
  rw [if_neg (by omega), if_neg (by omega), if_neg (by omega), d, buffer_At.j0]
  simp only [Bool.false_eq_true, if_false, e1, e2]
  rw [if_neg (by omega), if_pos (by omega), if_pos (by omega)]
set_option maxHeartbeats 4000000 in
theorem scale_Nearest.lit_calls (W H : Int) (A : Option Addr) (c : Nat) (l : List S43) (n m : Int) (x y : Nat) (gb gw gh : Nat) (w : World) (hC0 : Kd.C k43 w A l.length l) (hc : l.length ≤ c)
    (hb0 : w.heap[gb]? = some (.cells #[.int .i64 W, .int .i64 H, .slice A l.length c] 24 (0, 0))) (hw0 : w.heap[gw]? = some (.cells #[.int .i64 n] 3 (0, 0))) (hh0 : w.heap[gh]? = some (.cells #[.int .i64 m] 3 (0, 0)))
    (hW : 1 ≤ W ∧ W ≤ 256) (hH : 1 ≤ H ∧ H ≤ 256) (hn : 1 ≤ n ∧ n ≤ 256) (hm : 1 ≤ m ∧ m ≤ 256) (hx : (x : Int) < n) (hy : (y : Int) < m) (hlen : (l.length : Int) = W * H) :
    Calls Try.prog 34 #[.int .i64 x, .int .i64 y, .pointer (some ⟨gb, 0, none⟩), .pointer (some ⟨gw, 0, none⟩), .pointer (some ⟨gh, 0, none⟩)] w fun e w' => e = .returned (.agg #[.int .u8 (scale_Nearest.px W H l n m x y).f0, .int .u8 (scale_Nearest.px W H l n m x y).f1, .int .u8 (scale_Nearest.px W H l n m x y).f2, .int .u8 (scale_Nearest.px W H l n m x y).f3]) ∧ Below w.heap.size w w' := by
  have z1 : ¬ wrap64 (2 * n) = 0 := by unfold wrap64; omega
  have z2 : ¬ wrap64 (2 * m) = 0 := by unfold wrap64; omega
  have z1b : (wrap64 (2 * n) == 0) = false := by simpa using z1
  have z2b : (wrap64 (2 * m) == 0) = false := by simpa using z2
  have hAt : Aside0 (buffer_At.f 1 W H l (wrap64 (Int.tdiv (wrap64 (wrap64 (wrap64 (2 * (x : Int)) + 1) * W)) (wrap64 (2 * n)))) (wrap64 (Int.tdiv (wrap64 (wrap64 (wrap64 (2 * (y : Int)) + 1) * H)) (wrap64 (2 * m)))) = some ((scale_Nearest.px W H l n m x y).f0, (scale_Nearest.px W H l n m x y).f1, (scale_Nearest.px W H l n m x y).f2, (scale_Nearest.px W H l n m x y).f3)) := by
    have q1 := scale_Nearest.quo (x := x) (by omega) hx hn.2 hW
    have q2 := scale_Nearest.quo (x := y) (by omega) hy hm.2 hH
    rw [q1.1, q2.1]
    exact ⟨scale_Nearest.at_eq hW hH q1.2 q2.2 hlen⟩
  go_enter Try.func34, Try.ntmps34
  go_wp2_with fail
  obtain ⟨hR0, hB0⟩ := allocs1 w (Obj.cells #[.int .u8 0, .int .u8 0, .int .u8 0, .int .u8 0] 43)
  have hb := Aside0.mk (blk_below hb0 hB0)
  have hw := Aside0.mk (blk_below hw0 hB0)
  have hh := Aside0.mk (blk_below hh0 hB0)
  have hC := Aside0.mk (Kd.C_below hC0 hB0)
  have hR := Aside0.mk hR0
  have hB := Aside0.mk hB0
  clear hR0 hB0
  generalize w.alloc (Obj.cells #[.int .u8 0, .int .u8 0, .int .u8 0, .int .u8 0] 43) = V at hb hw hh hR hB hC ⊢
  refine start_ (n := 21) (S := fun w' => w'.cell? ⟨gb, 0, none⟩ = some (.int .i64 W) ∧ w'.cell? ⟨gb, 1, none⟩ = some (.int .i64 H) ∧ w'.cell? ⟨gb, 2, none⟩ = some (.slice A l.length c) ∧ w'.cell? ⟨gw, 0, none⟩ = some (.int .i64 n) ∧ w'.cell? ⟨gh, 0, none⟩ = some (.int .i64 m)) (ds := [20]) #[false, false, false, false, false, false, false, false, false, false, false, false, false, false, false, false, false, false, false, false, false] (by kernel_rfl) rfl rfl ⟨(blk_cell hb.out 0).trans rfl, (blk_cell hb.out 1).trans rfl, (blk_cell hb.out 2).trans rfl, (blk_cell hw.out 0).trans rfl, (blk_cell hh.out 0).trans rfl⟩ (fun hHeld => ?_)
  have HT_ : Aside0 (rtab .any (opsOf Try.f34 1) = rtab .any (opsOf Try.f34 1)) := ⟨rfl⟩
  replace hb := Aside0.mk (blk_drew hb.out)
  replace hw := Aside0.mk (blk_drew hw.out)
  replace hh := Aside0.mk (blk_drew hh.out)
  replace hR := Aside0.mk (blk_drew hR.out)
  replace hB := Aside0.mk (below_drew1 hB.out)
  replace hC := Aside0.mk (Kd.C_drew hC.out)
  generalize V.drew = V2 at hb hw hh hR hB hC hHeld ⊢
  refine pv_ 1 9 #[false, true, false, false, false, false, false, false, false, false, false, false, false, false, false, false, false, false, false, false, false] HT_ ?_
  refine pv_ 2 10 #[false, true, true, false, false, false, false, false, false, false, false, false, false, false, false, false, false, false, false, false, false] HT_ ?_
  refine pv_ 3 11 #[false, true, true, true, false, false, false, false, false, false, false, false, false, false, false, false, false, false, false, false, false] HT_ ?_
  refine pv_ 4 12 #[false, true, true, true, true, false, false, false, false, false, false, false, false, false, false, false, false, false, false, false, false] HT_ ?_
  refine take_ (i := 0) (N := some 8) (v := ?_) (a' := ?_) #[true, true, true, true, true, false, false, false, false, false, false, false, false, false, false, false, false, false, false, false, false] rfl rfl (take_of HT_.out (by kernel_rfl)) (fun _ _ _ h => h) (Or.inl ⟨by rfl, ?_⟩) hHeld ?_ ?_
  rotate_left
  · rintro w' ⟨s0, s1, s2, s3, s4⟩
    go_simp
    with_reducible rfl
  rotate_left
  · simp only [Act.put, List.setIfInBounds_toArray, List.set_cons_zero, List.set_cons_succ, i64_w, i32_w]
    rfl
  refine take_ (i := 5) (N := some 13) (v := ?_) (a' := ?_) #[true, true, true, true, true, true, false, false, false, false, false, false, false, false, false, false, false, false, false, false, false] rfl rfl (take_of HT_.out (by kernel_rfl)) (fun _ _ _ h => h) (Or.inl ⟨by rfl, ?_⟩) hHeld ?_ ?_
  rotate_left
  · rintro w' ⟨s0, s1, s2, s3, s4⟩
    go_simp
    with_reducible rfl
  rotate_left
  · simp only [Act.put, List.setIfInBounds_toArray, List.set_cons_zero, List.set_cons_succ, i64_w, i32_w]
    rfl
  refine pv_ 6 14 #[true, true, true, true, true, true, true, false, false, false, false, false, false, false, false, false, false, false, false, false, false] HT_ ?_
  refine take_ (i := 7) (N := some 15) (v := ?_) (a' := ?_) #[true, true, true, true, true, true, true, true, false, false, false, false, false, false, false, false, false, false, false, false, false] rfl rfl (take_of HT_.out (by kernel_rfl)) (fun _ _ _ h => h) (Or.inl ⟨by rfl, ?_⟩) hHeld ?_ ?_
  rotate_left
  · rintro w' ⟨s0, s1, s2, s3, s4⟩
    go_simp
    with_reducible rfl
  rotate_left
  · simp only [Act.put, List.setIfInBounds_toArray, List.set_cons_zero, List.set_cons_succ, i64_w, i32_w]
    rfl
  refine pv_ 8 16 #[true, true, true, true, true, true, true, true, true, false, false, false, false, false, false, false, false, false, false, false, false] HT_ ?_
  refine pv_ 9 17 #[true, true, true, true, true, true, true, true, true, true, false, false, false, false, false, false, false, false, false, false, false] HT_ ?_
  refine pv_ 10 18 #[true, true, true, true, true, true, true, true, true, true, true, false, false, false, false, false, false, false, false, false, false] HT_ ?_
  refine pv_ 11 19 #[true, true, true, true, true, true, true, true, true, true, true, true, false, false, false, false, false, false, false, false, false] HT_ ?_
  refine pv_ 12 20 #[true, true, true, true, true, true, true, true, true, true, true, true, true, false, false, false, false, false, false, false, false] HT_ ?_
  refine pv_ 13 21 #[true, true, true, true, true, true, true, true, true, true, true, true, true, true, false, false, false, false, false, false, false] HT_ ?_
  refine take_ (i := 14) (N := some 22) (v := ?_) (a' := ?_) #[true, true, true, true, true, true, true, true, true, true, true, true, true, true, true, false, false, false, false, false, false] rfl rfl (take_of HT_.out (by kernel_rfl)) (fun _ _ _ h => h) (Or.inl ⟨by rfl, ?_⟩) hHeld ?_ ?_
  rotate_left
  · rintro w' ⟨s0, s1, s2, s3, s4⟩
    go_simp
    with_reducible rfl
  rotate_left
  · simp only [Act.put, List.setIfInBounds_toArray, List.set_cons_zero, List.set_cons_succ, i64_w, i32_w]
    rfl
  refine pv_ 15 23 #[true, true, true, true, true, true, true, true, true, true, true, true, true, true, true, true, false, false, false, false, false] HT_ ?_
  refine take_ (i := 16) (N := some 24) (v := ?_) (a' := ?_) #[true, true, true, true, true, true, true, true, true, true, true, true, true, true, true, true, true, false, false, false, false] rfl rfl (take_of HT_.out (by kernel_rfl)) (fun _ _ _ h => h) (Or.inl ⟨by rfl, ?_⟩) hHeld ?_ ?_
  rotate_left
  · rintro w' ⟨s0, s1, s2, s3, s4⟩
    go_simp
    with_reducible rfl
  rotate_left
  · simp only [Act.put, List.setIfInBounds_toArray, List.set_cons_zero, List.set_cons_succ, i64_w, i32_w]
    rfl
  refine pv_ 17 25 #[true, true, true, true, true, true, true, true, true, true, true, true, true, true, true, true, true, true, false, false, false] HT_ ?_
  refine pv_ 18 26 #[true, true, true, true, true, true, true, true, true, true, true, true, true, true, true, true, true, true, true, false, false] HT_ ?_
  refine one_ (i := 19) (N := some 27) #[true, true, true, true, true, true, true, true, true, true, true, true, true, true, true, true, true, true, true, true, false] rfl rfl (one_of HT_.out (by kernel_rfl)) (by decide) (fun K hK => ?_)
  refine gs_ Try.func35 #[.agg #[.int .i64 W, .int .i64 H, .slice A l.length c], .int .i64 (wrap64 (Int.tdiv (wrap64 (wrap64 (wrap64 (2 * (x : Int)) + 1) * W)) (wrap64 (2 * n)))), .int .i64 (wrap64 (Int.tdiv (wrap64 (wrap64 (wrap64 (2 * (y : Int)) + 1) * H)) (wrap64 (2 * m))))] ?_
  refine (buffer_At.calls 1 W H A c l _ _ _ _ _ _ V2 hC.out hc hAt.out).mono ?_
  rintro e w3 ⟨rfl, hb3⟩
  refine ⟨_, rfl, ?_⟩
  replace hb := Aside0.mk (blk_below hb.out hb3)
  replace hw := Aside0.mk (blk_below hw.out hb3)
  replace hh := Aside0.mk (blk_below hh.out hb3)
  replace hR := Aside0.mk (blk_below hR.out hb3)
  replace hB := Aside0.mk (below_step hB.out hb3)
  clear hb3
  refine hK.out _ _ ⟨(blk_cell hb.out 0).trans rfl, (blk_cell hb.out 1).trans rfl, (blk_cell hb.out 2).trans rfl, (blk_cell hw.out 0).trans rfl, (blk_cell hh.out 0).trans rfl⟩ (fun hHeld => ?_)
  clear hK K
  refine norm_ (a' := ?_) ?_ ?_
  rotate_left
  · show Act.put _ (some 27) _ = _
    simp only [Act.put, List.setIfInBounds_toArray, List.set_cons_zero, List.set_cons_succ, i64_w, i32_w]
    rfl
  refine last_ (i := 20) (N := none) #[true, true, true, true, true, true, true, true, true, true, true, true, true, true, true, true, true, true, true, true, true] rfl rfl (one_of HT_.out (by kernel_rfl)) (by decide) (fun K hK => ?_)
  have x0 : w3.cell? ⟨w.heap.size, 0, none⟩ = some (.int .u8 0) := (blk_cell hR.out 0).trans rfl
  have x1 : w3.cell? ⟨w.heap.size, 1, none⟩ = some (.int .u8 0) := (blk_cell hR.out 1).trans rfl
  have x2 : w3.cell? ⟨w.heap.size, 2, none⟩ = some (.int .u8 0) := (blk_cell hR.out 2).trans rfl
  have x3 : w3.cell? ⟨w.heap.size, 3, none⟩ = some (.int .u8 0) := (blk_cell hR.out 3).trans rfl
  have f0 := blk_frozen hR.out 0
  have f1 := blk_frozen hR.out 1
  have f2 := blk_frozen hR.out 2
  have f3 := blk_frozen hR.out 3
  refine skip_ (w1 := ?_) (by rfl) rfl ?_ ?_
  rotate_left
  · go_simp
    rfl
  refine hK.out _ _ ?_
  clear hK K
  refine done_ (done_of HT_.out (by kernel_rfl)) ?_
  try go_wp2
  refine bodyPost_ret (results_cell_row rfl _ _ w.heap.size 43 #[.int .u8 (scale_Nearest.px W H l n m x y).f0, .int .u8 (scale_Nearest.px W H l n m x y).f1, .int .u8 (scale_Nearest.px W H l n m x y).f2, .int .u8 (scale_Nearest.px W H l n m x y).f3] (0, 0) _ rfl (by
    refine blk_put (cs := #[.int .u8 (scale_Nearest.px W H l n m x y).f0, .int .u8 (scale_Nearest.px W H l n m x y).f1, .int .u8 (scale_Nearest.px W H l n m x y).f2, .int .u8 0]) ?_ 3 _ rfl
    refine blk_put (cs := #[.int .u8 (scale_Nearest.px W H l n m x y).f0, .int .u8 (scale_Nearest.px W H l n m x y).f1, .int .u8 0, .int .u8 0]) ?_ 2 _ rfl
    refine blk_put (cs := #[.int .u8 (scale_Nearest.px W H l n m x y).f0, .int .u8 0, .int .u8 0, .int .u8 0]) ?_ 1 _ rfl
    refine blk_put (cs := #[.int .u8 0, .int .u8 0, .int .u8 0, .int .u8 0]) ?_ 0 _ rfl
    exact hR.out) Try.underlying43 rfl (by kernel_rfl)) rfl ⟨rfl, ?_⟩
  exact below_set (below_set (below_set (below_set hB.out (by simp)) (by simp)) (by simp)) (by simp)

theorem scale_Nearest.allocs4 (w : World) (o1 o2 o3 o4 : Obj) : ((((w.alloc o1).alloc o2).alloc o3).alloc o4).heap[w.heap.size]? = some o1 ∧ ((((w.alloc o1).alloc o2).alloc o3).alloc o4).heap[w.heap.size + 1]? = some o2 ∧ ((((w.alloc o1).alloc o2).alloc o3).alloc o4).heap[w.heap.size + 1 + 1]? = some o3 ∧ ((((w.alloc o1).alloc o2).alloc o3).alloc o4).heap[w.heap.size + 1 + 1 + 1]? = some o4 ∧ Below w.heap.size w ((((w.alloc o1).alloc o2).alloc o3).alloc o4) :=
  ⟨blk_alloc (allocs3 w o1 o2 o3).1 _, blk_alloc (allocs3 w o1 o2 o3).2.1 _, blk_alloc (allocs3 w o1 o2 o3).2.2.1 _, by simpa using blk_new (((w.alloc o1).alloc o2).alloc o3) o4, below_alloc (allocs3 w o1 o2 o3).2.2.2 _⟩
def scale_Nearest.f (a0_0 a0_1 : Int) (l0_2 : List S43) (a1 a2 : Int) : Option (Int × Int × (List (S43)) × Int) :=
  (scale_check.f a0_0 a0_1 l0_2 a1 a2).bind fun t => if t = 0 then some (a1, a2, scale_build.bl (scale_Nearest.px a0_0 a0_1 l0_2 a1 a2) a1.toNat (a2.toNat * a1.toNat), 0) else some (0, 0, [], t)
theorem scale_Nearest.size_of {a : Int} (h : scale_size.f a = some true) : 1 ≤ a ∧ a ≤ 256 := by
  unfold scale_size.f at h
  split at h
  · rename_i k; exact ⟨k, by simpa using h⟩
  · simp at h
theorem scale_Nearest.of_valid {W H : Int} {l : List S43} (h : buffer_Valid.f W H l = some true) : (1 ≤ W ∧ W ≤ 256) ∧ (1 ≤ H ∧ H ≤ 256) ∧ (l.length : Int) = W * H := by
  unfold buffer_Valid.f at h
  obtain ⟨s1, h1, h⟩ := Option.bind_eq_some_iff.mp h
  cases s1 with
  | false => simp at h
  | true =>
    rw [if_pos rfl] at h
    obtain ⟨s2, h2, h⟩ := Option.bind_eq_some_iff.mp h
    cases s2 with
    | false => simp at h
    | true =>
      rw [if_pos rfl] at h
      have e1 := buffer_Valid.size_in h1
      have e2 := buffer_Valid.size_in h2
      by_cases hn : (l.length : Int) = wrap64 (W * H)
      · have p1 := Int.mul_le_mul e1.2 e2.2 (by omega) (by omega : (0 : Int) ≤ 256)
        have p2 := Int.mul_nonneg (show 0 ≤ W by omega) (show 0 ≤ H by omega)
        have p3 : wrap64 (W * H) = W * H := by unfold wrap64; omega
        exact ⟨e1, e2, hn.trans p3⟩
      · rw [if_neg hn] at h
        simp at h
theorem scale_Nearest.of_check {W H n m : Int} {l : List S43} (h : scale_check.f W H l n m = some 0) : (1 ≤ W ∧ W ≤ 256) ∧ (1 ≤ H ∧ H ≤ 256) ∧ (l.length : Int) = W * H ∧ (1 ≤ n ∧ n ≤ 256) ∧ (1 ≤ m ∧ m ≤ 256) := by
  unfold scale_check.f at h
  obtain ⟨s1, h1, h⟩ := Option.bind_eq_some_iff.mp h
  cases s1 with
  | false => simp at h
  | true =>
    rw [if_pos rfl] at h
    obtain ⟨s2, h2, h⟩ := Option.bind_eq_some_iff.mp h
    cases s2 with
    | false => simp at h
    | true =>
      rw [if_pos rfl] at h
      obtain ⟨s3, h3, h⟩ := Option.bind_eq_some_iff.mp h
      cases s3 with
      | false => simp at h
      | true =>
        have v := scale_Nearest.of_valid h1
        exact ⟨v.1, v.2.1, v.2.2, scale_Nearest.size_of h2, scale_Nearest.size_of h3⟩
set_option maxHeartbeats 4000000 in
theorem scale_Nearest.calls (a0_0 : Int) (a0_1 : Int) (A0_2 : Option Addr) (c0_2 : Nat) (l0_2 : List (S43)) (a1 : Int) (a2 : Int) (r1 : Int) (r2 : Int) (r3 : List (S43)) (r4 : Int) (w : World) (hr0_2 : Kd.C k43 w A0_2 l0_2.length l0_2) (hc0_2 : l0_2.length ≤ c0_2) (h : scale_Nearest.f a0_0 a0_1 l0_2 a1 a2 = some (r1, r2, r3, r4)) :
    Calls Try.prog 13 #[.agg #[.int .i64 a0_0, .int .i64 a0_1, .slice A0_2 l0_2.length c0_2], .int .i64 a1, .int .i64 a2] w fun e w' => ∃ v2_ : Value, e = .returned (.tuple #[.agg #[.int .i64 r1, .int .i64 r2, v2_], .int .i64 r4]) ∧ Kd.R k43 43 w' w.heap.size (fun _ => True) v2_ r3 ∧ Below w.heap.size w w' := by
  obtain ⟨t, ht0, h⟩ := Option.bind_eq_some_iff.mp h
  have ht := Aside0.mk ht0
  clear ht0
  go_enter Try.func13, Try.ntmps13
  go_wp2_with fail
  obtain ⟨hb0, hw0, hh0, hR0, hB0⟩ := scale_Nearest.allocs4 w (Obj.cells #[.int .i64 a0_0, .int .i64 a0_1, .slice A0_2 l0_2.length c0_2] 24) (Obj.cells #[.int .i64 a1] 3) (Obj.cells #[.int .i64 a2] 3) (Obj.cells #[.int .i64 0, .int .i64 0, .slice none 0 0] 24)
  generalize (((w.alloc (Obj.cells #[.int .i64 a0_0, .int .i64 a0_1, .slice A0_2 l0_2.length c0_2] 24)).alloc (Obj.cells #[.int .i64 a1] 3)).alloc (Obj.cells #[.int .i64 a2] 3)).alloc (Obj.cells #[.int .i64 0, .int .i64 0, .slice none 0 0] 24) = V at hb0 hw0 hh0 hR0 hB0 ⊢
  have hC := Aside0.mk (Kd.C_below hr0_2 hB0)
  have hb := Aside0.mk hb0
  have hw := Aside0.mk hw0
  have hh := Aside0.mk hh0
  have hR := Aside0.mk hR0
  have hB := Aside0.mk hB0
  clear hb0 hw0 hh0 hR0 hB0
  refine (scale_check.calls a0_0 a0_1 A0_2 c0_2 l0_2 a1 a2 t V hC.out hc0_2 ht.out).mono ?_
  rintro e w1 ⟨rfl, hb1⟩
  replace hb := Aside0.mk (blk_below hb.out hb1)
  replace hw := Aside0.mk (blk_below hw.out hb1)
  replace hh := Aside0.mk (blk_below hh.out hb1)
  replace hR := Aside0.mk (blk_below hR.out hb1)
  replace hC := Aside0.mk (Kd.C_below hC.out hb1)
  replace hB := Aside0.mk (below_step hB.out hb1)
  clear hb1
  have x0 := (blk_cell hw.out 0).trans rfl
  have x1 := (blk_cell hh.out 0).trans rfl
  have z0 := (blk_cell hR.out 0).trans rfl
  have z1 := (blk_cell hR.out 1).trans rfl
  have z2 := (blk_cell hR.out 2).trans rfl
  have f0 := blk_frozen hR.out 0
  have f1 := blk_frozen hR.out 1
  have f2 := blk_frozen hR.out 2
  by_cases c : t = 0
  · subst c
    rw [if_pos rfl] at h
    have hv := scale_Nearest.of_check ht.out
    obtain ⟨hW, hH, hlen, hn, hm⟩ := hv
    obtain ⟨n, rfl⟩ : ∃ n : Nat, a1 = n := ⟨a1.toNat, by omega⟩
    obtain ⟨m, rfl⟩ : ∃ m : Nat, a2 = m := ⟨a2.toNat, by omega⟩
    obtain ⟨rfl, rfl, rfl, rfl⟩ : (n : Int) = r1 ∧ (m : Int) = r2 ∧ scale_build.bl (scale_Nearest.px a0_0 a0_1 l0_2 n m) n (m * n) = r3 ∧ 0 = r4 := by simpa using h
    clear h
    go_wp2_with fail
    refine (scale_build.calls 34 Try.f34 #[.pointer (some ⟨w.heap.size, 0, none⟩), .pointer (some ⟨w.heap.size + 1, 0, none⟩), .pointer (some ⟨w.heap.size + 1 + 1, 0, none⟩)] Try.func34 (by kernel_rfl) rfl n m (by omega) (by omega) (scale_Nearest.px a0_0 a0_1 l0_2 n m) w1 ?cl).mono ?_
    case cl =>
      intro x y W1 hx hy hb1
      exact scale_Nearest.lit_calls a0_0 a0_1 A0_2 c0_2 l0_2 n m x y w.heap.size (w.heap.size + 1) (w.heap.size + 1 + 1) W1 (Kd.C_below hC.out hb1) hc0_2 (blk_below hb.out hb1) (blk_below hw.out hb1) (blk_below hh.out hb1) hW hH hn hm (by omega) (by omega) hlen
    rintro e w2 ⟨v, rfl, hv, hb2⟩
    replace hR := Aside0.mk (blk_below hR.out hb2)
    have hV := Aside0.mk (Kd.R_lower hv hB.out.size)
    replace hB := Aside0.mk (below_step hB.out hb2)
    clear hv hb2 z0 z1 z2 f0 f1 f2
    have z0 := (blk_cell hR.out 0).trans rfl
    have z1 := (blk_cell hR.out 1).trans rfl
    have z2 := (blk_cell hR.out 2).trans rfl
    have f0 := blk_frozen hR.out 0
    have f1 := blk_frozen hR.out 1
    have f2 := blk_frozen hR.out 2
    obtain ⟨Ao, co, eo⟩ := Kd.R_slice hV.out
    subst eo
    go_wp2
    refine bodyPost_ret (results_ct rfl _ _ (w.heap.size + 1 + 1 + 1) 24 #[.int .i64 n, .int .i64 m, .slice Ao (scale_build.bl (scale_Nearest.px a0_0 a0_1 l0_2 n m) n (m * n)).length co] (0, 0) _ rfl (by
      refine blk_put (cs := #[.int .i64 n, .int .i64 m, .slice none 0 0]) ?_ 2 _ rfl
      refine blk_put (cs := #[.int .i64 n, .int .i64 0, .slice none 0 0]) ?_ 1 _ rfl
      refine blk_put (cs := #[.int .i64 0, .int .i64 0, .slice none 0 0]) ?_ 0 _ rfl
      exact hR.out) Try.underlying24 rfl (by kernel_rfl)) rfl ⟨_, rfl, ?_, ?_⟩
    · have q0 := hV.out
      have b0 := hR.out
      have b1 := blk_put (cs := #[.int .i64 0, .int .i64 0, .slice none 0 0]) b0 0 (.int .i64 n) rfl
      have b2 := blk_put (cs := #[.int .i64 n, .int .i64 0, .slice none 0 0]) b1 1 (.int .i64 m) rfl
      have q1 := Kd.R_mono (Kd.R_far (p := ⟨(w.heap.size + 1 + 1 + 1), 0, none⟩) (Kd.R_types q0 b0 (by decide)) (fun _ hk => hk.2) (.int .i64 n)) (ok' := fun _ => True) (fun _ hk => trivial)
      have q2 := Kd.R_mono (Kd.R_far (p := ⟨(w.heap.size + 1 + 1 + 1), 1, none⟩) (Kd.R_types q1 b1 (by decide)) (fun _ hk => hk.2) (.int .i64 m)) (ok' := fun _ => True) (fun _ hk => trivial)
      exact Kd.R_mono (Kd.R_far (p := ⟨(w.heap.size + 1 + 1 + 1), 2, none⟩) (Kd.R_types q2 b2 (by decide)) (fun _ hk => hk.2) _) (fun _ hk => trivial)
    · exact below_set (below_set (below_set hB.out (by omega)) (by omega)) (by omega)
  · rw [if_neg c] at h
    obtain ⟨rfl, rfl, rfl, rfl⟩ : 0 = r1 ∧ 0 = r2 ∧ [] = r3 ∧ t = r4 := by simpa using h
    clear h
    have c0 : (t != 0) = true := by simpa using c
    go_wp2
    refine bodyPost_ret (results_ct rfl _ _ (w.heap.size + 1 + 1 + 1) 24 #[.int .i64 0, .int .i64 0, .slice none 0 0] (0, 0) _ rfl (by
      refine blk_put (cs := #[.int .i64 0, .int .i64 0, .slice none 0 0]) ?_ 2 _ rfl
      refine blk_put (cs := #[.int .i64 0, .int .i64 0, .slice none 0 0]) ?_ 1 _ rfl
      refine blk_put (cs := #[.int .i64 0, .int .i64 0, .slice none 0 0]) ?_ 0 _ rfl
      exact hR.out) Try.underlying24 rfl (by kernel_rfl)) rfl ⟨_, rfl, Kd.R_nil _ _ _ _ _, ?_⟩
    exact below_set (below_set (below_set hB.out (by omega)) (by omega)) (by omega)
end


end Go.Proofs.Ythpmfhfnkgbkjaa.All
