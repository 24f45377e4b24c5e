-- Written by a program of this session, which runs the kit's print.py and puts in functions that this session typed. Not trusted: Lean checks it.
import Derived.Test.YthpmfhfnkgbkjaaHand
import Derived.Test.YthpmfhfnkgbkjaaAllx0
import Derived.Test.YthpmfhfnkgbkjaaAllx6
import Derived.Test.YthpmfhfnkgbkjaaAllx8
namespace Go.Proofs.Ythpmfhfnkgbkjaa.All
open Go.Proofs.YthpmfhfnkgbkjaaSq
open Go.RowKit Go.Proofs.YthpmfhfnkgbkjaaW.PrintWords Go.Proofs.YthpmfhfnkgbkjaaW.PrintLast Go.Proofs.YthpmfhfnkgbkjaaW.PrintMore
attribute [local go_sem] max2_int min2_int max_two min_two max_three min_three max_four min_four   -- for this text's walks alone
set_option linter.unusedVariables false
set_option linter.unusedSimpArgs false

/-! ### scale_Enlarge: function 20 -/
section
open Go.Proofs.YthpmfhfnkgbkjaaHand Go.Proofs.YthpmfhfnkgbkjaaSq
theorem scale_Enlarge.of_valid {W H : Int} {l : List S43} (h : buffer_Valid.f W H l = some true) : (1 ≤ W ∧ W ≤ 256) ∧ (1 ≤ H ∧ H ≤ 256) ∧ (l.length : Int) = W * H := by
  unfold buffer_Valid.f at h
  obtain ⟨s1, h1, h⟩ := Option.bind_eq_some_iff.mp h
  cases s1 with
  | false => simp at h
  | true =>
    rw [if_pos rfl] at h
    obtain ⟨s2, h2, h⟩ := Option.bind_eq_some_iff.mp h
    cases s2 with
    | false => simp at h
    | true =>
      rw [if_pos rfl] at h
      have e1 := buffer_Valid.size_in h1
      have e2 := buffer_Valid.size_in h2
      by_cases hn : (l.length : Int) = wrap64 (W * H)
      · have p1 := Int.mul_le_mul e1.2 e2.2 (by omega) (by omega : (0 : Int) ≤ 256)
        have p2 := Int.mul_nonneg (show 0 ≤ W by omega) (show 0 ≤ H by omega)
        have p3 : wrap64 (W * H) = W * H := by unfold wrap64; omega
        exact ⟨e1, e2, hn.trans p3⟩
      · rw [if_neg hn] at h
        simp at h
def scale_Enlarge.px (W : Int) (l : List S43) (k x y : Int) : S43 := rd_T43 l ((y / k) * W + x / k)
theorem scale_Enlarge.idx {W H k : Int} {x y : Nat} (hk : 1 ≤ k) (hW : 1 ≤ W ∧ W ≤ 256) (hH : 1 ≤ H ∧ H ≤ 256) (hx : (x : Int) < W * k) (hy : (y : Int) < H * k) :
    (wrap64 (wrap64 (wrap64 ((y : Int) / k) * W) + wrap64 ((x : Int) / k))) = (y : Int) / k * W + (x : Int) / k ∧ 0 ≤ (y : Int) / k * W + (x : Int) / k ∧ (y : Int) / k * W + (x : Int) / k < W * H := by
  have q1 : (x : Int) / k < W := Int.ediv_lt_of_lt_mul (by omega) hx
  have q2 : (y : Int) / k < H := Int.ediv_lt_of_lt_mul (by omega) hy
  have q3 : 0 ≤ (x : Int) / k := Int.ediv_nonneg (by omega) (by omega)
  have q4 : 0 ≤ (y : Int) / k := Int.ediv_nonneg (by omega) (by omega)
  generalize (x : Int) / k = X at *
  generalize (y : Int) / k = Y at *
  have p1 : 0 ≤ Y * W := Int.mul_nonneg q4 (by omega)
  have p2 : (Y + 1) * W ≤ H * W := Int.mul_le_mul_of_nonneg_right (by omega) (by omega)
  have p3 : H * W ≤ 256 * 256 := Int.mul_le_mul hH.2 hW.2 (by omega) (by omega)
  have p4 : (Y + 1) * W = Y * W + W := by rw [Int.add_mul, Int.one_mul]
  have p5 : W * H = H * W := Int.mul_comm _ _
  have e0 : wrap64 Y = Y := by unfold wrap64; omega
  have e0' : wrap64 X = X := by unfold wrap64; omega
  have e1 : wrap64 (Y * W) = Y * W := by unfold wrap64; omega
  have e2 : wrap64 (Y * W + X) = Y * W + X := by unfold wrap64; omega
  rw [e0, e0', e1, e2]
  omega
set_option maxHeartbeats 4000000 in
theorem scale_Enlarge.lit_calls (W H : Int) (A : Option Addr) (c : Nat) (l : List S43) (k : Int) (x y : Nat) (gb gk : Nat) (w : World) (hC0 : Kd.C k43 w A l.length l) (hc : l.length ≤ c)
    (hb0 : w.heap[gb]? = some (.cells #[.int .i64 W, .int .i64 H, .slice A l.length c] 24 (0, 0))) (hk0 : w.heap[gk]? = some (.cells #[.int .i64 k] 3 (0, 0)))
    (hW : 1 ≤ W ∧ W ≤ 256) (hH : 1 ≤ H ∧ H ≤ 256) (hk1 : 1 ≤ k) (hx : (x : Int) < W * k) (hy : (y : Int) < H * k) (hlen : (l.length : Int) = W * H) :
    Calls Try.prog 42 #[.int .i64 x, .int .i64 y, .pointer (some ⟨gb, 0, none⟩), .pointer (some ⟨gk, 0, none⟩)] w fun e w' => e = .returned (.agg #[.int .u8 (scale_Enlarge.px W l k x y).f0, .int .u8 (scale_Enlarge.px W l k x y).f1, .int .u8 (scale_Enlarge.px W l k x y).f2, .int .u8 (scale_Enlarge.px W l k x y).f3]) ∧ Below w.heap.size w w' := by
  have hidx := scale_Enlarge.idx hk1 hW hH hx hy
  have z1 : ¬ k = 0 := by omega
  have z1b : (k == 0) = false := by simpa using z1
  obtain ⟨ji, hji⟩ : ∃ j, (wrap64 (wrap64 (wrap64 ((y : Int) / k) * W) + wrap64 ((x : Int) / k))) = j := ⟨_, rfl⟩
  have hI := Aside0.mk (hidx.1.symm.trans hji)
  rw [← hidx.1, hji] at hidx
  have p := hidx.2.1
  have q : ji < (l.length : Int) := by omega
  obtain ⟨ad, eA, e0, e1, e2, e3⟩ := at_T43 hC0 ji p q
  subst eA
  clear hlen
  replace p := eq_true p
  replace q := eq_true q
  go_enter Try.func42, Try.ntmps42
  go_wp2_with fail
  obtain ⟨hR0, hB0⟩ := allocs1 w (Obj.cells #[.int .u8 0, .int .u8 0, .int .u8 0, .int .u8 0] 43)
  have hb := Aside0.mk (blk_below hb0 hB0)
  have hk := Aside0.mk (blk_below hk0 hB0)
  replace e0 := (hB0.cell (World.block_lt_of_cell? w _ e0)).trans e0
  replace e1 := (hB0.cell (World.block_lt_of_cell? w _ e1)).trans e1
  replace e2 := (hB0.cell (World.block_lt_of_cell? w _ e2)).trans e2
  replace e3 := (hB0.cell (World.block_lt_of_cell? w _ e3)).trans e3
  have hR := Aside0.mk hR0
  have hB := Aside0.mk hB0
  clear hR0 hB0
  generalize w.alloc (Obj.cells #[.int .u8 0, .int .u8 0, .int .u8 0, .int .u8 0] 43) = V at hb hk hR hB e0 e1 e2 e3 ⊢
  refine start_ (n := 15) (S := fun w' => w'.cell? ⟨gb, 0, none⟩ = some (.int .i64 W) ∧ w'.cell? ⟨gb, 1, none⟩ = some (.int .i64 H) ∧ w'.cell? ⟨gb, 2, none⟩ = some (.slice (some ad) l.length c) ∧ w'.cell? ⟨gk, 0, none⟩ = some (.int .i64 k) ∧ w'.cell? (ad.add (ji.toNat * 4)) = some (.int .u8 (rd_T43 l ji).f0) ∧ w'.cell? ⟨(ad.add (ji.toNat * 4)).block, (ad.add (ji.toNat * 4)).off + 1, none⟩ = some (.int .u8 (rd_T43 l ji).f1) ∧ w'.cell? ⟨(ad.add (ji.toNat * 4)).block, (ad.add (ji.toNat * 4)).off + 2, none⟩ = some (.int .u8 (rd_T43 l ji).f2) ∧ w'.cell? ⟨(ad.add (ji.toNat * 4)).block, (ad.add (ji.toNat * 4)).off + 3, none⟩ = some (.int .u8 (rd_T43 l ji).f3)) (ds := [14]) #[false, false, false, false, false, false, false, false, false, false, false, false, false, false, false] (by kernel_rfl) rfl rfl ⟨(blk_cell hb.out 0).trans rfl, (blk_cell hb.out 1).trans rfl, (blk_cell hb.out 2).trans rfl, (blk_cell hk.out 0).trans rfl, e0, e1, e2, e3⟩ (fun hHeld => ?_)
  have HT_ : Aside0 (rtab .any (opsOf Try.f42 1) = rtab .any (opsOf Try.f42 1)) := ⟨rfl⟩
  replace hb := Aside0.mk (blk_drew hb.out)
  replace hk := Aside0.mk (blk_drew hk.out)
  replace hR := Aside0.mk (blk_drew hR.out)
  replace hB := Aside0.mk (below_drew1 hB.out)
  clear e0 e1 e2 e3
  generalize V.drew = V2 at hb hk hR hB hHeld ⊢
  refine pv_ 0 7 #[true, false, false, false, false, false, false, false, false, false, false, false, false, false, false] HT_ ?_
  refine pv_ 2 9 #[true, false, true, false, false, false, false, false, false, false, false, false, false, false, false] HT_ ?_
  refine pv_ 5 12 #[true, false, true, false, false, true, false, false, false, false, false, false, false, false, false] HT_ ?_
  refine pv_ 8 15 #[true, false, true, false, false, true, false, false, true, false, false, false, false, false, false] HT_ ?_
  refine take_ (i := 1) (N := some 8) (v := ?_) (a' := ?_) #[true, true, true, false, false, true, false, false, true, false, false, false, false, false, false] rfl rfl (take_of HT_.out (by kernel_rfl)) (fun _ _ _ h => h) (Or.inl ⟨by rfl, ?_⟩) hHeld ?_ ?_
  rotate_left
  · rintro w' ⟨s0, s1, s2, s3, s4, s5, s6, s7⟩
    go_simp
    with_reducible rfl
  rotate_left
  · simp only [Act.put, List.setIfInBounds_toArray, List.set_cons_zero, List.set_cons_succ, i64_w, i32_w]
    rfl
  refine take_ (i := 3) (N := some 10) (v := ?_) (a' := ?_) #[true, true, true, true, false, true, false, false, true, false, false, false, false, false, false] rfl rfl (take_of HT_.out (by kernel_rfl)) (fun _ _ _ h => h) (Or.inl ⟨by rfl, ?_⟩) hHeld ?_ ?_
  rotate_left
  · rintro w' ⟨s0, s1, s2, s3, s4, s5, s6, s7⟩
    go_simp
    with_reducible rfl
  rotate_left
  · simp only [Act.put, List.setIfInBounds_toArray, List.set_cons_zero, List.set_cons_succ, i64_w, i32_w]
    rfl
  refine pv_ 4 11 #[true, true, true, true, true, true, false, false, true, false, false, false, false, false, false] HT_ ?_
  refine take_ (i := 6) (N := some 13) (v := ?_) (a' := ?_) #[true, true, true, true, true, true, true, false, true, false, false, false, false, false, false] rfl rfl (take_of HT_.out (by kernel_rfl)) (fun _ _ _ h => h) (Or.inl ⟨by rfl, ?_⟩) hHeld ?_ ?_
  rotate_left
  · rintro w' ⟨s0, s1, s2, s3, s4, s5, s6, s7⟩
    go_simp
    with_reducible rfl
  rotate_left
  · simp only [Act.put, List.setIfInBounds_toArray, List.set_cons_zero, List.set_cons_succ, i64_w, i32_w]
    rfl
  refine pv_ 7 14 #[true, true, true, true, true, true, true, true, true, false, false, false, false, false, false] HT_ ?_
  refine take_ (i := 9) (N := some 16) (v := ?_) (a' := ?_) #[true, true, true, true, true, true, true, true, true, true, false, false, false, false, false] rfl rfl (take_of HT_.out (by kernel_rfl)) (fun _ _ _ h => h) (Or.inl ⟨by rfl, ?_⟩) hHeld ?_ ?_
  rotate_left
  · rintro w' ⟨s0, s1, s2, s3, s4, s5, s6, s7⟩
    go_simp
    with_reducible rfl
  rotate_left
  · simp only [Act.put, List.setIfInBounds_toArray, List.set_cons_zero, List.set_cons_succ, i64_w, i32_w]
    rfl
  refine pv_ 10 17 #[true, true, true, true, true, true, true, true, true, true, true, false, false, false, false] HT_ ?_
  refine pv_ 11 18 #[true, true, true, true, true, true, true, true, true, true, true, true, false, false, false] HT_ ?_
  refine pv_ 12 19 #[true, true, true, true, true, true, true, true, true, true, true, true, true, false, false] HT_ ?_
  refine take_ (i := 13) (N := some 20) (v := ?_) (a' := ?_) #[true, true, true, true, true, true, true, true, true, true, true, true, true, true, false] rfl rfl (take_of HT_.out (by kernel_rfl)) (fun _ _ _ h => h) (Or.inl ⟨by rfl, ?_⟩) hHeld ?_ ?_
  rotate_left
  · rintro w' ⟨s0, s1, s2, s3, s4, s5, s6, s7⟩
    go_simp
    with_reducible rfl
  rotate_left
  · simp only [Act.put, List.setIfInBounds_toArray, List.set_cons_zero, List.set_cons_succ, i64_w, i32_w]
    rfl
  refine last_ (i := 14) (N := none) #[true, true, true, true, true, true, true, true, true, true, true, true, true, true, true] rfl rfl (one_of HT_.out (by kernel_rfl)) (by decide) (fun K hK => ?_)
  have x0 : V2.cell? ⟨w.heap.size, 0, none⟩ = some (.int .u8 0) := (blk_cell hR.out 0).trans rfl
  have x1 : V2.cell? ⟨w.heap.size, 1, none⟩ = some (.int .u8 0) := (blk_cell hR.out 1).trans rfl
  have x2 : V2.cell? ⟨w.heap.size, 2, none⟩ = some (.int .u8 0) := (blk_cell hR.out 2).trans rfl
  have x3 : V2.cell? ⟨w.heap.size, 3, none⟩ = some (.int .u8 0) := (blk_cell hR.out 3).trans rfl
  have f0 := blk_frozen hR.out 0
  have f1 := blk_frozen hR.out 1
  have f2 := blk_frozen hR.out 2
  have f3 := blk_frozen hR.out 3
  refine skip_ (w1 := ?_) (by rfl) rfl ?_ ?_
  rotate_left
  · go_simp
    rfl
  refine hK.out _ _ ?_
  clear hK K
  refine done_ (done_of HT_.out (by kernel_rfl)) ?_
  try go_wp2
  refine bodyPost_ret (results_cell_row rfl _ _ w.heap.size 43 #[.int .u8 (rd_T43 l ji).f0, .int .u8 (rd_T43 l ji).f1, .int .u8 (rd_T43 l ji).f2, .int .u8 (rd_T43 l ji).f3] (0, 0) _ rfl (by
    refine blk_put (cs := #[.int .u8 (rd_T43 l ji).f0, .int .u8 (rd_T43 l ji).f1, .int .u8 (rd_T43 l ji).f2, .int .u8 0]) ?_ 3 _ rfl
    refine blk_put (cs := #[.int .u8 (rd_T43 l ji).f0, .int .u8 (rd_T43 l ji).f1, .int .u8 0, .int .u8 0]) ?_ 2 _ rfl
    refine blk_put (cs := #[.int .u8 (rd_T43 l ji).f0, .int .u8 0, .int .u8 0, .int .u8 0]) ?_ 1 _ rfl
    refine blk_put (cs := #[.int .u8 0, .int .u8 0, .int .u8 0, .int .u8 0]) ?_ 0 _ rfl
    exact hR.out) Try.underlying43 rfl (by kernel_rfl)) rfl ⟨by rw [scale_Enlarge.px, hI.out], ?_⟩
  exact below_set (below_set (below_set (below_set hB.out (by simp)) (by simp)) (by simp)) (by simp)
def scale_Enlarge.f (a0_0 a0_1 : Int) (l0_2 : List S43) (a1 : Int) : Option (Int × Int × (List (S43)) × Int) :=
  (buffer_Valid.f a0_0 a0_1 l0_2).bind fun v => if v = true then (if a1 < 1 then some (0, 0, [], 2) else if a1 > 256 / (mx a0_0 a0_1) then some (0, 0, [], 5) else some (a0_0 * a1, a0_1 * a1, scale_build.bl (scale_Enlarge.px a0_0 l0_2 a1) (a0_0 * a1).toNat ((a0_1 * a1).toNat * (a0_0 * a1).toNat), 0)) else some (0, 0, [], 15)
set_option maxHeartbeats 4000000 in
theorem scale_Enlarge.calls (a0_0 : Int) (a0_1 : Int) (A0_2 : Option Addr) (c0_2 : Nat) (l0_2 : List (S43)) (a1 : Int) (r1 : Int) (r2 : Int) (r3 : List (S43)) (r4 : Int) (w : World) (hr0_2 : Kd.C k43 w A0_2 l0_2.length l0_2) (hc0_2 : l0_2.length ≤ c0_2) (h : scale_Enlarge.f a0_0 a0_1 l0_2 a1 = some (r1, r2, r3, r4)) :
    Calls Try.prog 20 #[.agg #[.int .i64 a0_0, .int .i64 a0_1, .slice A0_2 l0_2.length c0_2], .int .i64 a1] w fun e w' => ∃ v2_ : Value, e = .returned (.tuple #[.agg #[.int .i64 r1, .int .i64 r2, v2_], .int .i64 r4]) ∧ Kd.R k43 43 w' w.heap.size (fun _ => True) v2_ r3 ∧ Below w.heap.size w w' := by
  obtain ⟨t, ht0, h⟩ := Option.bind_eq_some_iff.mp h
  have ht := Aside0.mk ht0
  clear ht0
  go_enter Try.func20, Try.ntmps20
  go_wp2_with fail
  obtain ⟨hb0, hk0, hR0, hB0⟩ := allocs3 w (Obj.cells #[.int .i64 a0_0, .int .i64 a0_1, .slice A0_2 l0_2.length c0_2] 24) (Obj.cells #[.int .i64 a1] 3) (Obj.cells #[.int .i64 0, .int .i64 0, .slice none 0 0] 24)
  generalize ((w.alloc (Obj.cells #[.int .i64 a0_0, .int .i64 a0_1, .slice A0_2 l0_2.length c0_2] 24)).alloc (Obj.cells #[.int .i64 a1] 3)).alloc (Obj.cells #[.int .i64 0, .int .i64 0, .slice none 0 0] 24) = V at hb0 hk0 hR0 hB0 ⊢
  have hC := Aside0.mk (Kd.C_below hr0_2 hB0)
  have hb := Aside0.mk hb0
  have hk := Aside0.mk hk0
  have hR := Aside0.mk hR0
  have hB := Aside0.mk hB0
  clear hb0 hk0 hR0 hB0
  refine (buffer_Valid.calls a0_0 a0_1 A0_2 c0_2 l0_2 t V hC.out hc0_2 ht.out).mono ?_
  rintro e w1 ⟨rfl, hb1⟩
  replace hb := Aside0.mk (blk_below hb.out hb1)
  replace hk := Aside0.mk (blk_below hk.out hb1)
  replace hR := Aside0.mk (blk_below hR.out hb1)
  replace hC := Aside0.mk (Kd.C_below hC.out hb1)
  replace hB := Aside0.mk (below_step hB.out hb1)
  clear hb1
  have x0 := (blk_cell hk.out 0).trans rfl
  have y0 := (blk_cell hb.out 0).trans rfl
  have y1 := (blk_cell hb.out 1).trans rfl
  have z0 := (blk_cell hR.out 0).trans rfl
  have z1 := (blk_cell hR.out 1).trans rfl
  have z2 := (blk_cell hR.out 2).trans rfl
  have f0 := blk_frozen hR.out 0
  have f1 := blk_frozen hR.out 1
  have f2 := blk_frozen hR.out 2
  cases t with
  | false =>
    obtain ⟨rfl, rfl, rfl, rfl⟩ : 0 = r1 ∧ 0 = r2 ∧ [] = r3 ∧ 15 = r4 := by simpa using h
    clear h
    go_wp2
    refine bodyPost_ret (results_ct rfl _ _ (w.heap.size + 1 + 1) 24 #[.int .i64 0, .int .i64 0, .slice none 0 0] (0, 0) _ rfl (by
      refine blk_put (cs := #[.int .i64 0, .int .i64 0, .slice none 0 0]) ?_ 2 _ rfl
      refine blk_put (cs := #[.int .i64 0, .int .i64 0, .slice none 0 0]) ?_ 1 _ rfl
      refine blk_put (cs := #[.int .i64 0, .int .i64 0, .slice none 0 0]) ?_ 0 _ rfl
      exact hR.out) Try.underlying24 rfl (by kernel_rfl)) rfl ⟨_, rfl, Kd.R_nil _ _ _ _ _, ?_⟩
    exact below_set (below_set (below_set hB.out (by omega)) (by omega)) (by omega)
  | true =>
    rw [if_pos rfl] at h
    obtain ⟨hW, hH, hlen⟩ := scale_Enlarge.of_valid ht.out
    by_cases c1 : a1 < 1
    · rw [if_pos c1] at h
      obtain ⟨rfl, rfl, rfl, rfl⟩ : 0 = r1 ∧ 0 = r2 ∧ [] = r3 ∧ 2 = r4 := by simpa using h
      clear h hlen
      go_wp2
      refine bodyPost_ret (results_ct rfl _ _ (w.heap.size + 1 + 1) 24 #[.int .i64 0, .int .i64 0, .slice none 0 0] (0, 0) _ rfl (by
        refine blk_put (cs := #[.int .i64 0, .int .i64 0, .slice none 0 0]) ?_ 2 _ rfl
        refine blk_put (cs := #[.int .i64 0, .int .i64 0, .slice none 0 0]) ?_ 1 _ rfl
        refine blk_put (cs := #[.int .i64 0, .int .i64 0, .slice none 0 0]) ?_ 0 _ rfl
        exact hR.out) Try.underlying24 rfl (by kernel_rfl)) rfl ⟨_, rfl, Kd.R_nil _ _ _ _ _, ?_⟩
      exact below_set (below_set (below_set hB.out (by omega)) (by omega)) (by omega)
    · rw [if_neg c1] at h
      have hlen' := Aside0.mk hlen
      clear hlen
      have m0 : ¬ (if a0_0 < a0_1 then a0_1 else a0_0) = 0 := by split <;> omega
      go_wp2_with fail
      go_quiet (fail)
      replace hb := Aside0.mk (blk_drewN hb.out nq)
      replace hk := Aside0.mk (blk_drewN hk.out nq)
      replace hR := Aside0.mk (blk_drewN hR.out nq)
      replace hC := Aside0.mk (Kd.C_drewN hC.out nq)
      replace hB := Aside0.mk (pw_below_drewN hB.out nq)
      clear x0 y0 y1 z0 z1 z2 f0 f1 f2
      generalize w1.drewN nq = w2 at hb hk hR hC hB ⊢
      have hM : (if a0_0 < a0_1 then a0_1 else a0_0) = mx a0_0 a0_1 := rfl
      rw [hM] at m0 ⊢
      have hMs : a0_0 ≤ mx a0_0 a0_1 ∧ a0_1 ≤ mx a0_0 a0_1 := by unfold mx; split <;> omega
      clear hM
      generalize mx a0_0 a0_1 = M at *
      have x0 := (blk_cell hk.out 0).trans rfl
      have y0 := (blk_cell hb.out 0).trans rfl
      have y1 := (blk_cell hb.out 1).trans rfl
      have z0 := (blk_cell hR.out 0).trans rfl
      have z1 := (blk_cell hR.out 1).trans rfl
      have z2 := (blk_cell hR.out 2).trans rfl
      have f0 := blk_frozen hR.out 0
      have f1 := blk_frozen hR.out 1
      have f2 := blk_frozen hR.out 2
      by_cases c2 : a1 > 256 / M
      · rw [if_pos c2] at h
        obtain ⟨rfl, rfl, rfl, rfl⟩ : 0 = r1 ∧ 0 = r2 ∧ [] = r3 ∧ 5 = r4 := by simpa using h
        clear h
        have c3 : decide (256 / M < a1) = true := by simpa using c2
        rw [c3]
        go_wp2
        refine bodyPost_ret (results_ct rfl _ _ (w.heap.size + 1 + 1) 24 #[.int .i64 0, .int .i64 0, .slice none 0 0] (0, 0) _ rfl (by
          refine blk_put (cs := #[.int .i64 0, .int .i64 0, .slice none 0 0]) ?_ 2 _ rfl
          refine blk_put (cs := #[.int .i64 0, .int .i64 0, .slice none 0 0]) ?_ 1 _ rfl
          refine blk_put (cs := #[.int .i64 0, .int .i64 0, .slice none 0 0]) ?_ 0 _ rfl
          exact hR.out) Try.underlying24 rfl (by kernel_rfl)) rfl ⟨_, rfl, Kd.R_nil _ _ _ _ _, ?_⟩
        exact below_set (below_set (below_set hB.out (by omega)) (by omega)) (by omega)
      · rw [if_neg c2] at h
        have c3 : decide (256 / M < a1) = false := by simpa using c2
        rw [c3]
        have b1 : M * a1 ≤ 256 := by
          have q : a1 * M ≤ 256 := Int.mul_le_of_le_ediv (by omega) (by omega)
          rw [Int.mul_comm]; exact q
        have b2 : a0_0 * a1 ≤ 256 := Int.le_trans (Int.mul_le_mul_of_nonneg_right hMs.1 (by omega)) b1
        have b3 : a0_1 * a1 ≤ 256 := Int.le_trans (Int.mul_le_mul_of_nonneg_right hMs.2 (by omega)) b1
        have b4 : 0 ≤ a0_0 * a1 := Int.mul_nonneg (by omega) (by omega)
        have b5 : 0 ≤ a0_1 * a1 := Int.mul_nonneg (by omega) (by omega)
        have e1 : wrap64 (a0_0 * a1) = a0_0 * a1 := by unfold wrap64; omega
        have e2 : wrap64 (a0_1 * a1) = a0_1 * a1 := by unfold wrap64; omega
        obtain ⟨n, hn⟩ : ∃ n : Nat, a0_0 * a1 = n := ⟨(a0_0 * a1).toNat, by omega⟩
        obtain ⟨m, hm⟩ : ∃ m : Nat, a0_1 * a1 = m := ⟨(a0_1 * a1).toNat, by omega⟩
        obtain ⟨rfl, rfl, rfl, rfl⟩ : (n : Int) = r1 ∧ (m : Int) = r2 ∧ scale_build.bl (scale_Enlarge.px a0_0 l0_2 a1) n (m * n) = r3 ∧ 0 = r4 := by simpa [hn, hm] using h
        clear h
        rw [hn] at e1 b2
        rw [hm] at e2 b3
        have Hall := Aside0.mk (And.intro b2 (And.intro b3 (And.intro hW (And.intro hH (And.intro c1 (And.intro hn hm))))))
        have hq1 : wrap64 (a0_0 * a1) = n := by rw [hn]; exact e1
        have hq2 : wrap64 (a0_1 * a1) = m := by rw [hm]; exact e2
        clear b1 b2 b3 b4 b5 hMs c2 m0 hW hH c1 hn hm e1 e2
        go_wp2_with fail
        obtain ⟨b2, b3, hW, hH, c1, hn, hm⟩ := Hall.out
        refine (scale_build.calls 42 Try.f42 #[.pointer (some ⟨w.heap.size, 0, none⟩), .pointer (some ⟨w.heap.size + 1, 0, none⟩)] Try.func42 (by kernel_rfl) rfl n m (by omega) (by omega) (scale_Enlarge.px a0_0 l0_2 a1) w2 ?cl).mono ?_
        case cl =>
          intro x y W1 hx hy hb1
          exact scale_Enlarge.lit_calls a0_0 a0_1 A0_2 c0_2 l0_2 a1 x y w.heap.size (w.heap.size + 1) W1 (Kd.C_below hC.out hb1) hc0_2 (blk_below hb.out hb1) (blk_below hk.out hb1) hW hH (by omega) (by omega) (by omega) hlen'.out
        rintro e w3 ⟨v, rfl, hv, hb2⟩
        replace hR := Aside0.mk (blk_below hR.out hb2)
        have hV := Aside0.mk (Kd.R_lower hv hB.out.size)
        replace hB := Aside0.mk (below_step hB.out hb2)
        clear hv hb2 z0 z1 z2 f0 f1 f2 b2 b3 hW hH c1 hn hm
        have z0 := (blk_cell hR.out 0).trans rfl
        have z1 := (blk_cell hR.out 1).trans rfl
        have z2 := (blk_cell hR.out 2).trans rfl
        have f0 := blk_frozen hR.out 0
        have f1 := blk_frozen hR.out 1
        have f2 := blk_frozen hR.out 2
        obtain ⟨Ao, co, eo⟩ := Kd.R_slice hV.out
        subst eo
        go_wp2
        refine bodyPost_ret (results_ct rfl _ _ (w.heap.size + 1 + 1) 24 #[.int .i64 n, .int .i64 m, .slice Ao (scale_build.bl (scale_Enlarge.px a0_0 l0_2 a1) n (m * n)).length co] (0, 0) _ rfl (by
          refine blk_put (cs := #[.int .i64 n, .int .i64 m, .slice none 0 0]) ?_ 2 _ rfl
          refine blk_put (cs := #[.int .i64 n, .int .i64 0, .slice none 0 0]) ?_ 1 _ rfl
          refine blk_put (cs := #[.int .i64 0, .int .i64 0, .slice none 0 0]) ?_ 0 _ rfl
          exact hR.out) Try.underlying24 rfl (by kernel_rfl)) rfl ⟨_, rfl, ?_, ?_⟩
        · have q0 := hV.out
          have b0 := hR.out
          have b1 := blk_put (cs := #[.int .i64 0, .int .i64 0, .slice none 0 0]) b0 0 (.int .i64 n) rfl
          have b2 := blk_put (cs := #[.int .i64 n, .int .i64 0, .slice none 0 0]) b1 1 (.int .i64 m) rfl
          have q1 := Kd.R_mono (Kd.R_far (p := ⟨(w.heap.size + 1 + 1), 0, none⟩) (Kd.R_types q0 b0 (by decide)) (fun _ hk => hk.2) (.int .i64 n)) (ok' := fun _ => True) (fun _ hk => trivial)
          have q2 := Kd.R_mono (Kd.R_far (p := ⟨(w.heap.size + 1 + 1), 1, none⟩) (Kd.R_types q1 b1 (by decide)) (fun _ hk => hk.2) (.int .i64 m)) (ok' := fun _ => True) (fun _ hk => trivial)
          exact Kd.R_mono (Kd.R_far (p := ⟨(w.heap.size + 1 + 1), 2, none⟩) (Kd.R_types q2 b2 (by decide)) (fun _ hk => hk.2) _) (fun _ hk => trivial)
        · exact below_set (below_set (below_set hB.out (by omega)) (by omega)) (by omega)
end


end Go.Proofs.Ythpmfhfnkgbkjaa.All
