-- Written by a program of this session, which runs the kit's print.py and puts in functions that this session typed. Not trusted: Lean checks it.
import Derived.Test.YthpmfhfnkgbkjaaHand
import Derived.Test.YthpmfhfnkgbkjaaAllx0
import Derived.Test.YthpmfhfnkgbkjaaAllx5
import Derived.Test.YthpmfhfnkgbkjaaAllx7
import Derived.Test.YthpmfhfnkgbkjaaAllx8
import Derived.Test.YthpmfhfnkgbkjaaAllx9
namespace Go.Proofs.Ythpmfhfnkgbkjaa.All
open Go.Proofs.YthpmfhfnkgbkjaaSq
open Go.RowKit Go.Proofs.YthpmfhfnkgbkjaaW.PrintWords Go.Proofs.YthpmfhfnkgbkjaaW.PrintLast Go.Proofs.YthpmfhfnkgbkjaaW.PrintMore
attribute [local go_sem] max2_int min2_int max_two min_two max_three min_three max_four min_four   -- for this text's walks alone
set_option linter.unusedVariables false
set_option linter.unusedSimpArgs false

/-! ### scale_Box: function 16 -/
section
open Go.Proofs.YthpmfhfnkgbkjaaHand Go.Proofs.YthpmfhfnkgbkjaaSq
/-- The sums of the four components, and of the weights. -/
structure scale_Box.Acc where
  s0 : Int
  s1 : Int
  s2 : Int
  s3 : Int
  t : Int
def scale_Box.wt (i x m n : Int) : Int := mx (wrap64 ((mn (wrap64 ((wrap64 (i + 1)) * n)) (wrap64 ((wrap64 (x + 1)) * m))) - (mx (wrap64 (i * n)) (wrap64 (x * m))))) 0
def scale_Box.step (k : Int) (p : S43) (a : scale_Box.Acc) : scale_Box.Acc := ⟨wrap64 (a.s0 + wrap64 (k * wrap64 p.f0)), wrap64 (a.s1 + wrap64 (k * wrap64 p.f1)), wrap64 (a.s2 + wrap64 (k * wrap64 p.f2)), wrap64 (a.s3 + wrap64 (k * wrap64 p.f3)), wrap64 (a.t + k)⟩
/-- Whether the pixel i of m covers a part of pixel x of n, from its left on. -/
def scale_Box.on (i x m n : Int) : Prop := i < m ∧ wrap64 (i * n) < wrap64 (wrap64 (x + 1) * m)
instance (i x m n : Int) : Decidable (scale_Box.on i x m n) := inferInstanceAs (Decidable (_ ∧ _))
def scale_Box.row (W n x kj j : Int) (l : List S43) : Nat → Int → scale_Box.Acc → scale_Box.Acc
  | 0, _, a => a
  | f + 1, i, a => if scale_Box.on i x W n then scale_Box.row W n x kj j l f (i + 1) (scale_Box.step (wrap64 (scale_Box.wt i x W n * kj)) (rd_T43 l (j * W + i)) a) else a
def scale_Box.first (x m n : Int) : Int := x * m / n
def scale_Box.all (W H n m x y : Int) (l : List S43) : Nat → Int → scale_Box.Acc → scale_Box.Acc
  | 0, _, a => a
  | f + 1, j, a => if scale_Box.on j y H m then scale_Box.all W H n m x y l f (j + 1) (scale_Box.row W n x (scale_Box.wt j y H m) j l (W - scale_Box.first x W n).toNat (scale_Box.first x W n) a) else a
def scale_Box.acc (W H n m x y : Int) (l : List S43) : scale_Box.Acc := scale_Box.all W H n m x y l (H - scale_Box.first y H m).toNat (scale_Box.first y H m) ⟨0, 0, 0, 0, 0⟩
def scale_Box.av (s t : Int) : Int := wrap64 (Int.tdiv (wrap64 (wrap64 (2 * s) + t)) (wrap64 (2 * t)))
def scale_Box.px (W H : Int) (l : List S43) (n m x y : Int) : S43 := ⟨scale_Box.av (scale_Box.acc W H n m x y l).s0 (scale_Box.acc W H n m x y l).t % 256, scale_Box.av (scale_Box.acc W H n m x y l).s1 (scale_Box.acc W H n m x y l).t % 256, scale_Box.av (scale_Box.acc W H n m x y l).s2 (scale_Box.acc W H n m x y l).t % 256, scale_Box.av (scale_Box.acc W H n m x y l).s3 (scale_Box.acc W H n m x y l).t % 256⟩
theorem scale_Box.quo {x n W : Int} (hx : 0 ≤ x) (hxn : x < n) (hn : n ≤ 256) (hW : 1 ≤ W ∧ W ≤ 256) :
    Int.tdiv (wrap64 (x * W)) n = scale_Box.first x W n ∧ 0 ≤ scale_Box.first x W n ∧ scale_Box.first x W n < W := by
  have p1 : 0 ≤ x * W := Int.mul_nonneg (by omega) (by omega)
  have p2 : x * W ≤ 256 * 256 := Int.mul_le_mul (by omega) hW.2 (by omega) (by omega)
  have e4 : wrap64 (x * W) = x * W := by unfold wrap64; omega
  have p3 : x * W < W * n := by rw [Int.mul_comm]; exact Int.mul_lt_mul_of_pos_left (by omega) (by omega)
  unfold scale_Box.first
  rw [e4, Int.tdiv_eq_ediv_of_nonneg p1]
  exact ⟨rfl, Int.ediv_nonneg p1 (by omega), Int.ediv_lt_of_lt_mul (by omega) p3⟩
theorem scale_Box.place {j H i W : Int} {N : Nat} (h1 : 0 ≤ j) (h2 : j < H) (h3 : 0 ≤ i) (h4 : i < W) (hW : 1 ≤ W ∧ W ≤ 256) (hH : 1 ≤ H ∧ H ≤ 256) (hl : (N : Int) = W * H) : ∃ q : Nat, (q : Int) = j * W + i ∧ q < N := by
  have p1 : 0 ≤ j * W := Int.mul_nonneg h1 (by omega)
  have p2 : (j + 1) * W ≤ H * W := Int.mul_le_mul_of_nonneg_right (by omega) (by omega)
  have p4 : (j + 1) * W = j * W + W := by rw [Int.add_mul, Int.one_mul]
  have p5 : W * H = H * W := Int.mul_comm _ _
  exact ⟨(j * W + i).toNat, by omega, by omega⟩
theorem scale_Box.place_w {j H i W : Int} (h1 : 0 ≤ j) (h2 : j < H) (h3 : 0 ≤ i) (h4 : i < W) (hW : 1 ≤ W ∧ W ≤ 256) (hH : 1 ≤ H ∧ H ≤ 256) : wrap64 (wrap64 (j * W) + i) = j * W + i := by
  have p1 : 0 ≤ j * W := Int.mul_nonneg h1 (by omega)
  have p2 : j * W ≤ 256 * 256 := Int.mul_le_mul (by omega) hW.2 (by omega) (by omega)
  have e1 : wrap64 (j * W) = j * W := by unfold wrap64; omega
  rw [e1]; unfold wrap64; omega
theorem scale_Box.small {x M : Int} (h : 0 ≤ x) (h2 : x < M) (h3 : M ≤ 256) : wrap64 x = x := by unfold wrap64; omega
theorem scale_Box.all_on {W H n m x y j : Int} {l : List S43} {a R : scale_Box.Acc} (h : scale_Box.on j y H m) (hA : scale_Box.all W H n m x y l (H - j).toNat j a = R) :
    scale_Box.all W H n m x y l (H - (j + 1)).toNat (j + 1) (scale_Box.row W n x (scale_Box.wt j y H m) j l (W - scale_Box.first x W n).toNat (scale_Box.first x W n) a) = R := by
  have e : (H - j).toNat = (H - (j + 1)).toNat + 1 := by have := h.1; omega
  rw [e, scale_Box.all, if_pos h] at hA
  exact hA
theorem scale_Box.all_off {W H n m x y j : Int} {l : List S43} {a R : scale_Box.Acc} (h : ¬ scale_Box.on j y H m) (hA : scale_Box.all W H n m x y l (H - j).toNat j a = R) : a = R := by
  generalize (H - j).toNat = f at hA
  cases f with
  | zero => exact hA
  | succ f => rw [scale_Box.all, if_neg h] at hA; exact hA
theorem scale_Box.row_on {W n x kj i j : Int} {l : List S43} {a R : scale_Box.Acc} (h : scale_Box.on i x W n) (hA : scale_Box.row W n x kj j l (W - i).toNat i a = R) :
    scale_Box.row W n x kj j l (W - (i + 1)).toNat (i + 1) (scale_Box.step (wrap64 (scale_Box.wt i x W n * kj)) (rd_T43 l (j * W + i)) a) = R := by
  have e : (W - i).toNat = (W - (i + 1)).toNat + 1 := by have := h.1; omega
  rw [e, scale_Box.row, if_pos h] at hA
  exact hA
theorem scale_Box.row_off {W n x kj i j : Int} {l : List S43} {a R : scale_Box.Acc} (h : ¬ scale_Box.on i x W n) (hA : scale_Box.row W n x kj j l (W - i).toNat i a = R) : a = R := by
  generalize (W - i).toNat = f at hA
  cases f with
  | zero => exact hA
  | succ f => rw [scale_Box.row, if_neg h] at hA; exact hA
set_option maxHeartbeats 8000000 in
set_option maxRecDepth 100000 in
theorem scale_Box.lit_calls (W H : Int) (A : Option Addr) (c : Nat) (l : List S43) (n m : Int) (x y : Nat) (gb gw gh : Nat) (w : World) (hC0 : Kd.C k43 w A l.length l) (hc : l.length ≤ c)
    (hb0 : w.heap[gb]? = some (.cells #[.int .i64 W, .int .i64 H, .slice A l.length c] 24 (0, 0))) (hw0 : w.heap[gw]? = some (.cells #[.int .i64 n] 3 (0, 0))) (hh0 : w.heap[gh]? = some (.cells #[.int .i64 m] 3 (0, 0)))
    (hW : 1 ≤ W ∧ W ≤ 256) (hH : 1 ≤ H ∧ H ≤ 256) (hn : 1 ≤ n ∧ n ≤ 256) (hm : 1 ≤ m ∧ m ≤ 256) (hx : (x : Int) < n) (hy : (y : Int) < m) (hlen : (l.length : Int) = W * H)
    (hz : ¬ wrap64 (2 * (scale_Box.acc W H n m x y l).t) = 0) :
    Calls Try.prog 38 #[.int .i64 x, .int .i64 y, .pointer (some ⟨gb, 0, none⟩), .pointer (some ⟨gh, 0, none⟩), .pointer (some ⟨gw, 0, none⟩)] w fun e w' => e = .returned (.agg #[.int .u8 (scale_Box.px W H l n m x y).f0, .int .u8 (scale_Box.px W H l n m x y).f1, .int .u8 (scale_Box.px W H l n m x y).f2, .int .u8 (scale_Box.px W H l n m x y).f3]) ∧ Below w.heap.size w w' := by
  have hqx := Aside0.mk (scale_Box.quo (x := x) (by omega) hx hn.2 hW)
  have hqy := Aside0.mk (scale_Box.quo (x := y) (by omega) hy hm.2 hH)
  have zn : (n == 0) = false := by simp; omega
  have zm : (m == 0) = false := by simp; omega
  have zn1 : ¬ n = 0 := by omega
  have zm1 : ¬ m = 0 := by omega
  have hZ := Aside0.mk hz
  have hWH := Aside0.mk (And.intro hW (And.intro hH (And.intro hn (And.intro hm (And.intro hx (And.intro hy hlen))))))
  have hCC := Aside0.mk hc
  clear hz hW hH hn hm hx hy hlen hc
  have Hb0 := Aside0.mk hb0
  have Hw0 := Aside0.mk hw0
  have Hh0 := Aside0.mk hh0
  have HC0 := Aside0.mk hC0
  go_enter Try.func38, Try.ntmps38
  go_upto_region 3 with fail
  obtain ⟨hR0, hS0, hB0⟩ := allocs2 w (Obj.cells #[.int .u8 0, .int .u8 0, .int .u8 0, .int .u8 0] 43) (Obj.cells #[.int .i64 0, .int .i64 0, .int .i64 0, .int .i64 0] 55)
  have hb := Aside0.mk (blk_below hb0 hB0)
  have hw := Aside0.mk (blk_below hw0 hB0)
  have hh := Aside0.mk (blk_below hh0 hB0)
  have hC := Aside0.mk (Kd.C_below hC0 hB0)
  have hR := Aside0.mk hR0
  have hS := Aside0.mk hS0
  have hB := Aside0.mk hB0
  clear hR0 hS0 hB0 hb0 hw0 hh0 hC0
  generalize (w.alloc (Obj.cells #[.int .u8 0, .int .u8 0, .int .u8 0, .int .u8 0] 43)).alloc (Obj.cells #[.int .i64 0, .int .i64 0, .int .i64 0, .int .i64 0] 55) = V at hb hw hh hC hR hS hB ⊢
  have b1 : V.cell? ⟨gb, 1, none⟩ = some (.int .i64 H) := (blk_cell hb.out 1).trans rfl
  have h1 : V.cell? ⟨gh, 0, none⟩ = some (.int .i64 m) := (blk_cell hh.out 0).trans rfl
  go_wp2_with fail
  rw [hqy.out.1, (scale_Box.small hqy.out.2.1 hqy.out.2.2 hWH.out.2.1.2)]
  go_loopw [9, 10] (fun v9 v10 w' => ∃ (j : Int) (a : scale_Box.Acc), v9 = .int .i64 a.t ∧ v10 = .int .i64 j ∧ Aside0 (0 ≤ j ∧ j ≤ H) ∧ Aside0 (scale_Box.all W H n m x y l (H - j).toNat j a = scale_Box.acc W H n m x y l) ∧ Aside0 (w'.heap[gb]? = some (.cells #[.int .i64 W, .int .i64 H, .slice A l.length c] 24 (0, 0))) ∧ Aside0 (w'.heap[gw]? = some (.cells #[.int .i64 n] 3 (0, 0))) ∧ Aside0 (w'.heap[gh]? = some (.cells #[.int .i64 m] 3 (0, 0))) ∧ Aside0 (Kd.C k43 w' A l.length l) ∧ Aside0 (w'.heap[w.heap.size]? = some (.cells #[.int .u8 0, .int .u8 0, .int .u8 0, .int .u8 0] 43 (0, 0))) ∧ Aside0 (w'.heap[w.heap.size + 1]? = some (.cells #[.int .i64 a.s0, .int .i64 a.s1, .int .i64 a.s2, .int .i64 a.s3] 55 (0, 0))) ∧ Aside0 (Below w.heap.size w w')) (fun _ v10 _ => (H - intOf v10).toNat)
  case atStart => exact ⟨_, ⟨0, 0, 0, 0, 0⟩, rfl, rfl, ⟨hqy.out.2.1, by have := hqy.out.2.2; omega⟩, ⟨rfl⟩, hb, hw, hh, hC, hR, hS, hB⟩
  case round =>
    clear hb hw hh hC hR hS hB b1 h1
    obtain ⟨j, a, rfl, rfl, hj, hA, hb, hw, hh, hC, hR, hS, hB⟩ := hrel
    have b1 : wr.cell? ⟨gb, 1, none⟩ = some (.int .i64 H) := (blk_cell hb.out 1).trans rfl
    have h1 : wr.cell? ⟨gh, 0, none⟩ = some (.int .i64 m) := (blk_cell hh.out 0).trans rfl
    by_cases con : scale_Box.on j y H m
    · have hA1 := Aside0.mk (scale_Box.all_on con hA.out)
      clear hA
      obtain ⟨c1, c2⟩ := con
      have b0 : wr.cell? ⟨gb, 0, none⟩ = some (.int .i64 W) := (blk_cell hb.out 0).trans rfl
      have w1 : wr.cell? ⟨gw, 0, none⟩ = some (.int .i64 n) := (blk_cell hw.out 0).trans rfl
      go_wp2_with fail
      rw [hqx.out.1, (scale_Box.small hqx.out.2.1 hqx.out.2.2 hWH.out.1.2)]
      have C1 := Aside0.mk c1
      clear c1 c2
      generalize hRR : scale_Box.row W n x (scale_Box.wt j y H m) j l (W - scale_Box.first x W n).toNat (scale_Box.first x W n) a = RR at hA1
      have HR := Aside0.mk hRR
      clear hRR
      go_loopw [9, 11] (fun v9 v11 w' => ∃ (i : Int) (a : scale_Box.Acc), v9 = .int .i64 a.t ∧ v11 = .int .i64 i ∧ Aside0 (0 ≤ i ∧ i ≤ W) ∧ Aside0 (scale_Box.row W n x (scale_Box.wt j y H m) j l (W - i).toNat i a = RR) ∧ Aside0 (w'.heap[gb]? = some (.cells #[.int .i64 W, .int .i64 H, .slice A l.length c] 24 (0, 0))) ∧ Aside0 (w'.heap[gw]? = some (.cells #[.int .i64 n] 3 (0, 0))) ∧ Aside0 (w'.heap[gh]? = some (.cells #[.int .i64 m] 3 (0, 0))) ∧ Aside0 (Kd.C k43 w' A l.length l) ∧ Aside0 (w'.heap[w.heap.size]? = some (.cells #[.int .u8 0, .int .u8 0, .int .u8 0, .int .u8 0] 43 (0, 0))) ∧ Aside0 (w'.heap[w.heap.size + 1]? = some (.cells #[.int .i64 a.s0, .int .i64 a.s1, .int .i64 a.s2, .int .i64 a.s3] 55 (0, 0))) ∧ Aside0 (Below w.heap.size w w')) (fun _ v11 _ => (W - intOf v11).toNat)
      case atStart => exact ⟨_, a, rfl, rfl, ⟨hqx.out.2.1, by have := hqx.out.2.2; omega⟩, HR, hb, hw, hh, hC, hR, hS, hB⟩
      case round =>
        clear hb hw hh hC hR hS hB b1 h1 b0 w1 HR
        obtain ⟨i, a, rfl, rfl, hi, hI, hb, hw, hh, hC, hR, hS, hB⟩ := hrel
        have b0 : wr.cell? ⟨gb, 0, none⟩ = some (.int .i64 W) := (blk_cell hb.out 0).trans rfl
        have b1 : wr.cell? ⟨gb, 1, none⟩ = some (.int .i64 H) := (blk_cell hb.out 1).trans rfl
        have w1 : wr.cell? ⟨gw, 0, none⟩ = some (.int .i64 n) := (blk_cell hw.out 0).trans rfl
        have h1 : wr.cell? ⟨gh, 0, none⟩ = some (.int .i64 m) := (blk_cell hh.out 0).trans rfl
        by_cases con : scale_Box.on i x W n
        · have hI1 := Aside0.mk (scale_Box.row_on con hI.out)
          clear hI
          obtain ⟨c1, c2⟩ := con
          go_wp2_with fail
          have D1 := Aside0.mk c1
          clear c1 c2
          refine start_ (n := 14) (S := fun w' => w'.cell? ⟨gb, 0, none⟩ = some (.int .i64 W) ∧ w'.cell? ⟨gb, 1, none⟩ = some (.int .i64 H) ∧ w'.cell? ⟨gw, 0, none⟩ = some (.int .i64 n) ∧ w'.cell? ⟨gh, 0, none⟩ = some (.int .i64 m)) (ds := []) #[false, false, false, false, false, false, false, false, false, false, false, false, false, false] (by kernel_rfl) rfl rfl ⟨(blk_cell hb.out 0).trans rfl, (blk_cell hb.out 1).trans rfl, (blk_cell hw.out 0).trans rfl, (blk_cell hh.out 0).trans rfl⟩ (fun hHeld => ?_)
          have HT_ : Aside0 (rtab .any (opsOf Try.f38 9) = rtab .any (opsOf Try.f38 9)) := ⟨rfl⟩
          replace hb := Aside0.mk (blk_drew hb.out)
          replace hw := Aside0.mk (blk_drew hw.out)
          replace hh := Aside0.mk (blk_drew hh.out)
          replace hR := Aside0.mk (blk_drew hR.out)
          replace hS := Aside0.mk (blk_drew hS.out)
          replace hC := Aside0.mk (Kd.C_drew hC.out)
          replace hB := Aside0.mk (below_drew1 hB.out)
          clear b0 b1 w1 h1
          generalize wr.drew = V2 at hb hw hh hR hS hC hB hHeld ⊢
          refine pv_ 0 63 #[true, false, false, false, false, false, false, false, false, false, false, false, false, false] HT_ ?_
          refine pv_ 1 64 #[true, true, false, false, false, false, false, false, false, false, false, false, false, false] HT_ ?_
          refine pv_ 2 65 #[true, true, true, false, false, false, false, false, false, false, false, false, false, false] HT_ ?_
          refine pv_ 6 69 #[true, true, true, false, false, false, true, false, false, false, false, false, false, false] HT_ ?_
          refine pv_ 7 70 #[true, true, true, false, false, false, true, true, false, false, false, false, false, false] HT_ ?_
          refine pv_ 8 71 #[true, true, true, false, false, false, true, true, true, false, false, false, false, false] HT_ ?_
          refine take_ (i := 3) (N := some 66) (v := ?_) (a' := ?_) #[true, true, true, true, false, false, true, true, true, false, false, false, false, false] rfl rfl (take_of HT_.out (by kernel_rfl)) (fun _ _ _ h => h) (Or.inl ⟨by rfl, ?_⟩) hHeld ?_ ?_
          rotate_left
          · rintro w' ⟨s0, s1, s2, s3⟩
            go_simp
            with_reducible rfl
          rotate_left
          · simp only [Act.put, List.setIfInBounds_toArray, List.set_cons_zero, List.set_cons_succ, i64_w, i32_w]
            rfl
          refine take_ (i := 4) (N := some 67) (v := ?_) (a' := ?_) #[true, true, true, true, true, false, true, true, true, false, false, false, false, false] rfl rfl (take_of HT_.out (by kernel_rfl)) (fun _ _ _ h => h) (Or.inl ⟨by rfl, ?_⟩) hHeld ?_ ?_
          rotate_left
          · rintro w' ⟨s0, s1, s2, s3⟩
            go_simp
            with_reducible rfl
          rotate_left
          · simp only [Act.put, List.setIfInBounds_toArray, List.set_cons_zero, List.set_cons_succ, i64_w, i32_w]
            rfl
          refine take_ (i := 9) (N := some 72) (v := ?_) (a' := ?_) #[true, true, true, true, true, false, true, true, true, true, false, false, false, false] rfl rfl (take_of HT_.out (by kernel_rfl)) (fun _ _ _ h => h) (Or.inl ⟨by rfl, ?_⟩) hHeld ?_ ?_
          rotate_left
          · rintro w' ⟨s0, s1, s2, s3⟩
            go_simp
            with_reducible rfl
          rotate_left
          · simp only [Act.put, List.setIfInBounds_toArray, List.set_cons_zero, List.set_cons_succ, i64_w, i32_w]
            rfl
          refine take_ (i := 10) (N := some 73) (v := ?_) (a' := ?_) #[true, true, true, true, true, false, true, true, true, true, true, false, false, false] rfl rfl (take_of HT_.out (by kernel_rfl)) (fun _ _ _ h => h) (Or.inl ⟨by rfl, ?_⟩) hHeld ?_ ?_
          rotate_left
          · rintro w' ⟨s0, s1, s2, s3⟩
            go_simp
            with_reducible rfl
          rotate_left
          · simp only [Act.put, List.setIfInBounds_toArray, List.set_cons_zero, List.set_cons_succ, i64_w, i32_w]
            rfl
          refine one_ (i := 5) (N := some 68) #[true, true, true, true, true, true, true, true, true, true, true, false, false, false] rfl rfl (one_of HT_.out (by kernel_rfl)) (by decide) (fun K hK => ?_)
          refine gs_ Try.func39 #[.int .i64 i, .int .i64 x, .int .i64 W, .int .i64 n] ?_
          refine (scale_weight.calls i x W n (scale_Box.wt i x W n) V2 rfl).mono ?_
          rintro e w3 ⟨rfl, hb3⟩
          refine ⟨_, rfl, ?_⟩
          replace hb := Aside0.mk (blk_below hb.out hb3)
          replace hw := Aside0.mk (blk_below hw.out hb3)
          replace hh := Aside0.mk (blk_below hh.out hb3)
          replace hR := Aside0.mk (blk_below hR.out hb3)
          replace hS := Aside0.mk (blk_below hS.out hb3)
          replace hC := Aside0.mk (Kd.C_below hC.out hb3)
          replace hB := Aside0.mk (below_step hB.out hb3)
          clear hb3 hHeld
          refine hK.out _ _ ⟨(blk_cell hb.out 0).trans rfl, (blk_cell hb.out 1).trans rfl, (blk_cell hw.out 0).trans rfl, (blk_cell hh.out 0).trans rfl⟩ (fun hHeld => ?_)
          clear hK K
          refine norm_ (a' := ?_) ?_ ?_
          rotate_left
          · show Act.put _ (some 68) _ = _
            simp only [Act.put, List.setIfInBounds_toArray, List.set_cons_zero, List.set_cons_succ, i64_w, i32_w]
            rfl
          refine one_ (i := 11) (N := some 74) #[true, true, true, true, true, true, true, true, true, true, true, true, false, false] rfl rfl (one_of HT_.out (by kernel_rfl)) (by decide) (fun K hK => ?_)
          refine gs_ Try.func39 #[.int .i64 j, .int .i64 y, .int .i64 H, .int .i64 m] ?_
          refine (scale_weight.calls j y H m (scale_Box.wt j y H m) w3 rfl).mono ?_
          rintro e w4 ⟨rfl, hb3⟩
          refine ⟨_, rfl, ?_⟩
          replace hb := Aside0.mk (blk_below hb.out hb3)
          replace hw := Aside0.mk (blk_below hw.out hb3)
          replace hh := Aside0.mk (blk_below hh.out hb3)
          replace hR := Aside0.mk (blk_below hR.out hb3)
          replace hS := Aside0.mk (blk_below hS.out hb3)
          replace hC := Aside0.mk (Kd.C_below hC.out hb3)
          replace hB := Aside0.mk (below_step hB.out hb3)
          clear hb3 hHeld
          refine hK.out _ _ ⟨(blk_cell hb.out 0).trans rfl, (blk_cell hb.out 1).trans rfl, (blk_cell hw.out 0).trans rfl, (blk_cell hh.out 0).trans rfl⟩ (fun hHeld => ?_)
          clear hK K
          refine norm_ (a' := ?_) ?_ ?_
          rotate_left
          · show Act.put _ (some 74) _ = _
            simp only [Act.put, List.setIfInBounds_toArray, List.set_cons_zero, List.set_cons_succ, i64_w, i32_w]
            rfl
          refine pv_ 12 75 #[true, true, true, true, true, true, true, true, true, true, true, true, true, false] HT_ ?_
          refine pv_ 13 12 #[true, true, true, true, true, true, true, true, true, true, true, true, true, true] HT_ ?_
          clear hHeld
          refine done_ (done_of HT_.out (by kernel_rfl)) ?_

          have b0 : w4.cell? ⟨gb, 0, none⟩ = some (.int .i64 W) := (blk_cell hb.out 0).trans rfl
          have b2 : w4.cell? ⟨gb, 2, none⟩ = some (.slice A l.length c) := (blk_cell hb.out 2).trans rfl
          obtain ⟨q, hq, hql⟩ := scale_Box.place hj.out.1 C1.out hi.out.1 D1.out hWH.out.1 hWH.out.2.1 hWH.out.2.2.2.2.2.2
          obtain ⟨ad, e0, p0, p1, p2, p3⟩ := at_T43 hC.out (q : Int) (by omega) (by omega)
          have eI : wrap64 (wrap64 (j * W) + i) = (q : Int) := by rw [hq]; exact scale_Box.place_w hj.out.1 C1.out hi.out.1 D1.out hWH.out.1 hWH.out.2.1
          subst e0
          simp only [Int.toNat_natCast] at p0 p1 p2 p3
          have hqq := Aside0.mk hq
          clear hq
          generalize hp : rd_T43 l (q : Int) = p at p0 p1 p2 p3 ⊢
          have Hp := Aside0.mk hp
          clear hp
          go_upto_region 11 with fail
          obtain ⟨hP0, hb1⟩ := allocs1 w4 (Obj.cells #[Value.int IntKind.u8 p.f0, Value.int IntKind.u8 p.f1, Value.int IntKind.u8 p.f2, Value.int IntKind.u8 p.f3] 43)
          replace hb := Aside0.mk (blk_below hb.out hb1)
          replace hw := Aside0.mk (blk_below hw.out hb1)
          replace hh := Aside0.mk (blk_below hh.out hb1)
          replace hR := Aside0.mk (blk_below hR.out hb1)
          replace hS := Aside0.mk (blk_below hS.out hb1)
          replace hC := Aside0.mk (Kd.C_below hC.out hb1)
          replace hB := Aside0.mk (below_step hB.out hb1)
          clear p0 p1 p2 p3 b0 b2 eI hb1
          generalize w4.alloc (Obj.cells #[Value.int IntKind.u8 p.f0, Value.int IntKind.u8 p.f1, Value.int IntKind.u8 p.f2, Value.int IntKind.u8 p.f3] 43) = W1 at hb hw hh hR hS hC hB hP0 ⊢
          have hP := Aside0.mk hP0
          clear hP0
          have q0 := (blk_cell hP.out 0).trans rfl
          have q1 := (blk_cell hP.out 1).trans rfl
          have q2 := (blk_cell hP.out 2).trans rfl
          have q3 := (blk_cell hP.out 3).trans rfl
          go_wp2_with fail
          clear q0 q1 q2 q3 hP
          have i0 : ∀ W, (Instr.index 57 (.agg #[Value.int IntKind.u8 p.f0, Value.int IntKind.u8 p.f1, Value.int IntKind.u8 p.f2, Value.int IntKind.u8 p.f3]) (.int .i64 0)).run Try.prog W = .ok (Value.int IntKind.u8 p.f0) W := fun _ => by kernel_rfl
          have i1 : ∀ W, (Instr.index 57 (.agg #[Value.int IntKind.u8 p.f0, Value.int IntKind.u8 p.f1, Value.int IntKind.u8 p.f2, Value.int IntKind.u8 p.f3]) (.int .i64 1)).run Try.prog W = .ok (Value.int IntKind.u8 p.f1) W := fun _ => by kernel_rfl
          have i2 : ∀ W, (Instr.index 57 (.agg #[Value.int IntKind.u8 p.f0, Value.int IntKind.u8 p.f1, Value.int IntKind.u8 p.f2, Value.int IntKind.u8 p.f3]) (.int .i64 2)).run Try.prog W = .ok (Value.int IntKind.u8 p.f2) W := fun _ => by kernel_rfl
          have i3 : ∀ W, (Instr.index 57 (.agg #[Value.int IntKind.u8 p.f0, Value.int IntKind.u8 p.f1, Value.int IntKind.u8 p.f2, Value.int IntKind.u8 p.f3]) (.int .i64 3)).run Try.prog W = .ok (Value.int IntKind.u8 p.f3) W := fun _ => by kernel_rfl
          have y0 := (blk_cell hS.out 0).trans rfl
          have y1 := (blk_cell hS.out 1).trans rfl
          have y2 := (blk_cell hS.out 2).trans rfl
          have y3 := (blk_cell hS.out 3).trans rfl
          have z0 := blk_frozen hS.out 0
          have z1 := blk_frozen hS.out 1
          have z2 := blk_frozen hS.out 2
          have z3 := blk_frozen hS.out 3
          have ei : wrap64 (i + 1) = i + 1 := by have q1 := hi.out; have q2 := D1.out; have q3 := hWH.out.1; unfold wrap64; omega
          refine wp_loop_rounds 5 ?_
          rw [rounds_succ]
          go_wp2
          rw [rounds_succ]
          go_wp2
          rw [rounds_succ]
          go_wp2
          rw [rounds_succ]
          go_wp2
          rw [rounds_succ]
          go_wp2
          go_roundw
          case rel =>
            have hBn := Aside0.mk (below_set (below_set (below_set (below_set hB.out (g := w.heap.size + 1) (j := 0) (v := .int .i64 (wrap64 (a.s0 + wrap64 (wrap64 (scale_Box.wt i x W n * scale_Box.wt j y H m) * wrap64 p.f0)))) (by simp)) (g := w.heap.size + 1) (j := 1) (v := .int .i64 (wrap64 (a.s1 + wrap64 (wrap64 (scale_Box.wt i x W n * scale_Box.wt j y H m) * wrap64 p.f1)))) (by simp)) (g := w.heap.size + 1) (j := 2) (v := .int .i64 (wrap64 (a.s2 + wrap64 (wrap64 (scale_Box.wt i x W n * scale_Box.wt j y H m) * wrap64 p.f2)))) (by simp)) (g := w.heap.size + 1) (j := 3) (v := .int .i64 (wrap64 (a.s3 + wrap64 (wrap64 (scale_Box.wt i x W n * scale_Box.wt j y H m) * wrap64 p.f3)))) (by simp))
            refine ⟨i + 1, scale_Box.step (wrap64 (scale_Box.wt i x W n * scale_Box.wt j y H m)) p a, rfl, by first | rfl | rw [ei], ⟨by have := hi.out; omega, by have := D1.out; omega⟩, ⟨?_⟩, ⟨?_⟩, ⟨?_⟩, ⟨?_⟩, ⟨?_⟩, ⟨?_⟩, ⟨?_⟩, ⟨?_⟩⟩
            · have hI2 := hI1.out
              rw [← hqq.out, Hp.out] at hI2
              exact hI2
            · exact blk_below Hb0.out hBn.out
            · exact blk_below Hw0.out hBn.out
            · exact blk_below Hh0.out hBn.out
            · exact Kd.C_below HC0.out hBn.out
            · exact blk_far (blk_far (blk_far (blk_far hR.out (by simp) _) (by simp) _) (by simp) _) (by simp) _
            · exact blk_put (blk_put (blk_put (blk_put hS.out 0 _ rfl) 1 _ rfl) 2 _ rfl) 3 _ rfl
            · exact hBn.out
          case measure => simp [intOf, ei]; have := D1.out; omega
        · have hI1 := scale_Box.row_off con hI.out
          subst hI1
          by_cases c1 : i < W
          · have ej : wrap64 (j + 1) = j + 1 := by have q1 := hj.out; have q2 := C1.out; have q3 := hWH.out.2.1; unfold wrap64; omega
            have c2 : ¬ wrap64 (i * n) < wrap64 (wrap64 ((x : Int) + 1) * W) := fun h => con ⟨c1, h⟩
            go_wp2
            go_roundw
            case rel => exact ⟨j + 1, a, rfl, by first | rfl | rw [ej], ⟨by have := hj.out; omega, by have := C1.out; omega⟩, hA1, hb, hw, hh, hC, hR, hS, hB⟩
            case measure => have := C1.out; simp [intOf, ej]; omega
          · have ej : wrap64 (j + 1) = j + 1 := by have q1 := hj.out; have q2 := C1.out; have q3 := hWH.out.2.1; unfold wrap64; omega
            go_wp2
            go_roundw
            case rel => exact ⟨j + 1, a, rfl, by first | rfl | rw [ej], ⟨by have := hj.out; omega, by have := C1.out; omega⟩, hA1, hb, hw, hh, hC, hR, hS, hB⟩
            case measure => have := C1.out; simp [intOf, ej]; omega
    · have hfin := scale_Box.all_off con hA.out
      have hz : ¬ wrap64 (2 * a.t) = 0 := by rw [hfin]; exact hZ.out
      have hz1 : (wrap64 (2 * a.t) == 0) = false := by simpa using hz
      have Hfin := Aside0.mk hfin
      clear hfin hA
      by_cases c1 : j < H
      · have c2 : ¬ wrap64 (j * m) < wrap64 (wrap64 ((y : Int) + 1) * H) := fun h => con ⟨c1, h⟩
        go_wp2_with fail
        clear c1 c2 con
        have y0 := (blk_cell hS.out 0).trans rfl
        have y1 := (blk_cell hS.out 1).trans rfl
        have y2 := (blk_cell hS.out 2).trans rfl
        have y3 := (blk_cell hS.out 3).trans rfl
        have z0 := blk_frozen hS.out 0
        have z1 := blk_frozen hS.out 1
        have z2 := blk_frozen hS.out 2
        have z3 := blk_frozen hS.out 3
        have x0 := (blk_cell hR.out 0).trans rfl
        have x1 := (blk_cell hR.out 1).trans rfl
        have x2 := (blk_cell hR.out 2).trans rfl
        have x3 := (blk_cell hR.out 3).trans rfl
        have f0 := blk_frozen hR.out 0
        have f1 := blk_frozen hR.out 1
        have f2 := blk_frozen hR.out 2
        have f3 := blk_frozen hR.out 3
        refine wp_loop_rounds 5 ?_
        rw [rounds_succ]
        go_wp2
        rw [rounds_succ]
        go_wp2
        rw [rounds_succ]
        go_wp2
        rw [rounds_succ]
        go_wp2
        rw [rounds_succ]
        go_wp2
        rw [show scale_Box.px W H l n m x y = ⟨scale_Box.av a.s0 a.t % 256, scale_Box.av a.s1 a.t % 256, scale_Box.av a.s2 a.t % 256, scale_Box.av a.s3 a.t % 256⟩ from by unfold scale_Box.px; rw [← Hfin.out]]
        refine bodyPost_ret (results_cell_row rfl _ _ w.heap.size 43 #[.int .u8 (scale_Box.av a.s0 a.t % 256), .int .u8 (scale_Box.av a.s1 a.t % 256), .int .u8 (scale_Box.av a.s2 a.t % 256), .int .u8 (scale_Box.av a.s3 a.t % 256)] (0, 0) _ rfl (by
          refine blk_put (cs := #[.int .u8 (scale_Box.av a.s0 a.t % 256), .int .u8 (scale_Box.av a.s1 a.t % 256), .int .u8 (scale_Box.av a.s2 a.t % 256), .int .u8 0]) ?_ 3 _ rfl
          refine blk_put (cs := #[.int .u8 (scale_Box.av a.s0 a.t % 256), .int .u8 (scale_Box.av a.s1 a.t % 256), .int .u8 0, .int .u8 0]) ?_ 2 _ rfl
          refine blk_put (cs := #[.int .u8 (scale_Box.av a.s0 a.t % 256), .int .u8 0, .int .u8 0, .int .u8 0]) ?_ 1 _ rfl
          refine blk_put (cs := #[.int .u8 0, .int .u8 0, .int .u8 0, .int .u8 0]) ?_ 0 _ rfl
          exact blk_far (blk_far (blk_far (blk_far hR.out (by simp) _) (by simp) _) (by simp) _) (by simp) _) Try.underlying43 rfl (by kernel_rfl)) rfl ⟨rfl, ?_⟩
        exact below_set (below_set (below_set (below_set (below_set (below_set (below_set (below_set hB.out (by simp)) (by simp)) (by simp)) (by simp)) (by simp)) (by simp)) (by simp)) (by simp)

      · go_wp2_with fail
        clear c1 con
        have y0 := (blk_cell hS.out 0).trans rfl
        have y1 := (blk_cell hS.out 1).trans rfl
        have y2 := (blk_cell hS.out 2).trans rfl
        have y3 := (blk_cell hS.out 3).trans rfl
        have z0 := blk_frozen hS.out 0
        have z1 := blk_frozen hS.out 1
        have z2 := blk_frozen hS.out 2
        have z3 := blk_frozen hS.out 3
        have x0 := (blk_cell hR.out 0).trans rfl
        have x1 := (blk_cell hR.out 1).trans rfl
        have x2 := (blk_cell hR.out 2).trans rfl
        have x3 := (blk_cell hR.out 3).trans rfl
        have f0 := blk_frozen hR.out 0
        have f1 := blk_frozen hR.out 1
        have f2 := blk_frozen hR.out 2
        have f3 := blk_frozen hR.out 3
        refine wp_loop_rounds 5 ?_
        rw [rounds_succ]
        go_wp2
        rw [rounds_succ]
        go_wp2
        rw [rounds_succ]
        go_wp2
        rw [rounds_succ]
        go_wp2
        rw [rounds_succ]
        go_wp2
        rw [show scale_Box.px W H l n m x y = ⟨scale_Box.av a.s0 a.t % 256, scale_Box.av a.s1 a.t % 256, scale_Box.av a.s2 a.t % 256, scale_Box.av a.s3 a.t % 256⟩ from by unfold scale_Box.px; rw [← Hfin.out]]
        refine bodyPost_ret (results_cell_row rfl _ _ w.heap.size 43 #[.int .u8 (scale_Box.av a.s0 a.t % 256), .int .u8 (scale_Box.av a.s1 a.t % 256), .int .u8 (scale_Box.av a.s2 a.t % 256), .int .u8 (scale_Box.av a.s3 a.t % 256)] (0, 0) _ rfl (by
          refine blk_put (cs := #[.int .u8 (scale_Box.av a.s0 a.t % 256), .int .u8 (scale_Box.av a.s1 a.t % 256), .int .u8 (scale_Box.av a.s2 a.t % 256), .int .u8 0]) ?_ 3 _ rfl
          refine blk_put (cs := #[.int .u8 (scale_Box.av a.s0 a.t % 256), .int .u8 (scale_Box.av a.s1 a.t % 256), .int .u8 0, .int .u8 0]) ?_ 2 _ rfl
          refine blk_put (cs := #[.int .u8 (scale_Box.av a.s0 a.t % 256), .int .u8 0, .int .u8 0, .int .u8 0]) ?_ 1 _ rfl
          refine blk_put (cs := #[.int .u8 0, .int .u8 0, .int .u8 0, .int .u8 0]) ?_ 0 _ rfl
          exact blk_far (blk_far (blk_far (blk_far hR.out (by simp) _) (by simp) _) (by simp) _) (by simp) _) Try.underlying43 rfl (by kernel_rfl)) rfl ⟨rfl, ?_⟩
        exact below_set (below_set (below_set (below_set (below_set (below_set (below_set (below_set hB.out (by simp)) (by simp)) (by simp)) (by simp)) (by simp)) (by simp)) (by simp)) (by simp)

/-- Whether no division is by zero. -/
def scale_Box.ok (W H n m : Int) (l : List S43) : Bool := (List.range n.toNat).all fun x => (List.range m.toNat).all fun y => wrap64 (2 * (scale_Box.acc W H n m x y l).t) != 0
theorem scale_Box.ok_at {W H n m : Int} {l : List S43} (h : scale_Box.ok W H n m l = true) {x y : Nat} (hx : (x : Int) < n) (hy : (y : Int) < m) : ¬ wrap64 (2 * (scale_Box.acc W H n m x y l).t) = 0 := by
  unfold scale_Box.ok at h
  have h1 := List.all_eq_true.mp h x (List.mem_range.mpr (by omega))
  have h2 := List.all_eq_true.mp h1 y (List.mem_range.mpr (by omega))
  simpa using h2
def scale_Box.f (a0_0 a0_1 : Int) (l0_2 : List S43) (a1 a2 : Int) : Option (Int × Int × (List (S43)) × Int) :=
  (scale_check.f a0_0 a0_1 l0_2 a1 a2).bind fun t => if t = 0 then (if scale_Box.ok a0_0 a0_1 a1 a2 l0_2 = true then some (a1, a2, scale_build.bl (scale_Box.px a0_0 a0_1 l0_2 a1 a2) a1.toNat (a2.toNat * a1.toNat), 0) else none) else some (0, 0, [], t)
set_option maxHeartbeats 4000000 in
theorem scale_Box.calls (a0_0 : Int) (a0_1 : Int) (A0_2 : Option Addr) (c0_2 : Nat) (l0_2 : List (S43)) (a1 : Int) (a2 : Int) (r1 : Int) (r2 : Int) (r3 : List (S43)) (r4 : Int) (w : World) (hr0_2 : Kd.C k43 w A0_2 l0_2.length l0_2) (hc0_2 : l0_2.length ≤ c0_2) (h : scale_Box.f a0_0 a0_1 l0_2 a1 a2 = some (r1, r2, r3, r4)) :
    Calls Try.prog 16 #[.agg #[.int .i64 a0_0, .int .i64 a0_1, .slice A0_2 l0_2.length c0_2], .int .i64 a1, .int .i64 a2] w fun e w' => ∃ v2_ : Value, e = .returned (.tuple #[.agg #[.int .i64 r1, .int .i64 r2, v2_], .int .i64 r4]) ∧ Kd.R k43 43 w' w.heap.size (fun _ => True) v2_ r3 ∧ Below w.heap.size w w' := by
  obtain ⟨t, ht0, h⟩ := Option.bind_eq_some_iff.mp h
  have ht := Aside0.mk ht0
  clear ht0
  go_enter Try.func16, Try.ntmps16
  go_wp2_with fail
  obtain ⟨hb0, hw0, hh0, hR0, hB0⟩ := scale_Nearest.allocs4 w (Obj.cells #[.int .i64 a0_0, .int .i64 a0_1, .slice A0_2 l0_2.length c0_2] 24) (Obj.cells #[.int .i64 a1] 3) (Obj.cells #[.int .i64 a2] 3) (Obj.cells #[.int .i64 0, .int .i64 0, .slice none 0 0] 24)
  generalize (((w.alloc (Obj.cells #[.int .i64 a0_0, .int .i64 a0_1, .slice A0_2 l0_2.length c0_2] 24)).alloc (Obj.cells #[.int .i64 a1] 3)).alloc (Obj.cells #[.int .i64 a2] 3)).alloc (Obj.cells #[.int .i64 0, .int .i64 0, .slice none 0 0] 24) = V at hb0 hw0 hh0 hR0 hB0 ⊢
  have hC := Aside0.mk (Kd.C_below hr0_2 hB0)
  have hb := Aside0.mk hb0
  have hw := Aside0.mk hw0
  have hh := Aside0.mk hh0
  have hR := Aside0.mk hR0
  have hB := Aside0.mk hB0
  clear hb0 hw0 hh0 hR0 hB0
  refine (scale_check.calls a0_0 a0_1 A0_2 c0_2 l0_2 a1 a2 t V hC.out hc0_2 ht.out).mono ?_
  rintro e w1 ⟨rfl, hb1⟩
  replace hb := Aside0.mk (blk_below hb.out hb1)
  replace hw := Aside0.mk (blk_below hw.out hb1)
  replace hh := Aside0.mk (blk_below hh.out hb1)
  replace hR := Aside0.mk (blk_below hR.out hb1)
  replace hC := Aside0.mk (Kd.C_below hC.out hb1)
  replace hB := Aside0.mk (below_step hB.out hb1)
  clear hb1
  have x0 := (blk_cell hw.out 0).trans rfl
  have x1 := (blk_cell hh.out 0).trans rfl
  have z0 := (blk_cell hR.out 0).trans rfl
  have z1 := (blk_cell hR.out 1).trans rfl
  have z2 := (blk_cell hR.out 2).trans rfl
  have f0 := blk_frozen hR.out 0
  have f1 := blk_frozen hR.out 1
  have f2 := blk_frozen hR.out 2
  by_cases c : t = 0
  · subst c
    rw [if_pos rfl] at h
    have hk0 : scale_Box.ok a0_0 a0_1 a1 a2 l0_2 = true := by
      by_cases q : scale_Box.ok a0_0 a0_1 a1 a2 l0_2 = true
      · exact q
      · rw [if_neg q] at h; cases h
    rw [if_pos hk0] at h
    have hk := Aside0.mk hk0
    clear hk0
    have hv := scale_Nearest.of_check ht.out
    obtain ⟨hW, hH, hlen, hn, hm⟩ := hv
    obtain ⟨n, rfl⟩ : ∃ n : Nat, a1 = n := ⟨a1.toNat, by omega⟩
    obtain ⟨m, rfl⟩ : ∃ m : Nat, a2 = m := ⟨a2.toNat, by omega⟩
    obtain ⟨rfl, rfl, rfl, rfl⟩ : (n : Int) = r1 ∧ (m : Int) = r2 ∧ scale_build.bl (scale_Box.px a0_0 a0_1 l0_2 n m) n (m * n) = r3 ∧ 0 = r4 := by simpa using h
    clear h
    go_wp2_with fail
    refine (scale_build.calls 38 Try.f38 #[.pointer (some ⟨w.heap.size, 0, none⟩), .pointer (some ⟨w.heap.size + 1 + 1, 0, none⟩), .pointer (some ⟨w.heap.size + 1, 0, none⟩)] Try.func38 (by kernel_rfl) rfl n m (by omega) (by omega) (scale_Box.px a0_0 a0_1 l0_2 n m) w1 ?cl).mono ?_
    case cl =>
      intro x y W1 hx hy hb1
      exact scale_Box.lit_calls a0_0 a0_1 A0_2 c0_2 l0_2 n m x y w.heap.size (w.heap.size + 1) (w.heap.size + 1 + 1) W1 (Kd.C_below hC.out hb1) hc0_2 (blk_below hb.out hb1) (blk_below hw.out hb1) (blk_below hh.out hb1) hW hH hn hm (by omega) (by omega) hlen (scale_Box.ok_at hk.out (by omega) (by omega))
    rintro e w2 ⟨v, rfl, hv, hb2⟩
    replace hR := Aside0.mk (blk_below hR.out hb2)
    have hV := Aside0.mk (Kd.R_lower hv hB.out.size)
    replace hB := Aside0.mk (below_step hB.out hb2)
    clear hv hb2 z0 z1 z2 f0 f1 f2
    have z0 := (blk_cell hR.out 0).trans rfl
    have z1 := (blk_cell hR.out 1).trans rfl
    have z2 := (blk_cell hR.out 2).trans rfl
    have f0 := blk_frozen hR.out 0
    have f1 := blk_frozen hR.out 1
    have f2 := blk_frozen hR.out 2
    obtain ⟨Ao, co, eo⟩ := Kd.R_slice hV.out
    subst eo
    go_wp2
    refine bodyPost_ret (results_ct rfl _ _ (w.heap.size + 1 + 1 + 1) 24 #[.int .i64 n, .int .i64 m, .slice Ao (scale_build.bl (scale_Box.px a0_0 a0_1 l0_2 n m) n (m * n)).length co] (0, 0) _ rfl (by
      refine blk_put (cs := #[.int .i64 n, .int .i64 m, .slice none 0 0]) ?_ 2 _ rfl
      refine blk_put (cs := #[.int .i64 n, .int .i64 0, .slice none 0 0]) ?_ 1 _ rfl
      refine blk_put (cs := #[.int .i64 0, .int .i64 0, .slice none 0 0]) ?_ 0 _ rfl
      exact hR.out) Try.underlying24 rfl (by kernel_rfl)) rfl ⟨_, rfl, ?_, ?_⟩
    · have q0 := hV.out
      have b0 := hR.out
      have b1 := blk_put (cs := #[.int .i64 0, .int .i64 0, .slice none 0 0]) b0 0 (.int .i64 n) rfl
      have b2 := blk_put (cs := #[.int .i64 n, .int .i64 0, .slice none 0 0]) b1 1 (.int .i64 m) rfl
      have q1 := Kd.R_mono (Kd.R_far (p := ⟨(w.heap.size + 1 + 1 + 1), 0, none⟩) (Kd.R_types q0 b0 (by decide)) (fun _ hk => hk.2) (.int .i64 n)) (ok' := fun _ => True) (fun _ hk => trivial)
      have q2 := Kd.R_mono (Kd.R_far (p := ⟨(w.heap.size + 1 + 1 + 1), 1, none⟩) (Kd.R_types q1 b1 (by decide)) (fun _ hk => hk.2) (.int .i64 m)) (ok' := fun _ => True) (fun _ hk => trivial)
      exact Kd.R_mono (Kd.R_far (p := ⟨(w.heap.size + 1 + 1 + 1), 2, none⟩) (Kd.R_types q2 b2 (by decide)) (fun _ hk => hk.2) _) (fun _ hk => trivial)
    · exact below_set (below_set (below_set hB.out (by omega)) (by omega)) (by omega)
  · rw [if_neg c] at h
    obtain ⟨rfl, rfl, rfl, rfl⟩ : 0 = r1 ∧ 0 = r2 ∧ [] = r3 ∧ t = r4 := by simpa using h
    clear h
    have c0 : (t != 0) = true := by simpa using c
    go_wp2
    refine bodyPost_ret (results_ct rfl _ _ (w.heap.size + 1 + 1 + 1) 24 #[.int .i64 0, .int .i64 0, .slice none 0 0] (0, 0) _ rfl (by
      refine blk_put (cs := #[.int .i64 0, .int .i64 0, .slice none 0 0]) ?_ 2 _ rfl
      refine blk_put (cs := #[.int .i64 0, .int .i64 0, .slice none 0 0]) ?_ 1 _ rfl
      refine blk_put (cs := #[.int .i64 0, .int .i64 0, .slice none 0 0]) ?_ 0 _ rfl
      exact hR.out) Try.underlying24 rfl (by kernel_rfl)) rfl ⟨_, rfl, Kd.R_nil _ _ _ _ _, ?_⟩
    exact below_set (below_set (below_set hB.out (by omega)) (by omega)) (by omega)
end


end Go.Proofs.Ythpmfhfnkgbkjaa.All
