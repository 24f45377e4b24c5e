-- Written by a program of this session, which runs the kit's print.py and puts in functions that this session typed. Not trusted: Lean checks it.
import Derived.Test.YtpihfglghcoojaaDoorHand
import Derived.Test.YtpihfglghcoojaaDoorAllx0
import Derived.Test.YtpihfglghcoojaaDoorAllx4
import Derived.Test.YtpihfglghcoojaaDoorAllx5
import Derived.Test.YtpihfglghcoojaaDoorAllx6
import Derived.Test.YtpihfglghcoojaaDoorAllx34
namespace Go.Proofs.YtpihfglghcoojaaDoor.All
open Go.Proofs.YtpihfglghcoojaaDoorSq
open Go.RowKit Go.Proofs.YtpihfglghcoojaaDoorW.PrintWords Go.Proofs.YtpihfglghcoojaaDoorW.PrintLast Go.Proofs.YtpihfglghcoojaaDoorW.PrintMore
attribute [local go_sem] max2_int min2_int max_two min_two max_three min_three max_four min_four   -- for this text's walks alone
set_option linter.unusedVariables false
set_option linter.unusedSimpArgs false

/-! ### compositorref07_Pixels: function 32 -/
abbrev zq32.q0 : Array Bool := #[false, false, false, false, false, false, false, false, false, false, false, false]
abbrev zq32.q1 : Array Bool := #[true, false, false, false, false, false, false, false, false, false, false, false]
abbrev zq32.q2 : Array Bool := #[true, false, true, false, false, false, false, false, false, false, false, false]
abbrev zq32.q3 : Array Bool := #[true, false, true, false, true, false, false, false, false, false, false, false]
abbrev zq32.q4 : Array Bool := #[true, false, true, false, true, false, true, false, false, false, false, false]
abbrev zq32.q5 : Array Bool := #[true, false, true, false, true, false, true, true, false, false, false, false]
abbrev zq32.q6 : Array Bool := #[true, false, true, false, true, false, true, true, true, false, false, false]
abbrev zq32.q7 : Array Bool := #[true, false, true, true, true, false, true, true, true, false, false, false]
abbrev zq32.q8 : Array Bool := #[true, false, true, true, true, true, true, true, true, false, false, false]
abbrev zq32.q9 : Array Bool := #[true, true, true, true, true, true, true, true, true, true, true, false]
abbrev zq32.q10 : Array Bool := #[true, true, true, true, true, true, true, true, true, false, false, false]
abbrev zq32.q11 : Array Bool := #[true, false, true, true, true, true, true, true, true, false, true, false]
abbrev zq32.q12 : Array Bool := #[true, true, true, true, true, true, true, true, true, true, false, false]
abbrev zq32.q13 : Array Bool := #[true, true, true, true, true, true, true, true, true, false, true, false]
abbrev zq32.q14 : Array Bool := #[true, true, true, true, true, true, true, true, true, true, true, true]
abbrev zq32.q15 : Array Bool := #[false, false, false, false, false, false, false, false, false, false, false, false, false, false, false, false, false, false, false, false, false]
abbrev zq32.q16 : Array Bool := #[true, false, false, false, false, false, false, false, false, false, false, false, false, false, false, false, false, false, false, false, false]
abbrev zq32.q17 : Array Bool := #[true, false, true, false, false, false, false, false, false, false, false, false, false, false, false, false, false, false, false, false, false]
abbrev zq32.q18 : Array Bool := #[true, false, true, false, true, false, false, false, false, false, false, false, false, false, false, false, false, false, false, false, false]
abbrev zq32.q19 : Array Bool := #[true, false, true, false, true, false, true, false, false, false, false, false, false, false, false, false, false, false, false, false, false]
abbrev zq32.q20 : Array Bool := #[true, false, true, false, true, false, true, false, false, true, false, false, false, false, false, false, false, false, false, false, false]
abbrev zq32.q21 : Array Bool := #[true, false, true, false, true, false, true, false, false, true, false, true, false, false, false, false, false, false, false, false, false]
abbrev zq32.q22 : Array Bool := #[true, false, true, false, true, false, true, false, false, true, false, true, true, false, false, false, false, false, false, false, false]
abbrev zq32.q23 : Array Bool := #[true, false, true, false, true, false, true, false, false, true, false, true, true, false, false, true, false, false, false, false, false]
abbrev zq32.q24 : Array Bool := #[true, true, true, false, true, false, true, false, false, true, false, true, true, false, false, true, false, false, false, false, false]
abbrev zq32.q25 : Array Bool := #[true, true, true, true, true, false, true, false, false, true, false, true, true, false, false, true, false, false, false, false, false]
abbrev zq32.q26 : Array Bool := #[true, true, true, true, true, true, true, false, false, true, false, true, true, false, false, true, false, false, false, false, false]
abbrev zq32.q27 : Array Bool := #[true, true, true, true, true, true, true, true, false, true, false, true, true, false, false, true, false, false, false, false, false]
abbrev zq32.q28 : Array Bool := #[true, true, true, true, true, true, true, true, true, true, false, true, true, false, false, true, false, false, false, false, false]
abbrev zq32.q29 : Array Bool := #[true, true, true, true, true, true, true, true, true, true, true, true, true, false, false, true, false, false, false, false, false]
abbrev zq32.q30 : Array Bool := #[true, true, true, true, true, true, true, true, true, true, true, true, true, true, false, true, false, false, false, false, false]
abbrev zq32.q31 : Array Bool := #[true, true, true, true, true, true, true, true, true, true, true, true, true, true, true, true, false, false, false, false, false]
abbrev zq32.q32 : Array Bool := #[true, true, true, true, true, true, true, true, true, true, true, true, true, true, true, true, true, false, false, false, false]
abbrev zq32.q33 : Array Bool := #[true, true, true, true, true, true, true, true, true, true, true, true, true, true, true, true, true, true, false, false, false]
abbrev zq32.q34 : Array Bool := #[true, true, true, true, true, true, true, true, true, true, true, true, true, true, true, true, true, true, true, false, false]
abbrev zq32.q35 : Array Bool := #[true, true, true, true, true, true, true, true, true, true, true, true, true, true, true, true, true, true, true, true, false]
abbrev zq32.q36 : Array Bool := #[true, true, true, true, true, true, true, true, true, true, true, true, true, true, true, true, true, true, true, true, true]
mutual
def compositorref07_Pixels.l0 : Nat → Int → Int → Int → Int → Int → List (S58) → Int → Int → List (S58) → Option (Int × Int × (List (S58)))
 | 0, _, _, _, _, _, _, _, _, _ => none
 | k + 1, x0, x5, x8, x349000, x349001, x349002, x357000, x357001, x357002 => if x8 < x349001 then (compositorref07_Pixels.l1 k x0 x5 x8 0 x349000 x349001 x349002 x357000 x357001 x357002) else (some (x357000, x357001, x357002))
def compositorref07_Pixels.l1 : Nat → Int → Int → Int → Int → Int → Int → List (S58) → Int → Int → List (S58) → Option (Int × Int × (List (S58)))
 | 0, _, _, _, _, _, _, _, _, _, _ => none
 | k + 1, x0, x5, x8, x9, x349000, x349001, x349002, x357000, x357001, x357002 => if x9 < x349000 then ((compositorref07_clean.f x0).bind fun t357 => ((compositorref07_place.f k t357 x349000 x349001 x9 x8).bind fun bt358 => (if 0 ≤ (wrap64 ((wrap64 (x8 * x349000)) + x9)) then (if (wrap64 ((wrap64 (x8 * x349000)) + x9)) < (x349002.length : Int) then (if 0 ≤ (wrap64 ((wrap64 (bt358.2 * x5)) + bt358.1)) then (if (wrap64 ((wrap64 (bt358.2 * x5)) + bt358.1)) < (x357002.length : Int) then (compositorref07_Pixels.l1 k x0 x5 x8 (wrap64 (x9 + 1)) x349000 x349001 x349002 x357000 x357001 (x357002.set ((wrap64 ((wrap64 (bt358.2 * x5)) + bt358.1)) : Int).toNat (⟨(rd_T58 x349002 (wrap64 ((wrap64 (x8 * x349000)) + x9))).f0, (rd_T58 x349002 (wrap64 ((wrap64 (x8 * x349000)) + x9))).f1, (rd_T58 x349002 (wrap64 ((wrap64 (x8 * x349000)) + x9))).f2, (rd_T58 x349002 (wrap64 ((wrap64 (x8 * x349000)) + x9))).f3⟩ : S58))) else (none)) else (none)) else (none)) else (none)))) else (compositorref07_Pixels.l0 k x0 x5 (wrap64 (x8 + 1)) x349000 x349001 x349002 x357000 x357001 x357002)
end
def compositorref07_Pixels.f (k : Nat) (a0 : Int) (a1_0 : Int) (a1_1 : Int) (l1_2 : List (S58)) : Option (Int × Int × (List (S58))) := (compositorref07_valid.f k a1_0 a1_1 l1_2).bind fun t350 => (if t350 = true then ((compositorref07_Size.f a0 a1_0 a1_1).bind fun bt351 => (if 0 ≤ (l1_2.length : Int) then (if ((l1_2.length : Int) : Int).toNat ≤ 70368744177664 then (compositorref07_Pixels.l0 k a0 bt351.1 0 a1_0 a1_1 l1_2 bt351.1 bt351.2 (List.replicate ((l1_2.length : Int) : Int).toNat z58)) else (none)) else (none))) else (some (0, 0, ([] : List (S58)))))
theorem compositorref07_Pixels.mono_l : ∀ k, (∀ y0 y1 y2 y3 y4 y5 y6 y7 y8, LeO (compositorref07_Pixels.l0 k y0 y1 y2 y3 y4 y5 y6 y7 y8) (compositorref07_Pixels.l0 (k + 1) y0 y1 y2 y3 y4 y5 y6 y7 y8)) ∧ (∀ y0 y1 y2 y3 y4 y5 y6 y7 y8 y9, LeO (compositorref07_Pixels.l1 k y0 y1 y2 y3 y4 y5 y6 y7 y8 y9) (compositorref07_Pixels.l1 (k + 1) y0 y1 y2 y3 y4 y5 y6 y7 y8 y9))
 | 0 => ⟨fun _ _ _ _ _ _ _ _ _ r h => by simp [compositorref07_Pixels.l0] at h, fun _ _ _ _ _ _ _ _ _ _ r h => by simp [compositorref07_Pixels.l1] at h⟩
 | k + 1 => by
  obtain ⟨ih0, ih1⟩ := compositorref07_Pixels.mono_l k
  refine ⟨?_, ?_⟩
  ·
   intro y0 y1 y2 y3 y4 y5 y6 y7 y8
   unfold compositorref07_Pixels.l0
   repeat' first
   | (with_reducible exact ih0 _ _ _ _ _ _ _ _ _)
   | (with_reducible exact ih1 _ _ _ _ _ _ _ _ _ _)
   | (with_reducible exact compositorref07_place.mono _ _ _ _ _ _)
   | (with_reducible exact compositorref07_valid.mono _ _ _ _)
   | (with_reducible exact LeO.refl _)
   | (with_reducible exact LeO.none _)
   | (with_reducible refine LeO.ite ?_ ?_)
   | (with_reducible refine LeO.bind ?_ (fun _ => ?_))
   | exact ih0 _ _ _ _ _ _ _ _ _
   | exact ih1 _ _ _ _ _ _ _ _ _ _
   | exact compositorref07_place.mono _ _ _ _ _ _
   | exact compositorref07_valid.mono _ _ _ _
   | exact LeO.none _
   | refine LeO.ite ?_ ?_
   | refine LeO.bind ?_ (fun _ => ?_)
  ·
   intro y0 y1 y2 y3 y4 y5 y6 y7 y8 y9
   unfold compositorref07_Pixels.l1
   repeat' first
   | (with_reducible exact ih0 _ _ _ _ _ _ _ _ _)
   | (with_reducible exact ih1 _ _ _ _ _ _ _ _ _ _)
   | (with_reducible exact compositorref07_place.mono _ _ _ _ _ _)
   | (with_reducible exact compositorref07_valid.mono _ _ _ _)
   | (with_reducible exact LeO.refl _)
   | (with_reducible exact LeO.none _)
   | (with_reducible refine LeO.ite ?_ ?_)
   | (with_reducible refine LeO.bind ?_ (fun _ => ?_))
   | exact ih0 _ _ _ _ _ _ _ _ _
   | exact ih1 _ _ _ _ _ _ _ _ _ _
   | exact compositorref07_place.mono _ _ _ _ _ _
   | exact compositorref07_valid.mono _ _ _ _
   | exact LeO.none _
   | refine LeO.ite ?_ ?_
   | refine LeO.bind ?_ (fun _ => ?_)
theorem compositorref07_Pixels.mono : ∀ a0 a1 a2 a3 k, LeO (compositorref07_Pixels.f k a0 a1 a2 a3) (compositorref07_Pixels.f (k + 1) a0 a1 a2 a3) := by
 intro a0 a1 a2 a3 k
 obtain ⟨ih0, ih1⟩ := compositorref07_Pixels.mono_l k
 unfold compositorref07_Pixels.f
 repeat' first
   | (with_reducible exact ih0 _ _ _ _ _ _ _ _ _)
   | (with_reducible exact ih1 _ _ _ _ _ _ _ _ _ _)
   | (with_reducible exact compositorref07_place.mono _ _ _ _ _ _)
   | (with_reducible exact compositorref07_valid.mono _ _ _ _)
   | (with_reducible exact LeO.refl _)
   | (with_reducible exact LeO.none _)
   | (with_reducible refine LeO.ite ?_ ?_)
   | (with_reducible refine LeO.bind ?_ (fun _ => ?_))
   | exact ih0 _ _ _ _ _ _ _ _ _
   | exact ih1 _ _ _ _ _ _ _ _ _ _
   | exact compositorref07_place.mono _ _ _ _ _ _
   | exact compositorref07_valid.mono _ _ _ _
   | exact LeO.none _
   | refine LeO.ite ?_ ?_
   | refine LeO.bind ?_ (fun _ => ?_)
def compositorref07_Pixels.T11 : Bool × List (List Nat × List Nat) := (true, [([], []), ([0], [0]), ([], []), ([2], [2]), ([], []), ([4], [4]), ([], []), ([], []), ([6, 7], [6, 7]), ([1, 3, 5, 8, 1], [1, 3, 5, 8]), ([], []), ([10, 9, 9, 0, 1, 2, 3, 4, 5, 6, 7, 8, 9, 10], [9, 10])])
def compositorref07_Pixels.B11 : List Nat := [0, 1, 0, 4, 0, 16, 0, 0, 192, 511, 0, 2047]
theorem compositorref07_Pixels.tab11 : rtab .any (opsOf Tryd.f32 11) = compositorref07_Pixels.T11 := by kernel_rfl
theorem compositorref07_Pixels.bits11 : waitsOk compositorref07_Pixels.T11.2 compositorref07_Pixels.B11 = true := by kernel_rfl
def compositorref07_Pixels.T12 : Bool × List (List Nat × List Nat) := (true, [([], []), ([0], [0]), ([], []), ([2], [2]), ([], []), ([3, 4], [3, 4]), ([], []), ([6], [6]), ([5, 7], [5, 7]), ([], []), ([9], [9]), ([], []), ([], []), ([12], [12]), ([11, 13], [11, 13]), ([], []), ([14, 15], [14, 15]), ([10, 16], [10, 16]), ([17], [17]), ([1, 8, 0, 1, 2, 3, 4, 5, 6, 7, 8, 9, 10, 11, 12, 13, 14, 15, 16, 17, 18], [1, 8]), ([19, 18, 0, 1, 2, 3, 4, 5, 6, 7, 8, 9, 10, 11, 12, 13, 14, 15, 16, 17, 18], [18, 19])])
def compositorref07_Pixels.B12 : List Nat := [0, 1, 0, 4, 0, 28, 0, 64, 252, 0, 512, 0, 0, 4096, 14336, 0, 63488, 130560, 261632, 524287, 1048575]
theorem compositorref07_Pixels.tab12 : rtab .any (opsOf Tryd.f32 12) = compositorref07_Pixels.T12 := by kernel_rfl
theorem compositorref07_Pixels.bits12 : waitsOk compositorref07_Pixels.T12.2 compositorref07_Pixels.B12 = true := by kernel_rfl
set_option maxHeartbeats 8000000 in
set_option maxRecDepth 100000 in
theorem compositorref07_Pixels.calls (k : Nat) (a0 : Int) (a1_0 : Int) (a1_1 : Int) (A1_2 : Option Addr) (c1_2 : Nat) (l1_2 : List (S58)) (r1 : Int) (r2 : Int) (r3 : List (S58)) (w : World) (hr1_2 : Kd.C k58 w A1_2 l1_2.length l1_2) (hc1_2 : l1_2.length ≤ c1_2) (h : compositorref07_Pixels.f k a0 a1_0 a1_1 l1_2 = some (r1, r2, r3)) :
  Calls Tryd.prog 32 #[.int .i64 a0, .agg #[.int .i64 a1_0, .int .i64 a1_1, .slice A1_2 l1_2.length c1_2]] w fun e w' => ∃ v2_ : Value, e = .returned (.agg #[.int .i64 r1, .int .i64 r2, v2_]) ∧ Kd.R k58 58 w' w.heap.size (fun _ => True) v2_ r3 ∧ Below w.heap.size w w' := by
 have hu47 := Tryd.underlying47
 have hu23 := Tryd.underlying23
 have hu58 := Tryd.underlying58
 have HR1_2 := Aside0.mk hr1_2
 have HC1_2 := Aside0.mk hc1_2
 clear hr1_2 hc1_2
 have HB := Aside0.mk (Below.refl w.heap.size w)
 have H : ((compositorref07_valid.f k a1_0 a1_1 l1_2).bind fun t350 => (if t350 = true then ((compositorref07_Size.f a0 a1_0 a1_1).bind fun bt351 => (if 0 ≤ (l1_2.length : Int) then (if ((l1_2.length : Int) : Int).toNat ≤ 70368744177664 then (compositorref07_Pixels.l0 k a0 bt351.1 0 a1_0 a1_1 l1_2 bt351.1 bt351.2 (List.replicate ((l1_2.length : Int) : Int).toNat z58)) else (none)) else (none))) else (some (0, 0, ([] : List (S58)))))) = some (r1, r2, r3) := h
 clear h
 replace H := Option.bind_eq_some_iff.mp H
 obtain ⟨t350, A30, H⟩ := H
 try dsimp only at H
 have A3 := Aside0.mk A30
 clear A30
 by_cases c4 : t350 = true
 ·
  subst c4
  have H1 : ((compositorref07_Size.f a0 a1_0 a1_1).bind fun bt351 => (if 0 ≤ (l1_2.length : Int) then (if ((l1_2.length : Int) : Int).toNat ≤ 70368744177664 then (compositorref07_Pixels.l0 k a0 bt351.1 0 a1_0 a1_1 l1_2 bt351.1 bt351.2 (List.replicate ((l1_2.length : Int) : Int).toNat z58)) else (none)) else (none))) = some (r1, r2, r3) := by rw [if_pos rfl] at H; exact H
  clear H
  have H := H1
  clear H1
  replace H := Option.bind_eq_some_iff.mp H
  obtain ⟨⟨t351, t352⟩, A50, H⟩ := H
  try dsimp only at H
  have A5 := Aside0.mk A50
  clear A50
  by_cases c6 : 0 ≤ (l1_2.length : Int)
  ·
   rw [if_pos c6] at H
   have c6b0 := eq_true c6
   have c6b1 : decide (0 ≤ (l1_2.length : Int)) = true := decide_eq_true c6
   clear c6
   by_cases c7 : ((l1_2.length : Int) : Int).toNat ≤ 70368744177664
   ·
    rw [if_pos c7] at H
    have c7b0 := eq_true c7
    have c7b1 : decide (((l1_2.length : Int) : Int).toNat ≤ 70368744177664) = true := decide_eq_true c7
    clear c7
    obtain ⟨y353, hy353⟩ : ∃ y_ : List (S58), y_ = (List.replicate ((l1_2.length : Int) : Int).toNat z58) := ⟨_, rfl⟩
    replace H : (compositorref07_Pixels.l0 k a0 t351 0 a1_0 a1_1 l1_2 t351 t352 y353) = some (r1, r2, r3) := by first | (rw [hy353]; with_reducible exact H) | (have H2_ := (Option.bind_some _ _).symm.trans H; rw [hy353]; with_reducible exact H2_) | (have H2_ := (Option.bind_some _ _).symm.trans H; with_reducible exact H2_) | with_reducible exact H | (rw [hy353]; exact H) | exact H
    have Ny353 := Aside0.mk hy353
    clear hy353
    have H' := Aside0.mk H
    clear H
    go_enter Tryd.func32, Tryd.ntmps32
    go_wp2_with (first | ((with_reducible refine gate_dst (N := 3) rfl ?_); refine box_event ?hg (N := 3) ?hd (cs := #[.int .i64 a1_0, .int .i64 a1_1, .slice A1_2 l1_2.length c1_2]) (t := 47) ?hr ?_; (case hd => rfl); (case hg => rfl); (case hr => first | (go_simp; done) | (go_simp; rfl)); intro gb348 hg w8 hbox hb; have n0_ := hb_ HB hb; have n1_ := Aside0.mk (hbox); have n2_ := Aside0.mk ((by rw [hg]; exact (below_size (hq_ HB)) : w.heap.size ≤ gb348)); have n3_ := Aside0.mk ((by rw [hg]; exact (below_size (hq_ HB)) : w.heap.size ≤ gb348)); clear HB; have HB := n0_; have BK348 := n1_; have GW348 := n2_; have GE348 := n3_; clear n0_ n1_ n2_ n3_; clear hb hbox hg) | ((with_reducible refine gate_dst (N := 4) rfl ?_); refine box_event ?hg (N := 4) ?hd (cs := #[.int .i64 0, .int .i64 0, .slice none 0 0]) (t := 47) ?hr ?_; (case hd => rfl); (case hg => rfl); (case hr => first | (go_simp; done) | (go_simp; rfl)); intro gb349 hg w9 hbox hb; have n0_ := bb_ BK348 hb; have n1_ := hb_ HB hb; have n2_ := Aside0.mk (hbox); have n3_ := Aside0.mk ((by rw [hg]; exact (below_size (hq_ HB)) : w.heap.size ≤ gb349)); have n4_ := Aside0.mk ((by rw [hg]; exact (below_size (hq_ HB)) : w.heap.size ≤ gb349)); have n5_ := Aside0.mk ((by rw [hg]; exact Nat.ne_of_lt (blk_lt (g := gb348) (o := .cells #[.int .i64 a1_0, .int .i64 a1_1, .slice A1_2 l1_2.length c1_2] 47 (0, 0)) (bq_ BK348)) : gb348 ≠ gb349)); have n6_ := Aside0.mk ((by rw [hg]; exact Nat.ne_of_gt (blk_lt (g := gb348) (o := .cells #[.int .i64 a1_0, .int .i64 a1_1, .slice A1_2 l1_2.length c1_2] 47 (0, 0)) (bq_ BK348)) : gb349 ≠ gb348)); clear BK348; clear HB; have BK348 := n0_; have HB := n1_; have BK349 := n2_; have GW349 := n3_; have GE349 := n4_; have NB348_349 := n5_; have NB349_348 := n6_; clear n0_ n1_ n2_ n3_ n4_ n5_ n6_; clear hb hbox hg; have hnb10 := NB348_349.out; have hnc10 := NB349_348.out; have hcz11_0 : w9.cell? ⟨gb348, 0, none⟩ = some (.int .i64 a1_0) := (blk_cell BK348.out 0).trans rfl; have hcz11_1 : w9.cell? ⟨gb348, 1, none⟩ = some (.int .i64 a1_1) := (blk_cell BK348.out 1).trans rfl; have hcz11_2 : w9.cell? ⟨gb348, 2, none⟩ = some (.slice A1_2 l1_2.length c1_2) := (blk_cell BK348.out 2).trans rfl; have hfz11_0 := blk_frozen BK348.out 0; have hfz11_1 := blk_frozen BK348.out 1; have hfz11_2 := blk_frozen BK348.out 2) | ((with_reducible refine gate_callee (f := 44) rfl ?_); refine goesL_ (some 12) rfl rfl Tryd.func44 (by kernel_rfl) rfl #[.agg #[.int .i64 a1_0, .int .i64 a1_1, .slice A1_2 l1_2.length c1_2]] rfl (by (try simp only [List.map_toArray, List.map_cons, List.map_nil]) <;> rfl) ?_; (with_reducible refine (compositorref07_valid.calls k a1_0 a1_1 _ _ l1_2 true _ ?side1 ?side2 A3.out).mono ?_); (case side1 => repeat (first | exact (Kd.C_below HR1_2.out HB.out) | (with_reducible refine Kd.C_alloc ?_ _) | (with_reducible refine Kd.C_drewN ?_ _) | (with_reducible refine Kd.C_drew ?_))); (case side2 => exact HC1_2.out); rintro e w12 ⟨rfl, hb⟩; refine ⟨_, rfl, ?_⟩; have n0_ := bb_ BK348 hb; have n1_ := bb_ BK349 hb; have n2_ := hb_ HB hb; clear BK348; clear BK349; clear HB; have BK348 := n0_; have BK349 := n1_; have HB := n2_; clear n0_ n1_ n2_; (try clear hb); (try clear hb2); (try clear hk); (try clear hi); have hcz13_0 : w12.cell? ⟨gb348, 0, none⟩ = some (.int .i64 a1_0) := (blk_cell BK348.out 0).trans rfl; have hcz13_1 : w12.cell? ⟨gb348, 1, none⟩ = some (.int .i64 a1_1) := (blk_cell BK348.out 1).trans rfl; have hcz13_2 : w12.cell? ⟨gb348, 2, none⟩ = some (.slice A1_2 l1_2.length c1_2) := (blk_cell BK348.out 2).trans rfl; have hfz13_0 := blk_frozen BK348.out 0; have hfz13_1 := blk_frozen BK348.out 1; have hfz13_2 := blk_frozen BK348.out 2) | ((with_reducible refine gate_callee (f := 11) rfl ?_); refine goesL_ (some 21) rfl rfl Tryd.func11 (by kernel_rfl) rfl #[.int .i64 a0, .int .i64 a1_0, .int .i64 a1_1] rfl (by (try simp only [List.map_toArray, List.map_cons, List.map_nil]) <;> rfl) ?_; (with_reducible refine (compositorref07_Size.calls a0 a1_0 a1_1 t351 t352 _ A5.out).mono ?_); rintro e w' ⟨rfl, ⟨nd, rfl⟩⟩; refine ⟨_, rfl, ?_⟩; (try (rw [drewN_self w12]; generalize hq_ : World.drewN w12 _ = w12; have n0_ : Aside0 (w12.heap[gb348]? = some (.cells #[.int .i64 a1_0, .int .i64 a1_1, .slice A1_2 l1_2.length c1_2] 47 (0, 0))) := ⟨by rw [← hq_]; exact (bq_ BK348)⟩; have n1_ : Aside0 (w12.heap[gb349]? = some (.cells #[.int .i64 0, .int .i64 0, .slice none 0 0] 47 (0, 0))) := ⟨by rw [← hq_]; exact (bq_ BK349)⟩; have n2_ : Aside0 (Below w.heap.size w w12) := ⟨by rw [← hq_]; exact (hq_ HB)⟩; clear BK348 BK349 HB hq_; have BK348 := n0_; have BK349 := n1_; have HB := n2_; clear n0_ n1_ n2_; have hcy0_0 : w12.cell? ⟨gb348, 0, none⟩ = some (.int .i64 a1_0) := (blk_cell BK348.out 0).trans rfl; have hfy0_0 := blk_frozen BK348.out 0; have hcy0_1 : w12.cell? ⟨gb348, 1, none⟩ = some (.int .i64 a1_1) := (blk_cell BK348.out 1).trans rfl; have hfy0_1 := blk_frozen BK348.out 1; have hcy0_2 : w12.cell? ⟨gb348, 2, none⟩ = some (.slice A1_2 l1_2.length c1_2) := (blk_cell BK348.out 2).trans rfl; have hfy0_2 := blk_frozen BK348.out 2; have hcy1_0 : w12.cell? ⟨gb349, 0, none⟩ = some (.int .i64 0) := (blk_cell BK349.out 0).trans rfl; have hfy1_0 := blk_frozen BK349.out 0; have hcy1_1 : w12.cell? ⟨gb349, 1, none⟩ = some (.int .i64 0) := (blk_cell BK349.out 1).trans rfl; have hfy1_1 := blk_frozen BK349.out 1; have hcy1_2 : w12.cell? ⟨gb349, 2, none⟩ = some (.slice none 0 0) := (blk_cell BK349.out 2).trans rfl; have hfy1_2 := blk_frozen BK349.out 2))) | ((with_reducible refine gate_dst (N := 29) rfl ?_); refine Kd.R_make k58 _ 58 rfl (N := 29) rfl 45 _ _ rfl (l1_2.length : Int) rfl rfl Tryd.underlying45 (.agg #[(.int .u8 0), (.int .u8 0), (.int .u8 0), (.int .u8 0)]) 4 info58 rfl (by decide) (by omega) z58 (ok := fun _ => True) (okp := fun _ => True) (k58_mkM _ _ _ z58 ) (fun _ hk => hk) trivial (of_decide_eq_true (by first | (with_reducible assumption) | assumption)) (Nat.le_trans (Nat.mul_le_mul_right _ (of_decide_eq_true (by first | (with_reducible assumption) | assumption) : (l1_2.length : Int).toNat ≤ 70368744177664)) (by omega)) (Below.refl _ _) (Nat.le_refl _) ?_; intro v354 w14 ho15 hb hg_ hnew_; clear hg_ hnew_; (first | rw [← Ny353.out] at ho15 | (simp only [Int.reduceToNat] at ho15; rw [← Ny353.out] at ho15)); have n0_ := Aside0.mk (Kd.R_lower ho15 (below_size (hq_ HB))); have n1_ := bb_ BK348 hb; have n2_ := bb_ BK349 hb; have n3_ := hb_ HB hb; clear BK348; clear BK349; clear HB; have HO355 := n0_; have BK348 := n1_; have BK349 := n2_; have HB := n3_; clear n0_ n1_ n2_ n3_; clear hb ho15; obtain ⟨Ao16, co16, eo16⟩ := Kd.R_slice HO355.out; subst eo16) | ((with_reducible refine gate_dst (N := 7) rfl ?_); refine box_event ?hg (N := 7) ?hd (cs := #[.int .i64 0, .int .i64 0, .slice none 0 0]) (t := 47) ?hr ?_; (case hd => rfl); (case hg => rfl); (case hr => first | (go_simp; done) | (go_simp; rfl)); intro gb356 hg w17 hbox hb; have n0_ := Aside0.mk (Kd.R_below (by (with_reducible repeat (first | apply Kd.R_alloc | apply Kd.R_drewN | apply Kd.R_drew)); exact HO355.out) hb); have n1_ := bb_ BK348 hb; have n2_ := bb_ BK349 hb; have n3_ := hb_ HB hb; have n4_ := Aside0.mk (hbox); have n5_ := Aside0.mk ((by rw [hg]; exact (below_size (hq_ HB)) : w.heap.size ≤ gb356)); have n6_ := Aside0.mk ((by rw [hg]; exact (below_size (hq_ HB)) : w.heap.size ≤ gb356)); have n7_ := Aside0.mk ((by rw [hg]; exact Nat.ne_of_lt (blk_lt (g := gb348) (o := .cells #[.int .i64 a1_0, .int .i64 a1_1, .slice A1_2 l1_2.length c1_2] 47 (0, 0)) (bq_ BK348)) : gb348 ≠ gb356)); have n8_ := Aside0.mk ((by rw [hg]; exact Nat.ne_of_gt (blk_lt (g := gb348) (o := .cells #[.int .i64 a1_0, .int .i64 a1_1, .slice A1_2 l1_2.length c1_2] 47 (0, 0)) (bq_ BK348)) : gb356 ≠ gb348)); have n9_ := Aside0.mk ((by rw [hg]; exact Nat.ne_of_lt (blk_lt (g := gb349) (o := .cells #[.int .i64 0, .int .i64 0, .slice none 0 0] 47 (0, 0)) (bq_ BK349)) : gb349 ≠ gb356)); have n10_ := Aside0.mk ((by rw [hg]; exact Nat.ne_of_gt (blk_lt (g := gb349) (o := .cells #[.int .i64 0, .int .i64 0, .slice none 0 0] 47 (0, 0)) (bq_ BK349)) : gb356 ≠ gb349)); clear HO355; clear BK348; clear BK349; clear HB; have HO355 := n0_; have BK348 := n1_; have BK349 := n2_; have HB := n3_; have BK356 := n4_; have GW356 := n5_; have GE356 := n6_; have NB348_356 := n7_; have NB356_348 := n8_; have NB349_356 := n9_; have NB356_349 := n10_; clear n0_ n1_ n2_ n3_ n4_ n5_ n6_ n7_ n8_ n9_ n10_; clear hb hbox hg; have hnb18 := NB356_348.out; have hnc18 := NB348_356.out; have hnb19 := NB356_349.out; have hnc19 := NB349_356.out; have hcz20_0 : w17.cell? ⟨gb356, 0, none⟩ = some (.int .i64 0) := (blk_cell BK356.out 0).trans rfl; have hcz20_1 : w17.cell? ⟨gb356, 1, none⟩ = some (.int .i64 0) := (blk_cell BK356.out 1).trans rfl; have hcz20_2 : w17.cell? ⟨gb356, 2, none⟩ = some (.slice none 0 0) := (blk_cell BK356.out 2).trans rfl; have hfz20_0 := blk_frozen BK356.out 0; have hfz20_1 := blk_frozen BK356.out 1; have hfz20_2 := blk_frozen BK356.out 2))
    go_loopg [8] k (fun kq v8 w' => ∃ (x8_1 : Int) (x357002_1 : List (S58)) (u357002 : Value), v8 = .int .i64 x8_1 ∧ Aside0 (compositorref07_Pixels.l0 kq a0 t351 x8_1 a1_0 a1_1 l1_2 t351 t352 x357002_1 = some (r1, r2, r3)) ∧ Aside0 (kq ≤ k) ∧ Aside0 (Kd.R k58 58 w' w.heap.size (fun _ => True) u357002 x357002_1) ∧ Aside0 (w'.heap[gb348]? = some (.cells #[.int .i64 a1_0, .int .i64 a1_1, (.slice A1_2 l1_2.length c1_2)] 47 (0, 0))) ∧ Aside0 (w'.heap[gb349]? = some (.cells #[.int .i64 0, .int .i64 0, (.slice none 0 0)] 47 (0, 0))) ∧ Aside0 (w'.heap[gb356]? = some (.cells #[.int .i64 t351, .int .i64 t352, u357002] 47 (0, 0))) ∧ Aside0 (Below w.heap.size w w'))
    case atStart => exact ⟨(0), (y353), (.slice Ao16 y353.length co16), (by first | rfl | (simp; done) | (simp [*]; done)), H', ⟨Nat.le_refl _⟩, ⟨by (with_reducible repeat (first | apply Kd.R_alloc | apply Kd.R_drewN | apply Kd.R_drew)); exact Kd.R_mono (Kd.R_far (p := ⟨gb356, 2, none⟩) (Kd.R_far (p := ⟨gb356, 1, none⟩) (Kd.R_far (p := ⟨gb356, 0, none⟩) (Kd.R_types HO355.out BK356.out (by decide)) (fun _ hk => hk.2) (.int .i64 t351)) (fun _ hk => hk.2) (.int .i64 t352)) (fun _ hk => hk.2) (.slice Ao16 y353.length co16)) (fun _ hk => trivial)⟩, bf_ BK348, bf_ BK349, ⟨by (with_reducible repeat (first | refine blk_drewN ?_ _ | refine blk_drew ?_ | refine blk_alloc ?_ _)); refine blk_put (cs := #[.int .i64 t351, .int .i64 t352, .slice none 0 0]) ?_ 2 _ rfl; (with_reducible repeat (first | refine blk_drewN ?_ _ | refine blk_drew ?_ | refine blk_alloc ?_ _)); refine blk_put (cs := #[.int .i64 t351, .int .i64 0, .slice none 0 0]) ?_ 1 _ rfl; (with_reducible repeat (first | refine blk_drewN ?_ _ | refine blk_drew ?_ | refine blk_alloc ?_ _)); refine blk_put (cs := #[.int .i64 0, .int .i64 0, .slice none 0 0]) ?_ 0 _ rfl; (with_reducible repeat (first | refine blk_drewN ?_ _ | refine blk_drew ?_ | refine blk_alloc ?_ _)); exact BK356.out⟩, ⟨by repeat (first | (with_reducible first | exact HB.out | apply below_alloc | apply pw_below_drewN | apply below_drew1 | refine below_set ?_ GE348.out | refine below_set ?_ GE349.out | refine below_set ?_ GE356.out) | exact HB.out)⟩⟩
    case round =>
     clear H'
     try clear c1
     try clear p2
     try clear c3
     try clear c4
     try clear c6
     try clear c6b0
     try clear c6b1
     try clear c7
     try clear c7b0
     try clear c7b1
     try clear c10
     try clear c11
     try clear c18
     try clear c19
     try clear hcz11_0
     try clear hcz11_1
     try clear hcz11_2
     try clear hcz13_0
     try clear hcz13_1
     try clear hcz13_2
     try clear hcz20_0
     try clear hcz20_1
     try clear hcz20_2
     try clear hfz11_0
     try clear hfz11_1
     try clear hfz11_2
     try clear hfz13_0
     try clear hfz13_1
     try clear hfz13_2
     try clear hfz20_0
     try clear hfz20_1
     try clear hfz20_2
     obtain ⟨x8_1, x357002_1, u357002, rfl, HA, HK1, HO_357002, BK348, BK349, BK356, HB⟩ := hrel
     cases gk with
     | zero => exact absurd HA.out (by simp [compositorref07_Pixels.l0])
     | succ k1 =>
      have H := HA.out
      clear HA
      simp only [compositorref07_Pixels.l0] at H
      by_cases c21 : x8_1 < a1_1
      ·
       rw [if_pos c21] at H
       have c21b0 : decide (x8_1 < a1_1) = true := decide_eq_true c21
       clear c21
       have H' := Aside0.mk H
       clear H
       have hnb22 := NB348_349.out
       have hnc22 := NB349_348.out
       have hnb23 := NB348_356.out
       have hnc23 := NB356_348.out
       have hcz24_0 : wr.cell? ⟨gb348, 0, none⟩ = some (.int .i64 a1_0) := (blk_cell BK348.out 0).trans rfl
       have hcz24_1 : wr.cell? ⟨gb348, 1, none⟩ = some (.int .i64 a1_1) := (blk_cell BK348.out 1).trans rfl
       have hcz24_2 : wr.cell? ⟨gb348, 2, none⟩ = some (.slice A1_2 l1_2.length c1_2) := (blk_cell BK348.out 2).trans rfl
       have hfz24_0 := blk_frozen BK348.out 0
       have hfz24_1 := blk_frozen BK348.out 1
       have hfz24_2 := blk_frozen BK348.out 2
       go_wp2
       go_loopg [9] k1 (fun kq v9 w' => ∃ (x9_2 : Int) (x357002_2 : List (S58)) (u357002 : Value), v9 = .int .i64 x9_2 ∧ Aside0 (compositorref07_Pixels.l1 kq a0 t351 x8_1 x9_2 a1_0 a1_1 l1_2 t351 t352 x357002_2 = some (r1, r2, r3)) ∧ Aside0 (kq ≤ k1) ∧ Aside0 (Kd.R k58 58 w' w.heap.size (fun _ => True) u357002 x357002_2) ∧ Aside0 (w'.heap[gb348]? = some (.cells #[.int .i64 a1_0, .int .i64 a1_1, (.slice A1_2 l1_2.length c1_2)] 47 (0, 0))) ∧ Aside0 (w'.heap[gb349]? = some (.cells #[.int .i64 0, .int .i64 0, (.slice none 0 0)] 47 (0, 0))) ∧ Aside0 (w'.heap[gb356]? = some (.cells #[.int .i64 t351, .int .i64 t352, u357002] 47 (0, 0))) ∧ Aside0 (Below w.heap.size w w'))
       case atStart => exact ⟨(0), (x357002_1), (u357002), (by first | rfl | (simp; done) | (simp [*]; done)), H', ⟨Nat.le_refl _⟩, ⟨by (with_reducible repeat (first | apply Kd.R_alloc | apply Kd.R_drewN | apply Kd.R_drew)); exact HO_357002.out⟩, bf_ BK348, bf_ BK349, bf_ BK356, ⟨by repeat (first | (with_reducible first | exact HB.out | apply below_alloc | apply pw_below_drewN | apply below_drew1 | refine below_set ?_ GE348.out | refine below_set ?_ GE349.out | refine below_set ?_ GE356.out) | exact HB.out)⟩⟩
       case round =>
        clear H'
        try clear c1
        try clear c2
        try clear p2
        try clear c3
        try clear c4
        try clear c6
        try clear c6b0
        try clear c6b1
        try clear c7
        try clear c7b0
        try clear c7b1
        try clear c10
        try clear c11
        try clear c18
        try clear c19
        try clear c21
        try clear c21b0
        try clear c22
        try clear c23
        try clear hcz11_0
        try clear hcz11_1
        try clear hcz11_2
        try clear hcz13_0
        try clear hcz13_1
        try clear hcz13_2
        try clear hcz20_0
        try clear hcz20_1
        try clear hcz20_2
        try clear hcz24_0
        try clear hcz24_1
        try clear hcz24_2
        try clear hfz11_0
        try clear hfz11_1
        try clear hfz11_2
        try clear hfz13_0
        try clear hfz13_1
        try clear hfz13_2
        try clear hfz20_0
        try clear hfz20_1
        try clear hfz20_2
        try clear hfz24_0
        try clear hfz24_1
        try clear hfz24_2
        try clear p2
        obtain ⟨x9_2, x357002_2, u357002, rfl, HA, HK2, HO_357002, BK348, BK349, BK356, HB⟩ := hrel
        cases gk with
        | zero => exact absurd HA.out (by simp [compositorref07_Pixels.l1])
        | succ k2 =>
         have H := HA.out
         clear HA
         simp only [compositorref07_Pixels.l1] at H
         by_cases c25 : x9_2 < a1_0
         ·
          rw [if_pos c25] at H
          have c25b0 : decide (x9_2 < a1_0) = true := decide_eq_true c25
          clear c25
          replace H := Option.bind_eq_some_iff.mp H
          obtain ⟨t357, A260, H⟩ := H
          try dsimp only at H
          have A26 := Aside0.mk A260
          clear A260
          replace H := Option.bind_eq_some_iff.mp H
          obtain ⟨⟨t358, t359⟩, A270, H⟩ := H
          try dsimp only at H
          have A27 := Aside0.mk A270
          clear A270
          obtain ⟨ji28, hji28⟩ : ∃ j_ : Int, (wrap64 ((wrap64 (x8_1 * a1_0)) + x9_2)) = j_ := ⟨_, rfl⟩
          replace H : (if 0 ≤ (ji28) then (if (ji28) < (l1_2.length : Int) then (if 0 ≤ (wrap64 ((wrap64 (t359 * t351)) + t358)) then (if (wrap64 ((wrap64 (t359 * t351)) + t358)) < (x357002_2.length : Int) then (compositorref07_Pixels.l1 k2 a0 t351 x8_1 (wrap64 (x9_2 + 1)) a1_0 a1_1 l1_2 t351 t352 (x357002_2.set ((wrap64 ((wrap64 (t359 * t351)) + t358)) : Int).toNat (⟨(rd_T58 l1_2 (ji28)).f0, (rd_T58 l1_2 (ji28)).f1, (rd_T58 l1_2 (ji28)).f2, (rd_T58 l1_2 (ji28)).f3⟩ : S58))) else (none)) else (none)) else (none)) else (none)) = some (r1, r2, r3) := by first | (rw [hji28] at H; exact H) | (simp only [hji28] at H ⊢; exact H)
          (try rw [hji28] at A26)
          (try rw [hji28] at A27)
          have hji28w : (IntKind.i64.wrap ((wrap64 (x8_1 * a1_0)) + x9_2)) = ji28 := (i64_w _).trans hji28
          by_cases c29 : 0 ≤ (ji28)
          ·
           rw [if_pos c29] at H
           have c29b0 : decide (0 ≤ (ji28)) = true := decide_eq_true c29
           clear c29
           by_cases c30 : (ji28) < (l1_2.length : Int)
           ·
            rw [if_pos c30] at H
            have c30b0 : decide ((ji28) < (l1_2.length : Int)) = true := decide_eq_true c30
            clear c30
            obtain ⟨ji31, hji31⟩ : ∃ j_ : Int, (wrap64 ((wrap64 (t359 * t351)) + t358)) = j_ := ⟨_, rfl⟩
            replace H : (if 0 ≤ (ji31) then (if (ji31) < (x357002_2.length : Int) then (compositorref07_Pixels.l1 k2 a0 t351 x8_1 (wrap64 (x9_2 + 1)) a1_0 a1_1 l1_2 t351 t352 (x357002_2.set ((ji31) : Int).toNat (⟨(rd_T58 l1_2 (ji28)).f0, (rd_T58 l1_2 (ji28)).f1, (rd_T58 l1_2 (ji28)).f2, (rd_T58 l1_2 (ji28)).f3⟩ : S58))) else (none)) else (none)) = some (r1, r2, r3) := by first | (rw [hji31] at H; exact H) | (simp only [hji31] at H ⊢; exact H)
            (try rw [hji31] at A26)
            (try rw [hji31] at A27)
            have hji31w : (IntKind.i64.wrap ((wrap64 (t359 * t351)) + t358)) = ji31 := (i64_w _).trans hji31
            by_cases c32 : 0 ≤ (ji31)
            ·
             rw [if_pos c32] at H
             have c32b0 : decide (0 ≤ (ji31)) = true := decide_eq_true c32
             clear c32
             by_cases c33 : (ji31) < (x357002_2.length : Int)
             ·
              rw [if_pos c33] at H
              have c33b0 : decide ((ji31) < (x357002_2.length : Int)) = true := decide_eq_true c33
              clear c33
              obtain ⟨y362, hy362⟩ : ∃ y_ : List (S58), y_ = (x357002_2.set ((ji31) : Int).toNat (⟨(rd_T58 l1_2 (ji28)).f0, (rd_T58 l1_2 (ji28)).f1, (rd_T58 l1_2 (ji28)).f2, (rd_T58 l1_2 (ji28)).f3⟩ : S58)) := ⟨_, rfl⟩
              replace H : (compositorref07_Pixels.l1 k2 a0 t351 x8_1 (wrap64 (x9_2 + 1)) a1_0 a1_1 l1_2 t351 t352 y362) = some (r1, r2, r3) := by first | (rw [hy362]; with_reducible exact H) | (have H2_ := (Option.bind_some _ _).symm.trans H; rw [hy362]; with_reducible exact H2_) | (have H2_ := (Option.bind_some _ _).symm.trans H; with_reducible exact H2_) | with_reducible exact H | (rw [hy362]; exact H) | exact H
              have Ny362 := Aside0.mk hy362
              clear hy362
              have H' := Aside0.mk H
              clear H
              have hnb35 := NB348_349.out
              have hnc35 := NB349_348.out
              have hnb36 := NB348_356.out
              have hnc36 := NB356_348.out
              have hcz37_0 : wr.cell? ⟨gb348, 0, none⟩ = some (.int .i64 a1_0) := (blk_cell BK348.out 0).trans rfl
              have hcz37_1 : wr.cell? ⟨gb348, 1, none⟩ = some (.int .i64 a1_1) := (blk_cell BK348.out 1).trans rfl
              have hcz37_2 : wr.cell? ⟨gb348, 2, none⟩ = some (.slice A1_2 l1_2.length c1_2) := (blk_cell BK348.out 2).trans rfl
              have hfz37_0 := blk_frozen BK348.out 0
              have hfz37_1 := blk_frozen BK348.out 1
              have hfz37_2 := blk_frozen BK348.out 2
              try go_wp2
              replace HO_357002 := Aside0.mk (Kd.R_drew HO_357002.out)
              replace BK348 := Aside0.mk (blk_drew BK348.out)
              replace BK349 := Aside0.mk (blk_drew BK349.out)
              replace BK356 := Aside0.mk (blk_drew BK356.out)
              replace HB := Aside0.mk (below_drew1 HB.out)
              refine start_ (n := 12) (S := fun w' => w'.cell? ⟨gb348, 0, none⟩ = some (.int .i64 a1_0) ∧ w'.cell? ⟨gb348, 1, none⟩ = some (.int .i64 a1_1) ∧ w'.cell? ⟨gb348, 2, none⟩ = some (.slice A1_2 l1_2.length c1_2)) (ds := []) zq32.q0 (by kernel_rfl) rfl rfl ⟨c_ BK348 0, ⟨c_ BK348 1, (c_ BK348 2)⟩⟩ (fun hHeld => ?_); refine with_tabW compositorref07_Pixels.tab11 compositorref07_Pixels.bits11 (fun HT_ HW_ => ?_)
              generalize wr.drew = w38 at HO_357002 BK348 BK349 BK356 HB hHeld ⊢
              refine pv_ 0 43 zq32.q1 HT_ ?_
              refine pv_ 2 45 zq32.q2 HT_ ?_
              refine pv_ 4 47 zq32.q3 HT_ ?_
              refine pv_ 6 49 zq32.q4 HT_ ?_
              refine pv_ 7 50 zq32.q5 HT_ ?_
              refine pv_ 8 51 zq32.q6 HT_ ?_
              refine take_ (i := 3) (N := some 46) (v := ?_) (a' := ?_) zq32.q7 rfl rfl (take_ofW HT_.out HW_.out (by kernel_rfl)) (fun _ _ _ h => h) (Or.inl ⟨by rfl, ?_⟩) hHeld ?_ ?_
              rotate_left
              ·
               rintro w' ⟨s0, s1, s2⟩
               go_simp
               with_reducible rfl
              rotate_left
              ·
               simp only [Act.put, List.setIfInBounds_toArray, List.set_cons_zero, List.set_cons_succ, i64_w, i32_w]
               rfl
              refine take_ (i := 5) (N := some 48) (v := ?_) (a' := ?_) zq32.q8 rfl rfl (take_ofW HT_.out HW_.out (by kernel_rfl)) (fun _ _ _ h => h) (Or.inl ⟨by rfl, ?_⟩) hHeld ?_ ?_
              rotate_left
              ·
               rintro w' ⟨s0, s1, s2⟩
               go_simp
               with_reducible rfl
              rotate_left
              ·
               simp only [Act.put, List.setIfInBounds_toArray, List.set_cons_zero, List.set_cons_succ, i64_w, i32_w]
               rfl
              refine join_ (σ := Nat) 1 zq32.q9 (fun s_ => [(44, .int .i64 t357), (52, .agg #[.int .i64 t358, .int .i64 t359]), (10, .pointer (some ⟨s_, 0, none⟩))]) (fun s_ w' => (w'.cell? ⟨gb348, 0, none⟩ = some (.int .i64 a1_0) ∧ w'.cell? ⟨gb348, 1, none⟩ = some (.int .i64 a1_1) ∧ w'.cell? ⟨gb348, 2, none⟩ = some (.slice A1_2 l1_2.length c1_2)) ∧ (Kd.R k58 58 w' w.heap.size (fun _ => True) u357002 x357002_2) ∧ (w'.heap[gb348]? = some (.cells #[.int .i64 a1_0, .int .i64 a1_1, .slice A1_2 l1_2.length c1_2] 47 (0, 0))) ∧ (w'.heap[gb349]? = some (.cells #[.int .i64 0, .int .i64 0, .slice none 0 0] 47 (0, 0))) ∧ (w'.heap[gb356]? = some (.cells #[.int .i64 t351, .int .i64 t352, u357002] 47 (0, 0))) ∧ (w'.heap[s_]? = some (.cells #[.int .i64 0, .int .i64 0] 23 (0, 0))) ∧ (w.heap.size ≤ s_) ∧ (w.heap.size ≤ s_) ∧ (gb348 ≠ s_) ∧ (s_ ≠ gb348) ∧ (gb349 ≠ s_) ∧ (s_ ≠ gb349) ∧ (gb356 ≠ s_) ∧ (s_ ≠ gb356) ∧ (Below w.heap.size w w')) ?_ ?_
              rotate_left
              ·
               intro hCont
               refine two_ (i := 1) (j := 10) (Ni := some 44) (Nj := some 10) zq32.q10 zq32.q11 rfl rfl rfl rfl (two_of HT_.out (by kernel_rfl)) (by decide) (by decide) (fun K hK => ?_) (fun K hK => ?_)
               ·
                refine gs_ Tryd.func34 #[.int .i64 a0] ?_
                with_reducible refine (compositorref07_clean.calls a0 t357 _ A26.out).mono ?_
                rintro e w' ⟨rfl, ⟨nd, rfl⟩⟩
                refine ⟨_, rfl, ?_⟩
                refine hK.out _ _ ⟨c_ BK348 0, ⟨c_ BK348 1, (c_ BK348 2)⟩⟩ (fun hHeld => ?_)
                clear hK K
                refine norm_ (a' := ?_) ?_ ?_
                rotate_left
                ·
                 show Act.put _ (some 44) _ = _
                 simp only [Act.put, List.setIfInBounds_toArray, List.set_cons_zero, List.set_cons_succ, i64_w, i32_w]
                 rfl
                refine two_ (i := 9) (j := 10) (Ni := some 52) (Nj := some 10) zq32.q12 zq32.q13 rfl rfl rfl rfl (two_of HT_.out (by kernel_rfl)) (by decide) (by decide) (fun K hK => ?_) (fun K hK => ?_)
                ·
                 refine gs_ Tryd.func35 #[.int .i64 t357, .int .i64 a1_0, .int .i64 a1_1, .agg #[.int .i64 x9_2, .int .i64 x8_1]] ?_
                 with_reducible refine (compositorref07_place.calls k2 t357 a1_0 a1_1 x9_2 x8_1 t358 t359 _ A27.out).mono ?_
                 rintro e w39 ⟨rfl, hb⟩
                 refine ⟨_, rfl, ?_⟩
                 replace HO_357002 := Aside0.mk (Kd.R_below (by (with_reducible repeat (first | apply Kd.R_alloc | apply Kd.R_drewN | apply Kd.R_drew)); exact HO_357002.out) hb)
                 replace BK348 := bb_ BK348 hb
                 replace BK349 := bb_ BK349 hb
                 replace BK356 := bb_ BK356 hb
                 replace HB := hb_ HB hb
                 (try clear hb); (try clear hb2); (try clear hk); (try clear hi)
                 refine hK.out _ _ ⟨c_ BK348 0, ⟨c_ BK348 1, (c_ BK348 2)⟩⟩ (fun hHeld => ?_)
                 clear hK K
                 refine norm_ (a' := ?_) ?_ ?_
                 rotate_left
                 ·
                  show Act.put _ (some 52) _ = _
                  simp only [Act.put, List.setIfInBounds_toArray, List.set_cons_zero, List.set_cons_succ, i64_w, i32_w]
                  rfl
                 refine one_ (i := 10) (N := some 10) zq32.q9 rfl rfl (one_of HT_.out (by kernel_rfl)) (by decide) (fun K hK => ?_)
                 refine box_step ?hg (N := 10) ?hd (cs := #[.int .i64 0, .int .i64 0]) (t := 23) ?hr ?_; (case hd => rfl); (case hg => rfl); (case hr => first | (go_simp; done) | (go_simp; rfl))
                 intro gb360 hg w40 hbox hb
                 replace HO_357002 := Aside0.mk (Kd.R_below (by (with_reducible repeat (first | apply Kd.R_alloc | apply Kd.R_drewN | apply Kd.R_drew)); exact HO_357002.out) hb)
                 have BK360 := Aside0.mk (hbox)
                 have GW360 := Aside0.mk ((by rw [hg]; exact (below_size (hq_ HB)) : w.heap.size ≤ gb360))
                 have GE360 := Aside0.mk ((by rw [hg]; exact (below_size (hq_ HB)) : w.heap.size ≤ gb360))
                 replace HB := hb_ HB hb
                 have NB348_360 := Aside0.mk ((by rw [hg]; exact Nat.ne_of_lt (blk_lt (g := gb348) (o := .cells #[.int .i64 a1_0, .int .i64 a1_1, .slice A1_2 l1_2.length c1_2] 47 (0, 0)) (bq_ BK348)) : gb348 ≠ gb360))
                 have NB360_348 := Aside0.mk ((by rw [hg]; exact Nat.ne_of_gt (blk_lt (g := gb348) (o := .cells #[.int .i64 a1_0, .int .i64 a1_1, .slice A1_2 l1_2.length c1_2] 47 (0, 0)) (bq_ BK348)) : gb360 ≠ gb348))
                 replace BK348 := bb_ BK348 hb
                 have NB349_360 := Aside0.mk ((by rw [hg]; exact Nat.ne_of_lt (blk_lt (g := gb349) (o := .cells #[.int .i64 0, .int .i64 0, .slice none 0 0] 47 (0, 0)) (bq_ BK349)) : gb349 ≠ gb360))
                 have NB360_349 := Aside0.mk ((by rw [hg]; exact Nat.ne_of_gt (blk_lt (g := gb349) (o := .cells #[.int .i64 0, .int .i64 0, .slice none 0 0] 47 (0, 0)) (bq_ BK349)) : gb360 ≠ gb349))
                 replace BK349 := bb_ BK349 hb
                 have NB356_360 := Aside0.mk ((by rw [hg]; exact Nat.ne_of_lt (blk_lt (g := gb356) (o := .cells #[.int .i64 t351, .int .i64 t352, u357002] 47 (0, 0)) (bq_ BK356)) : gb356 ≠ gb360))
                 have NB360_356 := Aside0.mk ((by rw [hg]; exact Nat.ne_of_gt (blk_lt (g := gb356) (o := .cells #[.int .i64 t351, .int .i64 t352, u357002] 47 (0, 0)) (bq_ BK356)) : gb360 ≠ gb356))
                 replace BK356 := bb_ BK356 hb
                 clear hb hbox hg
                 refine hK.out _ _ ⟨c_ BK348 0, ⟨c_ BK348 1, (c_ BK348 2)⟩⟩ (fun hHeld => ?_)
                 clear hK K
                 refine norm_ (a' := ?_) ?_ ?_
                 rotate_left
                 ·
                  show Act.put _ (some 10) _ = _
                  simp only [Act.put, List.setIfInBounds_toArray, List.set_cons_zero, List.set_cons_succ, i64_w, i32_w]
                  rfl
                 exact norm_ (by simp only [putAll, Act.put, List.setIfInBounds_toArray, List.set_cons_zero, List.set_cons_succ]) (hCont (gb360) _ ⟨hHeld, (by (with_reducible repeat (first | apply Kd.R_alloc | apply Kd.R_drewN | apply Kd.R_drew)); exact HO_357002.out), (bq_ BK348), (bq_ BK349), (bq_ BK356), (bq_ BK360), GW360.out, GE360.out, NB348_360.out, NB360_348.out, NB349_360.out, NB360_349.out, NB356_360.out, NB360_356.out, (hq_ HB)⟩)
                ·
                 refine box_step ?hg (N := 10) ?hd (cs := #[.int .i64 0, .int .i64 0]) (t := 23) ?hr ?_; (case hd => rfl); (case hg => rfl); (case hr => first | (go_simp; done) | (go_simp; rfl))
                 intro gb360 hg w39 hbox hb
                 replace HO_357002 := Aside0.mk (Kd.R_below (by (with_reducible repeat (first | apply Kd.R_alloc | apply Kd.R_drewN | apply Kd.R_drew)); exact HO_357002.out) hb)
                 have BK360 := Aside0.mk (hbox)
                 have GW360 := Aside0.mk ((by rw [hg]; exact (below_size (hq_ HB)) : w.heap.size ≤ gb360))
                 have GE360 := Aside0.mk ((by rw [hg]; exact (below_size (hq_ HB)) : w.heap.size ≤ gb360))
                 replace HB := hb_ HB hb
                 have NB348_360 := Aside0.mk ((by rw [hg]; exact Nat.ne_of_lt (blk_lt (g := gb348) (o := .cells #[.int .i64 a1_0, .int .i64 a1_1, .slice A1_2 l1_2.length c1_2] 47 (0, 0)) (bq_ BK348)) : gb348 ≠ gb360))
                 have NB360_348 := Aside0.mk ((by rw [hg]; exact Nat.ne_of_gt (blk_lt (g := gb348) (o := .cells #[.int .i64 a1_0, .int .i64 a1_1, .slice A1_2 l1_2.length c1_2] 47 (0, 0)) (bq_ BK348)) : gb360 ≠ gb348))
                 replace BK348 := bb_ BK348 hb
                 have NB349_360 := Aside0.mk ((by rw [hg]; exact Nat.ne_of_lt (blk_lt (g := gb349) (o := .cells #[.int .i64 0, .int .i64 0, .slice none 0 0] 47 (0, 0)) (bq_ BK349)) : gb349 ≠ gb360))
                 have NB360_349 := Aside0.mk ((by rw [hg]; exact Nat.ne_of_gt (blk_lt (g := gb349) (o := .cells #[.int .i64 0, .int .i64 0, .slice none 0 0] 47 (0, 0)) (bq_ BK349)) : gb360 ≠ gb349))
                 replace BK349 := bb_ BK349 hb
                 have NB356_360 := Aside0.mk ((by rw [hg]; exact Nat.ne_of_lt (blk_lt (g := gb356) (o := .cells #[.int .i64 t351, .int .i64 t352, u357002] 47 (0, 0)) (bq_ BK356)) : gb356 ≠ gb360))
                 have NB360_356 := Aside0.mk ((by rw [hg]; exact Nat.ne_of_gt (blk_lt (g := gb356) (o := .cells #[.int .i64 t351, .int .i64 t352, u357002] 47 (0, 0)) (bq_ BK356)) : gb360 ≠ gb356))
                 replace BK356 := bb_ BK356 hb
                 clear hb hbox hg
                 refine hK.out _ _ ⟨c_ BK348 0, ⟨c_ BK348 1, (c_ BK348 2)⟩⟩ (fun hHeld => ?_)
                 clear hK K
                 refine norm_ (a' := ?_) ?_ ?_
                 rotate_left
                 ·
                  show Act.put _ (some 10) _ = _
                  simp only [Act.put, List.setIfInBounds_toArray, List.set_cons_zero, List.set_cons_succ, i64_w, i32_w]
                  rfl
                 refine one_ (i := 9) (N := some 52) zq32.q9 rfl rfl (one_of HT_.out (by kernel_rfl)) (by decide) (fun K hK => ?_)
                 refine gs_ Tryd.func35 #[.int .i64 t357, .int .i64 a1_0, .int .i64 a1_1, .agg #[.int .i64 x9_2, .int .i64 x8_1]] ?_
                 with_reducible refine (compositorref07_place.calls k2 t357 a1_0 a1_1 x9_2 x8_1 t358 t359 _ A27.out).mono ?_
                 rintro e w40 ⟨rfl, hb⟩
                 refine ⟨_, rfl, ?_⟩
                 replace HO_357002 := Aside0.mk (Kd.R_below (by (with_reducible repeat (first | apply Kd.R_alloc | apply Kd.R_drewN | apply Kd.R_drew)); exact HO_357002.out) hb)
                 replace BK348 := bb_ BK348 hb
                 replace BK349 := bb_ BK349 hb
                 replace BK356 := bb_ BK356 hb
                 replace BK360 := bb_ BK360 hb
                 replace HB := hb_ HB hb
                 (try clear hb); (try clear hb2); (try clear hk); (try clear hi)
                 refine hK.out _ _ ⟨c_ BK348 0, ⟨c_ BK348 1, (c_ BK348 2)⟩⟩ (fun hHeld => ?_)
                 clear hK K
                 refine norm_ (a' := ?_) ?_ ?_
                 rotate_left
                 ·
                  show Act.put _ (some 52) _ = _
                  simp only [Act.put, List.setIfInBounds_toArray, List.set_cons_zero, List.set_cons_succ, i64_w, i32_w]
                  rfl
                 exact norm_ (by simp only [putAll, Act.put, List.setIfInBounds_toArray, List.set_cons_zero, List.set_cons_succ]) (hCont (gb360) _ ⟨hHeld, (by (with_reducible repeat (first | apply Kd.R_alloc | apply Kd.R_drewN | apply Kd.R_drew)); exact HO_357002.out), (bq_ BK348), (bq_ BK349), (bq_ BK356), (bq_ BK360), GW360.out, GE360.out, NB348_360.out, NB360_348.out, NB349_360.out, NB360_349.out, NB356_360.out, NB360_356.out, (hq_ HB)⟩)
               ·
                refine box_step ?hg (N := 10) ?hd (cs := #[.int .i64 0, .int .i64 0]) (t := 23) ?hr ?_; (case hd => rfl); (case hg => rfl); (case hr => first | (go_simp; done) | (go_simp; rfl))
                intro gb360 hg w39 hbox hb
                replace HO_357002 := Aside0.mk (Kd.R_below (by (with_reducible repeat (first | apply Kd.R_alloc | apply Kd.R_drewN | apply Kd.R_drew)); exact HO_357002.out) hb)
                have BK360 := Aside0.mk (hbox)
                have GW360 := Aside0.mk ((by rw [hg]; exact (below_size (hq_ HB)) : w.heap.size ≤ gb360))
                have GE360 := Aside0.mk ((by rw [hg]; exact (below_size (hq_ HB)) : w.heap.size ≤ gb360))
                replace HB := hb_ HB hb
                have NB348_360 := Aside0.mk ((by rw [hg]; exact Nat.ne_of_lt (blk_lt (g := gb348) (o := .cells #[.int .i64 a1_0, .int .i64 a1_1, .slice A1_2 l1_2.length c1_2] 47 (0, 0)) (bq_ BK348)) : gb348 ≠ gb360))
                have NB360_348 := Aside0.mk ((by rw [hg]; exact Nat.ne_of_gt (blk_lt (g := gb348) (o := .cells #[.int .i64 a1_0, .int .i64 a1_1, .slice A1_2 l1_2.length c1_2] 47 (0, 0)) (bq_ BK348)) : gb360 ≠ gb348))
                replace BK348 := bb_ BK348 hb
                have NB349_360 := Aside0.mk ((by rw [hg]; exact Nat.ne_of_lt (blk_lt (g := gb349) (o := .cells #[.int .i64 0, .int .i64 0, .slice none 0 0] 47 (0, 0)) (bq_ BK349)) : gb349 ≠ gb360))
                have NB360_349 := Aside0.mk ((by rw [hg]; exact Nat.ne_of_gt (blk_lt (g := gb349) (o := .cells #[.int .i64 0, .int .i64 0, .slice none 0 0] 47 (0, 0)) (bq_ BK349)) : gb360 ≠ gb349))
                replace BK349 := bb_ BK349 hb
                have NB356_360 := Aside0.mk ((by rw [hg]; exact Nat.ne_of_lt (blk_lt (g := gb356) (o := .cells #[.int .i64 t351, .int .i64 t352, u357002] 47 (0, 0)) (bq_ BK356)) : gb356 ≠ gb360))
                have NB360_356 := Aside0.mk ((by rw [hg]; exact Nat.ne_of_gt (blk_lt (g := gb356) (o := .cells #[.int .i64 t351, .int .i64 t352, u357002] 47 (0, 0)) (bq_ BK356)) : gb360 ≠ gb356))
                replace BK356 := bb_ BK356 hb
                clear hb hbox hg
                refine hK.out _ _ ⟨c_ BK348 0, ⟨c_ BK348 1, (c_ BK348 2)⟩⟩ (fun hHeld => ?_)
                clear hK K
                refine norm_ (a' := ?_) ?_ ?_
                rotate_left
                ·
                 show Act.put _ (some 10) _ = _
                 simp only [Act.put, List.setIfInBounds_toArray, List.set_cons_zero, List.set_cons_succ, i64_w, i32_w]
                 rfl
                refine one_ (i := 1) (N := some 44) zq32.q13 rfl rfl (one_of HT_.out (by kernel_rfl)) (by decide) (fun K hK => ?_)
                refine gs_ Tryd.func34 #[.int .i64 a0] ?_
                with_reducible refine (compositorref07_clean.calls a0 t357 _ A26.out).mono ?_
                rintro e w' ⟨rfl, ⟨nd, rfl⟩⟩
                refine ⟨_, rfl, ?_⟩
                refine hK.out _ _ ⟨c_ BK348 0, ⟨c_ BK348 1, (c_ BK348 2)⟩⟩ (fun hHeld => ?_)
                clear hK K
                refine norm_ (a' := ?_) ?_ ?_
                rotate_left
                ·
                 show Act.put _ (some 44) _ = _
                 simp only [Act.put, List.setIfInBounds_toArray, List.set_cons_zero, List.set_cons_succ, i64_w, i32_w]
                 rfl
                refine one_ (i := 9) (N := some 52) zq32.q9 rfl rfl (one_of HT_.out (by kernel_rfl)) (by decide) (fun K hK => ?_)
                refine gs_ Tryd.func35 #[.int .i64 t357, .int .i64 a1_0, .int .i64 a1_1, .agg #[.int .i64 x9_2, .int .i64 x8_1]] ?_
                with_reducible refine (compositorref07_place.calls k2 t357 a1_0 a1_1 x9_2 x8_1 t358 t359 _ A27.out).mono ?_
                rintro e w40 ⟨rfl, hb⟩
                refine ⟨_, rfl, ?_⟩
                replace HO_357002 := Aside0.mk (Kd.R_below (by (with_reducible repeat (first | apply Kd.R_alloc | apply Kd.R_drewN | apply Kd.R_drew)); exact HO_357002.out) hb)
                replace BK348 := bb_ BK348 hb
                replace BK349 := bb_ BK349 hb
                replace BK356 := bb_ BK356 hb
                replace BK360 := bb_ BK360 hb
                replace HB := hb_ HB hb
                (try clear hb); (try clear hb2); (try clear hk); (try clear hi)
                refine hK.out _ _ ⟨c_ BK348 0, ⟨c_ BK348 1, (c_ BK348 2)⟩⟩ (fun hHeld => ?_)
                clear hK K
                refine norm_ (a' := ?_) ?_ ?_
                rotate_left
                ·
                 show Act.put _ (some 52) _ = _
                 simp only [Act.put, List.setIfInBounds_toArray, List.set_cons_zero, List.set_cons_succ, i64_w, i32_w]
                 rfl
                exact norm_ (by simp only [putAll, Act.put, List.setIfInBounds_toArray, List.set_cons_zero, List.set_cons_succ]) (hCont (gb360) _ ⟨hHeld, (by (with_reducible repeat (first | apply Kd.R_alloc | apply Kd.R_drewN | apply Kd.R_drew)); exact HO_357002.out), (bq_ BK348), (bq_ BK349), (bq_ BK356), (bq_ BK360), GW360.out, GE360.out, NB348_360.out, NB360_348.out, NB349_360.out, NB360_349.out, NB356_360.out, NB360_356.out, (hq_ HB)⟩)
              rintro gb360 w41 ⟨hS_, h0_, h1_, h2_, h3_, h4_, h5_, h6_, h7_, h8_, h9_, h10_, h11_, h12_, h13_⟩
              replace HO_357002 := Aside0.mk h0_
              replace BK348 := Aside0.mk h1_
              replace BK349 := Aside0.mk h2_
              replace BK356 := Aside0.mk h3_
              have BK360 := Aside0.mk h4_
              have GW360 := Aside0.mk h5_
              have GE360 := Aside0.mk h6_
              have NB348_360 := Aside0.mk h7_
              have NB360_348 := Aside0.mk h8_
              have NB349_360 := Aside0.mk h9_
              have NB360_349 := Aside0.mk h10_
              have NB356_360 := Aside0.mk h11_
              have NB360_356 := Aside0.mk h12_
              replace HB := Aside0.mk h13_
              clear h0_ h1_ h2_ h3_ h4_ h5_ h6_ h7_ h8_ h9_ h10_ h11_ h12_ h13_
              have hHeld := hS_
              refine norm_ (a' := ?_) ?_ ?_
              rotate_left
              ·
               simp only [putAll, Act.put, List.setIfInBounds_toArray, List.set_cons_zero, List.set_cons_succ]
               rfl
              refine one_ (i := 11) (N := none) zq32.q14 rfl rfl (one_of HT_.out (by kernel_rfl)) (by decide) (fun K hK => ?_)
              have hs42 : w41.cell? ⟨gb360, 0, none⟩ = some (.int .i64 0) := (blk_cell BK360.out 0).trans rfl
              have hfs42 := blk_frozen BK360.out 0
              have hns42_0 := NB348_360.out
              have hns42_1 := NB349_360.out
              have hns42_2 := NB356_360.out
              have hms42_0 := NB360_348.out
              have hms42_1 := NB360_349.out
              have hms42_2 := NB360_356.out
              have hs43 : w41.cell? ⟨gb360, 1, none⟩ = some (.int .i64 0) := (blk_cell BK360.out 1).trans rfl
              have hfs43 := blk_frozen BK360.out 1
              have hns43_0 := NB348_360.out
              have hns43_1 := NB349_360.out
              have hns43_2 := NB356_360.out
              have hms43_0 := NB360_348.out
              have hms43_1 := NB360_349.out
              have hms43_2 := NB360_356.out
              refine skip_ (w1 := ?_) (by rfl) rfl ?_ ?_
              rotate_left
              ·
               go_simp
               rfl
              refine hK.out _ _ ⟨((cell_far (p := ⟨gb360, _, none⟩) NB348_360.out _).trans (((cell_far (p := ⟨gb360, _, none⟩) NB348_360.out _).trans (hHeld.1)))), ((cell_far (p := ⟨gb360, _, none⟩) NB348_360.out _).trans (((cell_far (p := ⟨gb360, _, none⟩) NB348_360.out _).trans (hHeld.2.1)))), ((cell_far (p := ⟨gb360, _, none⟩) NB348_360.out _).trans (((cell_far (p := ⟨gb360, _, none⟩) NB348_360.out _).trans (hHeld.2.2))))⟩ (fun hHeld => ?_)
              clear hK K
              refine done_ (done_of HT_.out (by kernel_rfl)) ?_
              try go_wp2
              have n0_ : Aside0 (Kd.R k58 58 ((w41.setCell ⟨gb360, 0, none⟩ (.int .i64 t358)).setCell ⟨gb360, 1, none⟩ (.int .i64 t359)) w.heap.size (fun _ => True) u357002 x357002_2) := ⟨by (with_reducible repeat (first | apply Kd.R_alloc | apply Kd.R_drewN | apply Kd.R_drew)); exact Kd.R_mono (Kd.R_far (p := ⟨gb360, 1, none⟩) (Kd.R_far (p := ⟨gb360, 0, none⟩) (Kd.R_types HO_357002.out BK360.out (by decide)) (fun _ hk => hk.2) (.int .i64 t358)) (fun _ hk => hk.2) (.int .i64 t359)) (fun _ hk => trivial)⟩
              have n1_ : Aside0 (((w41.setCell ⟨gb360, 0, none⟩ (.int .i64 t358)).setCell ⟨gb360, 1, none⟩ (.int .i64 t359)).heap[gb348]? = some (.cells #[.int .i64 a1_0, .int .i64 a1_1, .slice A1_2 l1_2.length c1_2] 47 (0, 0))) := bf_ BK348
              have n2_ : Aside0 (((w41.setCell ⟨gb360, 0, none⟩ (.int .i64 t358)).setCell ⟨gb360, 1, none⟩ (.int .i64 t359)).heap[gb349]? = some (.cells #[.int .i64 0, .int .i64 0, .slice none 0 0] 47 (0, 0))) := bf_ BK349
              have n3_ : Aside0 (((w41.setCell ⟨gb360, 0, none⟩ (.int .i64 t358)).setCell ⟨gb360, 1, none⟩ (.int .i64 t359)).heap[gb356]? = some (.cells #[.int .i64 t351, .int .i64 t352, u357002] 47 (0, 0))) := bf_ BK356
              have n4_ : Aside0 (((w41.setCell ⟨gb360, 0, none⟩ (.int .i64 t358)).setCell ⟨gb360, 1, none⟩ (.int .i64 t359)).heap[gb360]? = some (.cells #[.int .i64 t358, .int .i64 t359] 23 (0, 0))) := ⟨by (with_reducible repeat (first | refine blk_drewN ?_ _ | refine blk_drew ?_ | refine blk_alloc ?_ _)); refine blk_put (cs := #[.int .i64 t358, .int .i64 0]) ?_ 1 _ rfl; (with_reducible repeat (first | refine blk_drewN ?_ _ | refine blk_drew ?_ | refine blk_alloc ?_ _)); refine blk_put (cs := #[.int .i64 0, .int .i64 0]) ?_ 0 _ rfl; (with_reducible repeat (first | refine blk_drewN ?_ _ | refine blk_drew ?_ | refine blk_alloc ?_ _)); exact BK360.out⟩
              have n5_ : Aside0 (Below w.heap.size w ((w41.setCell ⟨gb360, 0, none⟩ (.int .i64 t358)).setCell ⟨gb360, 1, none⟩ (.int .i64 t359))) := ⟨by repeat (first | (with_reducible first | exact HB.out | apply below_alloc | apply pw_below_drewN | apply below_drew1 | refine below_set ?_ GE348.out | refine below_set ?_ GE349.out | refine below_set ?_ GE356.out | refine below_set ?_ GE360.out) | exact HB.out)⟩
              (try clear HO_357002)
              (try clear BK348)
              (try clear BK349)
              (try clear BK356)
              (try clear BK360)
              (try clear HB)
              generalize ((w41.setCell ⟨gb360, 0, none⟩ (.int .i64 t358)).setCell ⟨gb360, 1, none⟩ (.int .i64 t359)) = w44 at n0_ n1_ n2_ n3_ n4_ n5_ ⊢
              have HO_357002 := n0_
              have BK348 := n1_
              have BK349 := n2_
              have BK356 := n3_
              have BK360 := n4_
              have HB := n5_
              clear n0_ n1_ n2_ n3_ n4_ n5_
              replace HO_357002 := Aside0.mk (Kd.R_drew HO_357002.out)
              replace BK348 := Aside0.mk (blk_drew BK348.out)
              replace BK349 := Aside0.mk (blk_drew BK349.out)
              replace BK356 := Aside0.mk (blk_drew BK356.out)
              replace BK360 := Aside0.mk (blk_drew BK360.out)
              replace HB := Aside0.mk (below_drew1 HB.out)
              have p361 : 0 ≤ ((ji28) : Int) := of_decide_eq_true (by first | (with_reducible assumption) | assumption)
              have q361 : (ji28) < (l1_2.length : Int) := of_decide_eq_true (by first | (with_reducible assumption) | assumption)
              obtain ⟨ad361, e361, hx361_0, hx361_1, hx361_2, hx361_3⟩ := at_T58 HR1_2.out (ji28) p361 q361
              have hw361_3 := hx361_3
              have hw361_2 := hx361_2
              have hw361_1 := hx361_1
              have hw361_0 := hx361_0
              cases e361
              replace hx361_0 := (HB.out.cell (World.block_lt_of_cell? w _ hx361_0)).trans hx361_0
              replace hx361_1 := (HB.out.cell (World.block_lt_of_cell? w _ hx361_1)).trans hx361_1
              replace hx361_2 := (HB.out.cell (World.block_lt_of_cell? w _ hx361_2)).trans hx361_2
              replace hx361_3 := (HB.out.cell (World.block_lt_of_cell? w _ hx361_3)).trans hx361_3
              replace p361 := eq_true p361
              replace q361 := eq_true q361
              have p34 : 0 ≤ ((ji31) : Int) := of_decide_eq_true (by first | (with_reducible assumption) | assumption)
              have q34 : ((ji31) : Int) < ((x357002_2.length : Int) : Int) := of_decide_eq_true (by first | (with_reducible assumption) | assumption)
              obtain ⟨go34, co34, eo34, gb34, gl34, cl34, HG34⟩ := Kd.R_form HO_357002.out (by omega)
              (first | cases eo34 | (injection eo34 with ea_ en_ ec_; (first | subst ea_ | (injection ea_ with ea_; subst ea_)); subst ec_; clear en_))
              have GB34 := Aside0.mk gb34
              have GG34 := Aside0.mk HG34
              clear gb34 gl34 HG34
              obtain ⟨ce34, hcl34, hM34, hcc34, hfr34⟩ := Kd.R_elem HO_357002.out z58 ((ji31) : Int) p34 q34
              obtain rfl := k58_openM hM34
              have hx34_0 : World.cell? _ ⟨go34, ((ji31) : Int).toNat * 4, none⟩ = some (.int .u8 ((rd_T58 x357002_2 (ji31)).f0)) := hcc34 0 _ rfl
              have hx34_1 : World.cell? _ ⟨go34, ((ji31) : Int).toNat * 4 + 1, none⟩ = some (.int .u8 ((rd_T58 x357002_2 (ji31)).f1)) := hcc34 1 _ rfl
              have hx34_2 : World.cell? _ ⟨go34, ((ji31) : Int).toNat * 4 + 2, none⟩ = some (.int .u8 ((rd_T58 x357002_2 (ji31)).f2)) := hcc34 2 _ rfl
              have hx34_3 : World.cell? _ ⟨go34, ((ji31) : Int).toNat * 4 + 3, none⟩ = some (.int .u8 ((rd_T58 x357002_2 (ji31)).f3)) := hcc34 3 _ rfl
              have hf34_0 : World.frozen? _ ⟨go34, ((ji31) : Int).toNat * 4, none⟩ = false := hfr34 0
              have hf34_1 : World.frozen? _ ⟨go34, ((ji31) : Int).toNat * 4 + 1, none⟩ = false := hfr34 1
              have hf34_2 : World.frozen? _ ⟨go34, ((ji31) : Int).toNat * 4 + 2, none⟩ = false := hfr34 2
              have hf34_3 : World.frozen? _ ⟨go34, ((ji31) : Int).toNat * 4 + 3, none⟩ = false := hfr34 3
              clear hcl34 hcc34 hfr34 hM34
              replace p34 := eq_true p34
              replace q34 := eq_true q34
              obtain ⟨ce46, hcl46, hM46, hcc46, hfr46⟩ := Kd.R_elem HO_357002.out z58 ((ji31) : Int) (of_decide_eq_true (by first | (with_reducible assumption) | assumption)) (by have h_ : ((ji31) : Int) < ((x357002_2.length : Int) : Int) := of_decide_eq_true (by first | (with_reducible assumption) | assumption); first | exact h_ | (have e_ := (Kd.R_reads' HO_357002.out).1; omega) | simpa using h_)
              obtain rfl := k58_openM hM46
              have HP46 := (Kd.R_seg HO_357002.out ((ji31) : Int) (of_decide_eq_true (by first | (with_reducible assumption) | assumption)) (by have h_ : ((ji31) : Int) < ((x357002_2.length : Int) : Int) := of_decide_eq_true (by first | (with_reducible assumption) | assumption); first | exact h_ | (have e_ := (Kd.R_reads' HO_357002.out).1; omega) | simpa using h_) (seg := [.int .u8 ((rd_T58 l1_2 (ji28)).f0), .int .u8 ((rd_T58 l1_2 (ji28)).f1), .int .u8 ((rd_T58 l1_2 (ji28)).f2), .int .u8 ((rd_T58 l1_2 (ji28)).f3)]) (j := 0) hcl46 hcc46 (show 4 ≤ 4 from by decide) (x' := (⟨(rd_T58 l1_2 (ji28)).f0, (rd_T58 l1_2 (ji28)).f1, (rd_T58 l1_2 (ji28)).f2, (rd_T58 l1_2 (ji28)).f3⟩ : S58)) (k58_mkM _ _ _ (⟨(rd_T58 l1_2 (ji28)).f0, (rd_T58 l1_2 (ji28)).f1, (rd_T58 l1_2 (ji28)).f2, (rd_T58 l1_2 (ji28)).f3⟩ : S58) ) (fun _ hk => hk)).1
              rw [← Ny362.out] at HP46
              have HQ46 := Aside0.mk HP46
              clear hcl46 hcc46 hfr46 hM46 HP46
              refine start_ (n := 21) (S := fun w' => w'.cell? ⟨gb356, 0, none⟩ = some (.int .i64 t351) ∧ w'.cell? ⟨gb356, 1, none⟩ = some (.int .i64 t352) ∧ w'.cell? ⟨gb356, 2, none⟩ = some (.slice (some ⟨go34, 0, none⟩) x357002_2.length co34) ∧ w'.cell? ⟨gb360, 0, none⟩ = some (.int .i64 t358) ∧ w'.cell? ⟨gb360, 1, none⟩ = some (.int .i64 t359) ∧ w'.cell? ⟨gb348, 0, none⟩ = some (.int .i64 a1_0) ∧ w'.cell? ⟨gb348, 1, none⟩ = some (.int .i64 a1_1) ∧ w'.cell? ⟨gb348, 2, none⟩ = some (.slice (some ad361) l1_2.length c1_2) ∧ w'.cell? (ad361.add (((ji28)).toNat * 4)) = some (.int .u8 ((rd_T58 l1_2 (ji28)).f0)) ∧ w'.cell? ⟨(ad361.add (((ji28)).toNat * 4)).block, (ad361.add (((ji28)).toNat * 4)).off + 1, none⟩ = some (.int .u8 ((rd_T58 l1_2 (ji28)).f1)) ∧ w'.cell? ⟨(ad361.add (((ji28)).toNat * 4)).block, (ad361.add (((ji28)).toNat * 4)).off + 2, none⟩ = some (.int .u8 ((rd_T58 l1_2 (ji28)).f2)) ∧ w'.cell? ⟨(ad361.add (((ji28)).toNat * 4)).block, (ad361.add (((ji28)).toNat * 4)).off + 3, none⟩ = some (.int .u8 ((rd_T58 l1_2 (ji28)).f3))) (ds := [20]) zq32.q15 (by kernel_rfl) rfl rfl ⟨(blk_cell BK356.out 0).trans rfl, (blk_cell BK356.out 1).trans rfl, (blk_cell BK356.out 2).trans rfl, (blk_cell BK360.out 0).trans rfl, (blk_cell BK360.out 1).trans rfl, (blk_cell BK348.out 0).trans rfl, (blk_cell BK348.out 1).trans rfl, (blk_cell BK348.out 2).trans rfl, ((HB.out.cell (World.block_lt_of_cell? w _ hw361_0)).trans hw361_0), ((HB.out.cell (World.block_lt_of_cell? w _ hw361_1)).trans hw361_1), ((HB.out.cell (World.block_lt_of_cell? w _ hw361_2)).trans hw361_2), ((HB.out.cell (World.block_lt_of_cell? w _ hw361_3)).trans hw361_3)⟩ (fun hHeld => ?_); refine with_tabW compositorref07_Pixels.tab12 compositorref07_Pixels.bits12 (fun HT_ HW_ => ?_)
              generalize w44.drew = w45 at HO_357002 BK348 BK349 BK356 BK360 HB GG34 HQ46 hf34_0 hf34_1 hf34_2 hf34_3 hx34_0 hx34_1 hx34_2 hx34_3 hx361_0 hx361_1 hx361_2 hx361_3 hHeld ⊢
              refine pv_ 0 53 zq32.q16 HT_ ?_
              refine pv_ 2 55 zq32.q17 HT_ ?_
              refine pv_ 4 57 zq32.q18 HT_ ?_
              refine pv_ 6 59 zq32.q19 HT_ ?_
              refine pv_ 9 62 zq32.q20 HT_ ?_
              refine pv_ 11 64 zq32.q21 HT_ ?_
              refine pv_ 12 65 zq32.q22 HT_ ?_
              refine pv_ 15 68 zq32.q23 HT_ ?_
              refine tk12_ 1 54 zq32.q24 HT_ HW_ hHeld ?_
              refine tk12_ 3 56 zq32.q25 HT_ HW_ hHeld ?_
              refine pv_ 5 58 zq32.q26 HT_ ?_
              refine tk12_ 7 60 zq32.q27 HT_ HW_ hHeld ?_
              refine pv_ 8 61 zq32.q28 HT_ ?_
              refine tk12_ 10 63 zq32.q29 HT_ HW_ hHeld ?_
              refine tk12_ 13 66 zq32.q30 HT_ HW_ hHeld ?_
              refine pv_ 14 67 zq32.q31 HT_ ?_
              refine pv_ 16 69 zq32.q32 HT_ ?_
              refine pv_ 17 70 zq32.q33 HT_ ?_
              refine tk12_ 18 71 zq32.q34 HT_ HW_ hHeld ?_
              refine pv_ 19 72 zq32.q35 HT_ ?_
              refine last_ (i := 20) (N := none) zq32.q36 rfl rfl (one_of HT_.out (by kernel_rfl)) (by decide) (fun K hK => ?_)
              refine skip_ (w1 := ?_) (by rfl) rfl ?_ ?_
              rotate_left
              ·
               go_simp
               rfl
              refine hK.out _ _ ?_
              clear hK K
              refine done_ (done_of HT_.out (by kernel_rfl)) ?_
              try go_wp2
              go_roundg k2
              case measure => have := HK1.out; have := HK2.out; omega
              case rel => exact ⟨(wrap64 (x9_2 + 1)), (y362), (.slice (some ⟨go34, 0, none⟩) x357002_2.length co34), (by first | rfl | (simp; done) | (simp [*]; done)), H', ⟨by have := HK1.out; have := HK2.out; omega⟩, ⟨by (with_reducible repeat (first | apply Kd.R_alloc | apply Kd.R_drewN | apply Kd.R_drew)); exact HQ46.out⟩, ⟨by (with_reducible repeat (first | refine blk_drewN ?_ _ | refine blk_drew ?_ | refine blk_alloc ?_ _)); refine blk_far ?_ (by have h_ := Kd.R_ne HO_357002.out BK348.out (by decide); intro e_; exact h_ (by rw [e_]; rfl)) _; (with_reducible repeat (first | refine blk_drewN ?_ _ | refine blk_drew ?_ | refine blk_alloc ?_ _)); refine blk_far ?_ (by have h_ := Kd.R_ne HO_357002.out BK348.out (by decide); intro e_; exact h_ (by rw [e_]; rfl)) _; (with_reducible repeat (first | refine blk_drewN ?_ _ | refine blk_drew ?_ | refine blk_alloc ?_ _)); refine blk_far ?_ (by have h_ := Kd.R_ne HO_357002.out BK348.out (by decide); intro e_; exact h_ (by rw [e_]; rfl)) _; (with_reducible repeat (first | refine blk_drewN ?_ _ | refine blk_drew ?_ | refine blk_alloc ?_ _)); refine blk_far ?_ (by have h_ := Kd.R_ne HO_357002.out BK348.out (by decide); intro e_; exact h_ (by rw [e_]; rfl)) _; (with_reducible repeat (first | refine blk_drewN ?_ _ | refine blk_drew ?_ | refine blk_alloc ?_ _)); exact BK348.out⟩, ⟨by (with_reducible repeat (first | refine blk_drewN ?_ _ | refine blk_drew ?_ | refine blk_alloc ?_ _)); refine blk_far ?_ (by have h_ := Kd.R_ne HO_357002.out BK349.out (by decide); intro e_; exact h_ (by rw [e_]; rfl)) _; (with_reducible repeat (first | refine blk_drewN ?_ _ | refine blk_drew ?_ | refine blk_alloc ?_ _)); refine blk_far ?_ (by have h_ := Kd.R_ne HO_357002.out BK349.out (by decide); intro e_; exact h_ (by rw [e_]; rfl)) _; (with_reducible repeat (first | refine blk_drewN ?_ _ | refine blk_drew ?_ | refine blk_alloc ?_ _)); refine blk_far ?_ (by have h_ := Kd.R_ne HO_357002.out BK349.out (by decide); intro e_; exact h_ (by rw [e_]; rfl)) _; (with_reducible repeat (first | refine blk_drewN ?_ _ | refine blk_drew ?_ | refine blk_alloc ?_ _)); refine blk_far ?_ (by have h_ := Kd.R_ne HO_357002.out BK349.out (by decide); intro e_; exact h_ (by rw [e_]; rfl)) _; (with_reducible repeat (first | refine blk_drewN ?_ _ | refine blk_drew ?_ | refine blk_alloc ?_ _)); exact BK349.out⟩, ⟨by (with_reducible repeat (first | refine blk_drewN ?_ _ | refine blk_drew ?_ | refine blk_alloc ?_ _)); refine blk_far ?_ (by have h_ := Kd.R_ne HO_357002.out BK356.out (by decide); intro e_; exact h_ (by rw [e_]; rfl)) _; (with_reducible repeat (first | refine blk_drewN ?_ _ | refine blk_drew ?_ | refine blk_alloc ?_ _)); refine blk_far ?_ (by have h_ := Kd.R_ne HO_357002.out BK356.out (by decide); intro e_; exact h_ (by rw [e_]; rfl)) _; (with_reducible repeat (first | refine blk_drewN ?_ _ | refine blk_drew ?_ | refine blk_alloc ?_ _)); refine blk_far ?_ (by have h_ := Kd.R_ne HO_357002.out BK356.out (by decide); intro e_; exact h_ (by rw [e_]; rfl)) _; (with_reducible repeat (first | refine blk_drewN ?_ _ | refine blk_drew ?_ | refine blk_alloc ?_ _)); refine blk_far ?_ (by have h_ := Kd.R_ne HO_357002.out BK356.out (by decide); intro e_; exact h_ (by rw [e_]; rfl)) _; (with_reducible repeat (first | refine blk_drewN ?_ _ | refine blk_drew ?_ | refine blk_alloc ?_ _)); exact BK356.out⟩, ⟨by repeat (first | (with_reducible first | exact HB.out | apply below_alloc | apply pw_below_drewN | apply below_drew1 | refine below_set ?_ GB34.out | refine below_set ?_ GB34.out | refine below_set ?_ GB34.out | refine below_set ?_ GB34.out | refine below_set ?_ GE348.out | refine below_set ?_ GE349.out | refine below_set ?_ GE356.out | refine below_set ?_ GE360.out) | exact HB.out)⟩⟩
             ·
              rw [if_neg c33] at H
              exact absurd H (by simp)
            ·
             rw [if_neg c32] at H
             exact absurd H (by simp)
           ·
            rw [if_neg c30] at H
            exact absurd H (by simp)
          ·
           rw [if_neg c29] at H
           exact absurd H (by simp)
         ·
          rw [if_neg c25] at H
          have c25b0 : decide (x9_2 < a1_0) = false := decide_eq_false c25
          clear c25
          have H' := Aside0.mk H
          clear H
          have hnb47 := NB348_349.out
          have hnc47 := NB349_348.out
          have hnb48 := NB348_356.out
          have hnc48 := NB356_348.out
          have hcz49_0 : wr.cell? ⟨gb348, 0, none⟩ = some (.int .i64 a1_0) := (blk_cell BK348.out 0).trans rfl
          have hcz49_1 : wr.cell? ⟨gb348, 1, none⟩ = some (.int .i64 a1_1) := (blk_cell BK348.out 1).trans rfl
          have hcz49_2 : wr.cell? ⟨gb348, 2, none⟩ = some (.slice A1_2 l1_2.length c1_2) := (blk_cell BK348.out 2).trans rfl
          have hfz49_0 := blk_frozen BK348.out 0
          have hfz49_1 := blk_frozen BK348.out 1
          have hfz49_2 := blk_frozen BK348.out 2
          go_wp2
          go_roundg k2
          case measure => have := HK1.out; have := HK2.out; omega
          case rel => exact ⟨(wrap64 (x8_1 + 1)), (x357002_2), (u357002), (by first | rfl | (simp; done) | (simp [*]; done)), H', ⟨by have := HK1.out; have := HK2.out; omega⟩, ⟨by (with_reducible repeat (first | apply Kd.R_alloc | apply Kd.R_drewN | apply Kd.R_drew)); exact HO_357002.out⟩, bf_ BK348, bf_ BK349, bf_ BK356, ⟨by repeat (first | (with_reducible first | exact HB.out | apply below_alloc | apply pw_below_drewN | apply below_drew1 | refine below_set ?_ GE348.out | refine below_set ?_ GE349.out | refine below_set ?_ GE356.out) | exact HB.out)⟩⟩
      ·
       rw [if_neg c21] at H
       have c21b0 : decide (x8_1 < a1_1) = false := decide_eq_false c21
       clear c21
       simp only [Option.some.injEq, Prod.mk.injEq] at H
       obtain ⟨rfl, rfl, rfl⟩ := H
       have hnb50 := NB348_349.out
       have hnc50 := NB349_348.out
       have hnb51 := NB348_356.out
       have hnc51 := NB356_348.out
       have hcz52_0 : wr.cell? ⟨gb348, 0, none⟩ = some (.int .i64 a1_0) := (blk_cell BK348.out 0).trans rfl
       have hcz52_1 : wr.cell? ⟨gb348, 1, none⟩ = some (.int .i64 a1_1) := (blk_cell BK348.out 1).trans rfl
       have hcz52_2 : wr.cell? ⟨gb348, 2, none⟩ = some (.slice A1_2 l1_2.length c1_2) := (blk_cell BK348.out 2).trans rfl
       have hfz52_0 := blk_frozen BK348.out 0
       have hfz52_1 := blk_frozen BK348.out 1
       have hfz52_2 := blk_frozen BK348.out 2
       have hnb53 := NB356_349.out
       have hnc53 := NB349_356.out
       have hcz54_0 : wr.cell? ⟨gb356, 0, none⟩ = some (.int .i64 t351) := (blk_cell BK356.out 0).trans rfl
       have hcz54_1 : wr.cell? ⟨gb356, 1, none⟩ = some (.int .i64 t352) := (blk_cell BK356.out 1).trans rfl
       have hcz54_2 : wr.cell? ⟨gb356, 2, none⟩ = some (u357002) := (blk_cell BK356.out 2).trans rfl
       have hfz54_0 := blk_frozen BK356.out 0
       have hfz54_1 := blk_frozen BK356.out 1
       have hfz54_2 := blk_frozen BK356.out 2
       have hcz55_0 : wr.cell? ⟨gb349, 0, none⟩ = some (.int .i64 0) := (blk_cell BK349.out 0).trans rfl
       have hcz55_1 : wr.cell? ⟨gb349, 1, none⟩ = some (.int .i64 0) := (blk_cell BK349.out 1).trans rfl
       have hcz55_2 : wr.cell? ⟨gb349, 2, none⟩ = some (.slice none 0 0) := (blk_cell BK349.out 2).trans rfl
       have hfz55_0 := blk_frozen BK349.out 0
       have hfz55_1 := blk_frozen BK349.out 1
       have hfz55_2 := blk_frozen BK349.out 2
       obtain ⟨Ao56, co56, eo56⟩ := Kd.R_slice HO_357002.out
       subst eo56
       go_wp2
       refine bodyPost_ret (results_cell_row rfl _ _ gb349 47 #[.int .i64 t351, .int .i64 t352, .slice Ao56 x357002_1.length co56] (0, 0) _ rfl (by (with_reducible repeat (first | refine blk_drewN ?_ _ | refine blk_drew ?_ | refine blk_alloc ?_ _)); refine blk_put (cs := #[.int .i64 t351, .int .i64 t352, .slice none 0 0]) ?_ 2 _ rfl; (with_reducible repeat (first | refine blk_drewN ?_ _ | refine blk_drew ?_ | refine blk_alloc ?_ _)); refine blk_put (cs := #[.int .i64 t351, .int .i64 0, .slice none 0 0]) ?_ 1 _ rfl; (with_reducible repeat (first | refine blk_drewN ?_ _ | refine blk_drew ?_ | refine blk_alloc ?_ _)); refine blk_put (cs := #[.int .i64 0, .int .i64 0, .slice none 0 0]) ?_ 0 _ rfl; (with_reducible repeat (first | refine blk_drewN ?_ _ | refine blk_drew ?_ | refine blk_alloc ?_ _)); exact BK349.out) Tryd.underlying47 rfl (by kernel_rfl)) rfl ?_
       exact ⟨_, by first | rfl | (simp [errW_none, errW_some] <;> rfl) | (simp [*, errW_none, errW_some] <;> rfl), by (with_reducible repeat (first | apply Kd.R_alloc | apply Kd.R_drewN | apply Kd.R_drew)); exact Kd.R_mono (Kd.R_far (p := ⟨gb349, 2, none⟩) (Kd.R_far (p := ⟨gb349, 1, none⟩) (Kd.R_far (p := ⟨gb349, 0, none⟩) (Kd.R_types HO_357002.out BK349.out (by decide)) (fun _ hk => hk.2) (.int .i64 t351)) (fun _ hk => hk.2) (.int .i64 t352)) (fun _ hk => hk.2) (.slice Ao56 x357002_1.length co56)) (fun _ hk => trivial), by repeat (first | (with_reducible first | exact HB.out | apply below_alloc | apply pw_below_drewN | apply below_drew1 | refine below_set ?_ GE348.out | refine below_set ?_ GE349.out | refine below_set ?_ GE356.out) | exact HB.out)⟩
   ·
    rw [if_neg c7] at H
    exact absurd H (by simp)
  ·
   rw [if_neg c6] at H
   exact absurd H (by simp)
 ·
  replace c4 := Bool.eq_false_iff.mpr c4
  subst c4
  have H1 : (some (0, 0, ([] : List (S58)))) = some (r1, r2, r3) := by rw [if_neg (show ¬ (false = true) by decide)] at H; exact H
  clear H
  have H := H1
  clear H1
  simp only [Option.some.injEq, Prod.mk.injEq] at H
  obtain ⟨rfl, rfl, rfl⟩ := H
  go_enter Tryd.func32, Tryd.ntmps32
  go_wp2_with (first | ((with_reducible refine gate_dst (N := 3) rfl ?_); refine box_event ?hg (N := 3) ?hd (cs := #[.int .i64 a1_0, .int .i64 a1_1, .slice A1_2 l1_2.length c1_2]) (t := 47) ?hr ?_; (case hd => rfl); (case hg => rfl); (case hr => first | (go_simp; done) | (go_simp; rfl)); intro gb348 hg w57 hbox hb; have n0_ := hb_ HB hb; have n1_ := Aside0.mk (hbox); have n2_ := Aside0.mk ((by rw [hg]; exact (below_size (hq_ HB)) : w.heap.size ≤ gb348)); have n3_ := Aside0.mk ((by rw [hg]; exact (below_size (hq_ HB)) : w.heap.size ≤ gb348)); clear HB; have HB := n0_; have BK348 := n1_; have GW348 := n2_; have GE348 := n3_; clear n0_ n1_ n2_ n3_; clear hb hbox hg) | ((with_reducible refine gate_dst (N := 4) rfl ?_); refine box_event ?hg (N := 4) ?hd (cs := #[.int .i64 0, .int .i64 0, .slice none 0 0]) (t := 47) ?hr ?_; (case hd => rfl); (case hg => rfl); (case hr => first | (go_simp; done) | (go_simp; rfl)); intro gb349 hg w58 hbox hb; have n0_ := bb_ BK348 hb; have n1_ := hb_ HB hb; have n2_ := Aside0.mk (hbox); have n3_ := Aside0.mk ((by rw [hg]; exact (below_size (hq_ HB)) : w.heap.size ≤ gb349)); have n4_ := Aside0.mk ((by rw [hg]; exact (below_size (hq_ HB)) : w.heap.size ≤ gb349)); have n5_ := Aside0.mk ((by rw [hg]; exact Nat.ne_of_lt (blk_lt (g := gb348) (o := .cells #[.int .i64 a1_0, .int .i64 a1_1, .slice A1_2 l1_2.length c1_2] 47 (0, 0)) (bq_ BK348)) : gb348 ≠ gb349)); have n6_ := Aside0.mk ((by rw [hg]; exact Nat.ne_of_gt (blk_lt (g := gb348) (o := .cells #[.int .i64 a1_0, .int .i64 a1_1, .slice A1_2 l1_2.length c1_2] 47 (0, 0)) (bq_ BK348)) : gb349 ≠ gb348)); clear BK348; clear HB; have BK348 := n0_; have HB := n1_; have BK349 := n2_; have GW349 := n3_; have GE349 := n4_; have NB348_349 := n5_; have NB349_348 := n6_; clear n0_ n1_ n2_ n3_ n4_ n5_ n6_; clear hb hbox hg; have hnb59 := NB348_349.out; have hnc59 := NB349_348.out; have hcz60_0 : w58.cell? ⟨gb348, 0, none⟩ = some (.int .i64 a1_0) := (blk_cell BK348.out 0).trans rfl; have hcz60_1 : w58.cell? ⟨gb348, 1, none⟩ = some (.int .i64 a1_1) := (blk_cell BK348.out 1).trans rfl; have hcz60_2 : w58.cell? ⟨gb348, 2, none⟩ = some (.slice A1_2 l1_2.length c1_2) := (blk_cell BK348.out 2).trans rfl; have hfz60_0 := blk_frozen BK348.out 0; have hfz60_1 := blk_frozen BK348.out 1; have hfz60_2 := blk_frozen BK348.out 2) | ((with_reducible refine gate_callee (f := 44) rfl ?_); refine goesL_ (some 12) rfl rfl Tryd.func44 (by kernel_rfl) rfl #[.agg #[.int .i64 a1_0, .int .i64 a1_1, .slice A1_2 l1_2.length c1_2]] rfl (by (try simp only [List.map_toArray, List.map_cons, List.map_nil]) <;> rfl) ?_; (with_reducible refine (compositorref07_valid.calls k a1_0 a1_1 _ _ l1_2 false _ ?side1 ?side2 A3.out).mono ?_); (case side1 => repeat (first | exact (Kd.C_below HR1_2.out HB.out) | (with_reducible refine Kd.C_alloc ?_ _) | (with_reducible refine Kd.C_drewN ?_ _) | (with_reducible refine Kd.C_drew ?_))); (case side2 => exact HC1_2.out); rintro e w61 ⟨rfl, hb⟩; refine ⟨_, rfl, ?_⟩; have n0_ := bb_ BK348 hb; have n1_ := bb_ BK349 hb; have n2_ := hb_ HB hb; clear BK348; clear BK349; clear HB; have BK348 := n0_; have BK349 := n1_; have HB := n2_; clear n0_ n1_ n2_; (try clear hb); (try clear hb2); (try clear hk); (try clear hi); have hcz62_0 : w61.cell? ⟨gb349, 0, none⟩ = some (.int .i64 0) := (blk_cell BK349.out 0).trans rfl; have hcz62_1 : w61.cell? ⟨gb349, 1, none⟩ = some (.int .i64 0) := (blk_cell BK349.out 1).trans rfl; have hcz62_2 : w61.cell? ⟨gb349, 2, none⟩ = some (.slice none 0 0) := (blk_cell BK349.out 2).trans rfl; have hfz62_0 := blk_frozen BK349.out 0; have hfz62_1 := blk_frozen BK349.out 1; have hfz62_2 := blk_frozen BK349.out 2))
  refine bodyPost_ret (results_cell_row rfl _ _ gb349 47 #[.int .i64 0, .int .i64 0, .slice none 0 0] (0, 0) _ rfl (by (with_reducible repeat (first | refine blk_drewN ?_ _ | refine blk_drew ?_ | refine blk_alloc ?_ _)); refine blk_put (cs := #[.int .i64 0, .int .i64 0, .slice none 0 0]) ?_ 2 _ rfl; (with_reducible repeat (first | refine blk_drewN ?_ _ | refine blk_drew ?_ | refine blk_alloc ?_ _)); refine blk_put (cs := #[.int .i64 0, .int .i64 0, .slice none 0 0]) ?_ 1 _ rfl; (with_reducible repeat (first | refine blk_drewN ?_ _ | refine blk_drew ?_ | refine blk_alloc ?_ _)); refine blk_put (cs := #[.int .i64 0, .int .i64 0, .slice none 0 0]) ?_ 0 _ rfl; (with_reducible repeat (first | refine blk_drewN ?_ _ | refine blk_drew ?_ | refine blk_alloc ?_ _)); exact BK349.out) Tryd.underlying47 rfl (by kernel_rfl)) rfl ?_
  exact ⟨_, by first | rfl | (simp [errW_none, errW_some] <;> rfl) | (simp [*, errW_none, errW_some] <;> rfl), by first | exact Kd.R_nil _ _ _ _ _ | exact Kd.N_nil _ _ _ _ _ | exact Kd.V_nil _ _ _ _ _ | exact Kd.Q_nil _ _ _ _ _ | exact Kd.S_nil _ _ _ _ _, by repeat (first | (with_reducible first | exact HB.out | apply below_alloc | apply pw_below_drewN | apply below_drew1 | refine below_set ?_ GE348.out | refine below_set ?_ GE349.out) | exact HB.out)⟩

end Go.Proofs.YtpihfglghcoojaaDoor.All
