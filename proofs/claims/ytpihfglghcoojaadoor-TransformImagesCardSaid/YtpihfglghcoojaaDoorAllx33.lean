-- Written by a program of this session, which runs the kit's print.py and puts in functions that this session typed. Not trusted: Lean checks it.
import Derived.Test.YtpihfglghcoojaaDoorHand
import Derived.Test.YtpihfglghcoojaaDoorAllx0
import Derived.Test.YtpihfglghcoojaaDoorAllx4
import Derived.Test.YtpihfglghcoojaaDoorAllx10
import Derived.Test.YtpihfglghcoojaaDoorAllx32
namespace Go.Proofs.YtpihfglghcoojaaDoor.All
open Go.Proofs.YtpihfglghcoojaaDoorSq
open Go.RowKit Go.Proofs.YtpihfglghcoojaaDoorW.PrintWords Go.Proofs.YtpihfglghcoojaaDoorW.PrintLast Go.Proofs.YtpihfglghcoojaaDoorW.PrintMore
attribute [local go_sem] max2_int min2_int max_two min_two max_three min_three max_four min_four   -- for this text's walks alone
set_option linter.unusedVariables false
set_option linter.unusedSimpArgs false

/-! ### transform_Pixels: function 31 -/
abbrev zq31.q0 : Array Bool := #[false, false, false, false, false, false, false, false, false, false, false, false, false, false, false, false, false, false]
abbrev zq31.q1 : Array Bool := #[true, false, false, false, false, false, false, false, false, false, false, false, false, false, false, false, false, false]
abbrev zq31.q2 : Array Bool := #[true, false, true, false, false, false, false, false, false, false, false, false, false, false, false, false, false, false]
abbrev zq31.q3 : Array Bool := #[true, false, true, false, true, false, false, false, false, false, false, false, false, false, false, false, false, false]
abbrev zq31.q4 : Array Bool := #[true, false, true, false, true, false, true, false, false, false, false, false, false, false, false, false, false, false]
abbrev zq31.q5 : Array Bool := #[true, false, true, false, true, false, true, true, false, false, false, false, false, false, false, false, false, false]
abbrev zq31.q6 : Array Bool := #[true, false, true, false, true, false, true, true, false, false, true, false, false, false, false, false, false, false]
abbrev zq31.q7 : Array Bool := #[true, false, true, false, true, false, true, true, false, false, true, true, false, false, false, false, false, false]
abbrev zq31.q8 : Array Bool := #[true, false, true, true, true, false, true, true, false, false, true, true, false, false, false, false, false, false]
abbrev zq31.q9 : Array Bool := #[true, false, true, true, true, true, true, true, false, false, true, true, false, false, false, false, false, false]
abbrev zq31.q10 : Array Bool := #[true, false, true, true, true, true, true, true, true, false, true, true, false, false, false, false, false, false]
abbrev zq31.q11 : Array Bool := #[true, false, true, true, true, true, true, true, true, true, true, true, false, false, false, false, false, false]
abbrev zq31.q12 : Array Bool := #[true, false, true, true, true, true, true, true, true, true, true, true, true, false, false, false, false, false]
abbrev zq31.q13 : Array Bool := #[true, false, true, true, true, true, true, true, true, true, true, true, true, true, false, false, false, false]
abbrev zq31.q14 : Array Bool := #[true, false, true, true, true, true, true, true, true, true, true, true, true, true, true, false, false, false]
abbrev zq31.q15 : Array Bool := #[true, true, true, true, true, true, true, true, true, true, true, true, true, true, true, true, true, false]
abbrev zq31.q16 : Array Bool := #[true, true, true, true, true, true, true, true, true, true, true, true, true, true, true, false, false, false]
abbrev zq31.q17 : Array Bool := #[true, false, true, true, true, true, true, true, true, true, true, true, true, true, true, false, true, false]
abbrev zq31.q18 : Array Bool := #[true, true, true, true, true, true, true, true, true, true, true, true, true, true, true, true, false, false]
abbrev zq31.q19 : Array Bool := #[true, true, true, true, true, true, true, true, true, true, true, true, true, true, true, false, true, false]
abbrev zq31.q20 : Array Bool := #[true, true, true, true, true, true, true, true, true, true, true, true, true, true, true, true, true, true]
def transform_Pixels.l0 : Nat → Int → Int → List (S58) → Int → Int → Int → Int → List (S58) → Int → Int → List (S58) → Option (Int × Int × (List (S58)))
 | 0, _, _, _, _, _, _, _, _, _, _, _ => none
 | k + 1, x0, x5, x32, x33, x34, x330000, x330001, x330002, x338000, x338001, x338002 => if x34 < x33 then (if 0 ≤ x34 then (if x34 < (x32.length : Int) then ((transform_normal.f x0).bind fun t340 => (if x330000 = 0 then (none) else ((transform_apply.f k t340 x330000 x330001 (Int.tmod x34 x330000) (wrap64 (Int.tdiv x34 x330000))).bind fun bt341 => (if 0 ≤ (wrap64 ((wrap64 (bt341.2 * x5)) + bt341.1)) then (if (wrap64 ((wrap64 (bt341.2 * x5)) + bt341.1)) < (x338002.length : Int) then (transform_Pixels.l0 k x0 x5 x32 x33 (wrap64 (x34 + 1)) x330000 x330001 x330002 x338000 x338001 (x338002.set ((wrap64 ((wrap64 (bt341.2 * x5)) + bt341.1)) : Int).toNat (⟨(rd_T58 x32 x34).f0, (rd_T58 x32 x34).f1, (rd_T58 x32 x34).f2, (rd_T58 x32 x34).f3⟩ : S58))) else (none)) else (none))))) else (none)) else (none)) else (some (x338000, x338001, x338002))
def transform_Pixels.f (k : Nat) (a0 : Int) (a1_0 : Int) (a1_1 : Int) (l1_2 : List (S58)) : Option (Int × Int × (List (S58))) := (transform_valid.f a1_0 a1_1 l1_2).bind fun t331 => (if t331 = true then ((transform_Size.f a0 a1_0 a1_1).bind fun bt332 => (if 0 ≤ (wrap64 (bt332.1 * bt332.2)) then (if (wrap64 (bt332.1 * bt332.2) : Int).toNat ≤ 70368744177664 then (transform_Pixels.l0 k a0 bt332.1 l1_2 (l1_2.length : Int) 0 a1_0 a1_1 l1_2 bt332.1 bt332.2 (List.replicate (wrap64 (bt332.1 * bt332.2) : Int).toNat z58)) else (none)) else (none))) else (some (0, 0, ([] : List (S58)))))
theorem transform_Pixels.mono_l : ∀ k, (∀ y0 y1 y2 y3 y4 y5 y6 y7 y8 y9 y10, LeO (transform_Pixels.l0 k y0 y1 y2 y3 y4 y5 y6 y7 y8 y9 y10) (transform_Pixels.l0 (k + 1) y0 y1 y2 y3 y4 y5 y6 y7 y8 y9 y10))
 | 0 => fun _ _ _ _ _ _ _ _ _ _ _ r h => by simp [transform_Pixels.l0] at h
 | k + 1 => by
  have ih0 := transform_Pixels.mono_l k
  ·
   intro y0 y1 y2 y3 y4 y5 y6 y7 y8 y9 y10
   unfold transform_Pixels.l0
   repeat' first
   | (with_reducible exact ih0 _ _ _ _ _ _ _ _ _ _ _)
   | (with_reducible exact transform_apply.mono _ _ _ _ _ _)
   | (with_reducible exact LeO.refl _)
   | (with_reducible exact LeO.none _)
   | (with_reducible refine LeO.ite ?_ ?_)
   | (with_reducible refine LeO.bind ?_ (fun _ => ?_))
   | exact ih0 _ _ _ _ _ _ _ _ _ _ _
   | exact transform_apply.mono _ _ _ _ _ _
   | exact LeO.none _
   | refine LeO.ite ?_ ?_
   | refine LeO.bind ?_ (fun _ => ?_)
theorem transform_Pixels.mono : ∀ a0 a1 a2 a3 k, LeO (transform_Pixels.f k a0 a1 a2 a3) (transform_Pixels.f (k + 1) a0 a1 a2 a3) := by
 intro a0 a1 a2 a3 k
 have ih0 := transform_Pixels.mono_l k
 unfold transform_Pixels.f
 repeat' first
   | (with_reducible exact ih0 _ _ _ _ _ _ _ _ _ _ _)
   | (with_reducible exact transform_apply.mono _ _ _ _ _ _)
   | (with_reducible exact LeO.refl _)
   | (with_reducible exact LeO.none _)
   | (with_reducible refine LeO.ite ?_ ?_)
   | (with_reducible refine LeO.bind ?_ (fun _ => ?_))
   | exact ih0 _ _ _ _ _ _ _ _ _ _ _
   | exact transform_apply.mono _ _ _ _ _ _
   | exact LeO.none _
   | refine LeO.ite ?_ ?_
   | refine LeO.bind ?_ (fun _ => ?_)
def transform_Pixels.T8 : Bool × List (List Nat × List Nat) := (true, [([], []), ([0], [0]), ([], []), ([2], [2]), ([], []), ([4], [4]), ([], []), ([], []), ([7], [7]), ([6, 8], [6, 8]), ([], []), ([], []), ([11], [11]), ([10, 12], [10, 12]), ([9, 13], [9, 13]), ([1, 3, 5, 14, 1], [1, 3, 5, 14]), ([], []), ([16, 15, 15, 0, 1, 2, 3, 4, 5, 6, 7, 8, 9, 10, 11, 12, 13, 14, 15, 16], [15, 16])])
def transform_Pixels.B8 : List Nat := [0, 1, 0, 4, 0, 16, 0, 0, 128, 448, 0, 0, 2048, 7168, 16320, 32767, 0, 131071]
theorem transform_Pixels.tab8 : rtab .any (opsOf Tryd.f31 8) = transform_Pixels.T8 := by kernel_rfl
theorem transform_Pixels.bits8 : waitsOk transform_Pixels.T8.2 transform_Pixels.B8 = true := by kernel_rfl
set_option maxHeartbeats 8000000 in
set_option maxRecDepth 100000 in
theorem transform_Pixels.calls (k : Nat) (a0 : Int) (a1_0 : Int) (a1_1 : Int) (A1_2 : Option Addr) (c1_2 : Nat) (l1_2 : List (S58)) (r1 : Int) (r2 : Int) (r3 : List (S58)) (w : World) (hr1_2 : Kd.C k58 w A1_2 l1_2.length l1_2) (hc1_2 : l1_2.length ≤ c1_2) (h : transform_Pixels.f k a0 a1_0 a1_1 l1_2 = some (r1, r2, r3)) :
  Calls Tryd.prog 31 #[.int .i64 a0, .agg #[.int .i64 a1_0, .int .i64 a1_1, .slice A1_2 l1_2.length c1_2]] w fun e w' => ∃ v2_ : Value, e = .returned (.agg #[.int .i64 r1, .int .i64 r2, v2_]) ∧ Kd.R k58 58 w' w.heap.size (fun _ => True) v2_ r3 ∧ Below w.heap.size w w' := by
 have hu47 := Tryd.underlying47
 have hu58 := Tryd.underlying58
 have hu23 := Tryd.underlying23
 have HR1_2 := Aside0.mk hr1_2
 have HC1_2 := Aside0.mk hc1_2
 clear hr1_2 hc1_2
 have HB := Aside0.mk (Below.refl w.heap.size w)
 have H : ((transform_valid.f a1_0 a1_1 l1_2).bind fun t331 => (if t331 = true then ((transform_Size.f a0 a1_0 a1_1).bind fun bt332 => (if 0 ≤ (wrap64 (bt332.1 * bt332.2)) then (if (wrap64 (bt332.1 * bt332.2) : Int).toNat ≤ 70368744177664 then (transform_Pixels.l0 k a0 bt332.1 l1_2 (l1_2.length : Int) 0 a1_0 a1_1 l1_2 bt332.1 bt332.2 (List.replicate (wrap64 (bt332.1 * bt332.2) : Int).toNat z58)) else (none)) else (none))) else (some (0, 0, ([] : List (S58)))))) = some (r1, r2, r3) := h
 clear h
 replace H := Option.bind_eq_some_iff.mp H
 obtain ⟨t331, A30, H⟩ := H
 try dsimp only at H
 have A3 := Aside0.mk A30
 clear A30
 by_cases c4 : t331 = true
 ·
  subst c4
  have H1 : ((transform_Size.f a0 a1_0 a1_1).bind fun bt332 => (if 0 ≤ (wrap64 (bt332.1 * bt332.2)) then (if (wrap64 (bt332.1 * bt332.2) : Int).toNat ≤ 70368744177664 then (transform_Pixels.l0 k a0 bt332.1 l1_2 (l1_2.length : Int) 0 a1_0 a1_1 l1_2 bt332.1 bt332.2 (List.replicate (wrap64 (bt332.1 * bt332.2) : Int).toNat z58)) else (none)) else (none))) = some (r1, r2, r3) := by rw [if_pos rfl] at H; exact H
  clear H
  have H := H1
  clear H1
  replace H := Option.bind_eq_some_iff.mp H
  obtain ⟨⟨t332, t333⟩, A50, H⟩ := H
  try dsimp only at H
  have A5 := Aside0.mk A50
  clear A50
  obtain ⟨ji6, hji6⟩ : ∃ j_ : Int, (wrap64 (t332 * t333)) = j_ := ⟨_, rfl⟩
  replace H : (if 0 ≤ (ji6) then (if (ji6 : Int).toNat ≤ 70368744177664 then (transform_Pixels.l0 k a0 t332 l1_2 (l1_2.length : Int) 0 a1_0 a1_1 l1_2 t332 t333 (List.replicate (ji6 : Int).toNat z58)) else (none)) else (none)) = some (r1, r2, r3) := by first | (rw [hji6] at H; exact H) | (simp only [hji6] at H ⊢; exact H)
  (try rw [hji6] at A3)
  (try rw [hji6] at A5)
  have hji6w : (IntKind.i64.wrap (t332 * t333)) = ji6 := (i64_w _).trans hji6
  by_cases c7 : 0 ≤ (ji6)
  ·
   rw [if_pos c7] at H
   have c7b0 := eq_true c7
   have c7b1 : decide (0 ≤ (ji6)) = true := decide_eq_true c7
   clear c7
   by_cases c8 : (ji6 : Int).toNat ≤ 70368744177664
   ·
    rw [if_pos c8] at H
    have c8b0 := eq_true c8
    have c8b1 : decide ((ji6 : Int).toNat ≤ 70368744177664) = true := decide_eq_true c8
    clear c8
    obtain ⟨y334, hy334⟩ : ∃ y_ : List (S58), y_ = (List.replicate (ji6 : Int).toNat z58) := ⟨_, rfl⟩
    replace H : (transform_Pixels.l0 k a0 t332 l1_2 (l1_2.length : Int) 0 a1_0 a1_1 l1_2 t332 t333 y334) = some (r1, r2, r3) := by first | (rw [hy334]; with_reducible exact H) | (have H2_ := (Option.bind_some _ _).symm.trans H; rw [hy334]; with_reducible exact H2_) | (have H2_ := (Option.bind_some _ _).symm.trans H; with_reducible exact H2_) | with_reducible exact H | (rw [hy334]; exact H) | exact H
    have Ny334 := Aside0.mk hy334
    clear hy334
    have H' := Aside0.mk H
    clear H
    go_enter Tryd.func31, Tryd.ntmps31
    go_wp2_with (first | ((with_reducible refine gate_dst (N := 3) rfl ?_); refine box_event ?hg (N := 3) ?hd (cs := #[.int .i64 a1_0, .int .i64 a1_1, .slice A1_2 l1_2.length c1_2]) (t := 47) ?hr ?_; (case hd => rfl); (case hg => rfl); (case hr => first | (go_simp; done) | (go_simp; rfl)); intro gb329 hg w9 hbox hb; have n0_ := hb_ HB hb; have n1_ := Aside0.mk (hbox); have n2_ := Aside0.mk ((by rw [hg]; exact (below_size (hq_ HB)) : w.heap.size ≤ gb329)); have n3_ := Aside0.mk ((by rw [hg]; exact (below_size (hq_ HB)) : w.heap.size ≤ gb329)); clear HB; have HB := n0_; have BK329 := n1_; have GW329 := n2_; have GE329 := n3_; clear n0_ n1_ n2_ n3_; clear hb hbox hg) | ((with_reducible refine gate_dst (N := 4) rfl ?_); refine box_event ?hg (N := 4) ?hd (cs := #[.int .i64 0, .int .i64 0, .slice none 0 0]) (t := 47) ?hr ?_; (case hd => rfl); (case hg => rfl); (case hr => first | (go_simp; done) | (go_simp; rfl)); intro gb330 hg w10 hbox hb; have n0_ := bb_ BK329 hb; have n1_ := hb_ HB hb; have n2_ := Aside0.mk (hbox); have n3_ := Aside0.mk ((by rw [hg]; exact (below_size (hq_ HB)) : w.heap.size ≤ gb330)); have n4_ := Aside0.mk ((by rw [hg]; exact (below_size (hq_ HB)) : w.heap.size ≤ gb330)); have n5_ := Aside0.mk ((by rw [hg]; exact Nat.ne_of_lt (blk_lt (g := gb329) (o := .cells #[.int .i64 a1_0, .int .i64 a1_1, .slice A1_2 l1_2.length c1_2] 47 (0, 0)) (bq_ BK329)) : gb329 ≠ gb330)); have n6_ := Aside0.mk ((by rw [hg]; exact Nat.ne_of_gt (blk_lt (g := gb329) (o := .cells #[.int .i64 a1_0, .int .i64 a1_1, .slice A1_2 l1_2.length c1_2] 47 (0, 0)) (bq_ BK329)) : gb330 ≠ gb329)); clear BK329; clear HB; have BK329 := n0_; have HB := n1_; have BK330 := n2_; have GW330 := n3_; have GE330 := n4_; have NB329_330 := n5_; have NB330_329 := n6_; clear n0_ n1_ n2_ n3_ n4_ n5_ n6_; clear hb hbox hg; have hnb11 := NB329_330.out; have hnc11 := NB330_329.out; have hcz12_0 : w10.cell? ⟨gb329, 0, none⟩ = some (.int .i64 a1_0) := (blk_cell BK329.out 0).trans rfl; have hcz12_1 : w10.cell? ⟨gb329, 1, none⟩ = some (.int .i64 a1_1) := (blk_cell BK329.out 1).trans rfl; have hcz12_2 : w10.cell? ⟨gb329, 2, none⟩ = some (.slice A1_2 l1_2.length c1_2) := (blk_cell BK329.out 2).trans rfl; have hfz12_0 := blk_frozen BK329.out 0; have hfz12_1 := blk_frozen BK329.out 1; have hfz12_2 := blk_frozen BK329.out 2) | ((with_reducible refine gate_callee (f := 43) rfl ?_); refine goesL_ (some 12) rfl rfl Tryd.func43 (by kernel_rfl) rfl #[.agg #[.int .i64 a1_0, .int .i64 a1_1, .slice A1_2 l1_2.length c1_2]] rfl (by (try simp only [List.map_toArray, List.map_cons, List.map_nil]) <;> rfl) ?_; (with_reducible refine (transform_valid.calls a1_0 a1_1 _ _ l1_2 true _ ?side1 ?side2 A3.out).mono ?_); (case side1 => repeat (first | exact (Kd.C_below HR1_2.out HB.out) | (with_reducible refine Kd.C_alloc ?_ _) | (with_reducible refine Kd.C_drewN ?_ _) | (with_reducible refine Kd.C_drew ?_))); (case side2 => exact HC1_2.out); rintro e w13 ⟨rfl, hb⟩; refine ⟨_, rfl, ?_⟩; have n0_ := bb_ BK329 hb; have n1_ := bb_ BK330 hb; have n2_ := hb_ HB hb; clear BK329; clear BK330; clear HB; have BK329 := n0_; have BK330 := n1_; have HB := n2_; clear n0_ n1_ n2_; (try clear hb); (try clear hb2); (try clear hk); (try clear hi); have hcz14_0 : w13.cell? ⟨gb329, 0, none⟩ = some (.int .i64 a1_0) := (blk_cell BK329.out 0).trans rfl; have hcz14_1 : w13.cell? ⟨gb329, 1, none⟩ = some (.int .i64 a1_1) := (blk_cell BK329.out 1).trans rfl; have hcz14_2 : w13.cell? ⟨gb329, 2, none⟩ = some (.slice A1_2 l1_2.length c1_2) := (blk_cell BK329.out 2).trans rfl; have hfz14_0 := blk_frozen BK329.out 0; have hfz14_1 := blk_frozen BK329.out 1; have hfz14_2 := blk_frozen BK329.out 2) | ((with_reducible refine gate_callee (f := 10) rfl ?_); refine goesL_ (some 21) rfl rfl Tryd.func10 (by kernel_rfl) rfl #[.int .i64 a0, .int .i64 a1_0, .int .i64 a1_1] rfl (by (try simp only [List.map_toArray, List.map_cons, List.map_nil]) <;> rfl) ?_; (with_reducible refine (transform_Size.calls a0 a1_0 a1_1 t332 t333 _ A5.out).mono ?_); rintro e w' ⟨rfl, ⟨nd, rfl⟩⟩; refine ⟨_, rfl, ?_⟩; (try (rw [drewN_self w13]; generalize hq_ : World.drewN w13 _ = w13; have n0_ : Aside0 (w13.heap[gb329]? = some (.cells #[.int .i64 a1_0, .int .i64 a1_1, .slice A1_2 l1_2.length c1_2] 47 (0, 0))) := ⟨by rw [← hq_]; exact (bq_ BK329)⟩; have n1_ : Aside0 (w13.heap[gb330]? = some (.cells #[.int .i64 0, .int .i64 0, .slice none 0 0] 47 (0, 0))) := ⟨by rw [← hq_]; exact (bq_ BK330)⟩; have n2_ : Aside0 (Below w.heap.size w w13) := ⟨by rw [← hq_]; exact (hq_ HB)⟩; clear BK329 BK330 HB hq_; have BK329 := n0_; have BK330 := n1_; have HB := n2_; clear n0_ n1_ n2_; have hcy0_0 : w13.cell? ⟨gb329, 0, none⟩ = some (.int .i64 a1_0) := (blk_cell BK329.out 0).trans rfl; have hfy0_0 := blk_frozen BK329.out 0; have hcy0_1 : w13.cell? ⟨gb329, 1, none⟩ = some (.int .i64 a1_1) := (blk_cell BK329.out 1).trans rfl; have hfy0_1 := blk_frozen BK329.out 1; have hcy0_2 : w13.cell? ⟨gb329, 2, none⟩ = some (.slice A1_2 l1_2.length c1_2) := (blk_cell BK329.out 2).trans rfl; have hfy0_2 := blk_frozen BK329.out 2; have hcy1_0 : w13.cell? ⟨gb330, 0, none⟩ = some (.int .i64 0) := (blk_cell BK330.out 0).trans rfl; have hfy1_0 := blk_frozen BK330.out 0; have hcy1_1 : w13.cell? ⟨gb330, 1, none⟩ = some (.int .i64 0) := (blk_cell BK330.out 1).trans rfl; have hfy1_1 := blk_frozen BK330.out 1; have hcy1_2 : w13.cell? ⟨gb330, 2, none⟩ = some (.slice none 0 0) := (blk_cell BK330.out 2).trans rfl; have hfy1_2 := blk_frozen BK330.out 2))) | ((with_reducible refine gate_dst (N := 29) rfl ?_); refine Kd.R_make k58 _ 58 rfl (N := 29) rfl 45 _ _ rfl ji6 rfl rfl Tryd.underlying45 (.agg #[(.int .u8 0), (.int .u8 0), (.int .u8 0), (.int .u8 0)]) 4 info58 rfl (by decide) (by omega) z58 (ok := fun _ => True) (okp := fun _ => True) (k58_mkM _ _ _ z58 ) (fun _ hk => hk) trivial (of_decide_eq_true (by first | (with_reducible assumption) | assumption)) (Nat.le_trans (Nat.mul_le_mul_right _ (of_decide_eq_true (by first | (with_reducible assumption) | assumption) : ji6.toNat ≤ 70368744177664)) (by omega)) (Below.refl _ _) (Nat.le_refl _) ?_; intro v335 w15 ho16 hb hg_ hnew_; clear hg_ hnew_; (first | rw [← Ny334.out] at ho16 | (simp only [Int.reduceToNat] at ho16; rw [← Ny334.out] at ho16)); have n0_ := Aside0.mk (Kd.R_lower ho16 (below_size (hq_ HB))); have n1_ := bb_ BK329 hb; have n2_ := bb_ BK330 hb; have n3_ := hb_ HB hb; clear BK329; clear BK330; clear HB; have HO336 := n0_; have BK329 := n1_; have BK330 := n2_; have HB := n3_; clear n0_ n1_ n2_ n3_; clear hb ho16; obtain ⟨Ao17, co17, eo17⟩ := Kd.R_slice HO336.out; subst eo17) | ((with_reducible refine gate_dst (N := 7) rfl ?_); refine box_event ?hg (N := 7) ?hd (cs := #[.int .i64 0, .int .i64 0, .slice none 0 0]) (t := 47) ?hr ?_; (case hd => rfl); (case hg => rfl); (case hr => first | (go_simp; done) | (go_simp; rfl)); intro gb337 hg w18 hbox hb; have n0_ := Aside0.mk (Kd.R_below (by (with_reducible repeat (first | apply Kd.R_alloc | apply Kd.R_drewN | apply Kd.R_drew)); exact HO336.out) hb); have n1_ := bb_ BK329 hb; have n2_ := bb_ BK330 hb; have n3_ := hb_ HB hb; have n4_ := Aside0.mk (hbox); have n5_ := Aside0.mk ((by rw [hg]; exact (below_size (hq_ HB)) : w.heap.size ≤ gb337)); have n6_ := Aside0.mk ((by rw [hg]; exact (below_size (hq_ HB)) : w.heap.size ≤ gb337)); have n7_ := Aside0.mk ((by rw [hg]; exact Nat.ne_of_lt (blk_lt (g := gb329) (o := .cells #[.int .i64 a1_0, .int .i64 a1_1, .slice A1_2 l1_2.length c1_2] 47 (0, 0)) (bq_ BK329)) : gb329 ≠ gb337)); have n8_ := Aside0.mk ((by rw [hg]; exact Nat.ne_of_gt (blk_lt (g := gb329) (o := .cells #[.int .i64 a1_0, .int .i64 a1_1, .slice A1_2 l1_2.length c1_2] 47 (0, 0)) (bq_ BK329)) : gb337 ≠ gb329)); have n9_ := Aside0.mk ((by rw [hg]; exact Nat.ne_of_lt (blk_lt (g := gb330) (o := .cells #[.int .i64 0, .int .i64 0, .slice none 0 0] 47 (0, 0)) (bq_ BK330)) : gb330 ≠ gb337)); have n10_ := Aside0.mk ((by rw [hg]; exact Nat.ne_of_gt (blk_lt (g := gb330) (o := .cells #[.int .i64 0, .int .i64 0, .slice none 0 0] 47 (0, 0)) (bq_ BK330)) : gb337 ≠ gb330)); clear HO336; clear BK329; clear BK330; clear HB; have HO336 := n0_; have BK329 := n1_; have BK330 := n2_; have HB := n3_; have BK337 := n4_; have GW337 := n5_; have GE337 := n6_; have NB329_337 := n7_; have NB337_329 := n8_; have NB330_337 := n9_; have NB337_330 := n10_; clear n0_ n1_ n2_ n3_ n4_ n5_ n6_ n7_ n8_ n9_ n10_; clear hb hbox hg; have hnb19 := NB337_329.out; have hnc19 := NB329_337.out; have hnb20 := NB337_330.out; have hnc20 := NB330_337.out; have hcz21_0 : w18.cell? ⟨gb337, 0, none⟩ = some (.int .i64 0) := (blk_cell BK337.out 0).trans rfl; have hcz21_1 : w18.cell? ⟨gb337, 1, none⟩ = some (.int .i64 0) := (blk_cell BK337.out 1).trans rfl; have hcz21_2 : w18.cell? ⟨gb337, 2, none⟩ = some (.slice none 0 0) := (blk_cell BK337.out 2).trans rfl; have hfz21_0 := blk_frozen BK337.out 0; have hfz21_1 := blk_frozen BK337.out 1; have hfz21_2 := blk_frozen BK337.out 2; have hcz22_0 : w18.cell? ⟨gb329, 0, none⟩ = some (.int .i64 a1_0) := (blk_cell BK329.out 0).trans rfl; have hcz22_1 : w18.cell? ⟨gb329, 1, none⟩ = some (.int .i64 a1_1) := (blk_cell BK329.out 1).trans rfl; have hcz22_2 : w18.cell? ⟨gb329, 2, none⟩ = some (.slice A1_2 l1_2.length c1_2) := (blk_cell BK329.out 2).trans rfl; have hfz22_0 := blk_frozen BK329.out 0; have hfz22_1 := blk_frozen BK329.out 1; have hfz22_2 := blk_frozen BK329.out 2))
    go_loopg [34] k (fun kq v34 w' => ∃ (x34_1 : Int) (x338002_1 : List (S58)) (u338002 : Value), v34 = .int .i64 x34_1 ∧ Aside0 (transform_Pixels.l0 kq a0 t332 l1_2 (l1_2.length : Int) x34_1 a1_0 a1_1 l1_2 t332 t333 x338002_1 = some (r1, r2, r3)) ∧ Aside0 (kq ≤ k) ∧ Aside0 (Kd.R k58 58 w' w.heap.size (fun _ => True) u338002 x338002_1) ∧ Aside0 (w'.heap[gb329]? = some (.cells #[.int .i64 a1_0, .int .i64 a1_1, (.slice A1_2 l1_2.length c1_2)] 47 (0, 0))) ∧ Aside0 (w'.heap[gb330]? = some (.cells #[.int .i64 0, .int .i64 0, (.slice none 0 0)] 47 (0, 0))) ∧ Aside0 (w'.heap[gb337]? = some (.cells #[.int .i64 t332, .int .i64 t333, u338002] 47 (0, 0))) ∧ Aside0 (Below w.heap.size w w'))
    case atStart => exact ⟨(0), (y334), (.slice Ao17 y334.length co17), (by first | rfl | (simp; done) | (simp [*]; done)), H', ⟨Nat.le_refl _⟩, ⟨by (with_reducible repeat (first | apply Kd.R_alloc | apply Kd.R_drewN | apply Kd.R_drew)); exact Kd.R_mono (Kd.R_far (p := ⟨gb337, 2, none⟩) (Kd.R_far (p := ⟨gb337, 1, none⟩) (Kd.R_far (p := ⟨gb337, 0, none⟩) (Kd.R_types HO336.out BK337.out (by decide)) (fun _ hk => hk.2) (.int .i64 t332)) (fun _ hk => hk.2) (.int .i64 t333)) (fun _ hk => hk.2) (.slice Ao17 y334.length co17)) (fun _ hk => trivial)⟩, bf_ BK329, bf_ BK330, ⟨by (with_reducible repeat (first | refine blk_drewN ?_ _ | refine blk_drew ?_ | refine blk_alloc ?_ _)); refine blk_put (cs := #[.int .i64 t332, .int .i64 t333, .slice none 0 0]) ?_ 2 _ rfl; (with_reducible repeat (first | refine blk_drewN ?_ _ | refine blk_drew ?_ | refine blk_alloc ?_ _)); refine blk_put (cs := #[.int .i64 t332, .int .i64 0, .slice none 0 0]) ?_ 1 _ rfl; (with_reducible repeat (first | refine blk_drewN ?_ _ | refine blk_drew ?_ | refine blk_alloc ?_ _)); refine blk_put (cs := #[.int .i64 0, .int .i64 0, .slice none 0 0]) ?_ 0 _ rfl; (with_reducible repeat (first | refine blk_drewN ?_ _ | refine blk_drew ?_ | refine blk_alloc ?_ _)); exact BK337.out⟩, ⟨by repeat (first | (with_reducible first | exact HB.out | apply below_alloc | apply pw_below_drewN | apply below_drew1 | refine below_set ?_ GE329.out | refine below_set ?_ GE330.out | refine below_set ?_ GE337.out) | exact HB.out)⟩⟩
    case round =>
     clear H'
     try clear c1
     try clear c2
     try clear p2
     try clear c3
     try clear c4
     try clear p6
     try clear c7
     try clear c7b0
     try clear c7b1
     try clear c8
     try clear c8b0
     try clear c8b1
     try clear c10
     try clear c11
     try clear c19
     try clear c20
     try clear hcz12_0
     try clear hcz12_1
     try clear hcz12_2
     try clear hcz14_0
     try clear hcz14_1
     try clear hcz14_2
     try clear hcz21_0
     try clear hcz21_1
     try clear hcz21_2
     try clear hcz22_0
     try clear hcz22_1
     try clear hcz22_2
     try clear hfz12_0
     try clear hfz12_1
     try clear hfz12_2
     try clear hfz14_0
     try clear hfz14_1
     try clear hfz14_2
     try clear hfz21_0
     try clear hfz21_1
     try clear hfz21_2
     try clear hfz22_0
     try clear hfz22_1
     try clear hfz22_2
     obtain ⟨x34_1, x338002_1, u338002, rfl, HA, HK1, HO_338002, BK329, BK330, BK337, HB⟩ := hrel
     cases gk with
     | zero => exact absurd HA.out (by simp [transform_Pixels.l0])
     | succ k1 =>
      have H := HA.out
      clear HA
      simp only [transform_Pixels.l0] at H
      by_cases c23 : x34_1 < (l1_2.length : Int)
      ·
       rw [if_pos c23] at H
       have c23b0 : decide (x34_1 < (l1_2.length : Int)) = true := decide_eq_true c23
       clear c23
       by_cases c24 : 0 ≤ x34_1
       ·
        rw [if_pos c24] at H
        have c24b0 : decide (0 ≤ x34_1) = true := decide_eq_true c24
        clear c24
        by_cases c25 : x34_1 < (l1_2.length : Int)
        ·
         rw [if_pos c25] at H
         have c25b0 : decide (x34_1 < (l1_2.length : Int)) = true := decide_eq_true c25
         clear c25
         replace H := Option.bind_eq_some_iff.mp H
         obtain ⟨t340, A260, H⟩ := H
         try dsimp only at H
         have A26 := Aside0.mk A260
         clear A260
         by_cases c27 : a1_0 = 0
         ·
          rw [if_pos c27] at H
          exact absurd H (by simp)
         ·
          rw [if_neg c27] at H
          have c27b0 : (a1_0 == 0) = false := beq_eq_false_iff_ne.mpr c27
          have c27b1 : (a1_0 != 0) = true := bne_iff_ne.mpr c27
          replace H := Option.bind_eq_some_iff.mp H
          obtain ⟨⟨t341, t342⟩, A280, H⟩ := H
          try dsimp only at H
          have A28 := Aside0.mk A280
          clear A280
          obtain ⟨ji29, hji29⟩ : ∃ j_ : Int, (wrap64 ((wrap64 (t342 * t332)) + t341)) = j_ := ⟨_, rfl⟩
          replace H : (if 0 ≤ (ji29) then (if (ji29) < (x338002_1.length : Int) then (transform_Pixels.l0 k1 a0 t332 l1_2 (l1_2.length : Int) (wrap64 (x34_1 + 1)) a1_0 a1_1 l1_2 t332 t333 (x338002_1.set ((ji29) : Int).toNat (⟨(rd_T58 l1_2 x34_1).f0, (rd_T58 l1_2 x34_1).f1, (rd_T58 l1_2 x34_1).f2, (rd_T58 l1_2 x34_1).f3⟩ : S58))) else (none)) else (none)) = some (r1, r2, r3) := by first | (rw [hji29] at H; exact H) | (simp only [hji29] at H ⊢; exact H)
          (try rw [hji29] at A26)
          (try rw [hji29] at A28)
          have hji29w : (IntKind.i64.wrap ((wrap64 (t342 * t332)) + t341)) = ji29 := (i64_w _).trans hji29
          by_cases c30 : 0 ≤ (ji29)
          ·
           rw [if_pos c30] at H
           have c30b0 : decide (0 ≤ (ji29)) = true := decide_eq_true c30
           clear c30
           by_cases c31 : (ji29) < (x338002_1.length : Int)
           ·
            rw [if_pos c31] at H
            have c31b0 : decide ((ji29) < (x338002_1.length : Int)) = true := decide_eq_true c31
            clear c31
            obtain ⟨y344, hy344⟩ : ∃ y_ : List (S58), y_ = (x338002_1.set ((ji29) : Int).toNat (⟨(rd_T58 l1_2 x34_1).f0, (rd_T58 l1_2 x34_1).f1, (rd_T58 l1_2 x34_1).f2, (rd_T58 l1_2 x34_1).f3⟩ : S58)) := ⟨_, rfl⟩
            replace H : (transform_Pixels.l0 k1 a0 t332 l1_2 (l1_2.length : Int) (wrap64 (x34_1 + 1)) a1_0 a1_1 l1_2 t332 t333 y344) = some (r1, r2, r3) := by first | (rw [hy344]; with_reducible exact H) | (have H2_ := (Option.bind_some _ _).symm.trans H; rw [hy344]; with_reducible exact H2_) | (have H2_ := (Option.bind_some _ _).symm.trans H; with_reducible exact H2_) | with_reducible exact H | (rw [hy344]; exact H) | exact H
            have Ny344 := Aside0.mk hy344
            clear hy344
            have H' := Aside0.mk H
            clear H
            have p338 : 0 ≤ (x34_1 : Int) := of_decide_eq_true (by first | (with_reducible assumption) | assumption)
            have q338 : x34_1 < (l1_2.length : Int) := of_decide_eq_true (by first | (with_reducible assumption) | assumption)
            obtain ⟨ad338, e338, hx338_0, hx338_1, hx338_2, hx338_3⟩ := at_T58 HR1_2.out x34_1 p338 q338
            cases e338
            replace hx338_0 := (HB.out.cell (World.block_lt_of_cell? w _ hx338_0)).trans hx338_0
            replace hx338_1 := (HB.out.cell (World.block_lt_of_cell? w _ hx338_1)).trans hx338_1
            replace hx338_2 := (HB.out.cell (World.block_lt_of_cell? w _ hx338_2)).trans hx338_2
            replace hx338_3 := (HB.out.cell (World.block_lt_of_cell? w _ hx338_3)).trans hx338_3
            replace p338 := eq_true p338
            replace q338 := eq_true q338
            try go_wp2_with (first | ((with_reducible refine gate_dst (N := 9) rfl ?_); refine box_event ?hg (N := 9) ?hd (cs := #[.int .u8 0, .int .u8 0, .int .u8 0, .int .u8 0]) (t := 58) ?hr ?_; (case hd => rfl); (case hg => rfl); (case hr => first | (go_simp; done) | (go_simp; rfl)); intro gb339 hg w33 hbox hb; have n0_ := Aside0.mk (Kd.R_below (Kd.R_elderB (by (with_reducible repeat (first | apply Kd.R_alloc | apply Kd.R_drewN | apply Kd.R_drew)); exact HO_338002.out) gb339 (Nat.le_of_eq hg.symm)) hb); have n1_ := bb_ BK329 hb; have n2_ := bb_ BK330 hb; have n3_ := bb_ BK337 hb; have n4_ := hb_ HB hb; have n5_ := Aside0.mk (hbox); have n6_ := Aside0.mk ((by rw [hg]; exact (below_size (hq_ HB)) : w.heap.size ≤ gb339)); have n7_ := Aside0.mk ((by rw [hg]; exact (below_size (hq_ HB)) : w.heap.size ≤ gb339)); have n8_ := Aside0.mk ((by rw [hg]; exact Nat.ne_of_lt (blk_lt (g := gb329) (o := .cells #[.int .i64 a1_0, .int .i64 a1_1, .slice (some ad338) l1_2.length c1_2] 47 (0, 0)) (bq_ BK329)) : gb329 ≠ gb339)); have n9_ := Aside0.mk ((by rw [hg]; exact Nat.ne_of_gt (blk_lt (g := gb329) (o := .cells #[.int .i64 a1_0, .int .i64 a1_1, .slice (some ad338) l1_2.length c1_2] 47 (0, 0)) (bq_ BK329)) : gb339 ≠ gb329)); have n10_ := Aside0.mk ((by rw [hg]; exact Nat.ne_of_lt (blk_lt (g := gb330) (o := .cells #[.int .i64 0, .int .i64 0, .slice none 0 0] 47 (0, 0)) (bq_ BK330)) : gb330 ≠ gb339)); have n11_ := Aside0.mk ((by rw [hg]; exact Nat.ne_of_gt (blk_lt (g := gb330) (o := .cells #[.int .i64 0, .int .i64 0, .slice none 0 0] 47 (0, 0)) (bq_ BK330)) : gb339 ≠ gb330)); have n12_ := Aside0.mk ((by rw [hg]; exact Nat.ne_of_lt (blk_lt (g := gb337) (o := .cells #[.int .i64 t332, .int .i64 t333, u338002] 47 (0, 0)) (bq_ BK337)) : gb337 ≠ gb339)); have n13_ := Aside0.mk ((by rw [hg]; exact Nat.ne_of_gt (blk_lt (g := gb337) (o := .cells #[.int .i64 t332, .int .i64 t333, u338002] 47 (0, 0)) (bq_ BK337)) : gb339 ≠ gb337)); clear HO_338002; clear BK329; clear BK330; clear BK337; clear HB; have HO_338002 := n0_; have BK329 := n1_; have BK330 := n2_; have BK337 := n3_; have HB := n4_; have BK339 := n5_; have GW339 := n6_; have GE339 := n7_; have NB329_339 := n8_; have NB339_329 := n9_; have NB330_339 := n10_; have NB339_330 := n11_; have NB337_339 := n12_; have NB339_337 := n13_; clear n0_ n1_ n2_ n3_ n4_ n5_ n6_ n7_ n8_ n9_ n10_ n11_ n12_ n13_; clear hb hbox hg; have hnb34 := NB339_329.out; have hnc34 := NB329_339.out; have hnb35 := NB339_330.out; have hnc35 := NB330_339.out; have hnb36 := NB339_337.out; have hnc36 := NB337_339.out; have hcz37_0 : w33.cell? ⟨gb339, 0, none⟩ = some (.int .u8 0) := (blk_cell BK339.out 0).trans rfl; have hcz37_1 : w33.cell? ⟨gb339, 1, none⟩ = some (.int .u8 0) := (blk_cell BK339.out 1).trans rfl; have hcz37_2 : w33.cell? ⟨gb339, 2, none⟩ = some (.int .u8 0) := (blk_cell BK339.out 2).trans rfl; have hcz37_3 : w33.cell? ⟨gb339, 3, none⟩ = some (.int .u8 0) := (blk_cell BK339.out 3).trans rfl; have hfz37_0 := blk_frozen BK339.out 0; have hfz37_1 := blk_frozen BK339.out 1; have hfz37_2 := blk_frozen BK339.out 2; have hfz37_3 := blk_frozen BK339.out 3))
            have n0_ : Aside0 (Kd.R k58 58 ((((w33.setCell ⟨gb339, 0, none⟩ (.int .u8 ((rd_T58 l1_2 x34_1).f0))).setCell ⟨gb339, 1, none⟩ (.int .u8 ((rd_T58 l1_2 x34_1).f1))).setCell ⟨gb339, 2, none⟩ (.int .u8 ((rd_T58 l1_2 x34_1).f2))).setCell ⟨gb339, 3, none⟩ (.int .u8 ((rd_T58 l1_2 x34_1).f3))) w.heap.size (fun k_ => k_ ≠ gb339) u338002 x338002_1) := ⟨by (with_reducible repeat (first | apply Kd.R_alloc | apply Kd.R_drewN | apply Kd.R_drew)); exact Kd.R_mono (Kd.R_far (p := ⟨gb339, 3, none⟩) (Kd.R_far (p := ⟨gb339, 2, none⟩) (Kd.R_far (p := ⟨gb339, 1, none⟩) (Kd.R_far (p := ⟨gb339, 0, none⟩) (Kd.R_mono HO_338002.out (fun k_ hk => (⟨hk, hk.2⟩ : _ ∧ k_ ≠ gb339))) (fun _ hk => hk.2) (.int .u8 ((rd_T58 l1_2 x34_1).f0))) (fun _ hk => hk.2) (.int .u8 ((rd_T58 l1_2 x34_1).f1))) (fun _ hk => hk.2) (.int .u8 ((rd_T58 l1_2 x34_1).f2))) (fun _ hk => hk.2) (.int .u8 ((rd_T58 l1_2 x34_1).f3))) (fun _ hk => hk.1.2)⟩
            have n1_ : Aside0 (((((w33.setCell ⟨gb339, 0, none⟩ (.int .u8 ((rd_T58 l1_2 x34_1).f0))).setCell ⟨gb339, 1, none⟩ (.int .u8 ((rd_T58 l1_2 x34_1).f1))).setCell ⟨gb339, 2, none⟩ (.int .u8 ((rd_T58 l1_2 x34_1).f2))).setCell ⟨gb339, 3, none⟩ (.int .u8 ((rd_T58 l1_2 x34_1).f3))).heap[gb329]? = some (.cells #[.int .i64 a1_0, .int .i64 a1_1, .slice (some ad338) l1_2.length c1_2] 47 (0, 0))) := bf_ BK329
            have n2_ : Aside0 (((((w33.setCell ⟨gb339, 0, none⟩ (.int .u8 ((rd_T58 l1_2 x34_1).f0))).setCell ⟨gb339, 1, none⟩ (.int .u8 ((rd_T58 l1_2 x34_1).f1))).setCell ⟨gb339, 2, none⟩ (.int .u8 ((rd_T58 l1_2 x34_1).f2))).setCell ⟨gb339, 3, none⟩ (.int .u8 ((rd_T58 l1_2 x34_1).f3))).heap[gb330]? = some (.cells #[.int .i64 0, .int .i64 0, .slice none 0 0] 47 (0, 0))) := bf_ BK330
            have n3_ : Aside0 (((((w33.setCell ⟨gb339, 0, none⟩ (.int .u8 ((rd_T58 l1_2 x34_1).f0))).setCell ⟨gb339, 1, none⟩ (.int .u8 ((rd_T58 l1_2 x34_1).f1))).setCell ⟨gb339, 2, none⟩ (.int .u8 ((rd_T58 l1_2 x34_1).f2))).setCell ⟨gb339, 3, none⟩ (.int .u8 ((rd_T58 l1_2 x34_1).f3))).heap[gb337]? = some (.cells #[.int .i64 t332, .int .i64 t333, u338002] 47 (0, 0))) := bf_ BK337
            have n4_ : Aside0 (((((w33.setCell ⟨gb339, 0, none⟩ (.int .u8 ((rd_T58 l1_2 x34_1).f0))).setCell ⟨gb339, 1, none⟩ (.int .u8 ((rd_T58 l1_2 x34_1).f1))).setCell ⟨gb339, 2, none⟩ (.int .u8 ((rd_T58 l1_2 x34_1).f2))).setCell ⟨gb339, 3, none⟩ (.int .u8 ((rd_T58 l1_2 x34_1).f3))).heap[gb339]? = some (.cells #[.int .u8 ((rd_T58 l1_2 x34_1).f0), .int .u8 ((rd_T58 l1_2 x34_1).f1), .int .u8 ((rd_T58 l1_2 x34_1).f2), .int .u8 ((rd_T58 l1_2 x34_1).f3)] 58 (0, 0))) := ⟨by (with_reducible repeat (first | refine blk_drewN ?_ _ | refine blk_drew ?_ | refine blk_alloc ?_ _)); refine blk_put (cs := #[.int .u8 ((rd_T58 l1_2 x34_1).f0), .int .u8 ((rd_T58 l1_2 x34_1).f1), .int .u8 ((rd_T58 l1_2 x34_1).f2), .int .u8 0]) ?_ 3 _ rfl; (with_reducible repeat (first | refine blk_drewN ?_ _ | refine blk_drew ?_ | refine blk_alloc ?_ _)); refine blk_put (cs := #[.int .u8 ((rd_T58 l1_2 x34_1).f0), .int .u8 ((rd_T58 l1_2 x34_1).f1), .int .u8 0, .int .u8 0]) ?_ 2 _ rfl; (with_reducible repeat (first | refine blk_drewN ?_ _ | refine blk_drew ?_ | refine blk_alloc ?_ _)); refine blk_put (cs := #[.int .u8 ((rd_T58 l1_2 x34_1).f0), .int .u8 0, .int .u8 0, .int .u8 0]) ?_ 1 _ rfl; (with_reducible repeat (first | refine blk_drewN ?_ _ | refine blk_drew ?_ | refine blk_alloc ?_ _)); refine blk_put (cs := #[.int .u8 0, .int .u8 0, .int .u8 0, .int .u8 0]) ?_ 0 _ rfl; (with_reducible repeat (first | refine blk_drewN ?_ _ | refine blk_drew ?_ | refine blk_alloc ?_ _)); exact BK339.out⟩
            have n5_ : Aside0 (Below w.heap.size w ((((w33.setCell ⟨gb339, 0, none⟩ (.int .u8 ((rd_T58 l1_2 x34_1).f0))).setCell ⟨gb339, 1, none⟩ (.int .u8 ((rd_T58 l1_2 x34_1).f1))).setCell ⟨gb339, 2, none⟩ (.int .u8 ((rd_T58 l1_2 x34_1).f2))).setCell ⟨gb339, 3, none⟩ (.int .u8 ((rd_T58 l1_2 x34_1).f3)))) := ⟨by repeat (first | (with_reducible first | exact HB.out | apply below_alloc | apply pw_below_drewN | apply below_drew1 | refine below_set ?_ GE329.out | refine below_set ?_ GE330.out | refine below_set ?_ GE337.out | refine below_set ?_ GE339.out) | exact HB.out)⟩
            (try clear HO_338002)
            (try clear BK329)
            (try clear BK330)
            (try clear BK337)
            (try clear BK339)
            (try clear HB)
            generalize ((((w33.setCell ⟨gb339, 0, none⟩ (.int .u8 ((rd_T58 l1_2 x34_1).f0))).setCell ⟨gb339, 1, none⟩ (.int .u8 ((rd_T58 l1_2 x34_1).f1))).setCell ⟨gb339, 2, none⟩ (.int .u8 ((rd_T58 l1_2 x34_1).f2))).setCell ⟨gb339, 3, none⟩ (.int .u8 ((rd_T58 l1_2 x34_1).f3))) = w38 at n0_ n1_ n2_ n3_ n4_ n5_ ⊢
            have HO_338002 := n0_
            have BK329 := n1_
            have BK330 := n2_
            have BK337 := n3_
            have BK339 := n4_
            have HB := n5_
            clear n0_ n1_ n2_ n3_ n4_ n5_
            replace HO_338002 := Aside0.mk (Kd.R_drew HO_338002.out)
            replace BK329 := Aside0.mk (blk_drew BK329.out)
            replace BK330 := Aside0.mk (blk_drew BK330.out)
            replace BK337 := Aside0.mk (blk_drew BK337.out)
            replace BK339 := Aside0.mk (blk_drew BK339.out)
            replace HB := Aside0.mk (below_drew1 HB.out)
            refine start_ (n := 18) (S := fun w' => w'.cell? ⟨gb329, 0, none⟩ = some (.int .i64 a1_0) ∧ w'.cell? ⟨gb329, 1, none⟩ = some (.int .i64 a1_1) ∧ w'.cell? ⟨gb329, 2, none⟩ = some (.slice (some ad338) l1_2.length c1_2)) (ds := []) zq31.q0 (by kernel_rfl) rfl rfl ⟨c_ BK329 0, ⟨c_ BK329 1, (c_ BK329 2)⟩⟩ (fun hHeld => ?_); refine with_tabW transform_Pixels.tab8 transform_Pixels.bits8 (fun HT_ HW_ => ?_)
            generalize w38.drew = w39 at HO_338002 BK329 BK330 BK337 BK339 HB hHeld ⊢
            refine pv_ 0 39 zq31.q1 HT_ ?_
            refine pv_ 2 41 zq31.q2 HT_ ?_
            refine pv_ 4 43 zq31.q3 HT_ ?_
            refine pv_ 6 45 zq31.q4 HT_ ?_
            refine pv_ 7 46 zq31.q5 HT_ ?_
            refine pv_ 10 49 zq31.q6 HT_ ?_
            refine pv_ 11 50 zq31.q7 HT_ ?_
            refine take_ (i := 3) (N := some 42) (v := ?_) (a' := ?_) zq31.q8 rfl rfl (take_ofW HT_.out HW_.out (by kernel_rfl)) (fun _ _ _ h => h) (Or.inl ⟨by rfl, ?_⟩) hHeld ?_ ?_
            rotate_left
            ·
             rintro w' ⟨s0, s1, s2⟩
             go_simp
             with_reducible rfl
            rotate_left
            ·
             simp only [Act.put, List.setIfInBounds_toArray, List.set_cons_zero, List.set_cons_succ, i64_w, i32_w]
             rfl
            refine take_ (i := 5) (N := some 44) (v := ?_) (a' := ?_) zq31.q9 rfl rfl (take_ofW HT_.out HW_.out (by kernel_rfl)) (fun _ _ _ h => h) (Or.inl ⟨by rfl, ?_⟩) hHeld ?_ ?_
            rotate_left
            ·
             rintro w' ⟨s0, s1, s2⟩
             go_simp
             with_reducible rfl
            rotate_left
            ·
             simp only [Act.put, List.setIfInBounds_toArray, List.set_cons_zero, List.set_cons_succ, i64_w, i32_w]
             rfl
            refine take_ (i := 8) (N := some 47) (v := ?_) (a' := ?_) zq31.q10 rfl rfl (take_ofW HT_.out HW_.out (by kernel_rfl)) (fun _ _ _ h => h) (Or.inl ⟨by rfl, ?_⟩) hHeld ?_ ?_
            rotate_left
            ·
             rintro w' ⟨s0, s1, s2⟩
             go_simp
             with_reducible rfl
            rotate_left
            ·
             simp only [Act.put, List.setIfInBounds_toArray, List.set_cons_zero, List.set_cons_succ, i64_w, i32_w]
             rfl
            refine pv_ 9 48 zq31.q11 HT_ ?_
            refine take_ (i := 12) (N := some 51) (v := ?_) (a' := ?_) zq31.q12 rfl rfl (take_ofW HT_.out HW_.out (by kernel_rfl)) (fun _ _ _ h => h) (Or.inl ⟨by rfl, ?_⟩) hHeld ?_ ?_
            rotate_left
            ·
             rintro w' ⟨s0, s1, s2⟩
             go_simp
             with_reducible rfl
            rotate_left
            ·
             simp only [Act.put, List.setIfInBounds_toArray, List.set_cons_zero, List.set_cons_succ, i64_w, i32_w]
             rfl
            refine pv_ 13 52 zq31.q13 HT_ ?_
            refine pv_ 14 53 zq31.q14 HT_ ?_
            refine join_ (σ := Nat) 1 zq31.q15 (fun s_ => [(40, .int .i64 t340), (54, .agg #[.int .i64 t341, .int .i64 t342]), (10, .pointer (some ⟨s_, 0, none⟩))]) (fun s_ w' => (w'.cell? ⟨gb329, 0, none⟩ = some (.int .i64 a1_0) ∧ w'.cell? ⟨gb329, 1, none⟩ = some (.int .i64 a1_1) ∧ w'.cell? ⟨gb329, 2, none⟩ = some (.slice (some ad338) l1_2.length c1_2)) ∧ (Kd.R k58 58 w' w.heap.size (fun k_ => k_ ≠ gb339) u338002 x338002_1) ∧ (w'.heap[gb329]? = some (.cells #[.int .i64 a1_0, .int .i64 a1_1, .slice (some ad338) l1_2.length c1_2] 47 (0, 0))) ∧ (w'.heap[gb330]? = some (.cells #[.int .i64 0, .int .i64 0, .slice none 0 0] 47 (0, 0))) ∧ (w'.heap[gb337]? = some (.cells #[.int .i64 t332, .int .i64 t333, u338002] 47 (0, 0))) ∧ (w'.heap[gb339]? = some (.cells #[.int .u8 ((rd_T58 l1_2 x34_1).f0), .int .u8 ((rd_T58 l1_2 x34_1).f1), .int .u8 ((rd_T58 l1_2 x34_1).f2), .int .u8 ((rd_T58 l1_2 x34_1).f3)] 58 (0, 0))) ∧ (w'.heap[s_]? = some (.cells #[.int .i64 0, .int .i64 0] 23 (0, 0))) ∧ (w.heap.size ≤ s_) ∧ (w.heap.size ≤ s_) ∧ (gb329 ≠ s_) ∧ (s_ ≠ gb329) ∧ (gb330 ≠ s_) ∧ (s_ ≠ gb330) ∧ (gb337 ≠ s_) ∧ (s_ ≠ gb337) ∧ (gb339 ≠ s_) ∧ (s_ ≠ gb339) ∧ (Below w.heap.size w w')) ?_ ?_
            rotate_left
            ·
             intro hCont
             refine two_ (i := 1) (j := 16) (Ni := some 40) (Nj := some 10) zq31.q16 zq31.q17 rfl rfl rfl rfl (two_of HT_.out (by kernel_rfl)) (by decide) (by decide) (fun K hK => ?_) (fun K hK => ?_)
             ·
              refine gs_ Tryd.func33 #[.int .i64 a0] ?_
              with_reducible refine (transform_normal.calls a0 t340 _ A26.out).mono ?_
              rintro e w' ⟨rfl, ⟨nd, rfl⟩⟩
              refine ⟨_, rfl, ?_⟩
              refine hK.out _ _ ⟨c_ BK329 0, ⟨c_ BK329 1, (c_ BK329 2)⟩⟩ (fun hHeld => ?_)
              clear hK K
              refine norm_ (a' := ?_) ?_ ?_
              rotate_left
              ·
               show Act.put _ (some 40) _ = _
               simp only [Act.put, List.setIfInBounds_toArray, List.set_cons_zero, List.set_cons_succ, i64_w, i32_w]
               rfl
              refine two_ (i := 15) (j := 16) (Ni := some 54) (Nj := some 10) zq31.q18 zq31.q19 rfl rfl rfl rfl (two_of HT_.out (by kernel_rfl)) (by decide) (by decide) (fun K hK => ?_) (fun K hK => ?_)
              ·
               refine gs_ Tryd.func37 #[.int .i64 t340, .int .i64 a1_0, .int .i64 a1_1, .agg #[.int .i64 (Int.tmod x34_1 a1_0), .int .i64 (wrap64 (Int.tdiv x34_1 a1_0))]] ?_
               with_reducible refine (transform_apply.calls k1 t340 a1_0 a1_1 (Int.tmod x34_1 a1_0) (wrap64 (Int.tdiv x34_1 a1_0)) t341 t342 _ A28.out).mono ?_
               rintro e w40 ⟨rfl, hb⟩
               refine ⟨_, rfl, ?_⟩
               replace HO_338002 := Aside0.mk (Kd.R_below (by (with_reducible repeat (first | apply Kd.R_alloc | apply Kd.R_drewN | apply Kd.R_drew)); exact HO_338002.out) hb)
               replace BK329 := bb_ BK329 hb
               replace BK330 := bb_ BK330 hb
               replace BK337 := bb_ BK337 hb
               replace BK339 := bb_ BK339 hb
               replace HB := hb_ HB hb
               (try clear hb); (try clear hb2); (try clear hk); (try clear hi)
               refine hK.out _ _ ⟨c_ BK329 0, ⟨c_ BK329 1, (c_ BK329 2)⟩⟩ (fun hHeld => ?_)
               clear hK K
               refine norm_ (a' := ?_) ?_ ?_
               rotate_left
               ·
                show Act.put _ (some 54) _ = _
                simp only [Act.put, List.setIfInBounds_toArray, List.set_cons_zero, List.set_cons_succ, i64_w, i32_w]
                rfl
               refine one_ (i := 16) (N := some 10) zq31.q15 rfl rfl (one_of HT_.out (by kernel_rfl)) (by decide) (fun K hK => ?_)
               refine box_step ?hg (N := 10) ?hd (cs := #[.int .i64 0, .int .i64 0]) (t := 23) ?hr ?_; (case hd => rfl); (case hg => rfl); (case hr => first | (go_simp; done) | (go_simp; rfl))
               intro gb343 hg w41 hbox hb
               replace HO_338002 := Aside0.mk (Kd.R_below (by (with_reducible repeat (first | apply Kd.R_alloc | apply Kd.R_drewN | apply Kd.R_drew)); exact HO_338002.out) hb)
               have BK343 := Aside0.mk (hbox)
               have GW343 := Aside0.mk ((by rw [hg]; exact (below_size (hq_ HB)) : w.heap.size ≤ gb343))
               have GE343 := Aside0.mk ((by rw [hg]; exact (below_size (hq_ HB)) : w.heap.size ≤ gb343))
               replace HB := hb_ HB hb
               have NB329_343 := Aside0.mk ((by rw [hg]; exact Nat.ne_of_lt (blk_lt (g := gb329) (o := .cells #[.int .i64 a1_0, .int .i64 a1_1, .slice (some ad338) l1_2.length c1_2] 47 (0, 0)) (bq_ BK329)) : gb329 ≠ gb343))
               have NB343_329 := Aside0.mk ((by rw [hg]; exact Nat.ne_of_gt (blk_lt (g := gb329) (o := .cells #[.int .i64 a1_0, .int .i64 a1_1, .slice (some ad338) l1_2.length c1_2] 47 (0, 0)) (bq_ BK329)) : gb343 ≠ gb329))
               replace BK329 := bb_ BK329 hb
               have NB330_343 := Aside0.mk ((by rw [hg]; exact Nat.ne_of_lt (blk_lt (g := gb330) (o := .cells #[.int .i64 0, .int .i64 0, .slice none 0 0] 47 (0, 0)) (bq_ BK330)) : gb330 ≠ gb343))
               have NB343_330 := Aside0.mk ((by rw [hg]; exact Nat.ne_of_gt (blk_lt (g := gb330) (o := .cells #[.int .i64 0, .int .i64 0, .slice none 0 0] 47 (0, 0)) (bq_ BK330)) : gb343 ≠ gb330))
               replace BK330 := bb_ BK330 hb
               have NB337_343 := Aside0.mk ((by rw [hg]; exact Nat.ne_of_lt (blk_lt (g := gb337) (o := .cells #[.int .i64 t332, .int .i64 t333, u338002] 47 (0, 0)) (bq_ BK337)) : gb337 ≠ gb343))
               have NB343_337 := Aside0.mk ((by rw [hg]; exact Nat.ne_of_gt (blk_lt (g := gb337) (o := .cells #[.int .i64 t332, .int .i64 t333, u338002] 47 (0, 0)) (bq_ BK337)) : gb343 ≠ gb337))
               replace BK337 := bb_ BK337 hb
               have NB339_343 := Aside0.mk ((by rw [hg]; exact Nat.ne_of_lt (blk_lt (g := gb339) (o := .cells #[.int .u8 ((rd_T58 l1_2 x34_1).f0), .int .u8 ((rd_T58 l1_2 x34_1).f1), .int .u8 ((rd_T58 l1_2 x34_1).f2), .int .u8 ((rd_T58 l1_2 x34_1).f3)] 58 (0, 0)) (bq_ BK339)) : gb339 ≠ gb343))
               have NB343_339 := Aside0.mk ((by rw [hg]; exact Nat.ne_of_gt (blk_lt (g := gb339) (o := .cells #[.int .u8 ((rd_T58 l1_2 x34_1).f0), .int .u8 ((rd_T58 l1_2 x34_1).f1), .int .u8 ((rd_T58 l1_2 x34_1).f2), .int .u8 ((rd_T58 l1_2 x34_1).f3)] 58 (0, 0)) (bq_ BK339)) : gb343 ≠ gb339))
               replace BK339 := bb_ BK339 hb
               clear hb hbox hg
               refine hK.out _ _ ⟨c_ BK329 0, ⟨c_ BK329 1, (c_ BK329 2)⟩⟩ (fun hHeld => ?_)
               clear hK K
               refine norm_ (a' := ?_) ?_ ?_
               rotate_left
               ·
                show Act.put _ (some 10) _ = _
                simp only [Act.put, List.setIfInBounds_toArray, List.set_cons_zero, List.set_cons_succ, i64_w, i32_w]
                rfl
               exact norm_ (by simp only [putAll, Act.put, List.setIfInBounds_toArray, List.set_cons_zero, List.set_cons_succ]) (hCont (gb343) _ ⟨hHeld, (by (with_reducible repeat (first | apply Kd.R_alloc | apply Kd.R_drewN | apply Kd.R_drew)); exact HO_338002.out), (bq_ BK329), (bq_ BK330), (bq_ BK337), (bq_ BK339), (bq_ BK343), GW343.out, GE343.out, NB329_343.out, NB343_329.out, NB330_343.out, NB343_330.out, NB337_343.out, NB343_337.out, NB339_343.out, NB343_339.out, (hq_ HB)⟩)
              ·
               refine box_step ?hg (N := 10) ?hd (cs := #[.int .i64 0, .int .i64 0]) (t := 23) ?hr ?_; (case hd => rfl); (case hg => rfl); (case hr => first | (go_simp; done) | (go_simp; rfl))
               intro gb343 hg w40 hbox hb
               replace HO_338002 := Aside0.mk (Kd.R_below (by (with_reducible repeat (first | apply Kd.R_alloc | apply Kd.R_drewN | apply Kd.R_drew)); exact HO_338002.out) hb)
               have BK343 := Aside0.mk (hbox)
               have GW343 := Aside0.mk ((by rw [hg]; exact (below_size (hq_ HB)) : w.heap.size ≤ gb343))
               have GE343 := Aside0.mk ((by rw [hg]; exact (below_size (hq_ HB)) : w.heap.size ≤ gb343))
               replace HB := hb_ HB hb
               have NB329_343 := Aside0.mk ((by rw [hg]; exact Nat.ne_of_lt (blk_lt (g := gb329) (o := .cells #[.int .i64 a1_0, .int .i64 a1_1, .slice (some ad338) l1_2.length c1_2] 47 (0, 0)) (bq_ BK329)) : gb329 ≠ gb343))
               have NB343_329 := Aside0.mk ((by rw [hg]; exact Nat.ne_of_gt (blk_lt (g := gb329) (o := .cells #[.int .i64 a1_0, .int .i64 a1_1, .slice (some ad338) l1_2.length c1_2] 47 (0, 0)) (bq_ BK329)) : gb343 ≠ gb329))
               replace BK329 := bb_ BK329 hb
               have NB330_343 := Aside0.mk ((by rw [hg]; exact Nat.ne_of_lt (blk_lt (g := gb330) (o := .cells #[.int .i64 0, .int .i64 0, .slice none 0 0] 47 (0, 0)) (bq_ BK330)) : gb330 ≠ gb343))
               have NB343_330 := Aside0.mk ((by rw [hg]; exact Nat.ne_of_gt (blk_lt (g := gb330) (o := .cells #[.int .i64 0, .int .i64 0, .slice none 0 0] 47 (0, 0)) (bq_ BK330)) : gb343 ≠ gb330))
               replace BK330 := bb_ BK330 hb
               have NB337_343 := Aside0.mk ((by rw [hg]; exact Nat.ne_of_lt (blk_lt (g := gb337) (o := .cells #[.int .i64 t332, .int .i64 t333, u338002] 47 (0, 0)) (bq_ BK337)) : gb337 ≠ gb343))
               have NB343_337 := Aside0.mk ((by rw [hg]; exact Nat.ne_of_gt (blk_lt (g := gb337) (o := .cells #[.int .i64 t332, .int .i64 t333, u338002] 47 (0, 0)) (bq_ BK337)) : gb343 ≠ gb337))
               replace BK337 := bb_ BK337 hb
               have NB339_343 := Aside0.mk ((by rw [hg]; exact Nat.ne_of_lt (blk_lt (g := gb339) (o := .cells #[.int .u8 ((rd_T58 l1_2 x34_1).f0), .int .u8 ((rd_T58 l1_2 x34_1).f1), .int .u8 ((rd_T58 l1_2 x34_1).f2), .int .u8 ((rd_T58 l1_2 x34_1).f3)] 58 (0, 0)) (bq_ BK339)) : gb339 ≠ gb343))
               have NB343_339 := Aside0.mk ((by rw [hg]; exact Nat.ne_of_gt (blk_lt (g := gb339) (o := .cells #[.int .u8 ((rd_T58 l1_2 x34_1).f0), .int .u8 ((rd_T58 l1_2 x34_1).f1), .int .u8 ((rd_T58 l1_2 x34_1).f2), .int .u8 ((rd_T58 l1_2 x34_1).f3)] 58 (0, 0)) (bq_ BK339)) : gb343 ≠ gb339))
               replace BK339 := bb_ BK339 hb
               clear hb hbox hg
               refine hK.out _ _ ⟨c_ BK329 0, ⟨c_ BK329 1, (c_ BK329 2)⟩⟩ (fun hHeld => ?_)
               clear hK K
               refine norm_ (a' := ?_) ?_ ?_
               rotate_left
               ·
                show Act.put _ (some 10) _ = _
                simp only [Act.put, List.setIfInBounds_toArray, List.set_cons_zero, List.set_cons_succ, i64_w, i32_w]
                rfl
               refine one_ (i := 15) (N := some 54) zq31.q15 rfl rfl (one_of HT_.out (by kernel_rfl)) (by decide) (fun K hK => ?_)
               refine gs_ Tryd.func37 #[.int .i64 t340, .int .i64 a1_0, .int .i64 a1_1, .agg #[.int .i64 (Int.tmod x34_1 a1_0), .int .i64 (wrap64 (Int.tdiv x34_1 a1_0))]] ?_
               with_reducible refine (transform_apply.calls k1 t340 a1_0 a1_1 (Int.tmod x34_1 a1_0) (wrap64 (Int.tdiv x34_1 a1_0)) t341 t342 _ A28.out).mono ?_
               rintro e w41 ⟨rfl, hb⟩
               refine ⟨_, rfl, ?_⟩
               replace HO_338002 := Aside0.mk (Kd.R_below (by (with_reducible repeat (first | apply Kd.R_alloc | apply Kd.R_drewN | apply Kd.R_drew)); exact HO_338002.out) hb)
               replace BK329 := bb_ BK329 hb
               replace BK330 := bb_ BK330 hb
               replace BK337 := bb_ BK337 hb
               replace BK339 := bb_ BK339 hb
               replace BK343 := bb_ BK343 hb
               replace HB := hb_ HB hb
               (try clear hb); (try clear hb2); (try clear hk); (try clear hi)
               refine hK.out _ _ ⟨c_ BK329 0, ⟨c_ BK329 1, (c_ BK329 2)⟩⟩ (fun hHeld => ?_)
               clear hK K
               refine norm_ (a' := ?_) ?_ ?_
               rotate_left
               ·
                show Act.put _ (some 54) _ = _
                simp only [Act.put, List.setIfInBounds_toArray, List.set_cons_zero, List.set_cons_succ, i64_w, i32_w]
                rfl
               exact norm_ (by simp only [putAll, Act.put, List.setIfInBounds_toArray, List.set_cons_zero, List.set_cons_succ]) (hCont (gb343) _ ⟨hHeld, (by (with_reducible repeat (first | apply Kd.R_alloc | apply Kd.R_drewN | apply Kd.R_drew)); exact HO_338002.out), (bq_ BK329), (bq_ BK330), (bq_ BK337), (bq_ BK339), (bq_ BK343), GW343.out, GE343.out, NB329_343.out, NB343_329.out, NB330_343.out, NB343_330.out, NB337_343.out, NB343_337.out, NB339_343.out, NB343_339.out, (hq_ HB)⟩)
             ·
              refine box_step ?hg (N := 10) ?hd (cs := #[.int .i64 0, .int .i64 0]) (t := 23) ?hr ?_; (case hd => rfl); (case hg => rfl); (case hr => first | (go_simp; done) | (go_simp; rfl))
              intro gb343 hg w40 hbox hb
              replace HO_338002 := Aside0.mk (Kd.R_below (by (with_reducible repeat (first | apply Kd.R_alloc | apply Kd.R_drewN | apply Kd.R_drew)); exact HO_338002.out) hb)
              have BK343 := Aside0.mk (hbox)
              have GW343 := Aside0.mk ((by rw [hg]; exact (below_size (hq_ HB)) : w.heap.size ≤ gb343))
              have GE343 := Aside0.mk ((by rw [hg]; exact (below_size (hq_ HB)) : w.heap.size ≤ gb343))
              replace HB := hb_ HB hb
              have NB329_343 := Aside0.mk ((by rw [hg]; exact Nat.ne_of_lt (blk_lt (g := gb329) (o := .cells #[.int .i64 a1_0, .int .i64 a1_1, .slice (some ad338) l1_2.length c1_2] 47 (0, 0)) (bq_ BK329)) : gb329 ≠ gb343))
              have NB343_329 := Aside0.mk ((by rw [hg]; exact Nat.ne_of_gt (blk_lt (g := gb329) (o := .cells #[.int .i64 a1_0, .int .i64 a1_1, .slice (some ad338) l1_2.length c1_2] 47 (0, 0)) (bq_ BK329)) : gb343 ≠ gb329))
              replace BK329 := bb_ BK329 hb
              have NB330_343 := Aside0.mk ((by rw [hg]; exact Nat.ne_of_lt (blk_lt (g := gb330) (o := .cells #[.int .i64 0, .int .i64 0, .slice none 0 0] 47 (0, 0)) (bq_ BK330)) : gb330 ≠ gb343))
              have NB343_330 := Aside0.mk ((by rw [hg]; exact Nat.ne_of_gt (blk_lt (g := gb330) (o := .cells #[.int .i64 0, .int .i64 0, .slice none 0 0] 47 (0, 0)) (bq_ BK330)) : gb343 ≠ gb330))
              replace BK330 := bb_ BK330 hb
              have NB337_343 := Aside0.mk ((by rw [hg]; exact Nat.ne_of_lt (blk_lt (g := gb337) (o := .cells #[.int .i64 t332, .int .i64 t333, u338002] 47 (0, 0)) (bq_ BK337)) : gb337 ≠ gb343))
              have NB343_337 := Aside0.mk ((by rw [hg]; exact Nat.ne_of_gt (blk_lt (g := gb337) (o := .cells #[.int .i64 t332, .int .i64 t333, u338002] 47 (0, 0)) (bq_ BK337)) : gb343 ≠ gb337))
              replace BK337 := bb_ BK337 hb
              have NB339_343 := Aside0.mk ((by rw [hg]; exact Nat.ne_of_lt (blk_lt (g := gb339) (o := .cells #[.int .u8 ((rd_T58 l1_2 x34_1).f0), .int .u8 ((rd_T58 l1_2 x34_1).f1), .int .u8 ((rd_T58 l1_2 x34_1).f2), .int .u8 ((rd_T58 l1_2 x34_1).f3)] 58 (0, 0)) (bq_ BK339)) : gb339 ≠ gb343))
              have NB343_339 := Aside0.mk ((by rw [hg]; exact Nat.ne_of_gt (blk_lt (g := gb339) (o := .cells #[.int .u8 ((rd_T58 l1_2 x34_1).f0), .int .u8 ((rd_T58 l1_2 x34_1).f1), .int .u8 ((rd_T58 l1_2 x34_1).f2), .int .u8 ((rd_T58 l1_2 x34_1).f3)] 58 (0, 0)) (bq_ BK339)) : gb343 ≠ gb339))
              replace BK339 := bb_ BK339 hb
              clear hb hbox hg
              refine hK.out _ _ ⟨c_ BK329 0, ⟨c_ BK329 1, (c_ BK329 2)⟩⟩ (fun hHeld => ?_)
              clear hK K
              refine norm_ (a' := ?_) ?_ ?_
              rotate_left
              ·
               show Act.put _ (some 10) _ = _
               simp only [Act.put, List.setIfInBounds_toArray, List.set_cons_zero, List.set_cons_succ, i64_w, i32_w]
               rfl
              refine one_ (i := 1) (N := some 40) zq31.q19 rfl rfl (one_of HT_.out (by kernel_rfl)) (by decide) (fun K hK => ?_)
              refine gs_ Tryd.func33 #[.int .i64 a0] ?_
              with_reducible refine (transform_normal.calls a0 t340 _ A26.out).mono ?_
              rintro e w' ⟨rfl, ⟨nd, rfl⟩⟩
              refine ⟨_, rfl, ?_⟩
              refine hK.out _ _ ⟨c_ BK329 0, ⟨c_ BK329 1, (c_ BK329 2)⟩⟩ (fun hHeld => ?_)
              clear hK K
              refine norm_ (a' := ?_) ?_ ?_
              rotate_left
              ·
               show Act.put _ (some 40) _ = _
               simp only [Act.put, List.setIfInBounds_toArray, List.set_cons_zero, List.set_cons_succ, i64_w, i32_w]
               rfl
              refine one_ (i := 15) (N := some 54) zq31.q15 rfl rfl (one_of HT_.out (by kernel_rfl)) (by decide) (fun K hK => ?_)
              refine gs_ Tryd.func37 #[.int .i64 t340, .int .i64 a1_0, .int .i64 a1_1, .agg #[.int .i64 (Int.tmod x34_1 a1_0), .int .i64 (wrap64 (Int.tdiv x34_1 a1_0))]] ?_
              with_reducible refine (transform_apply.calls k1 t340 a1_0 a1_1 (Int.tmod x34_1 a1_0) (wrap64 (Int.tdiv x34_1 a1_0)) t341 t342 _ A28.out).mono ?_
              rintro e w41 ⟨rfl, hb⟩
              refine ⟨_, rfl, ?_⟩
              replace HO_338002 := Aside0.mk (Kd.R_below (by (with_reducible repeat (first | apply Kd.R_alloc | apply Kd.R_drewN | apply Kd.R_drew)); exact HO_338002.out) hb)
              replace BK329 := bb_ BK329 hb
              replace BK330 := bb_ BK330 hb
              replace BK337 := bb_ BK337 hb
              replace BK339 := bb_ BK339 hb
              replace BK343 := bb_ BK343 hb
              replace HB := hb_ HB hb
              (try clear hb); (try clear hb2); (try clear hk); (try clear hi)
              refine hK.out _ _ ⟨c_ BK329 0, ⟨c_ BK329 1, (c_ BK329 2)⟩⟩ (fun hHeld => ?_)
              clear hK K
              refine norm_ (a' := ?_) ?_ ?_
              rotate_left
              ·
               show Act.put _ (some 54) _ = _
               simp only [Act.put, List.setIfInBounds_toArray, List.set_cons_zero, List.set_cons_succ, i64_w, i32_w]
               rfl
              exact norm_ (by simp only [putAll, Act.put, List.setIfInBounds_toArray, List.set_cons_zero, List.set_cons_succ]) (hCont (gb343) _ ⟨hHeld, (by (with_reducible repeat (first | apply Kd.R_alloc | apply Kd.R_drewN | apply Kd.R_drew)); exact HO_338002.out), (bq_ BK329), (bq_ BK330), (bq_ BK337), (bq_ BK339), (bq_ BK343), GW343.out, GE343.out, NB329_343.out, NB343_329.out, NB330_343.out, NB343_330.out, NB337_343.out, NB343_337.out, NB339_343.out, NB343_339.out, (hq_ HB)⟩)
            rintro gb343 w42 ⟨hS_, h0_, h1_, h2_, h3_, h4_, h5_, h6_, h7_, h8_, h9_, h10_, h11_, h12_, h13_, h14_, h15_, h16_⟩
            replace HO_338002 := Aside0.mk h0_
            replace BK329 := Aside0.mk h1_
            replace BK330 := Aside0.mk h2_
            replace BK337 := Aside0.mk h3_
            replace BK339 := Aside0.mk h4_
            have BK343 := Aside0.mk h5_
            have GW343 := Aside0.mk h6_
            have GE343 := Aside0.mk h7_
            have NB329_343 := Aside0.mk h8_
            have NB343_329 := Aside0.mk h9_
            have NB330_343 := Aside0.mk h10_
            have NB343_330 := Aside0.mk h11_
            have NB337_343 := Aside0.mk h12_
            have NB343_337 := Aside0.mk h13_
            have NB339_343 := Aside0.mk h14_
            have NB343_339 := Aside0.mk h15_
            replace HB := Aside0.mk h16_
            clear h0_ h1_ h2_ h3_ h4_ h5_ h6_ h7_ h8_ h9_ h10_ h11_ h12_ h13_ h14_ h15_ h16_
            have hHeld := hS_
            refine norm_ (a' := ?_) ?_ ?_
            rotate_left
            ·
             simp only [putAll, Act.put, List.setIfInBounds_toArray, List.set_cons_zero, List.set_cons_succ]
             rfl
            refine one_ (i := 17) (N := none) zq31.q20 rfl rfl (one_of HT_.out (by kernel_rfl)) (by decide) (fun K hK => ?_)
            have hs43 : w42.cell? ⟨gb343, 0, none⟩ = some (.int .i64 0) := (blk_cell BK343.out 0).trans rfl
            have hfs43 := blk_frozen BK343.out 0
            have hns43_0 := NB329_343.out
            have hns43_1 := NB330_343.out
            have hns43_2 := NB337_343.out
            have hns43_3 := NB339_343.out
            have hms43_0 := NB343_329.out
            have hms43_1 := NB343_330.out
            have hms43_2 := NB343_337.out
            have hms43_3 := NB343_339.out
            have hs44 : w42.cell? ⟨gb343, 1, none⟩ = some (.int .i64 0) := (blk_cell BK343.out 1).trans rfl
            have hfs44 := blk_frozen BK343.out 1
            have hns44_0 := NB329_343.out
            have hns44_1 := NB330_343.out
            have hns44_2 := NB337_343.out
            have hns44_3 := NB339_343.out
            have hms44_0 := NB343_329.out
            have hms44_1 := NB343_330.out
            have hms44_2 := NB343_337.out
            have hms44_3 := NB343_339.out
            refine skip_ (w1 := ?_) (by rfl) rfl ?_ ?_
            rotate_left
            ·
             go_simp
             rfl
            refine hK.out _ _ ⟨((cell_far (p := ⟨gb343, _, none⟩) NB329_343.out _).trans (((cell_far (p := ⟨gb343, _, none⟩) NB329_343.out _).trans (hHeld.1)))), ((cell_far (p := ⟨gb343, _, none⟩) NB329_343.out _).trans (((cell_far (p := ⟨gb343, _, none⟩) NB329_343.out _).trans (hHeld.2.1)))), ((cell_far (p := ⟨gb343, _, none⟩) NB329_343.out _).trans (((cell_far (p := ⟨gb343, _, none⟩) NB329_343.out _).trans (hHeld.2.2))))⟩ (fun hHeld => ?_)
            clear hK K
            refine done_ (done_of HT_.out (by kernel_rfl)) ?_
            have n0_ : Aside0 (Kd.R k58 58 ((w42.setCell ⟨gb343, 0, none⟩ (.int .i64 t341)).setCell ⟨gb343, 1, none⟩ (.int .i64 t342)) w.heap.size (fun k_ => k_ ≠ gb339) u338002 x338002_1) := ⟨by (with_reducible repeat (first | apply Kd.R_alloc | apply Kd.R_drewN | apply Kd.R_drew)); exact Kd.R_mono (Kd.R_far (p := ⟨gb343, 1, none⟩) (Kd.R_far (p := ⟨gb343, 0, none⟩) (Kd.R_types HO_338002.out BK343.out (by decide)) (fun _ hk => hk.2) (.int .i64 t341)) (fun _ hk => hk.2) (.int .i64 t342)) (fun _ hk => hk.1)⟩
            have n1_ : Aside0 (((w42.setCell ⟨gb343, 0, none⟩ (.int .i64 t341)).setCell ⟨gb343, 1, none⟩ (.int .i64 t342)).heap[gb329]? = some (.cells #[.int .i64 a1_0, .int .i64 a1_1, .slice (some ad338) l1_2.length c1_2] 47 (0, 0))) := bf_ BK329
            have n2_ : Aside0 (((w42.setCell ⟨gb343, 0, none⟩ (.int .i64 t341)).setCell ⟨gb343, 1, none⟩ (.int .i64 t342)).heap[gb330]? = some (.cells #[.int .i64 0, .int .i64 0, .slice none 0 0] 47 (0, 0))) := bf_ BK330
            have n3_ : Aside0 (((w42.setCell ⟨gb343, 0, none⟩ (.int .i64 t341)).setCell ⟨gb343, 1, none⟩ (.int .i64 t342)).heap[gb337]? = some (.cells #[.int .i64 t332, .int .i64 t333, u338002] 47 (0, 0))) := bf_ BK337
            have n4_ : Aside0 (((w42.setCell ⟨gb343, 0, none⟩ (.int .i64 t341)).setCell ⟨gb343, 1, none⟩ (.int .i64 t342)).heap[gb339]? = some (.cells #[.int .u8 ((rd_T58 l1_2 x34_1).f0), .int .u8 ((rd_T58 l1_2 x34_1).f1), .int .u8 ((rd_T58 l1_2 x34_1).f2), .int .u8 ((rd_T58 l1_2 x34_1).f3)] 58 (0, 0))) := bf_ BK339
            have n5_ : Aside0 (((w42.setCell ⟨gb343, 0, none⟩ (.int .i64 t341)).setCell ⟨gb343, 1, none⟩ (.int .i64 t342)).heap[gb343]? = some (.cells #[.int .i64 t341, .int .i64 t342] 23 (0, 0))) := ⟨by (with_reducible repeat (first | refine blk_drewN ?_ _ | refine blk_drew ?_ | refine blk_alloc ?_ _)); refine blk_put (cs := #[.int .i64 t341, .int .i64 0]) ?_ 1 _ rfl; (with_reducible repeat (first | refine blk_drewN ?_ _ | refine blk_drew ?_ | refine blk_alloc ?_ _)); refine blk_put (cs := #[.int .i64 0, .int .i64 0]) ?_ 0 _ rfl; (with_reducible repeat (first | refine blk_drewN ?_ _ | refine blk_drew ?_ | refine blk_alloc ?_ _)); exact BK343.out⟩
            have n6_ : Aside0 (Below w.heap.size w ((w42.setCell ⟨gb343, 0, none⟩ (.int .i64 t341)).setCell ⟨gb343, 1, none⟩ (.int .i64 t342))) := ⟨by repeat (first | (with_reducible first | exact HB.out | apply below_alloc | apply pw_below_drewN | apply below_drew1 | refine below_set ?_ GE329.out | refine below_set ?_ GE330.out | refine below_set ?_ GE337.out | refine below_set ?_ GE339.out | refine below_set ?_ GE343.out) | exact HB.out)⟩
            (try clear HO_338002)
            (try clear BK329)
            (try clear BK330)
            (try clear BK337)
            (try clear BK339)
            (try clear BK343)
            (try clear HB)
            generalize ((w42.setCell ⟨gb343, 0, none⟩ (.int .i64 t341)).setCell ⟨gb343, 1, none⟩ (.int .i64 t342)) = w45 at n0_ n1_ n2_ n3_ n4_ n5_ n6_ ⊢
            have HO_338002 := n0_
            have BK329 := n1_
            have BK330 := n2_
            have BK337 := n3_
            have BK339 := n4_
            have BK343 := n5_
            have HB := n6_
            clear n0_ n1_ n2_ n3_ n4_ n5_ n6_
            have hnb46 := NB337_329.out
            have hnc46 := NB329_337.out
            have hnb47 := NB337_330.out
            have hnc47 := NB330_337.out
            have hnb48 := NB337_343.out
            have hnc48 := NB343_337.out
            have hcz49_0 : w45.cell? ⟨gb337, 0, none⟩ = some (.int .i64 t332) := (blk_cell BK337.out 0).trans rfl
            have hcz49_1 : w45.cell? ⟨gb337, 1, none⟩ = some (.int .i64 t333) := (blk_cell BK337.out 1).trans rfl
            have hcz49_2 : w45.cell? ⟨gb337, 2, none⟩ = some (u338002) := (blk_cell BK337.out 2).trans rfl
            have hfz49_0 := blk_frozen BK337.out 0
            have hfz49_1 := blk_frozen BK337.out 1
            have hfz49_2 := blk_frozen BK337.out 2
            have hnb50 := NB343_329.out
            have hnc50 := NB329_343.out
            have hnb51 := NB343_330.out
            have hnc51 := NB330_343.out
            have hnb52 := NB343_339.out
            have hnc52 := NB339_343.out
            have hcz53_0 : w45.cell? ⟨gb343, 0, none⟩ = some (.int .i64 t341) := (blk_cell BK343.out 0).trans rfl
            have hcz53_1 : w45.cell? ⟨gb343, 1, none⟩ = some (.int .i64 t342) := (blk_cell BK343.out 1).trans rfl
            have hfz53_0 := blk_frozen BK343.out 0
            have hfz53_1 := blk_frozen BK343.out 1
            have hcz54_0 : w45.cell? ⟨gb339, 0, none⟩ = some (.int .u8 ((rd_T58 l1_2 x34_1).f0)) := (blk_cell BK339.out 0).trans rfl
            have hcz54_1 : w45.cell? ⟨gb339, 1, none⟩ = some (.int .u8 ((rd_T58 l1_2 x34_1).f1)) := (blk_cell BK339.out 1).trans rfl
            have hcz54_2 : w45.cell? ⟨gb339, 2, none⟩ = some (.int .u8 ((rd_T58 l1_2 x34_1).f2)) := (blk_cell BK339.out 2).trans rfl
            have hcz54_3 : w45.cell? ⟨gb339, 3, none⟩ = some (.int .u8 ((rd_T58 l1_2 x34_1).f3)) := (blk_cell BK339.out 3).trans rfl
            have hfz54_0 := blk_frozen BK339.out 0
            have hfz54_1 := blk_frozen BK339.out 1
            have hfz54_2 := blk_frozen BK339.out 2
            have hfz54_3 := blk_frozen BK339.out 3
            have p32 : 0 ≤ ((ji29) : Int) := of_decide_eq_true (by first | (with_reducible assumption) | assumption)
            have q32 : ((ji29) : Int) < ((x338002_1.length : Int) : Int) := of_decide_eq_true (by first | (with_reducible assumption) | assumption)
            obtain ⟨go32, co32, eo32, gb32, gl32, cl32, HG32⟩ := Kd.R_form HO_338002.out (by omega)
            (first | cases eo32 | (injection eo32 with ea_ en_ ec_; (first | subst ea_ | (injection ea_ with ea_; subst ea_)); subst ec_; clear en_))
            have GB32 := Aside0.mk gb32
            have GG32 := Aside0.mk HG32
            clear gb32 gl32 HG32
            obtain ⟨ce32, hcl32, hM32, hcc32, hfr32⟩ := Kd.R_elem HO_338002.out z58 ((ji29) : Int) p32 q32
            obtain rfl := k58_openM hM32
            have hx32_0 : w45.cell? ⟨go32, ((ji29) : Int).toNat * 4, none⟩ = some (.int .u8 ((rd_T58 x338002_1 (ji29)).f0)) := hcc32 0 _ rfl
            have hx32_1 : w45.cell? ⟨go32, ((ji29) : Int).toNat * 4 + 1, none⟩ = some (.int .u8 ((rd_T58 x338002_1 (ji29)).f1)) := hcc32 1 _ rfl
            have hx32_2 : w45.cell? ⟨go32, ((ji29) : Int).toNat * 4 + 2, none⟩ = some (.int .u8 ((rd_T58 x338002_1 (ji29)).f2)) := hcc32 2 _ rfl
            have hx32_3 : w45.cell? ⟨go32, ((ji29) : Int).toNat * 4 + 3, none⟩ = some (.int .u8 ((rd_T58 x338002_1 (ji29)).f3)) := hcc32 3 _ rfl
            have hf32_0 : w45.frozen? ⟨go32, ((ji29) : Int).toNat * 4, none⟩ = false := hfr32 0
            have hf32_1 : w45.frozen? ⟨go32, ((ji29) : Int).toNat * 4 + 1, none⟩ = false := hfr32 1
            have hf32_2 : w45.frozen? ⟨go32, ((ji29) : Int).toNat * 4 + 2, none⟩ = false := hfr32 2
            have hf32_3 : w45.frozen? ⟨go32, ((ji29) : Int).toNat * 4 + 3, none⟩ = false := hfr32 3
            clear hcl32 hcc32 hfr32 hM32
            replace p32 := eq_true p32
            replace q32 := eq_true q32
            have HX55 := Aside0.mk (show Kd.R k58 58 w45 w.heap.size (fun k_ => k_ ≠ gb339) (.slice (some ⟨go32, 0, none⟩) x338002_1.length co32) x338002_1 from (by (with_reducible repeat (first | apply Kd.R_alloc | apply Kd.R_drewN | apply Kd.R_drew)); exact HO_338002.out))
            obtain ⟨ce55, hcl55, hM55, hcc55, hfr55⟩ := Kd.R_elem HX55.out z58 ((ji29) : Int) (of_decide_eq_true (by first | (with_reducible assumption) | assumption)) (by have h_ : ((ji29) : Int) < ((x338002_1.length : Int) : Int) := of_decide_eq_true (by first | (with_reducible assumption) | assumption); first | exact h_ | (have e_ := (Kd.R_reads' HO_338002.out).1; omega) | simpa using h_)
            obtain rfl := k58_openM hM55
            have HP55 := Kd.R_seg HX55.out ((ji29) : Int) (of_decide_eq_true (by first | (with_reducible assumption) | assumption)) (by have h_ : ((ji29) : Int) < ((x338002_1.length : Int) : Int) := of_decide_eq_true (by first | (with_reducible assumption) | assumption); first | exact h_ | (have e_ := (Kd.R_reads' HO_338002.out).1; omega) | simpa using h_) (seg := [.int .u8 ((rd_T58 l1_2 x34_1).f0), .int .u8 ((rd_T58 l1_2 x34_1).f1), .int .u8 ((rd_T58 l1_2 x34_1).f2), .int .u8 ((rd_T58 l1_2 x34_1).f3)]) (j := 0) hcl55 hcc55 (show 4 ≤ 4 from by decide) (x' := (⟨(rd_T58 l1_2 x34_1).f0, (rd_T58 l1_2 x34_1).f1, (rd_T58 l1_2 x34_1).f2, (rd_T58 l1_2 x34_1).f3⟩ : S58)) (k58_mkM _ _ _ (⟨(rd_T58 l1_2 x34_1).f0, (rd_T58 l1_2 x34_1).f1, (rd_T58 l1_2 x34_1).f2, (rd_T58 l1_2 x34_1).f3⟩ : S58) ) (fun _ hk => hk)
            have hx55_0 := hcc55 0 _ rfl
            (try simp only [show (k58).sz = 4 from rfl, Nat.mul_one, Nat.add_zero] at hx55_0)
            have hf55_0 := hfr55 0
            (try simp only [show (k58).sz = 4 from rfl, Nat.mul_one, Nat.add_zero] at hf55_0)
            have hx55_1 := hcc55 1 _ rfl
            (try simp only [show (k58).sz = 4 from rfl, Nat.mul_one, Nat.add_zero] at hx55_1)
            have hf55_1 := hfr55 1
            (try simp only [show (k58).sz = 4 from rfl, Nat.mul_one, Nat.add_zero] at hf55_1)
            have hx55_2 := hcc55 2 _ rfl
            (try simp only [show (k58).sz = 4 from rfl, Nat.mul_one, Nat.add_zero] at hx55_2)
            have hf55_2 := hfr55 2
            (try simp only [show (k58).sz = 4 from rfl, Nat.mul_one, Nat.add_zero] at hf55_2)
            have hx55_3 := hcc55 3 _ rfl
            (try simp only [show (k58).sz = 4 from rfl, Nat.mul_one, Nat.add_zero] at hx55_3)
            have hf55_3 := hfr55 3
            (try simp only [show (k58).sz = 4 from rfl, Nat.mul_one, Nat.add_zero] at hf55_3)
            clear hcl55 hcc55 hfr55 hM55
            try go_wp2_with (first | ((with_reducible refine gate_store (t := 58) (p := 65) rfl ?_); refine store_event (t := 58) (p := 65) (v := ?vo_w56) (w1 := ((((w45.setCell ⟨go32, ((ji29) : Int).toNat * 4, none⟩ (.int .u8 ((rd_T58 l1_2 x34_1).f0))).setCell ⟨go32, ((ji29) : Int).toNat * 4 + 1, none⟩ (.int .u8 ((rd_T58 l1_2 x34_1).f1))).setCell ⟨go32, ((ji29) : Int).toNat * 4 + 2, none⟩ (.int .u8 ((rd_T58 l1_2 x34_1).f2))).setCell ⟨go32, ((ji29) : Int).toNat * 4 + 3, none⟩ (.int .u8 ((rd_T58 l1_2 x34_1).f3)))) ?hg ?ho ?hn ?hr ?_; (case ho => rfl); (case hg => rfl); (case hn => rfl); (case hr => first | (go_simp; done) | (go_simp; rfl)); intro w56 hw; have hg : w45.grownBy w56 (some go32) := (by rw [hw]; exact HP55.2); have hp_ : Kd.R k58 58 w56 w.heap.size (fun k_ => k_ ≠ gb339) (.slice (some ⟨go32, 0, none⟩) x338002_1.length co32) y344 := (by rw [hw, Ny344.out]; exact HP55.1); clear HP55; have n0_ := Aside0.mk (hp_); have n1_ := Aside0.mk (blk_grown (g := gb329) (o := .cells #[.int .i64 a1_0, .int .i64 a1_1, .slice (some ad338) l1_2.length c1_2] 47 (0, 0)) (bq_ BK329) hg (Kd.R_ne HO_338002.out BK329.out (by decide))); have n2_ := Aside0.mk (blk_grown (g := gb330) (o := .cells #[.int .i64 0, .int .i64 0, .slice none 0 0] 47 (0, 0)) (bq_ BK330) hg (Kd.R_ne HO_338002.out BK330.out (by decide))); have n3_ := Aside0.mk (blk_grown (g := gb337) (o := .cells #[.int .i64 t332, .int .i64 t333, .slice (some ⟨go32, 0, none⟩) x338002_1.length co32] 47 (0, 0)) (bq_ BK337) hg (Kd.R_ne HO_338002.out BK337.out (by decide))); have n4_ := Aside0.mk (blk_grown (g := gb339) (o := .cells #[.int .u8 ((rd_T58 l1_2 x34_1).f0), .int .u8 ((rd_T58 l1_2 x34_1).f1), .int .u8 ((rd_T58 l1_2 x34_1).f2), .int .u8 ((rd_T58 l1_2 x34_1).f3)] 58 (0, 0)) (bq_ BK339) hg (Kd.R_away HO_338002.out (fun _ hk => hk))); have n5_ := Aside0.mk (blk_grown (g := gb343) (o := .cells #[.int .i64 t341, .int .i64 t342] 23 (0, 0)) (bq_ BK343) hg (Kd.R_ne HO_338002.out BK343.out (by decide))); have n6_ := Aside0.mk ((by rw [hw]; exact below_set (below_set (below_set (below_set (HB.out) GB32.out) GB32.out) GB32.out) GB32.out : Below w.heap.size w w56)); clear HO_338002; clear BK329; clear BK330; clear BK337; clear BK339; clear BK343; clear HB; have HO_338002 := n0_; have BK329 := n1_; have BK330 := n2_; have BK337 := n3_; have BK339 := n4_; have BK343 := n5_; have HB := n6_; clear n0_ n1_ n2_ n3_ n4_ n5_ n6_; clear hg hw hp_))
            go_roundg k1
            case measure => have := HK1.out; omega
            case rel => exact ⟨(wrap64 (x34_1 + 1)), (y344), (.slice (some ⟨go32, 0, none⟩) x338002_1.length co32), (by first | rfl | (simp; done) | (simp [*]; done)), H', ⟨by have := HK1.out; omega⟩, ⟨by (with_reducible repeat (first | apply Kd.R_alloc | apply Kd.R_drewN | apply Kd.R_drew)); exact Kd.R_mono HO_338002.out (fun _ hk => trivial)⟩, bf_ BK329, bf_ BK330, bf_ BK337, ⟨by repeat (first | (with_reducible first | exact HB.out | apply below_alloc | apply pw_below_drewN | apply below_drew1 | refine below_set ?_ GE329.out | refine below_set ?_ GE330.out | refine below_set ?_ GE337.out | refine below_set ?_ GE339.out | refine below_set ?_ GE343.out) | exact HB.out)⟩⟩
           ·
            rw [if_neg c31] at H
            exact absurd H (by simp)
          ·
           rw [if_neg c30] at H
           exact absurd H (by simp)
        ·
         rw [if_neg c25] at H
         exact absurd H (by simp)
       ·
        rw [if_neg c24] at H
        exact absurd H (by simp)
      ·
       rw [if_neg c23] at H
       have c23b0 : decide (x34_1 < (l1_2.length : Int)) = false := decide_eq_false c23
       clear c23
       simp only [Option.some.injEq, Prod.mk.injEq] at H
       obtain ⟨rfl, rfl, rfl⟩ := H
       have hnb57 := NB337_329.out
       have hnc57 := NB329_337.out
       have hnb58 := NB337_330.out
       have hnc58 := NB330_337.out
       have hcz59_0 : wr.cell? ⟨gb337, 0, none⟩ = some (.int .i64 t332) := (blk_cell BK337.out 0).trans rfl
       have hcz59_1 : wr.cell? ⟨gb337, 1, none⟩ = some (.int .i64 t333) := (blk_cell BK337.out 1).trans rfl
       have hcz59_2 : wr.cell? ⟨gb337, 2, none⟩ = some (u338002) := (blk_cell BK337.out 2).trans rfl
       have hfz59_0 := blk_frozen BK337.out 0
       have hfz59_1 := blk_frozen BK337.out 1
       have hfz59_2 := blk_frozen BK337.out 2
       have hnb60 := NB330_329.out
       have hnc60 := NB329_330.out
       have hcz61_0 : wr.cell? ⟨gb330, 0, none⟩ = some (.int .i64 0) := (blk_cell BK330.out 0).trans rfl
       have hcz61_1 : wr.cell? ⟨gb330, 1, none⟩ = some (.int .i64 0) := (blk_cell BK330.out 1).trans rfl
       have hcz61_2 : wr.cell? ⟨gb330, 2, none⟩ = some (.slice none 0 0) := (blk_cell BK330.out 2).trans rfl
       have hfz61_0 := blk_frozen BK330.out 0
       have hfz61_1 := blk_frozen BK330.out 1
       have hfz61_2 := blk_frozen BK330.out 2
       obtain ⟨Ao62, co62, eo62⟩ := Kd.R_slice HO_338002.out
       subst eo62
       go_wp2
       refine bodyPost_ret (results_cell_row rfl _ _ gb330 47 #[.int .i64 t332, .int .i64 t333, .slice Ao62 x338002_1.length co62] (0, 0) _ rfl (by (with_reducible repeat (first | refine blk_drewN ?_ _ | refine blk_drew ?_ | refine blk_alloc ?_ _)); refine blk_put (cs := #[.int .i64 t332, .int .i64 t333, .slice none 0 0]) ?_ 2 _ rfl; (with_reducible repeat (first | refine blk_drewN ?_ _ | refine blk_drew ?_ | refine blk_alloc ?_ _)); refine blk_put (cs := #[.int .i64 t332, .int .i64 0, .slice none 0 0]) ?_ 1 _ rfl; (with_reducible repeat (first | refine blk_drewN ?_ _ | refine blk_drew ?_ | refine blk_alloc ?_ _)); refine blk_put (cs := #[.int .i64 0, .int .i64 0, .slice none 0 0]) ?_ 0 _ rfl; (with_reducible repeat (first | refine blk_drewN ?_ _ | refine blk_drew ?_ | refine blk_alloc ?_ _)); exact BK330.out) Tryd.underlying47 rfl (by kernel_rfl)) rfl ?_
       exact ⟨_, by first | rfl | (simp [errW_none, errW_some] <;> rfl) | (simp only [← hji6]; first | rfl | (simp [errW_none, errW_some] <;> rfl)) | (simp [*, errW_none, errW_some] <;> rfl), by (with_reducible repeat (first | apply Kd.R_alloc | apply Kd.R_drewN | apply Kd.R_drew)); exact Kd.R_mono (Kd.R_far (p := ⟨gb330, 2, none⟩) (Kd.R_far (p := ⟨gb330, 1, none⟩) (Kd.R_far (p := ⟨gb330, 0, none⟩) (Kd.R_types HO_338002.out BK330.out (by decide)) (fun _ hk => hk.2) (.int .i64 t332)) (fun _ hk => hk.2) (.int .i64 t333)) (fun _ hk => hk.2) (.slice Ao62 x338002_1.length co62)) (fun _ hk => trivial), by repeat (first | (with_reducible first | exact HB.out | apply below_alloc | apply pw_below_drewN | apply below_drew1 | refine below_set ?_ GE329.out | refine below_set ?_ GE330.out | refine below_set ?_ GE337.out) | exact HB.out)⟩
   ·
    rw [if_neg c8] at H
    exact absurd H (by simp)
  ·
   rw [if_neg c7] at H
   exact absurd H (by simp)
 ·
  replace c4 := Bool.eq_false_iff.mpr c4
  subst c4
  have H1 : (some (0, 0, ([] : List (S58)))) = some (r1, r2, r3) := by rw [if_neg (show ¬ (false = true) by decide)] at H; exact H
  clear H
  have H := H1
  clear H1
  simp only [Option.some.injEq, Prod.mk.injEq] at H
  obtain ⟨rfl, rfl, rfl⟩ := H
  go_enter Tryd.func31, Tryd.ntmps31
  go_wp2_with (first | ((with_reducible refine gate_dst (N := 3) rfl ?_); refine box_event ?hg (N := 3) ?hd (cs := #[.int .i64 a1_0, .int .i64 a1_1, .slice A1_2 l1_2.length c1_2]) (t := 47) ?hr ?_; (case hd => rfl); (case hg => rfl); (case hr => first | (go_simp; done) | (go_simp; rfl)); intro gb329 hg w63 hbox hb; have n0_ := hb_ HB hb; have n1_ := Aside0.mk (hbox); have n2_ := Aside0.mk ((by rw [hg]; exact (below_size (hq_ HB)) : w.heap.size ≤ gb329)); have n3_ := Aside0.mk ((by rw [hg]; exact (below_size (hq_ HB)) : w.heap.size ≤ gb329)); clear HB; have HB := n0_; have BK329 := n1_; have GW329 := n2_; have GE329 := n3_; clear n0_ n1_ n2_ n3_; clear hb hbox hg) | ((with_reducible refine gate_dst (N := 4) rfl ?_); refine box_event ?hg (N := 4) ?hd (cs := #[.int .i64 0, .int .i64 0, .slice none 0 0]) (t := 47) ?hr ?_; (case hd => rfl); (case hg => rfl); (case hr => first | (go_simp; done) | (go_simp; rfl)); intro gb330 hg w64 hbox hb; have n0_ := bb_ BK329 hb; have n1_ := hb_ HB hb; have n2_ := Aside0.mk (hbox); have n3_ := Aside0.mk ((by rw [hg]; exact (below_size (hq_ HB)) : w.heap.size ≤ gb330)); have n4_ := Aside0.mk ((by rw [hg]; exact (below_size (hq_ HB)) : w.heap.size ≤ gb330)); have n5_ := Aside0.mk ((by rw [hg]; exact Nat.ne_of_lt (blk_lt (g := gb329) (o := .cells #[.int .i64 a1_0, .int .i64 a1_1, .slice A1_2 l1_2.length c1_2] 47 (0, 0)) (bq_ BK329)) : gb329 ≠ gb330)); have n6_ := Aside0.mk ((by rw [hg]; exact Nat.ne_of_gt (blk_lt (g := gb329) (o := .cells #[.int .i64 a1_0, .int .i64 a1_1, .slice A1_2 l1_2.length c1_2] 47 (0, 0)) (bq_ BK329)) : gb330 ≠ gb329)); clear BK329; clear HB; have BK329 := n0_; have HB := n1_; have BK330 := n2_; have GW330 := n3_; have GE330 := n4_; have NB329_330 := n5_; have NB330_329 := n6_; clear n0_ n1_ n2_ n3_ n4_ n5_ n6_; clear hb hbox hg; have hnb65 := NB329_330.out; have hnc65 := NB330_329.out; have hcz66_0 : w64.cell? ⟨gb329, 0, none⟩ = some (.int .i64 a1_0) := (blk_cell BK329.out 0).trans rfl; have hcz66_1 : w64.cell? ⟨gb329, 1, none⟩ = some (.int .i64 a1_1) := (blk_cell BK329.out 1).trans rfl; have hcz66_2 : w64.cell? ⟨gb329, 2, none⟩ = some (.slice A1_2 l1_2.length c1_2) := (blk_cell BK329.out 2).trans rfl; have hfz66_0 := blk_frozen BK329.out 0; have hfz66_1 := blk_frozen BK329.out 1; have hfz66_2 := blk_frozen BK329.out 2) | ((with_reducible refine gate_callee (f := 43) rfl ?_); refine goesL_ (some 12) rfl rfl Tryd.func43 (by kernel_rfl) rfl #[.agg #[.int .i64 a1_0, .int .i64 a1_1, .slice A1_2 l1_2.length c1_2]] rfl (by (try simp only [List.map_toArray, List.map_cons, List.map_nil]) <;> rfl) ?_; (with_reducible refine (transform_valid.calls a1_0 a1_1 _ _ l1_2 false _ ?side1 ?side2 A3.out).mono ?_); (case side1 => repeat (first | exact (Kd.C_below HR1_2.out HB.out) | (with_reducible refine Kd.C_alloc ?_ _) | (with_reducible refine Kd.C_drewN ?_ _) | (with_reducible refine Kd.C_drew ?_))); (case side2 => exact HC1_2.out); rintro e w67 ⟨rfl, hb⟩; refine ⟨_, rfl, ?_⟩; have n0_ := bb_ BK329 hb; have n1_ := bb_ BK330 hb; have n2_ := hb_ HB hb; clear BK329; clear BK330; clear HB; have BK329 := n0_; have BK330 := n1_; have HB := n2_; clear n0_ n1_ n2_; (try clear hb); (try clear hb2); (try clear hk); (try clear hi); have hcz68_0 : w67.cell? ⟨gb330, 0, none⟩ = some (.int .i64 0) := (blk_cell BK330.out 0).trans rfl; have hcz68_1 : w67.cell? ⟨gb330, 1, none⟩ = some (.int .i64 0) := (blk_cell BK330.out 1).trans rfl; have hcz68_2 : w67.cell? ⟨gb330, 2, none⟩ = some (.slice none 0 0) := (blk_cell BK330.out 2).trans rfl; have hfz68_0 := blk_frozen BK330.out 0; have hfz68_1 := blk_frozen BK330.out 1; have hfz68_2 := blk_frozen BK330.out 2))
  refine bodyPost_ret (results_cell_row rfl _ _ gb330 47 #[.int .i64 0, .int .i64 0, .slice none 0 0] (0, 0) _ rfl (by (with_reducible repeat (first | refine blk_drewN ?_ _ | refine blk_drew ?_ | refine blk_alloc ?_ _)); refine blk_put (cs := #[.int .i64 0, .int .i64 0, .slice none 0 0]) ?_ 2 _ rfl; (with_reducible repeat (first | refine blk_drewN ?_ _ | refine blk_drew ?_ | refine blk_alloc ?_ _)); refine blk_put (cs := #[.int .i64 0, .int .i64 0, .slice none 0 0]) ?_ 1 _ rfl; (with_reducible repeat (first | refine blk_drewN ?_ _ | refine blk_drew ?_ | refine blk_alloc ?_ _)); refine blk_put (cs := #[.int .i64 0, .int .i64 0, .slice none 0 0]) ?_ 0 _ rfl; (with_reducible repeat (first | refine blk_drewN ?_ _ | refine blk_drew ?_ | refine blk_alloc ?_ _)); exact BK330.out) Tryd.underlying47 rfl (by kernel_rfl)) rfl ?_
  exact ⟨_, by first | rfl | (simp [errW_none, errW_some] <;> rfl) | (simp [*, errW_none, errW_some] <;> rfl), by first | exact Kd.R_nil _ _ _ _ _ | exact Kd.N_nil _ _ _ _ _ | exact Kd.V_nil _ _ _ _ _ | exact Kd.Q_nil _ _ _ _ _ | exact Kd.S_nil _ _ _ _ _, by repeat (first | (with_reducible first | exact HB.out | apply below_alloc | apply pw_below_drewN | apply below_drew1 | refine below_set ?_ GE329.out | refine below_set ?_ GE330.out) | exact HB.out)⟩

end Go.Proofs.YtpihfglghcoojaaDoor.All
