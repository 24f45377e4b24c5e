-- Written by a program of this session, which runs the kit's print.py and puts in functions that this session typed. Not trusted: Lean checks it.
import Derived.Test.YtpihfglghcoojaaDoorHand
import Derived.Test.YtpihfglghcoojaaDoorAllx0
import Derived.Test.YtpihfglghcoojaaDoorAllx5
import Derived.Test.YtpihfglghcoojaaDoorAllx8
import Derived.Test.YtpihfglghcoojaaDoorAllx15
import Derived.Test.YtpihfglghcoojaaDoorAllx30
import Derived.Test.YtpihfglghcoojaaDoorAllx31
import Derived.Test.YtpihfglghcoojaaDoorAllx33
namespace Go.Proofs.YtpihfglghcoojaaDoor.All
open Go.Proofs.YtpihfglghcoojaaDoorSq
open Go.RowKit Go.Proofs.YtpihfglghcoojaaDoorW.PrintWords Go.Proofs.YtpihfglghcoojaaDoorW.PrintLast Go.Proofs.YtpihfglghcoojaaDoorW.PrintMore
attribute [local go_sem] max2_int min2_int max_two min_two max_three min_three max_four min_four   -- for this text's walks alone
set_option linter.unusedVariables false
set_option linter.unusedSimpArgs false

/-! ### compositorlaw07_TransformImages: function 9 -/
abbrev zq9.q0 : Array Bool := #[false, false, false, false, false, false, false, false, false, false]
abbrev zq9.q1 : Array Bool := #[true, false, false, false, false, false, false, false, false, false]
abbrev zq9.q2 : Array Bool := #[true, false, false, true, false, false, false, false, false, false]
abbrev zq9.q3 : Array Bool := #[true, false, false, true, true, false, false, false, false, false]
abbrev zq9.q4 : Array Bool := #[true, true, false, true, true, false, false, false, false, false]
abbrev zq9.q5 : Array Bool := #[true, true, false, true, true, false, true, false, false, false]
abbrev zq9.q6 : Array Bool := #[true, true, true, true, true, false, true, false, false, false]
abbrev zq9.q7 : Array Bool := #[true, true, true, true, true, true, true, false, false, false]
abbrev zq9.q8 : Array Bool := #[true, true, true, true, true, true, true, true, false, false]
abbrev zq9.q9 : Array Bool := #[true, true, true, true, true, true, true, true, true, false]
abbrev zq9.q10 : Array Bool := #[true, true, true, true, true, true, true, true, true, true]
abbrev zq9.q11 : Array Bool := #[false, false, false, false, false, false, false, false, false, false, false, false, false, false]
abbrev zq9.q12 : Array Bool := #[true, false, false, false, false, false, false, false, false, false, false, false, false, false]
abbrev zq9.q13 : Array Bool := #[true, true, false, false, false, false, false, false, false, false, false, false, false, false]
abbrev zq9.q14 : Array Bool := #[true, true, true, false, false, false, false, false, false, false, false, false, false, false]
abbrev zq9.q15 : Array Bool := #[true, true, true, true, false, false, false, false, false, false, false, false, false, false]
abbrev zq9.q16 : Array Bool := #[true, true, true, true, false, true, false, false, false, false, false, false, false, false]
abbrev zq9.q17 : Array Bool := #[true, true, true, true, false, true, false, true, false, false, false, false, false, false]
abbrev zq9.q18 : Array Bool := #[true, true, true, true, true, true, false, true, false, false, false, false, false, false]
abbrev zq9.q19 : Array Bool := #[true, true, true, true, true, true, true, true, false, false, false, false, false, false]
abbrev zq9.q20 : Array Bool := #[true, true, true, true, true, true, true, true, true, false, false, false, false, false]
abbrev zq9.q21 : Array Bool := #[true, true, true, true, true, true, true, true, true, true, false, false, false, false]
abbrev zq9.q22 : Array Bool := #[true, true, true, true, true, true, true, true, true, true, true, false, false, false]
abbrev zq9.q23 : Array Bool := #[true, true, true, true, true, true, true, true, true, true, true, true, false, false]
abbrev zq9.q24 : Array Bool := #[true, true, true, true, true, true, true, true, true, true, true, true, true, false]
abbrev zq9.q25 : Array Bool := #[true, true, true, true, true, true, true, true, true, true, true, true, true, true]
abbrev zq9.q26 : Array Bool := #[true, true, true, true, true, false, false, false, false, false, false, false, false, false]
abbrev zq9.q27 : Array Bool := #[true, true, true, true, true, true, false, false, false, false, false, false, false, false]
abbrev zq9.q28 : Array Bool := #[true, true, true, true, true, true, true, false, false, false, false, false, false, false]
def compositorlaw07_TransformImages.f (k : Nat) (a0 : Int) (a1 : Int) (a2_0 : Int) (a2_1 : Int) (l2_2 : List (S58)) : Option (Bool) := (compositorlaw07_small.f a2_0 a2_1 l2_2).bind fun t379 => (if t379 = true then ((transform_Pixels.f k a0 a2_0 a2_1 l2_2).bind fun bt381 => ((transform_Pixels.f k a1 bt381.1 bt381.2.1 bt381.2.2).bind fun bt387 => ((transform_Compose.f a0 a1).bind fun t392 => ((transform_Pixels.f k t392 a2_0 a2_1 l2_2).bind fun bt393 => ((compositorref07_Same.f k bt387.1 bt387.2.1 bt387.2.2 bt393.1 bt393.2.1 bt393.2.2).bind fun t398 => (if t398 = true then (if bt381.1 > 0 then ((transform_Invert.f a0).bind fun t399 => ((transform_Pixels.f k t399 bt381.1 bt381.2.1 bt381.2.2).bind fun bt400 => ((compositorref07_Same.f k bt400.1 bt400.2.1 bt400.2.2 a2_0 a2_1 l2_2).bind fun t405 => (if t405 = true then ((compositorlaw07_exampleHolds.f k).bind fun t406 => (some t406)) else (some false))))) else ((compositorlaw07_exampleHolds.f k).bind fun t407 => (some t407))) else (some false))))))) else ((compositorlaw07_exampleHolds.f k).bind fun t380 => (some t380)))
theorem compositorlaw07_TransformImages.mono : ∀ a0 a1 a2 a3 a4 k, LeO (compositorlaw07_TransformImages.f k a0 a1 a2 a3 a4) (compositorlaw07_TransformImages.f (k + 1) a0 a1 a2 a3 a4) := by
 intro a0 a1 a2 a3 a4 k
 unfold compositorlaw07_TransformImages.f
 repeat' first
   | (with_reducible exact compositorlaw07_exampleHolds.mono _)
   | (with_reducible exact compositorref07_Same.mono _ _ _ _ _ _ _)
   | (with_reducible exact transform_Pixels.mono _ _ _ _ _)
   | (with_reducible exact LeO.refl _)
   | (with_reducible exact LeO.none _)
   | (with_reducible refine LeO.ite ?_ ?_)
   | (with_reducible refine LeO.bind ?_ (fun _ => ?_))
   | exact compositorlaw07_exampleHolds.mono _
   | exact compositorref07_Same.mono _ _ _ _ _ _ _
   | exact transform_Pixels.mono _ _ _ _ _
   | exact LeO.none _
   | refine LeO.ite ?_ ?_
   | refine LeO.bind ?_ (fun _ => ?_)
def compositorlaw07_TransformImages.T4 : Bool × List (List Nat × List Nat) := (true, [([], []), ([], []), ([0, 1], [0, 1]), ([], []), ([], []), ([3, 4, 2], [3, 4]), ([], []), ([5, 6, 5], [5, 6]), ([2, 7, 7], [2, 7]), ([8], [8])])
def compositorlaw07_TransformImages.B4 : List Nat := [0, 0, 3, 0, 0, 31, 0, 127, 255, 511]
theorem compositorlaw07_TransformImages.tab4 : rtab .any (opsOf Tryd.f9 4) = compositorlaw07_TransformImages.T4 := by kernel_rfl
theorem compositorlaw07_TransformImages.bits4 : waitsOk compositorlaw07_TransformImages.T4.2 compositorlaw07_TransformImages.B4 = true := by kernel_rfl
def compositorlaw07_TransformImages.T7 : Bool × List (List Nat × List Nat) := (true, [([], []), ([0], [0]), ([1], [1]), ([2], [2]), ([3, 2, 2], [2, 3]), ([2], [2]), ([4, 5, 4, 2], [2, 4, 5]), ([2], [2]), ([6, 7, 6, 2], [2, 6, 7]), ([2, 8], [2, 8]), ([9, 8], [9]), ([10, 10], [10]), ([10, 11], [10, 11]), ([12, 11, 0, 1, 2, 3, 4, 5, 6, 7, 8, 9, 10, 11, 12], [12])])
def compositorlaw07_TransformImages.B7 : List Nat := [0, 1, 3, 7, 15, 7, 63, 7, 255, 511, 1023, 2047, 4095, 8191]
theorem compositorlaw07_TransformImages.tab7 : rtab .any (opsOf Tryd.f9 7) = compositorlaw07_TransformImages.T7 := by kernel_rfl
theorem compositorlaw07_TransformImages.bits7 : waitsOk compositorlaw07_TransformImages.T7.2 compositorlaw07_TransformImages.B7 = true := by kernel_rfl
set_option maxHeartbeats 8000000 in
set_option maxRecDepth 100000 in
theorem compositorlaw07_TransformImages.calls (k : Nat) (a0 : Int) (a1 : Int) (a2_0 : Int) (a2_1 : Int) (A2_2 : Option Addr) (c2_2 : Nat) (l2_2 : List (S58)) (w : World) (hr2_2 : Kd.C k58 w A2_2 l2_2.length l2_2) (hc2_2 : l2_2.length ≤ c2_2) (h : compositorlaw07_TransformImages.f k a0 a1 a2_0 a2_1 l2_2 = some true) (hT_ : Go.Proofs.YtpihfglghcoojaaDoorHand.Tab w) :
  Calls Tryd.prog 9 #[.int .i64 a0, .int .i64 a1, .agg #[.int .i64 a2_0, .int .i64 a2_1, .slice A2_2 l2_2.length c2_2]] w fun e w' => e = .returned (.bool true) ∧ Below w.heap.size w w' := by
 have hu47 := Tryd.underlying47
 have HR2_2 := Aside0.mk hr2_2
 have HC2_2 := Aside0.mk hc2_2
 clear hr2_2 hc2_2
 have HB := Aside0.mk (Below.refl w.heap.size w)
 have HTab_ := Aside0.mk hT_
 clear hT_
 have H : ((compositorlaw07_small.f a2_0 a2_1 l2_2).bind fun t379 => (if t379 = true then ((transform_Pixels.f k a0 a2_0 a2_1 l2_2).bind fun bt381 => ((transform_Pixels.f k a1 bt381.1 bt381.2.1 bt381.2.2).bind fun bt387 => ((transform_Compose.f a0 a1).bind fun t392 => ((transform_Pixels.f k t392 a2_0 a2_1 l2_2).bind fun bt393 => ((compositorref07_Same.f k bt387.1 bt387.2.1 bt387.2.2 bt393.1 bt393.2.1 bt393.2.2).bind fun t398 => (if t398 = true then (if bt381.1 > 0 then ((transform_Invert.f a0).bind fun t399 => ((transform_Pixels.f k t399 bt381.1 bt381.2.1 bt381.2.2).bind fun bt400 => ((compositorref07_Same.f k bt400.1 bt400.2.1 bt400.2.2 a2_0 a2_1 l2_2).bind fun t405 => (if t405 = true then ((compositorlaw07_exampleHolds.f k).bind fun t406 => (some t406)) else (some false))))) else ((compositorlaw07_exampleHolds.f k).bind fun t407 => (some t407))) else (some false))))))) else ((compositorlaw07_exampleHolds.f k).bind fun t380 => (some t380)))) = some true := h
 clear h
 replace H := Option.bind_eq_some_iff.mp H
 obtain ⟨t379, A40, H⟩ := H
 try dsimp only at H
 have A4 := Aside0.mk A40
 clear A40
 by_cases c5 : t379 = true
 ·
  subst c5
  have H1 : ((transform_Pixels.f k a0 a2_0 a2_1 l2_2).bind fun bt381 => ((transform_Pixels.f k a1 bt381.1 bt381.2.1 bt381.2.2).bind fun bt387 => ((transform_Compose.f a0 a1).bind fun t392 => ((transform_Pixels.f k t392 a2_0 a2_1 l2_2).bind fun bt393 => ((compositorref07_Same.f k bt387.1 bt387.2.1 bt387.2.2 bt393.1 bt393.2.1 bt393.2.2).bind fun t398 => (if t398 = true then (if bt381.1 > 0 then ((transform_Invert.f a0).bind fun t399 => ((transform_Pixels.f k t399 bt381.1 bt381.2.1 bt381.2.2).bind fun bt400 => ((compositorref07_Same.f k bt400.1 bt400.2.1 bt400.2.2 a2_0 a2_1 l2_2).bind fun t405 => (if t405 = true then ((compositorlaw07_exampleHolds.f k).bind fun t406 => (some t406)) else (some false))))) else ((compositorlaw07_exampleHolds.f k).bind fun t407 => (some t407))) else (some false))))))) = some true := by rw [if_pos rfl] at H; exact H
  clear H
  have H := H1
  clear H1
  replace H := Option.bind_eq_some_iff.mp H
  obtain ⟨⟨t381, t382, t383⟩, A60, H⟩ := H
  try dsimp only at H
  have A6 := Aside0.mk A60
  clear A60
  replace H := Option.bind_eq_some_iff.mp H
  obtain ⟨⟨t387, t388, t389⟩, A70, H⟩ := H
  try dsimp only at H
  have A7 := Aside0.mk A70
  clear A70
  replace H := Option.bind_eq_some_iff.mp H
  obtain ⟨t392, A80, H⟩ := H
  try dsimp only at H
  have A8 := Aside0.mk A80
  clear A80
  replace H := Option.bind_eq_some_iff.mp H
  obtain ⟨⟨t393, t394, t395⟩, A90, H⟩ := H
  try dsimp only at H
  have A9 := Aside0.mk A90
  clear A90
  replace H := Option.bind_eq_some_iff.mp H
  obtain ⟨t398, A100, H⟩ := H
  try dsimp only at H
  have A10 := Aside0.mk A100
  clear A100
  by_cases c11 : t398 = true
  ·
   subst c11
   have H1 : (if t381 > 0 then ((transform_Invert.f a0).bind fun t399 => ((transform_Pixels.f k t399 t381 t382 t383).bind fun bt400 => ((compositorref07_Same.f k bt400.1 bt400.2.1 bt400.2.2 a2_0 a2_1 l2_2).bind fun t405 => (if t405 = true then ((compositorlaw07_exampleHolds.f k).bind fun t406 => (some t406)) else (some false))))) else ((compositorlaw07_exampleHolds.f k).bind fun t407 => (some t407))) = some true := by rw [if_pos rfl] at H; exact H
   clear H
   have H := H1
   clear H1
   by_cases c12 : t381 > 0
   ·
    rw [if_pos c12] at H
    have c12b0 : decide (0 < t381) = true := decide_eq_true c12
    clear c12
    replace H := Option.bind_eq_some_iff.mp H
    obtain ⟨t399, A130, H⟩ := H
    try dsimp only at H
    have A13 := Aside0.mk A130
    clear A130
    replace H := Option.bind_eq_some_iff.mp H
    obtain ⟨⟨t400, t401, t402⟩, A140, H⟩ := H
    try dsimp only at H
    have A14 := Aside0.mk A140
    clear A140
    replace H := Option.bind_eq_some_iff.mp H
    obtain ⟨t405, A150, H⟩ := H
    try dsimp only at H
    have A15 := Aside0.mk A150
    clear A150
    by_cases c16 : t405 = true
    ·
     subst c16
     have H1 : ((compositorlaw07_exampleHolds.f k).bind fun t406 => (some t406)) = some true := by rw [if_pos rfl] at H; exact H
     clear H
     have H := H1
     clear H1
     replace H := Option.bind_eq_some_iff.mp H
     obtain ⟨t406, A170, H⟩ := H
     try dsimp only at H
     have A17 := Aside0.mk A170
     clear A170
     have Hq_ := Option.some.inj H
     go_enter Tryd.func9, Tryd.ntmps9
     try go_wp2_with (first | ((with_reducible refine gate_dst (N := 5) rfl ?_); refine box_event ?hg (N := 5) ?hd (cs := #[.int .i64 a2_0, .int .i64 a2_1, .slice A2_2 l2_2.length c2_2]) (t := 47) ?hr ?_; (case hd => rfl); (case hg => rfl); (case hr => first | (go_simp; done) | (go_simp; rfl)); intro gb378 hg w18 hbox hb; have n0_ := hb_ HB hb; have n1_ := Aside0.mk (hbox); have n2_ := Aside0.mk ((by rw [hg]; exact (below_size (hq_ HB)) : w.heap.size ≤ gb378)); have n3_ := Aside0.mk ((by rw [hg]; exact (below_size (hq_ HB)) : w.heap.size ≤ gb378)); clear HB; have HB := n0_; have BK378 := n1_; have GW378 := n2_; have GE378 := n3_; clear n0_ n1_ n2_ n3_; clear hb hbox hg; have hcz19_0 : w18.cell? ⟨gb378, 0, none⟩ = some (.int .i64 a2_0) := (blk_cell BK378.out 0).trans rfl; have hcz19_1 : w18.cell? ⟨gb378, 1, none⟩ = some (.int .i64 a2_1) := (blk_cell BK378.out 1).trans rfl; have hcz19_2 : w18.cell? ⟨gb378, 2, none⟩ = some (.slice A2_2 l2_2.length c2_2) := (blk_cell BK378.out 2).trans rfl; have hfz19_0 := blk_frozen BK378.out 0; have hfz19_1 := blk_frozen BK378.out 1; have hfz19_2 := blk_frozen BK378.out 2) | ((with_reducible refine gate_callee (f := 29) rfl ?_); refine goesL_ (some 10) rfl rfl Tryd.func29 (by kernel_rfl) rfl #[.agg #[.int .i64 a2_0, .int .i64 a2_1, .slice A2_2 l2_2.length c2_2]] rfl (by (try simp only [List.map_toArray, List.map_cons, List.map_nil]) <;> rfl) ?_; (with_reducible refine (compositorlaw07_small.calls a2_0 a2_1 _ _ l2_2 true _ ?side1 ?side2 A4.out).mono ?_); (case side1 => repeat (first | exact (Kd.C_below HR2_2.out HB.out) | (with_reducible refine Kd.C_alloc ?_ _) | (with_reducible refine Kd.C_drewN ?_ _) | (with_reducible refine Kd.C_drew ?_))); (case side2 => exact HC2_2.out); rintro e w20 ⟨rfl, hb⟩; refine ⟨_, rfl, ?_⟩; have n0_ := bb_ BK378 hb; have n1_ := hb_ HB hb; clear BK378; clear HB; have BK378 := n0_; have HB := n1_; clear n0_ n1_; (try clear hb); (try clear hb2); (try clear hk); (try clear hi); have hcz21_0 : w20.cell? ⟨gb378, 0, none⟩ = some (.int .i64 a2_0) := (blk_cell BK378.out 0).trans rfl; have hcz21_1 : w20.cell? ⟨gb378, 1, none⟩ = some (.int .i64 a2_1) := (blk_cell BK378.out 1).trans rfl; have hcz21_2 : w20.cell? ⟨gb378, 2, none⟩ = some (.slice A2_2 l2_2.length c2_2) := (blk_cell BK378.out 2).trans rfl; have hfz21_0 := blk_frozen BK378.out 0; have hfz21_1 := blk_frozen BK378.out 1; have hfz21_2 := blk_frozen BK378.out 2) | ((with_reducible refine gate_callee (f := 31) rfl ?_); refine goesL_ (some 15) rfl rfl Tryd.func31 (by kernel_rfl) rfl #[.int .i64 a0, .agg #[.int .i64 a2_0, .int .i64 a2_1, .slice A2_2 l2_2.length c2_2]] rfl (by (try simp only [List.map_toArray, List.map_cons, List.map_nil]) <;> rfl) ?_; (with_reducible refine (transform_Pixels.calls k a0 a2_0 a2_1 _ _ l2_2 t381 t382 t383 _ ?side1 ?side2 A6.out).mono ?_); (case side1 => repeat (first | exact (Kd.C_below HR2_2.out HB.out) | (with_reducible refine Kd.C_alloc ?_ _) | (with_reducible refine Kd.C_drewN ?_ _) | (with_reducible refine Kd.C_drew ?_))); (case side2 => exact HC2_2.out); rintro e w22 ⟨v384, rfl, ho0, hb⟩; refine ⟨_, rfl, ?_⟩; have n0_ := Aside0.mk (Kd.R_lower ho0 (below_size (hq_ HB))); have n1_ := bb_ BK378 hb; have n2_ := hb_ HB hb; clear BK378; clear HB; have HO385 := n0_; have BK378 := n1_; have HB := n2_; clear n0_ n1_ n2_; (try clear hb); (try clear hb2); (try clear hk); (try clear hi); (try clear ho0)) | ((with_reducible refine gate_dst (N := 7) rfl ?_); refine box_event ?hg (N := 7) ?hd (cs := #[.int .i64 0, .int .i64 0, .slice none 0 0]) (t := 47) ?hr ?_; (case hd => rfl); (case hg => rfl); (case hr => first | (go_simp; done) | (go_simp; rfl)); intro gb386 hg w23 hbox hb; have n0_ := Aside0.mk (Kd.R_below (by (with_reducible repeat (first | apply Kd.R_alloc | apply Kd.R_drewN | apply Kd.R_drew)); exact HO385.out) hb); have n1_ := bb_ BK378 hb; have n2_ := hb_ HB hb; have n3_ := Aside0.mk (hbox); have n4_ := Aside0.mk ((by rw [hg]; exact (below_size (hq_ HB)) : w.heap.size ≤ gb386)); have n5_ := Aside0.mk ((by rw [hg]; exact (below_size (hq_ HB)) : w.heap.size ≤ gb386)); have n6_ := Aside0.mk ((by rw [hg]; exact Nat.ne_of_lt (blk_lt (g := gb378) (o := .cells #[.int .i64 a2_0, .int .i64 a2_1, .slice A2_2 l2_2.length c2_2] 47 (0, 0)) (bq_ BK378)) : gb378 ≠ gb386)); have n7_ := Aside0.mk ((by rw [hg]; exact Nat.ne_of_gt (blk_lt (g := gb378) (o := .cells #[.int .i64 a2_0, .int .i64 a2_1, .slice A2_2 l2_2.length c2_2] 47 (0, 0)) (bq_ BK378)) : gb386 ≠ gb378)); clear HO385; clear BK378; clear HB; have HO385 := n0_; have BK378 := n1_; have HB := n2_; have BK386 := n3_; have GW386 := n4_; have GE386 := n5_; have NB378_386 := n6_; have NB386_378 := n7_; clear n0_ n1_ n2_ n3_ n4_ n5_ n6_ n7_; clear hb hbox hg; have hnb24 := NB386_378.out; have hnc24 := NB378_386.out; have hcz25_0 : w23.cell? ⟨gb386, 0, none⟩ = some (.int .i64 0) := (blk_cell BK386.out 0).trans rfl; have hcz25_1 : w23.cell? ⟨gb386, 1, none⟩ = some (.int .i64 0) := (blk_cell BK386.out 1).trans rfl; have hcz25_2 : w23.cell? ⟨gb386, 2, none⟩ = some (.slice none 0 0) := (blk_cell BK386.out 2).trans rfl; have hfz25_0 := blk_frozen BK386.out 0; have hfz25_1 := blk_frozen BK386.out 1; have hfz25_2 := blk_frozen BK386.out 2; obtain ⟨Ao26, co26, eo26⟩ := Kd.R_slice HO385.out; subst eo26))
     have n0_ : Aside0 (Kd.R k58 58 (((w23.setCell ⟨gb386, 0, none⟩ (.int .i64 t381)).setCell ⟨gb386, 1, none⟩ (.int .i64 t382)).setCell ⟨gb386, 2, none⟩ (.slice Ao26 t383.length co26)) w.heap.size (fun _ => True) (.slice Ao26 t383.length co26) t383) := ⟨by (with_reducible repeat (first | apply Kd.R_alloc | apply Kd.R_drewN | apply Kd.R_drew)); exact Kd.R_mono (Kd.R_far (p := ⟨gb386, 2, none⟩) (Kd.R_far (p := ⟨gb386, 1, none⟩) (Kd.R_far (p := ⟨gb386, 0, none⟩) (Kd.R_types HO385.out BK386.out (by decide)) (fun _ hk => hk.2) (.int .i64 t381)) (fun _ hk => hk.2) (.int .i64 t382)) (fun _ hk => hk.2) (.slice Ao26 t383.length co26)) (fun _ hk => trivial)⟩
     have n1_ : Aside0 ((((w23.setCell ⟨gb386, 0, none⟩ (.int .i64 t381)).setCell ⟨gb386, 1, none⟩ (.int .i64 t382)).setCell ⟨gb386, 2, none⟩ (.slice Ao26 t383.length co26)).heap[gb378]? = some (.cells #[.int .i64 a2_0, .int .i64 a2_1, .slice A2_2 l2_2.length c2_2] 47 (0, 0))) := bf_ BK378
     have n2_ : Aside0 ((((w23.setCell ⟨gb386, 0, none⟩ (.int .i64 t381)).setCell ⟨gb386, 1, none⟩ (.int .i64 t382)).setCell ⟨gb386, 2, none⟩ (.slice Ao26 t383.length co26)).heap[gb386]? = some (.cells #[.int .i64 t381, .int .i64 t382, .slice Ao26 t383.length co26] 47 (0, 0))) := ⟨by (with_reducible repeat (first | refine blk_drewN ?_ _ | refine blk_drew ?_ | refine blk_alloc ?_ _)); refine blk_put (cs := #[.int .i64 t381, .int .i64 t382, .slice none 0 0]) ?_ 2 _ rfl; (with_reducible repeat (first | refine blk_drewN ?_ _ | refine blk_drew ?_ | refine blk_alloc ?_ _)); refine blk_put (cs := #[.int .i64 t381, .int .i64 0, .slice none 0 0]) ?_ 1 _ rfl; (with_reducible repeat (first | refine blk_drewN ?_ _ | refine blk_drew ?_ | refine blk_alloc ?_ _)); refine blk_put (cs := #[.int .i64 0, .int .i64 0, .slice none 0 0]) ?_ 0 _ rfl; (with_reducible repeat (first | refine blk_drewN ?_ _ | refine blk_drew ?_ | refine blk_alloc ?_ _)); exact BK386.out⟩
     have n3_ : Aside0 (Below w.heap.size w (((w23.setCell ⟨gb386, 0, none⟩ (.int .i64 t381)).setCell ⟨gb386, 1, none⟩ (.int .i64 t382)).setCell ⟨gb386, 2, none⟩ (.slice Ao26 t383.length co26))) := ⟨by repeat (first | (with_reducible first | exact HB.out | apply below_alloc | apply pw_below_drewN | apply below_drew1 | refine below_set ?_ GE378.out | refine below_set ?_ GE386.out) | exact HB.out)⟩
     (try clear HO385)
     (try clear BK378)
     (try clear BK386)
     (try clear HB)
     generalize (((w23.setCell ⟨gb386, 0, none⟩ (.int .i64 t381)).setCell ⟨gb386, 1, none⟩ (.int .i64 t382)).setCell ⟨gb386, 2, none⟩ (.slice Ao26 t383.length co26)) = w27 at n0_ n1_ n2_ n3_ ⊢
     have HO385 := n0_
     have BK378 := n1_
     have BK386 := n2_
     have HB := n3_
     clear n0_ n1_ n2_ n3_
     replace HO385 := Aside0.mk (Kd.R_drew HO385.out)
     replace BK378 := Aside0.mk (blk_drew BK378.out)
     replace BK386 := Aside0.mk (blk_drew BK386.out)
     replace HB := Aside0.mk (below_drew1 HB.out)
     refine start_ (n := 10) (S := fun w' => w'.cell? ⟨gb386, 0, none⟩ = some (.int .i64 t381) ∧ w'.cell? ⟨gb386, 1, none⟩ = some (.int .i64 t382) ∧ w'.cell? ⟨gb386, 2, none⟩ = some (.slice Ao26 t383.length co26) ∧ w'.cell? ⟨gb378, 0, none⟩ = some (.int .i64 a2_0) ∧ w'.cell? ⟨gb378, 1, none⟩ = some (.int .i64 a2_1) ∧ w'.cell? ⟨gb378, 2, none⟩ = some (.slice A2_2 l2_2.length c2_2)) (ds := []) zq9.q0 (by kernel_rfl) rfl rfl ⟨c_ BK386 0, ⟨c_ BK386 1, ⟨c_ BK386 2, ⟨c_ BK378 0, ⟨c_ BK378 1, (c_ BK378 2)⟩⟩⟩⟩⟩ (fun hHeld => ?_); refine with_tabW compositorlaw07_TransformImages.tab4 compositorlaw07_TransformImages.bits4 (fun HT_ HW_ => ?_)
     generalize w27.drew = w28 at HO385 BK378 BK386 HB hHeld ⊢
     refine pv_ 0 16 zq9.q1 HT_ ?_
     refine pv_ 3 19 zq9.q2 HT_ ?_
     refine pv_ 4 20 zq9.q3 HT_ ?_
     refine tk6_ 1 17 zq9.q4 HT_ HW_ hHeld ?_
     refine tk6_ 6 22 zq9.q5 HT_ HW_ hHeld ?_
     refine one_ (i := 2) (N := some 18) zq9.q6 rfl rfl (one_of HT_.out (by kernel_rfl)) (by decide) (fun K hK => ?_)
     refine gs_ Tryd.func31 #[.int .i64 a1, .agg #[.int .i64 t381, .int .i64 t382, .slice Ao26 t383.length co26]] ?_
     with_reducible refine (transform_Pixels.calls k a1 t381 t382 _ _ t383 t387 t388 t389 _ ?side1 ?side2 A7.out).mono ?_
     (case side1 => repeat (first | exact (Kd.R_reads' HO385.out).2.2 | (with_reducible refine Kd.C_alloc ?_ _) | (with_reducible refine Kd.C_drewN ?_ _) | (with_reducible refine Kd.C_drew ?_)))
     (case side2 => exact (Kd.R_reads' HO385.out).2.1)
     rintro e w29 ⟨v390, rfl, ho0, hb⟩
     refine ⟨_, rfl, ?_⟩
     have HO391 := Aside0.mk (Kd.R_lower (Kd.R_new' ho0 (Kd.R_lt (by (with_reducible repeat (first | apply Kd.R_alloc | apply Kd.R_drewN | apply Kd.R_drew)); exact HO385.out))) (below_size (hq_ HB)))
     replace HO385 := Aside0.mk (Kd.R_elder' (by (with_reducible repeat (first | apply Kd.R_alloc | apply Kd.R_drewN | apply Kd.R_drew)); exact HO385.out) (Kd.R_base ho0) hb)
     replace BK378 := bb_ BK378 hb
     replace BK386 := bb_ BK386 hb
     replace HB := hb_ HB hb
     (try clear hb); (try clear hb2); (try clear hk); (try clear hi)
     (try clear ho0)
     refine hK.out _ _ ⟨c_ BK386 0, ⟨c_ BK386 1, ⟨c_ BK386 2, ⟨c_ BK378 0, ⟨c_ BK378 1, (c_ BK378 2)⟩⟩⟩⟩⟩ (fun hHeld => ?_)
     clear hK K
     refine norm_ (a' := ?_) ?_ ?_
     rotate_left
     ·
      show Act.put _ (some 18) _ = _
      simp only [Act.put, List.setIfInBounds_toArray, List.set_cons_zero, List.set_cons_succ, i64_w, i32_w]
      rfl
     refine one_ (i := 5) (N := some 21) zq9.q7 rfl rfl (one_of HT_.out (by kernel_rfl)) (by decide) (fun K hK => ?_)
     refine gs_ Tryd.func14 #[.int .i64 a0, .int .i64 a1] ?_
     with_reducible refine (transform_Compose.calls a0 a1 t392 _ A8.out (Go.Proofs.YtpihfglghcoojaaDoorHand.tb_ HTab_ HB)).mono ?_
     rintro e w30 ⟨rfl, hb⟩
     refine ⟨_, rfl, ?_⟩
     replace HO385 := Aside0.mk (Kd.R_below (by (with_reducible repeat (first | apply Kd.R_alloc | apply Kd.R_drewN | apply Kd.R_drew)); exact HO385.out) hb)
     replace HO391 := Aside0.mk (Kd.R_below (by (with_reducible repeat (first | apply Kd.R_alloc | apply Kd.R_drewN | apply Kd.R_drew)); exact HO391.out) hb)
     replace BK378 := bb_ BK378 hb
     replace BK386 := bb_ BK386 hb
     replace HB := hb_ HB hb
     (try clear hb); (try clear hb2); (try clear hk); (try clear hi)
     refine hK.out _ _ ⟨c_ BK386 0, ⟨c_ BK386 1, ⟨c_ BK386 2, ⟨c_ BK378 0, ⟨c_ BK378 1, (c_ BK378 2)⟩⟩⟩⟩⟩ (fun hHeld => ?_)
     clear hK K
     refine norm_ (a' := ?_) ?_ ?_
     rotate_left
     ·
      show Act.put _ (some 21) _ = _
      simp only [Act.put, List.setIfInBounds_toArray, List.set_cons_zero, List.set_cons_succ, i64_w, i32_w]
      rfl
     refine one_ (i := 7) (N := some 23) zq9.q8 rfl rfl (one_of HT_.out (by kernel_rfl)) (by decide) (fun K hK => ?_)
     refine gs_ Tryd.func31 #[.int .i64 t392, .agg #[.int .i64 a2_0, .int .i64 a2_1, .slice A2_2 l2_2.length c2_2]] ?_
     with_reducible refine (transform_Pixels.calls k t392 a2_0 a2_1 _ _ l2_2 t393 t394 t395 _ ?side1 ?side2 A9.out).mono ?_
     (case side1 => repeat (first | exact (Kd.C_below HR2_2.out HB.out) | (with_reducible refine Kd.C_alloc ?_ _) | (with_reducible refine Kd.C_drewN ?_ _) | (with_reducible refine Kd.C_drew ?_)))
     (case side2 => exact HC2_2.out)
     rintro e w31 ⟨v396, rfl, ho0, hb⟩
     refine ⟨_, rfl, ?_⟩
     have HO397 := Aside0.mk (Kd.R_lower (Kd.R_new' (Kd.R_new' ho0 (Kd.R_lt (by (with_reducible repeat (first | apply Kd.R_alloc | apply Kd.R_drewN | apply Kd.R_drew)); exact HO385.out))) (Kd.R_lt (by (with_reducible repeat (first | apply Kd.R_alloc | apply Kd.R_drewN | apply Kd.R_drew)); exact HO391.out))) (below_size (hq_ HB)))
     replace HO385 := Aside0.mk (Kd.R_elder' (by (with_reducible repeat (first | apply Kd.R_alloc | apply Kd.R_drewN | apply Kd.R_drew)); exact HO385.out) (Kd.R_base ho0) hb)
     replace HO391 := Aside0.mk (Kd.R_elder' (by (with_reducible repeat (first | apply Kd.R_alloc | apply Kd.R_drewN | apply Kd.R_drew)); exact HO391.out) (Kd.R_base ho0) hb)
     replace BK378 := bb_ BK378 hb
     replace BK386 := bb_ BK386 hb
     replace HB := hb_ HB hb
     (try clear hb); (try clear hb2); (try clear hk); (try clear hi)
     (try clear ho0)
     obtain ⟨Ao32, co32, eo32⟩ := Kd.R_slice HO391.out
     (first | subst eo32 | (injection eo32 with f1_ f2_ f3_; have f4_ := f1_.symm; have f5_ := f3_.symm; clear f1_ f2_ f3_; subst f4_; subst f5_))
     obtain ⟨Ao33, co33, eo33⟩ := Kd.R_slice HO397.out
     (first | subst eo33 | (injection eo33 with f1_ f2_ f3_; have f4_ := f1_.symm; have f5_ := f3_.symm; clear f1_ f2_ f3_; subst f4_; subst f5_))
     refine hK.out _ _ ⟨c_ BK386 0, ⟨c_ BK386 1, ⟨c_ BK386 2, ⟨c_ BK378 0, ⟨c_ BK378 1, (c_ BK378 2)⟩⟩⟩⟩⟩ (fun hHeld => ?_)
     clear hK K
     refine norm_ (a' := ?_) ?_ ?_
     rotate_left
     ·
      show Act.put _ (some 23) _ = _
      simp only [Act.put, List.setIfInBounds_toArray, List.set_cons_zero, List.set_cons_succ, i64_w, i32_w]
      rfl
     refine one_ (i := 8) (N := some 24) zq9.q9 rfl rfl (one_of HT_.out (by kernel_rfl)) (by decide) (fun K hK => ?_)
     refine gs_ Tryd.func30 #[.agg #[.int .i64 t387, .int .i64 t388, .slice Ao32 t389.length co32], .agg #[.int .i64 t393, .int .i64 t394, .slice Ao33 t395.length co33]] ?_
     with_reducible refine (compositorref07_Same.calls k t387 t388 _ _ t389 t393 t394 _ _ t395 true _ ?side1 ?side2 ?side3 ?side4 A10.out).mono ?_
     (case side1 => repeat (first | exact (Kd.R_reads' HO391.out).2.2 | (with_reducible refine Kd.C_alloc ?_ _) | (with_reducible refine Kd.C_drewN ?_ _) | (with_reducible refine Kd.C_drew ?_)))
     (case side2 => exact (Kd.R_reads' HO391.out).2.1)
     (case side3 => repeat (first | exact (Kd.R_reads' HO397.out).2.2 | (with_reducible refine Kd.C_alloc ?_ _) | (with_reducible refine Kd.C_drewN ?_ _) | (with_reducible refine Kd.C_drew ?_)))
     (case side4 => exact (Kd.R_reads' HO397.out).2.1)
     rintro e w34 ⟨rfl, hb⟩
     refine ⟨_, rfl, ?_⟩
     replace HO385 := Aside0.mk (Kd.R_below (by (with_reducible repeat (first | apply Kd.R_alloc | apply Kd.R_drewN | apply Kd.R_drew)); exact HO385.out) hb)
     replace HO391 := Aside0.mk (Kd.R_below (by (with_reducible repeat (first | apply Kd.R_alloc | apply Kd.R_drewN | apply Kd.R_drew)); exact HO391.out) hb)
     replace HO397 := Aside0.mk (Kd.R_below (by (with_reducible repeat (first | apply Kd.R_alloc | apply Kd.R_drewN | apply Kd.R_drew)); exact HO397.out) hb)
     replace BK378 := bb_ BK378 hb
     replace BK386 := bb_ BK386 hb
     replace HB := hb_ HB hb
     (try clear hb); (try clear hb2); (try clear hk); (try clear hi)
     refine hK.out _ _ ⟨c_ BK386 0, ⟨c_ BK386 1, ⟨c_ BK386 2, ⟨c_ BK378 0, ⟨c_ BK378 1, (c_ BK378 2)⟩⟩⟩⟩⟩ (fun hHeld => ?_)
     clear hK K
     refine norm_ (a' := ?_) ?_ ?_
     rotate_left
     ·
      show Act.put _ (some 24) _ = _
      simp only [Act.put, List.setIfInBounds_toArray, List.set_cons_zero, List.set_cons_succ, i64_w, i32_w]
      rfl
     refine pv_ 9 25 zq9.q10 HT_ ?_
     refine done_ (done_of HT_.out (by kernel_rfl)) ?_
     have hcz35_0 : w34.cell? ⟨gb386, 0, none⟩ = some (.int .i64 t381) := (blk_cell BK386.out 0).trans rfl
     have hcz35_1 : w34.cell? ⟨gb386, 1, none⟩ = some (.int .i64 t382) := (blk_cell BK386.out 1).trans rfl
     have hcz35_2 : w34.cell? ⟨gb386, 2, none⟩ = some (.slice Ao26 t383.length co26) := (blk_cell BK386.out 2).trans rfl
     have hfz35_0 := blk_frozen BK386.out 0
     have hfz35_1 := blk_frozen BK386.out 1
     have hfz35_2 := blk_frozen BK386.out 2
     try go_wp2
     replace HO385 := Aside0.mk (Kd.R_drew HO385.out)
     replace HO391 := Aside0.mk (Kd.R_drew HO391.out)
     replace HO397 := Aside0.mk (Kd.R_drew HO397.out)
     replace BK378 := Aside0.mk (blk_drew BK378.out)
     replace BK386 := Aside0.mk (blk_drew BK386.out)
     replace HB := Aside0.mk (below_drew1 HB.out)
     refine start_ (n := 14) (S := fun w' => w'.cell? ⟨gb386, 0, none⟩ = some (.int .i64 t381) ∧ w'.cell? ⟨gb386, 1, none⟩ = some (.int .i64 t382) ∧ w'.cell? ⟨gb386, 2, none⟩ = some (.slice Ao26 t383.length co26) ∧ w'.cell? ⟨gb378, 0, none⟩ = some (.int .i64 a2_0) ∧ w'.cell? ⟨gb378, 1, none⟩ = some (.int .i64 a2_1) ∧ w'.cell? ⟨gb378, 2, none⟩ = some (.slice A2_2 l2_2.length c2_2)) (ds := []) zq9.q11 (by kernel_rfl) rfl rfl ⟨c_ BK386 0, ⟨c_ BK386 1, ⟨c_ BK386 2, ⟨c_ BK378 0, ⟨c_ BK378 1, (c_ BK378 2)⟩⟩⟩⟩⟩ (fun hHeld => ?_); refine with_tabW compositorlaw07_TransformImages.tab7 compositorlaw07_TransformImages.bits7 (fun HT_ HW_ => ?_)
     generalize w34.drew = w36 at HO385 HO391 HO397 BK378 BK386 HB hHeld ⊢
     refine pv_ 0 29 zq9.q12 HT_ ?_
     refine pv_ 1 30 zq9.q13 HT_ ?_
     refine pv_ 2 31 zq9.q14 HT_ ?_
     refine pv_ 3 32 zq9.q15 HT_ ?_
     refine tk6_ 5 34 zq9.q16 HT_ HW_ hHeld ?_
     refine tk6_ 7 36 zq9.q17 HT_ HW_ hHeld ?_
     refine one_ (i := 4) (N := some 33) zq9.q18 rfl rfl (one_of HT_.out (by kernel_rfl)) (by decide) (fun K hK => ?_)
     refine gs_ Tryd.func16 #[.int .i64 a0] ?_
     with_reducible refine (transform_Invert.calls a0 t399 _ A13.out (Go.Proofs.YtpihfglghcoojaaDoorHand.tb_ HTab_ HB)).mono ?_
     rintro e w37 ⟨rfl, hb⟩
     refine ⟨_, rfl, ?_⟩
     replace HO385 := Aside0.mk (Kd.R_below (by (with_reducible repeat (first | apply Kd.R_alloc | apply Kd.R_drewN | apply Kd.R_drew)); exact HO385.out) hb)
     replace HO391 := Aside0.mk (Kd.R_below (by (with_reducible repeat (first | apply Kd.R_alloc | apply Kd.R_drewN | apply Kd.R_drew)); exact HO391.out) hb)
     replace HO397 := Aside0.mk (Kd.R_below (by (with_reducible repeat (first | apply Kd.R_alloc | apply Kd.R_drewN | apply Kd.R_drew)); exact HO397.out) hb)
     replace BK378 := bb_ BK378 hb
     replace BK386 := bb_ BK386 hb
     replace HB := hb_ HB hb
     (try clear hb); (try clear hb2); (try clear hk); (try clear hi)
     refine hK.out _ _ ⟨c_ BK386 0, ⟨c_ BK386 1, ⟨c_ BK386 2, ⟨c_ BK378 0, ⟨c_ BK378 1, (c_ BK378 2)⟩⟩⟩⟩⟩ (fun hHeld => ?_)
     clear hK K
     refine norm_ (a' := ?_) ?_ ?_
     rotate_left
     ·
      show Act.put _ (some 33) _ = _
      simp only [Act.put, List.setIfInBounds_toArray, List.set_cons_zero, List.set_cons_succ, i64_w, i32_w]
      rfl
     refine one_ (i := 6) (N := some 35) zq9.q19 rfl rfl (one_of HT_.out (by kernel_rfl)) (by decide) (fun K hK => ?_)
     refine gs_ Tryd.func31 #[.int .i64 t399, .agg #[.int .i64 t381, .int .i64 t382, .slice Ao26 t383.length co26]] ?_
     with_reducible refine (transform_Pixels.calls k t399 t381 t382 _ _ t383 t400 t401 t402 _ ?side1 ?side2 A14.out).mono ?_
     (case side1 => repeat (first | exact (Kd.R_reads' HO385.out).2.2 | (with_reducible refine Kd.C_alloc ?_ _) | (with_reducible refine Kd.C_drewN ?_ _) | (with_reducible refine Kd.C_drew ?_)))
     (case side2 => exact (Kd.R_reads' HO385.out).2.1)
     rintro e w38 ⟨v403, rfl, ho0, hb⟩
     refine ⟨_, rfl, ?_⟩
     have HO404 := Aside0.mk (Kd.R_lower (Kd.R_new' (Kd.R_new' (Kd.R_new' ho0 (Kd.R_lt (by (with_reducible repeat (first | apply Kd.R_alloc | apply Kd.R_drewN | apply Kd.R_drew)); exact HO385.out))) (Kd.R_lt (by (with_reducible repeat (first | apply Kd.R_alloc | apply Kd.R_drewN | apply Kd.R_drew)); exact HO391.out))) (Kd.R_lt (by (with_reducible repeat (first | apply Kd.R_alloc | apply Kd.R_drewN | apply Kd.R_drew)); exact HO397.out))) (below_size (hq_ HB)))
     replace HO385 := Aside0.mk (Kd.R_elder' (by (with_reducible repeat (first | apply Kd.R_alloc | apply Kd.R_drewN | apply Kd.R_drew)); exact HO385.out) (Kd.R_base ho0) hb)
     replace HO391 := Aside0.mk (Kd.R_elder' (by (with_reducible repeat (first | apply Kd.R_alloc | apply Kd.R_drewN | apply Kd.R_drew)); exact HO391.out) (Kd.R_base ho0) hb)
     replace HO397 := Aside0.mk (Kd.R_elder' (by (with_reducible repeat (first | apply Kd.R_alloc | apply Kd.R_drewN | apply Kd.R_drew)); exact HO397.out) (Kd.R_base ho0) hb)
     replace BK378 := bb_ BK378 hb
     replace BK386 := bb_ BK386 hb
     replace HB := hb_ HB hb
     (try clear hb); (try clear hb2); (try clear hk); (try clear hi)
     (try clear ho0)
     obtain ⟨Ao39, co39, eo39⟩ := Kd.R_slice HO404.out
     (first | subst eo39 | (injection eo39 with f1_ f2_ f3_; have f4_ := f1_.symm; have f5_ := f3_.symm; clear f1_ f2_ f3_; subst f4_; subst f5_))
     refine hK.out _ _ ⟨c_ BK386 0, ⟨c_ BK386 1, ⟨c_ BK386 2, ⟨c_ BK378 0, ⟨c_ BK378 1, (c_ BK378 2)⟩⟩⟩⟩⟩ (fun hHeld => ?_)
     clear hK K
     refine norm_ (a' := ?_) ?_ ?_
     rotate_left
     ·
      show Act.put _ (some 35) _ = _
      simp only [Act.put, List.setIfInBounds_toArray, List.set_cons_zero, List.set_cons_succ, i64_w, i32_w]
      rfl
     refine one_ (i := 8) (N := some 37) zq9.q20 rfl rfl (one_of HT_.out (by kernel_rfl)) (by decide) (fun K hK => ?_)
     refine gs_ Tryd.func30 #[.agg #[.int .i64 t400, .int .i64 t401, .slice Ao39 t402.length co39], .agg #[.int .i64 a2_0, .int .i64 a2_1, .slice A2_2 l2_2.length c2_2]] ?_
     with_reducible refine (compositorref07_Same.calls k t400 t401 _ _ t402 a2_0 a2_1 _ _ l2_2 true _ ?side1 ?side2 ?side3 ?side4 A15.out).mono ?_
     (case side1 => repeat (first | exact (Kd.R_reads' HO404.out).2.2 | (with_reducible refine Kd.C_alloc ?_ _) | (with_reducible refine Kd.C_drewN ?_ _) | (with_reducible refine Kd.C_drew ?_)))
     (case side2 => exact (Kd.R_reads' HO404.out).2.1)
     (case side3 => repeat (first | exact (Kd.C_below HR2_2.out HB.out) | (with_reducible refine Kd.C_alloc ?_ _) | (with_reducible refine Kd.C_drewN ?_ _) | (with_reducible refine Kd.C_drew ?_)))
     (case side4 => exact HC2_2.out)
     rintro e w40 ⟨rfl, hb⟩
     refine ⟨_, rfl, ?_⟩
     replace HO385 := Aside0.mk (Kd.R_below (by (with_reducible repeat (first | apply Kd.R_alloc | apply Kd.R_drewN | apply Kd.R_drew)); exact HO385.out) hb)
     replace HO391 := Aside0.mk (Kd.R_below (by (with_reducible repeat (first | apply Kd.R_alloc | apply Kd.R_drewN | apply Kd.R_drew)); exact HO391.out) hb)
     replace HO397 := Aside0.mk (Kd.R_below (by (with_reducible repeat (first | apply Kd.R_alloc | apply Kd.R_drewN | apply Kd.R_drew)); exact HO397.out) hb)
     replace HO404 := Aside0.mk (Kd.R_below (by (with_reducible repeat (first | apply Kd.R_alloc | apply Kd.R_drewN | apply Kd.R_drew)); exact HO404.out) hb)
     replace BK378 := bb_ BK378 hb
     replace BK386 := bb_ BK386 hb
     replace HB := hb_ HB hb
     (try clear hb); (try clear hb2); (try clear hk); (try clear hi)
     refine hK.out _ _ ⟨c_ BK386 0, ⟨c_ BK386 1, ⟨c_ BK386 2, ⟨c_ BK378 0, ⟨c_ BK378 1, (c_ BK378 2)⟩⟩⟩⟩⟩ (fun hHeld => ?_)
     clear hK K
     refine norm_ (a' := ?_) ?_ ?_
     rotate_left
     ·
      show Act.put _ (some 37) _ = _
      simp only [Act.put, List.setIfInBounds_toArray, List.set_cons_zero, List.set_cons_succ, i64_w, i32_w]
      rfl
     refine pv_ 9 38 zq9.q21 HT_ ?_
     refine pv_ 10 39 zq9.q22 HT_ ?_
     refine one_ (i := 11) (N := some 40) zq9.q23 rfl rfl (one_of HT_.out (by kernel_rfl)) (by decide) (fun K hK => ?_)
     refine gs_ Tryd.func18 #[] ?_
     with_reducible refine (compositorlaw07_exampleHolds.calls k  t406 _ A17.out (Go.Proofs.YtpihfglghcoojaaDoorHand.tb_ HTab_ HB)).mono ?_
     rintro e w41 ⟨rfl, hb⟩
     refine ⟨_, rfl, ?_⟩
     replace HO385 := Aside0.mk (Kd.R_below (by (with_reducible repeat (first | apply Kd.R_alloc | apply Kd.R_drewN | apply Kd.R_drew)); exact HO385.out) hb)
     replace HO391 := Aside0.mk (Kd.R_below (by (with_reducible repeat (first | apply Kd.R_alloc | apply Kd.R_drewN | apply Kd.R_drew)); exact HO391.out) hb)
     replace HO397 := Aside0.mk (Kd.R_below (by (with_reducible repeat (first | apply Kd.R_alloc | apply Kd.R_drewN | apply Kd.R_drew)); exact HO397.out) hb)
     replace HO404 := Aside0.mk (Kd.R_below (by (with_reducible repeat (first | apply Kd.R_alloc | apply Kd.R_drewN | apply Kd.R_drew)); exact HO404.out) hb)
     replace BK378 := bb_ BK378 hb
     replace BK386 := bb_ BK386 hb
     replace HB := hb_ HB hb
     (try clear hb); (try clear hb2); (try clear hk); (try clear hi)
     refine hK.out _ _ ⟨c_ BK386 0, ⟨c_ BK386 1, ⟨c_ BK386 2, ⟨c_ BK378 0, ⟨c_ BK378 1, (c_ BK378 2)⟩⟩⟩⟩⟩ (fun hHeld => ?_)
     clear hK K
     refine norm_ (a' := ?_) ?_ ?_
     rotate_left
     ·
      show Act.put _ (some 40) _ = _
      simp only [Act.put, List.setIfInBounds_toArray, List.set_cons_zero, List.set_cons_succ, i64_w, i32_w]
      rfl
     refine pv_ 12 41 zq9.q24 HT_ ?_
     refine pv_ 13 6 zq9.q25 HT_ ?_
     refine done_ (done_of HT_.out (by kernel_rfl)) ?_
     try go_wp2
     go_ret
     exact ⟨by first | rfl | (simp [errW_none, errW_some] <;> rfl) | (simp [*, errW_none, errW_some] <;> rfl), by repeat (first | (with_reducible first | exact HB.out | apply below_alloc | apply pw_below_drewN | apply below_drew1 | refine below_set ?_ GE378.out | refine below_set ?_ GE386.out) | exact HB.out)⟩
    ·
     replace c16 := Bool.eq_false_iff.mpr c16
     subst c16
     have H1 : (some false) = some true := by rw [if_neg (show ¬ (false = true) by decide)] at H; exact H
     clear H
     have H := H1
     clear H1
     exact absurd H (by simp)
   ·
    rw [if_neg c12] at H
    have c12b0 : decide (0 < t381) = false := decide_eq_false c12
    clear c12
    replace H := Option.bind_eq_some_iff.mp H
    obtain ⟨t407, A420, H⟩ := H
    try dsimp only at H
    have A42 := Aside0.mk A420
    clear A420
    have Hq_ := Option.some.inj H
    go_enter Tryd.func9, Tryd.ntmps9
    try go_wp2_with (first | ((with_reducible refine gate_dst (N := 5) rfl ?_); refine box_event ?hg (N := 5) ?hd (cs := #[.int .i64 a2_0, .int .i64 a2_1, .slice A2_2 l2_2.length c2_2]) (t := 47) ?hr ?_; (case hd => rfl); (case hg => rfl); (case hr => first | (go_simp; done) | (go_simp; rfl)); intro gb378 hg w43 hbox hb; have n0_ := hb_ HB hb; have n1_ := Aside0.mk (hbox); have n2_ := Aside0.mk ((by rw [hg]; exact (below_size (hq_ HB)) : w.heap.size ≤ gb378)); have n3_ := Aside0.mk ((by rw [hg]; exact (below_size (hq_ HB)) : w.heap.size ≤ gb378)); clear HB; have HB := n0_; have BK378 := n1_; have GW378 := n2_; have GE378 := n3_; clear n0_ n1_ n2_ n3_; clear hb hbox hg; have hcz44_0 : w43.cell? ⟨gb378, 0, none⟩ = some (.int .i64 a2_0) := (blk_cell BK378.out 0).trans rfl; have hcz44_1 : w43.cell? ⟨gb378, 1, none⟩ = some (.int .i64 a2_1) := (blk_cell BK378.out 1).trans rfl; have hcz44_2 : w43.cell? ⟨gb378, 2, none⟩ = some (.slice A2_2 l2_2.length c2_2) := (blk_cell BK378.out 2).trans rfl; have hfz44_0 := blk_frozen BK378.out 0; have hfz44_1 := blk_frozen BK378.out 1; have hfz44_2 := blk_frozen BK378.out 2) | ((with_reducible refine gate_callee (f := 29) rfl ?_); refine goesL_ (some 10) rfl rfl Tryd.func29 (by kernel_rfl) rfl #[.agg #[.int .i64 a2_0, .int .i64 a2_1, .slice A2_2 l2_2.length c2_2]] rfl (by (try simp only [List.map_toArray, List.map_cons, List.map_nil]) <;> rfl) ?_; (with_reducible refine (compositorlaw07_small.calls a2_0 a2_1 _ _ l2_2 true _ ?side1 ?side2 A4.out).mono ?_); (case side1 => repeat (first | exact (Kd.C_below HR2_2.out HB.out) | (with_reducible refine Kd.C_alloc ?_ _) | (with_reducible refine Kd.C_drewN ?_ _) | (with_reducible refine Kd.C_drew ?_))); (case side2 => exact HC2_2.out); rintro e w45 ⟨rfl, hb⟩; refine ⟨_, rfl, ?_⟩; have n0_ := bb_ BK378 hb; have n1_ := hb_ HB hb; clear BK378; clear HB; have BK378 := n0_; have HB := n1_; clear n0_ n1_; (try clear hb); (try clear hb2); (try clear hk); (try clear hi); have hcz46_0 : w45.cell? ⟨gb378, 0, none⟩ = some (.int .i64 a2_0) := (blk_cell BK378.out 0).trans rfl; have hcz46_1 : w45.cell? ⟨gb378, 1, none⟩ = some (.int .i64 a2_1) := (blk_cell BK378.out 1).trans rfl; have hcz46_2 : w45.cell? ⟨gb378, 2, none⟩ = some (.slice A2_2 l2_2.length c2_2) := (blk_cell BK378.out 2).trans rfl; have hfz46_0 := blk_frozen BK378.out 0; have hfz46_1 := blk_frozen BK378.out 1; have hfz46_2 := blk_frozen BK378.out 2) | ((with_reducible refine gate_callee (f := 31) rfl ?_); refine goesL_ (some 15) rfl rfl Tryd.func31 (by kernel_rfl) rfl #[.int .i64 a0, .agg #[.int .i64 a2_0, .int .i64 a2_1, .slice A2_2 l2_2.length c2_2]] rfl (by (try simp only [List.map_toArray, List.map_cons, List.map_nil]) <;> rfl) ?_; (with_reducible refine (transform_Pixels.calls k a0 a2_0 a2_1 _ _ l2_2 t381 t382 t383 _ ?side1 ?side2 A6.out).mono ?_); (case side1 => repeat (first | exact (Kd.C_below HR2_2.out HB.out) | (with_reducible refine Kd.C_alloc ?_ _) | (with_reducible refine Kd.C_drewN ?_ _) | (with_reducible refine Kd.C_drew ?_))); (case side2 => exact HC2_2.out); rintro e w47 ⟨v384, rfl, ho0, hb⟩; refine ⟨_, rfl, ?_⟩; have n0_ := Aside0.mk (Kd.R_lower ho0 (below_size (hq_ HB))); have n1_ := bb_ BK378 hb; have n2_ := hb_ HB hb; clear BK378; clear HB; have HO385 := n0_; have BK378 := n1_; have HB := n2_; clear n0_ n1_ n2_; (try clear hb); (try clear hb2); (try clear hk); (try clear hi); (try clear ho0)) | ((with_reducible refine gate_dst (N := 7) rfl ?_); refine box_event ?hg (N := 7) ?hd (cs := #[.int .i64 0, .int .i64 0, .slice none 0 0]) (t := 47) ?hr ?_; (case hd => rfl); (case hg => rfl); (case hr => first | (go_simp; done) | (go_simp; rfl)); intro gb386 hg w48 hbox hb; have n0_ := Aside0.mk (Kd.R_below (by (with_reducible repeat (first | apply Kd.R_alloc | apply Kd.R_drewN | apply Kd.R_drew)); exact HO385.out) hb); have n1_ := bb_ BK378 hb; have n2_ := hb_ HB hb; have n3_ := Aside0.mk (hbox); have n4_ := Aside0.mk ((by rw [hg]; exact (below_size (hq_ HB)) : w.heap.size ≤ gb386)); have n5_ := Aside0.mk ((by rw [hg]; exact (below_size (hq_ HB)) : w.heap.size ≤ gb386)); have n6_ := Aside0.mk ((by rw [hg]; exact Nat.ne_of_lt (blk_lt (g := gb378) (o := .cells #[.int .i64 a2_0, .int .i64 a2_1, .slice A2_2 l2_2.length c2_2] 47 (0, 0)) (bq_ BK378)) : gb378 ≠ gb386)); have n7_ := Aside0.mk ((by rw [hg]; exact Nat.ne_of_gt (blk_lt (g := gb378) (o := .cells #[.int .i64 a2_0, .int .i64 a2_1, .slice A2_2 l2_2.length c2_2] 47 (0, 0)) (bq_ BK378)) : gb386 ≠ gb378)); clear HO385; clear BK378; clear HB; have HO385 := n0_; have BK378 := n1_; have HB := n2_; have BK386 := n3_; have GW386 := n4_; have GE386 := n5_; have NB378_386 := n6_; have NB386_378 := n7_; clear n0_ n1_ n2_ n3_ n4_ n5_ n6_ n7_; clear hb hbox hg; have hnb49 := NB386_378.out; have hnc49 := NB378_386.out; have hcz50_0 : w48.cell? ⟨gb386, 0, none⟩ = some (.int .i64 0) := (blk_cell BK386.out 0).trans rfl; have hcz50_1 : w48.cell? ⟨gb386, 1, none⟩ = some (.int .i64 0) := (blk_cell BK386.out 1).trans rfl; have hcz50_2 : w48.cell? ⟨gb386, 2, none⟩ = some (.slice none 0 0) := (blk_cell BK386.out 2).trans rfl; have hfz50_0 := blk_frozen BK386.out 0; have hfz50_1 := blk_frozen BK386.out 1; have hfz50_2 := blk_frozen BK386.out 2; obtain ⟨Ao51, co51, eo51⟩ := Kd.R_slice HO385.out; subst eo51))
    have n0_ : Aside0 (Kd.R k58 58 (((w48.setCell ⟨gb386, 0, none⟩ (.int .i64 t381)).setCell ⟨gb386, 1, none⟩ (.int .i64 t382)).setCell ⟨gb386, 2, none⟩ (.slice Ao51 t383.length co51)) w.heap.size (fun _ => True) (.slice Ao51 t383.length co51) t383) := ⟨by (with_reducible repeat (first | apply Kd.R_alloc | apply Kd.R_drewN | apply Kd.R_drew)); exact Kd.R_mono (Kd.R_far (p := ⟨gb386, 2, none⟩) (Kd.R_far (p := ⟨gb386, 1, none⟩) (Kd.R_far (p := ⟨gb386, 0, none⟩) (Kd.R_types HO385.out BK386.out (by decide)) (fun _ hk => hk.2) (.int .i64 t381)) (fun _ hk => hk.2) (.int .i64 t382)) (fun _ hk => hk.2) (.slice Ao51 t383.length co51)) (fun _ hk => trivial)⟩
    have n1_ : Aside0 ((((w48.setCell ⟨gb386, 0, none⟩ (.int .i64 t381)).setCell ⟨gb386, 1, none⟩ (.int .i64 t382)).setCell ⟨gb386, 2, none⟩ (.slice Ao51 t383.length co51)).heap[gb378]? = some (.cells #[.int .i64 a2_0, .int .i64 a2_1, .slice A2_2 l2_2.length c2_2] 47 (0, 0))) := bf_ BK378
    have n2_ : Aside0 ((((w48.setCell ⟨gb386, 0, none⟩ (.int .i64 t381)).setCell ⟨gb386, 1, none⟩ (.int .i64 t382)).setCell ⟨gb386, 2, none⟩ (.slice Ao51 t383.length co51)).heap[gb386]? = some (.cells #[.int .i64 t381, .int .i64 t382, .slice Ao51 t383.length co51] 47 (0, 0))) := ⟨by (with_reducible repeat (first | refine blk_drewN ?_ _ | refine blk_drew ?_ | refine blk_alloc ?_ _)); refine blk_put (cs := #[.int .i64 t381, .int .i64 t382, .slice none 0 0]) ?_ 2 _ rfl; (with_reducible repeat (first | refine blk_drewN ?_ _ | refine blk_drew ?_ | refine blk_alloc ?_ _)); refine blk_put (cs := #[.int .i64 t381, .int .i64 0, .slice none 0 0]) ?_ 1 _ rfl; (with_reducible repeat (first | refine blk_drewN ?_ _ | refine blk_drew ?_ | refine blk_alloc ?_ _)); refine blk_put (cs := #[.int .i64 0, .int .i64 0, .slice none 0 0]) ?_ 0 _ rfl; (with_reducible repeat (first | refine blk_drewN ?_ _ | refine blk_drew ?_ | refine blk_alloc ?_ _)); exact BK386.out⟩
    have n3_ : Aside0 (Below w.heap.size w (((w48.setCell ⟨gb386, 0, none⟩ (.int .i64 t381)).setCell ⟨gb386, 1, none⟩ (.int .i64 t382)).setCell ⟨gb386, 2, none⟩ (.slice Ao51 t383.length co51))) := ⟨by repeat (first | (with_reducible first | exact HB.out | apply below_alloc | apply pw_below_drewN | apply below_drew1 | refine below_set ?_ GE378.out | refine below_set ?_ GE386.out) | exact HB.out)⟩
    (try clear HO385)
    (try clear BK378)
    (try clear BK386)
    (try clear HB)
    generalize (((w48.setCell ⟨gb386, 0, none⟩ (.int .i64 t381)).setCell ⟨gb386, 1, none⟩ (.int .i64 t382)).setCell ⟨gb386, 2, none⟩ (.slice Ao51 t383.length co51)) = w52 at n0_ n1_ n2_ n3_ ⊢
    have HO385 := n0_
    have BK378 := n1_
    have BK386 := n2_
    have HB := n3_
    clear n0_ n1_ n2_ n3_
    replace HO385 := Aside0.mk (Kd.R_drew HO385.out)
    replace BK378 := Aside0.mk (blk_drew BK378.out)
    replace BK386 := Aside0.mk (blk_drew BK386.out)
    replace HB := Aside0.mk (below_drew1 HB.out)
    refine start_ (n := 10) (S := fun w' => w'.cell? ⟨gb386, 0, none⟩ = some (.int .i64 t381) ∧ w'.cell? ⟨gb386, 1, none⟩ = some (.int .i64 t382) ∧ w'.cell? ⟨gb386, 2, none⟩ = some (.slice Ao51 t383.length co51) ∧ w'.cell? ⟨gb378, 0, none⟩ = some (.int .i64 a2_0) ∧ w'.cell? ⟨gb378, 1, none⟩ = some (.int .i64 a2_1) ∧ w'.cell? ⟨gb378, 2, none⟩ = some (.slice A2_2 l2_2.length c2_2)) (ds := []) zq9.q0 (by kernel_rfl) rfl rfl ⟨c_ BK386 0, ⟨c_ BK386 1, ⟨c_ BK386 2, ⟨c_ BK378 0, ⟨c_ BK378 1, (c_ BK378 2)⟩⟩⟩⟩⟩ (fun hHeld => ?_); refine with_tabW compositorlaw07_TransformImages.tab4 compositorlaw07_TransformImages.bits4 (fun HT_ HW_ => ?_)
    generalize w52.drew = w53 at HO385 BK378 BK386 HB hHeld ⊢
    refine pv_ 0 16 zq9.q1 HT_ ?_
    refine pv_ 3 19 zq9.q2 HT_ ?_
    refine pv_ 4 20 zq9.q3 HT_ ?_
    refine tk6_ 1 17 zq9.q4 HT_ HW_ hHeld ?_
    refine tk6_ 6 22 zq9.q5 HT_ HW_ hHeld ?_
    refine one_ (i := 2) (N := some 18) zq9.q6 rfl rfl (one_of HT_.out (by kernel_rfl)) (by decide) (fun K hK => ?_)
    refine gs_ Tryd.func31 #[.int .i64 a1, .agg #[.int .i64 t381, .int .i64 t382, .slice Ao51 t383.length co51]] ?_
    with_reducible refine (transform_Pixels.calls k a1 t381 t382 _ _ t383 t387 t388 t389 _ ?side1 ?side2 A7.out).mono ?_
    (case side1 => repeat (first | exact (Kd.R_reads' HO385.out).2.2 | (with_reducible refine Kd.C_alloc ?_ _) | (with_reducible refine Kd.C_drewN ?_ _) | (with_reducible refine Kd.C_drew ?_)))
    (case side2 => exact (Kd.R_reads' HO385.out).2.1)
    rintro e w54 ⟨v390, rfl, ho0, hb⟩
    refine ⟨_, rfl, ?_⟩
    have HO391 := Aside0.mk (Kd.R_lower (Kd.R_new' ho0 (Kd.R_lt (by (with_reducible repeat (first | apply Kd.R_alloc | apply Kd.R_drewN | apply Kd.R_drew)); exact HO385.out))) (below_size (hq_ HB)))
    replace HO385 := Aside0.mk (Kd.R_elder' (by (with_reducible repeat (first | apply Kd.R_alloc | apply Kd.R_drewN | apply Kd.R_drew)); exact HO385.out) (Kd.R_base ho0) hb)
    replace BK378 := bb_ BK378 hb
    replace BK386 := bb_ BK386 hb
    replace HB := hb_ HB hb
    (try clear hb); (try clear hb2); (try clear hk); (try clear hi)
    (try clear ho0)
    refine hK.out _ _ ⟨c_ BK386 0, ⟨c_ BK386 1, ⟨c_ BK386 2, ⟨c_ BK378 0, ⟨c_ BK378 1, (c_ BK378 2)⟩⟩⟩⟩⟩ (fun hHeld => ?_)
    clear hK K
    refine norm_ (a' := ?_) ?_ ?_
    rotate_left
    ·
     show Act.put _ (some 18) _ = _
     simp only [Act.put, List.setIfInBounds_toArray, List.set_cons_zero, List.set_cons_succ, i64_w, i32_w]
     rfl
    refine one_ (i := 5) (N := some 21) zq9.q7 rfl rfl (one_of HT_.out (by kernel_rfl)) (by decide) (fun K hK => ?_)
    refine gs_ Tryd.func14 #[.int .i64 a0, .int .i64 a1] ?_
    with_reducible refine (transform_Compose.calls a0 a1 t392 _ A8.out (Go.Proofs.YtpihfglghcoojaaDoorHand.tb_ HTab_ HB)).mono ?_
    rintro e w55 ⟨rfl, hb⟩
    refine ⟨_, rfl, ?_⟩
    replace HO385 := Aside0.mk (Kd.R_below (by (with_reducible repeat (first | apply Kd.R_alloc | apply Kd.R_drewN | apply Kd.R_drew)); exact HO385.out) hb)
    replace HO391 := Aside0.mk (Kd.R_below (by (with_reducible repeat (first | apply Kd.R_alloc | apply Kd.R_drewN | apply Kd.R_drew)); exact HO391.out) hb)
    replace BK378 := bb_ BK378 hb
    replace BK386 := bb_ BK386 hb
    replace HB := hb_ HB hb
    (try clear hb); (try clear hb2); (try clear hk); (try clear hi)
    refine hK.out _ _ ⟨c_ BK386 0, ⟨c_ BK386 1, ⟨c_ BK386 2, ⟨c_ BK378 0, ⟨c_ BK378 1, (c_ BK378 2)⟩⟩⟩⟩⟩ (fun hHeld => ?_)
    clear hK K
    refine norm_ (a' := ?_) ?_ ?_
    rotate_left
    ·
     show Act.put _ (some 21) _ = _
     simp only [Act.put, List.setIfInBounds_toArray, List.set_cons_zero, List.set_cons_succ, i64_w, i32_w]
     rfl
    refine one_ (i := 7) (N := some 23) zq9.q8 rfl rfl (one_of HT_.out (by kernel_rfl)) (by decide) (fun K hK => ?_)
    refine gs_ Tryd.func31 #[.int .i64 t392, .agg #[.int .i64 a2_0, .int .i64 a2_1, .slice A2_2 l2_2.length c2_2]] ?_
    with_reducible refine (transform_Pixels.calls k t392 a2_0 a2_1 _ _ l2_2 t393 t394 t395 _ ?side1 ?side2 A9.out).mono ?_
    (case side1 => repeat (first | exact (Kd.C_below HR2_2.out HB.out) | (with_reducible refine Kd.C_alloc ?_ _) | (with_reducible refine Kd.C_drewN ?_ _) | (with_reducible refine Kd.C_drew ?_)))
    (case side2 => exact HC2_2.out)
    rintro e w56 ⟨v396, rfl, ho0, hb⟩
    refine ⟨_, rfl, ?_⟩
    have HO397 := Aside0.mk (Kd.R_lower (Kd.R_new' (Kd.R_new' ho0 (Kd.R_lt (by (with_reducible repeat (first | apply Kd.R_alloc | apply Kd.R_drewN | apply Kd.R_drew)); exact HO385.out))) (Kd.R_lt (by (with_reducible repeat (first | apply Kd.R_alloc | apply Kd.R_drewN | apply Kd.R_drew)); exact HO391.out))) (below_size (hq_ HB)))
    replace HO385 := Aside0.mk (Kd.R_elder' (by (with_reducible repeat (first | apply Kd.R_alloc | apply Kd.R_drewN | apply Kd.R_drew)); exact HO385.out) (Kd.R_base ho0) hb)
    replace HO391 := Aside0.mk (Kd.R_elder' (by (with_reducible repeat (first | apply Kd.R_alloc | apply Kd.R_drewN | apply Kd.R_drew)); exact HO391.out) (Kd.R_base ho0) hb)
    replace BK378 := bb_ BK378 hb
    replace BK386 := bb_ BK386 hb
    replace HB := hb_ HB hb
    (try clear hb); (try clear hb2); (try clear hk); (try clear hi)
    (try clear ho0)
    obtain ⟨Ao57, co57, eo57⟩ := Kd.R_slice HO391.out
    (first | subst eo57 | (injection eo57 with f1_ f2_ f3_; have f4_ := f1_.symm; have f5_ := f3_.symm; clear f1_ f2_ f3_; subst f4_; subst f5_))
    obtain ⟨Ao58, co58, eo58⟩ := Kd.R_slice HO397.out
    (first | subst eo58 | (injection eo58 with f1_ f2_ f3_; have f4_ := f1_.symm; have f5_ := f3_.symm; clear f1_ f2_ f3_; subst f4_; subst f5_))
    refine hK.out _ _ ⟨c_ BK386 0, ⟨c_ BK386 1, ⟨c_ BK386 2, ⟨c_ BK378 0, ⟨c_ BK378 1, (c_ BK378 2)⟩⟩⟩⟩⟩ (fun hHeld => ?_)
    clear hK K
    refine norm_ (a' := ?_) ?_ ?_
    rotate_left
    ·
     show Act.put _ (some 23) _ = _
     simp only [Act.put, List.setIfInBounds_toArray, List.set_cons_zero, List.set_cons_succ, i64_w, i32_w]
     rfl
    refine one_ (i := 8) (N := some 24) zq9.q9 rfl rfl (one_of HT_.out (by kernel_rfl)) (by decide) (fun K hK => ?_)
    refine gs_ Tryd.func30 #[.agg #[.int .i64 t387, .int .i64 t388, .slice Ao57 t389.length co57], .agg #[.int .i64 t393, .int .i64 t394, .slice Ao58 t395.length co58]] ?_
    with_reducible refine (compositorref07_Same.calls k t387 t388 _ _ t389 t393 t394 _ _ t395 true _ ?side1 ?side2 ?side3 ?side4 A10.out).mono ?_
    (case side1 => repeat (first | exact (Kd.R_reads' HO391.out).2.2 | (with_reducible refine Kd.C_alloc ?_ _) | (with_reducible refine Kd.C_drewN ?_ _) | (with_reducible refine Kd.C_drew ?_)))
    (case side2 => exact (Kd.R_reads' HO391.out).2.1)
    (case side3 => repeat (first | exact (Kd.R_reads' HO397.out).2.2 | (with_reducible refine Kd.C_alloc ?_ _) | (with_reducible refine Kd.C_drewN ?_ _) | (with_reducible refine Kd.C_drew ?_)))
    (case side4 => exact (Kd.R_reads' HO397.out).2.1)
    rintro e w59 ⟨rfl, hb⟩
    refine ⟨_, rfl, ?_⟩
    replace HO385 := Aside0.mk (Kd.R_below (by (with_reducible repeat (first | apply Kd.R_alloc | apply Kd.R_drewN | apply Kd.R_drew)); exact HO385.out) hb)
    replace HO391 := Aside0.mk (Kd.R_below (by (with_reducible repeat (first | apply Kd.R_alloc | apply Kd.R_drewN | apply Kd.R_drew)); exact HO391.out) hb)
    replace HO397 := Aside0.mk (Kd.R_below (by (with_reducible repeat (first | apply Kd.R_alloc | apply Kd.R_drewN | apply Kd.R_drew)); exact HO397.out) hb)
    replace BK378 := bb_ BK378 hb
    replace BK386 := bb_ BK386 hb
    replace HB := hb_ HB hb
    (try clear hb); (try clear hb2); (try clear hk); (try clear hi)
    refine hK.out _ _ ⟨c_ BK386 0, ⟨c_ BK386 1, ⟨c_ BK386 2, ⟨c_ BK378 0, ⟨c_ BK378 1, (c_ BK378 2)⟩⟩⟩⟩⟩ (fun hHeld => ?_)
    clear hK K
    refine norm_ (a' := ?_) ?_ ?_
    rotate_left
    ·
     show Act.put _ (some 24) _ = _
     simp only [Act.put, List.setIfInBounds_toArray, List.set_cons_zero, List.set_cons_succ, i64_w, i32_w]
     rfl
    refine pv_ 9 25 zq9.q10 HT_ ?_
    refine done_ (done_of HT_.out (by kernel_rfl)) ?_
    have hcz60_0 : w59.cell? ⟨gb386, 0, none⟩ = some (.int .i64 t381) := (blk_cell BK386.out 0).trans rfl
    have hcz60_1 : w59.cell? ⟨gb386, 1, none⟩ = some (.int .i64 t382) := (blk_cell BK386.out 1).trans rfl
    have hcz60_2 : w59.cell? ⟨gb386, 2, none⟩ = some (.slice Ao51 t383.length co51) := (blk_cell BK386.out 2).trans rfl
    have hfz60_0 := blk_frozen BK386.out 0
    have hfz60_1 := blk_frozen BK386.out 1
    have hfz60_2 := blk_frozen BK386.out 2
    try go_wp2
    replace HO385 := Aside0.mk (Kd.R_drew HO385.out)
    replace HO391 := Aside0.mk (Kd.R_drew HO391.out)
    replace HO397 := Aside0.mk (Kd.R_drew HO397.out)
    replace BK378 := Aside0.mk (blk_drew BK378.out)
    replace BK386 := Aside0.mk (blk_drew BK386.out)
    replace HB := Aside0.mk (below_drew1 HB.out)
    refine start_ (n := 14) (S := fun w' => True) (ds := []) zq9.q11 (by kernel_rfl) rfl rfl trivial (fun hHeld => ?_); refine with_tabW compositorlaw07_TransformImages.tab7 compositorlaw07_TransformImages.bits7 (fun HT_ HW_ => ?_)
    generalize w59.drew = w61 at HO385 HO391 HO397 BK378 BK386 HB hHeld ⊢
    refine pv_ 0 29 zq9.q12 HT_ ?_
    refine pv_ 1 30 zq9.q13 HT_ ?_
    refine pv_ 2 31 zq9.q14 HT_ ?_
    refine pu_ 3 32 zq9.q15 HT_ ?_
    refine pu_ 4 33 zq9.q26 HT_ ?_
    refine pu_ 5 34 zq9.q27 HT_ ?_
    refine pu_ 6 35 zq9.q28 HT_ ?_
    refine pu_ 7 36 zq9.q19 HT_ ?_
    refine pu_ 8 37 zq9.q20 HT_ ?_
    refine pv_ 9 38 zq9.q21 HT_ ?_
    refine pv_ 10 39 zq9.q22 HT_ ?_
    refine one_ (i := 11) (N := some 40) zq9.q23 rfl rfl (one_of HT_.out (by kernel_rfl)) (by decide) (fun K hK => ?_)
    refine gs_ Tryd.func18 #[] ?_
    with_reducible refine (compositorlaw07_exampleHolds.calls k  t407 _ A42.out (Go.Proofs.YtpihfglghcoojaaDoorHand.tb_ HTab_ HB)).mono ?_
    rintro e w62 ⟨rfl, hb⟩
    refine ⟨_, rfl, ?_⟩
    replace HO385 := Aside0.mk (Kd.R_below (by (with_reducible repeat (first | apply Kd.R_alloc | apply Kd.R_drewN | apply Kd.R_drew)); exact HO385.out) hb)
    replace HO391 := Aside0.mk (Kd.R_below (by (with_reducible repeat (first | apply Kd.R_alloc | apply Kd.R_drewN | apply Kd.R_drew)); exact HO391.out) hb)
    replace HO397 := Aside0.mk (Kd.R_below (by (with_reducible repeat (first | apply Kd.R_alloc | apply Kd.R_drewN | apply Kd.R_drew)); exact HO397.out) hb)
    replace BK378 := bb_ BK378 hb
    replace BK386 := bb_ BK386 hb
    replace HB := hb_ HB hb
    (try clear hb); (try clear hb2); (try clear hk); (try clear hi)
    refine hK.out _ _ trivial (fun hHeld => ?_)
    clear hK K
    refine norm_ (a' := ?_) ?_ ?_
    rotate_left
    ·
     show Act.put _ (some 40) _ = _
     simp only [Act.put, List.setIfInBounds_toArray, List.set_cons_zero, List.set_cons_succ, i64_w, i32_w]
     rfl
    refine pv_ 12 41 zq9.q24 HT_ ?_
    refine pv_ 13 6 zq9.q25 HT_ ?_
    refine done_ (done_of HT_.out (by kernel_rfl)) ?_
    try go_wp2
    go_ret
    exact ⟨by first | rfl | (simp [errW_none, errW_some] <;> rfl) | (simp [*, errW_none, errW_some] <;> rfl), by repeat (first | (with_reducible first | exact HB.out | apply below_alloc | apply pw_below_drewN | apply below_drew1 | refine below_set ?_ GE378.out | refine below_set ?_ GE386.out) | exact HB.out)⟩
  ·
   replace c11 := Bool.eq_false_iff.mpr c11
   subst c11
   have H1 : (some false) = some true := by rw [if_neg (show ¬ (false = true) by decide)] at H; exact H
   clear H
   have H := H1
   clear H1
   exact absurd H (by simp)
 ·
  replace c5 := Bool.eq_false_iff.mpr c5
  subst c5
  have H1 : ((compositorlaw07_exampleHolds.f k).bind fun t380 => (some t380)) = some true := by rw [if_neg (show ¬ (false = true) by decide)] at H; exact H
  clear H
  have H := H1
  clear H1
  replace H := Option.bind_eq_some_iff.mp H
  obtain ⟨t380, A630, H⟩ := H
  try dsimp only at H
  have A63 := Aside0.mk A630
  clear A630
  have Hq_ := Option.some.inj H
  go_enter Tryd.func9, Tryd.ntmps9
  go_wp2_with (first | ((with_reducible refine gate_dst (N := 5) rfl ?_); refine box_event ?hg (N := 5) ?hd (cs := #[.int .i64 a2_0, .int .i64 a2_1, .slice A2_2 l2_2.length c2_2]) (t := 47) ?hr ?_; (case hd => rfl); (case hg => rfl); (case hr => first | (go_simp; done) | (go_simp; rfl)); intro gb378 hg w64 hbox hb; have n0_ := hb_ HB hb; have n1_ := Aside0.mk (hbox); have n2_ := Aside0.mk ((by rw [hg]; exact (below_size (hq_ HB)) : w.heap.size ≤ gb378)); have n3_ := Aside0.mk ((by rw [hg]; exact (below_size (hq_ HB)) : w.heap.size ≤ gb378)); clear HB; have HB := n0_; have BK378 := n1_; have GW378 := n2_; have GE378 := n3_; clear n0_ n1_ n2_ n3_; clear hb hbox hg; have hcz65_0 : w64.cell? ⟨gb378, 0, none⟩ = some (.int .i64 a2_0) := (blk_cell BK378.out 0).trans rfl; have hcz65_1 : w64.cell? ⟨gb378, 1, none⟩ = some (.int .i64 a2_1) := (blk_cell BK378.out 1).trans rfl; have hcz65_2 : w64.cell? ⟨gb378, 2, none⟩ = some (.slice A2_2 l2_2.length c2_2) := (blk_cell BK378.out 2).trans rfl; have hfz65_0 := blk_frozen BK378.out 0; have hfz65_1 := blk_frozen BK378.out 1; have hfz65_2 := blk_frozen BK378.out 2) | ((with_reducible refine gate_callee (f := 29) rfl ?_); refine goesL_ (some 10) rfl rfl Tryd.func29 (by kernel_rfl) rfl #[.agg #[.int .i64 a2_0, .int .i64 a2_1, .slice A2_2 l2_2.length c2_2]] rfl (by (try simp only [List.map_toArray, List.map_cons, List.map_nil]) <;> rfl) ?_; (with_reducible refine (compositorlaw07_small.calls a2_0 a2_1 _ _ l2_2 false _ ?side1 ?side2 A4.out).mono ?_); (case side1 => repeat (first | exact (Kd.C_below HR2_2.out HB.out) | (with_reducible refine Kd.C_alloc ?_ _) | (with_reducible refine Kd.C_drewN ?_ _) | (with_reducible refine Kd.C_drew ?_))); (case side2 => exact HC2_2.out); rintro e w66 ⟨rfl, hb⟩; refine ⟨_, rfl, ?_⟩; have n0_ := bb_ BK378 hb; have n1_ := hb_ HB hb; clear BK378; clear HB; have BK378 := n0_; have HB := n1_; clear n0_ n1_; (try clear hb); (try clear hb2); (try clear hk); (try clear hi)) | ((with_reducible refine gate_callee (f := 18) rfl ?_); refine goesL_ (some 12) rfl rfl Tryd.func18 (by kernel_rfl) rfl #[] rfl (by (try simp only [List.map_toArray, List.map_cons, List.map_nil]) <;> rfl) ?_; (with_reducible refine (compositorlaw07_exampleHolds.calls k  t380 _ A63.out (Go.Proofs.YtpihfglghcoojaaDoorHand.tb_ HTab_ HB)).mono ?_); rintro e w67 ⟨rfl, hb⟩; refine ⟨_, rfl, ?_⟩; have n0_ := bb_ BK378 hb; have n1_ := hb_ HB hb; clear BK378; clear HB; have BK378 := n0_; have HB := n1_; clear n0_ n1_; (try clear hb); (try clear hb2); (try clear hk); (try clear hi)))
  go_ret
  exact ⟨by first | rfl | (simp [errW_none, errW_some] <;> rfl) | (simp [*, errW_none, errW_some] <;> rfl), by repeat (first | (with_reducible first | exact HB.out | apply below_alloc | apply pw_below_drewN | apply below_drew1 | refine below_set ?_ GE378.out) | exact HB.out)⟩

end Go.Proofs.YtpihfglghcoojaaDoor.All
