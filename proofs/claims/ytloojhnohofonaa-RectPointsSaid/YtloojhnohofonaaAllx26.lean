-- Written by a program of this session, which runs the kit's print.py and puts in functions that this session typed. Not trusted: Lean checks it.
import Derived.Test.YtloojhnohofonaaAllx0
import Derived.Test.YtloojhnohofonaaAllx9
import Derived.Test.YtloojhnohofonaaAllx11
import Derived.Test.YtloojhnohofonaaAllx12
import Derived.Test.YtloojhnohofonaaAllx13
import Derived.Test.YtloojhnohofonaaAllx15
import Derived.Test.YtloojhnohofonaaAllx17
namespace Go.Proofs.Ytloojhnohofonaa.All
open Go.RowKit Go.Proofs.YtloojhnohofonaaW.PrintWords Go.Proofs.YtloojhnohofonaaW.PrintLast Go.Proofs.YtloojhnohofonaaW.PrintMore
attribute [local go_sem] max2_int min2_int max_two min_two max_three min_three max_four min_four   -- for this text's walks alone
set_option linter.unusedVariables false
set_option linter.unusedSimpArgs false

/-! ### compositorlaw04_RectPoints: function 10 -/
abbrev zq10.q0 : Array Bool := #[false, false, false, false, false, false, false, false, false, false]
abbrev zq10.q1 : Array Bool := #[false, true, false, false, false, false, false, false, false, false]
abbrev zq10.q2 : Array Bool := #[false, true, true, false, false, false, false, false, false, false]
abbrev zq10.q3 : Array Bool := #[false, true, true, false, false, true, false, false, false, false]
abbrev zq10.q4 : Array Bool := #[false, true, true, false, false, true, true, false, false, false]
abbrev zq10.q5 : Array Bool := #[true, true, true, false, false, true, true, false, false, false]
abbrev zq10.q6 : Array Bool := #[true, true, true, false, true, true, true, false, false, false]
abbrev zq10.q7 : Array Bool := #[true, true, true, true, true, true, true, false, false, false]
abbrev zq10.q8 : Array Bool := #[true, true, true, true, true, true, true, true, false, false]
abbrev zq10.q9 : Array Bool := #[true, true, true, true, true, true, true, true, true, false]
abbrev zq10.q10 : Array Bool := #[true, true, true, true, true, true, true, true, true, true]
mutual
def compositorlaw04_RectPoints.l0 : Nat → Int → Int → Bool → Bool → Int → List (S23) → Int → Int → Int → Int → Int → Int → Int → Int → Int → Option (Bool)
  | 0, _, _, _, _, _, _, _, _, _, _, _, _, _, _, _ => none
  | k + 1, x7, x8, x9, x10, x11, x12, x13, x539000, x539001, x539002, x539003, x540000, x540001, x540002, x540003 => if x13 < (x12.length : Int) then (if 0 ≤ x13 then ((rect_Contains.f ((rd_T23 x12 x13).f0) ((rd_T23 x12 x13).f1) ((rd_T23 x12 x13).f2) ((rd_T23 x12 x13).f3) x7 x8).bind fun t547 => (if t547 = true then (compositorlaw04_RectPoints.l0 k x7 x8 x9 x10 (wrap64 (x11 + 1)) x12 (wrap64 (x13 + 1)) x539000 x539001 x539002 x539003 x540000 x540001 x540002 x540003) else (compositorlaw04_RectPoints.l0 k x7 x8 x9 x10 x11 x12 (wrap64 (x13 + 1)) x539000 x539001 x539002 x539003 x540000 x540001 x540002 x540003))) else (none)) else (if x9 = true then (compositorlaw04_RectPoints.j1 k x7 x8 x9 x10 x11 0 (!x10) x539000 x539001 x539002 x539003 x540000 x540001 x540002 x540003) else (compositorlaw04_RectPoints.j1 k x7 x8 x9 x10 x11 0 false x539000 x539001 x539002 x539003 x540000 x540001 x540002 x540003))
def compositorlaw04_RectPoints.j1 : Nat → Int → Int → Bool → Bool → Int → Int → Bool → Int → Int → Int → Int → Int → Int → Int → Int → Option (Bool)
  | 0, _, _, _, _, _, _, _, _, _, _, _, _, _, _, _ => none
  | k + 1, x7, x8, x9, x10, x11, x14, x49, x539000, x539001, x539002, x539003, x540000, x540001, x540002, x540003 => if x49 = true then (compositorlaw04_RectPoints.j2 k x7 x8 x9 x10 x11 1 x539000 x539001 x539002 x539003 x540000 x540001 x540002 x540003) else (compositorlaw04_RectPoints.j2 k x7 x8 x9 x10 x11 x14 x539000 x539001 x539002 x539003 x540000 x540001 x540002 x540003)
def compositorlaw04_RectPoints.j2 : Nat → Int → Int → Bool → Bool → Int → Int → Int → Int → Int → Int → Int → Int → Int → Int → Option (Bool)
  | 0, _, _, _, _, _, _, _, _, _, _, _, _, _, _ => none
  | k + 1, x7, x8, x9, x10, x11, x14, x539000, x539001, x539002, x539003, x540000, x540001, x540002, x540003 => if x9 = true then ((rect_Union.f x539000 x539001 x539002 x539003 x540000 x540001 x540002 x540003).bind fun bt548 => ((rect_Contains.f bt548.1 bt548.2.1 bt548.2.2.1 bt548.2.2.2 x7 x8).bind fun t552 => (if t552 = true then ((rect_Within.f x539000 x539001 x539002 x539003 x540000 x540001 x540002 x540003).bind fun t553 => (if t553 = true then (compositorlaw04_RectPoints.j3 k x7 x8 x9 x10 x11 x14 (!x10) x539000 x539001 x539002 x539003 x540000 x540001 x540002 x540003) else (compositorlaw04_RectPoints.j3 k x7 x8 x9 x10 x11 x14 false x539000 x539001 x539002 x539003 x540000 x540001 x540002 x540003))) else (compositorlaw04_RectPoints.j3 k x7 x8 x9 x10 x11 x14 true x539000 x539001 x539002 x539003 x540000 x540001 x540002 x540003)))) else (if x10 = true then ((rect_Union.f x539000 x539001 x539002 x539003 x540000 x540001 x540002 x540003).bind fun bt554 => ((rect_Contains.f bt554.1 bt554.2.1 bt554.2.2.1 bt554.2.2.2 x7 x8).bind fun t558 => (if t558 = true then ((rect_Within.f x539000 x539001 x539002 x539003 x540000 x540001 x540002 x540003).bind fun t559 => (if t559 = true then (compositorlaw04_RectPoints.j3 k x7 x8 x9 x10 x11 x14 false x539000 x539001 x539002 x539003 x540000 x540001 x540002 x540003) else (compositorlaw04_RectPoints.j3 k x7 x8 x9 x10 x11 x14 false x539000 x539001 x539002 x539003 x540000 x540001 x540002 x540003))) else (compositorlaw04_RectPoints.j3 k x7 x8 x9 x10 x11 x14 true x539000 x539001 x539002 x539003 x540000 x540001 x540002 x540003)))) else ((rect_Within.f x539000 x539001 x539002 x539003 x540000 x540001 x540002 x540003).bind fun t560 => (if t560 = true then (compositorlaw04_RectPoints.j3 k x7 x8 x9 x10 x11 x14 false x539000 x539001 x539002 x539003 x540000 x540001 x540002 x540003) else (compositorlaw04_RectPoints.j3 k x7 x8 x9 x10 x11 x14 false x539000 x539001 x539002 x539003 x540000 x540001 x540002 x540003))))
def compositorlaw04_RectPoints.j3 : Nat → Int → Int → Bool → Bool → Int → Int → Bool → Int → Int → Int → Int → Int → Int → Int → Int → Option (Bool)
  | 0, _, _, _, _, _, _, _, _, _, _, _, _, _, _, _ => none
  | k + 1, x7, x8, x9, x10, x11, x14, x74, x539000, x539001, x539002, x539003, x540000, x540001, x540002, x540003 => if x74 = true then (some false) else ((rect_Intersect.f x539000 x539001 x539002 x539003 x540000 x540001 x540002 x540003).bind fun bt561 => ((rect_Contains.f bt561.1 bt561.2.1 bt561.2.2.1 bt561.2.2.2 x7 x8).bind fun t565 => (if x9 = true then (if (t565 == x10) = true then (if x11 = x14 then ((compositorlaw04_exampleHolds.f k).bind fun t566 => (some t566)) else (some false)) else (some false)) else (if (t565 == false) = true then (if x11 = x14 then ((compositorlaw04_exampleHolds.f k).bind fun t567 => (some t567)) else (some false)) else (some false)))))
end
def compositorlaw04_RectPoints.f (k : Nat) (a0_0 : Int) (a0_1 : Int) (a0_2 : Int) (a0_3 : Int) (a1_0 : Int) (a1_1 : Int) (a1_2 : Int) (a1_3 : Int) (a2_0 : Int) (a2_1 : Int) : Option (Bool) := (rect_Contains.f a0_0 a0_1 a0_2 a0_3 a2_0 a2_1).bind fun t541 => ((rect_Contains.f a1_0 a1_1 a1_2 a1_3 a2_0 a2_1).bind fun t542 => ((rect_Subtract.f a0_0 a0_1 a0_2 a0_3 a1_0 a1_1 a1_2 a1_3).bind fun t543 => (compositorlaw04_RectPoints.l0 k a2_0 a2_1 t541 t542 0 t543 0 a0_0 a0_1 a0_2 a0_3 a1_0 a1_1 a1_2 a1_3)))
theorem compositorlaw04_RectPoints.mono_l : ∀ k, (∀ y0 y1 y2 y3 y4 y5 y6 y7 y8 y9 y10 y11 y12 y13 y14, LeO (compositorlaw04_RectPoints.l0 k y0 y1 y2 y3 y4 y5 y6 y7 y8 y9 y10 y11 y12 y13 y14) (compositorlaw04_RectPoints.l0 (k + 1) y0 y1 y2 y3 y4 y5 y6 y7 y8 y9 y10 y11 y12 y13 y14)) ∧ (∀ y0 y1 y2 y3 y4 y5 y6 y7 y8 y9 y10 y11 y12 y13 y14, LeO (compositorlaw04_RectPoints.j1 k y0 y1 y2 y3 y4 y5 y6 y7 y8 y9 y10 y11 y12 y13 y14) (compositorlaw04_RectPoints.j1 (k + 1) y0 y1 y2 y3 y4 y5 y6 y7 y8 y9 y10 y11 y12 y13 y14)) ∧ (∀ y0 y1 y2 y3 y4 y5 y6 y7 y8 y9 y10 y11 y12 y13, LeO (compositorlaw04_RectPoints.j2 k y0 y1 y2 y3 y4 y5 y6 y7 y8 y9 y10 y11 y12 y13) (compositorlaw04_RectPoints.j2 (k + 1) y0 y1 y2 y3 y4 y5 y6 y7 y8 y9 y10 y11 y12 y13)) ∧ (∀ y0 y1 y2 y3 y4 y5 y6 y7 y8 y9 y10 y11 y12 y13 y14, LeO (compositorlaw04_RectPoints.j3 k y0 y1 y2 y3 y4 y5 y6 y7 y8 y9 y10 y11 y12 y13 y14) (compositorlaw04_RectPoints.j3 (k + 1) y0 y1 y2 y3 y4 y5 y6 y7 y8 y9 y10 y11 y12 y13 y14))
  | 0 => ⟨fun _ _ _ _ _ _ _ _ _ _ _ _ _ _ _ r h => by simp [compositorlaw04_RectPoints.l0] at h, fun _ _ _ _ _ _ _ _ _ _ _ _ _ _ _ r h => by simp [compositorlaw04_RectPoints.j1] at h, fun _ _ _ _ _ _ _ _ _ _ _ _ _ _ r h => by simp [compositorlaw04_RectPoints.j2] at h, fun _ _ _ _ _ _ _ _ _ _ _ _ _ _ _ r h => by simp [compositorlaw04_RectPoints.j3] at h⟩
  | k + 1 => by
    obtain ⟨ih0, ih1, ih2, ih3⟩ := compositorlaw04_RectPoints.mono_l k
    refine ⟨?_, ?_, ?_, ?_⟩
    · intro y0 y1 y2 y3 y4 y5 y6 y7 y8 y9 y10 y11 y12 y13 y14
      unfold compositorlaw04_RectPoints.l0
      repeat' first
      | (with_reducible exact ih0 _ _ _ _ _ _ _ _ _ _ _ _ _ _ _)
      | (with_reducible exact ih1 _ _ _ _ _ _ _ _ _ _ _ _ _ _ _)
      | (with_reducible exact ih2 _ _ _ _ _ _ _ _ _ _ _ _ _ _)
      | (with_reducible exact ih3 _ _ _ _ _ _ _ _ _ _ _ _ _ _ _)
      | (with_reducible exact compositorlaw04_exampleHolds.mono _)
      | (with_reducible exact LeO.refl _)
      | (with_reducible exact LeO.none _)
      | (with_reducible refine LeO.ite ?_ ?_)
      | (with_reducible refine LeO.bind ?_ (fun _ => ?_))
      | exact ih0 _ _ _ _ _ _ _ _ _ _ _ _ _ _ _
      | exact ih1 _ _ _ _ _ _ _ _ _ _ _ _ _ _ _
      | exact ih2 _ _ _ _ _ _ _ _ _ _ _ _ _ _
      | exact ih3 _ _ _ _ _ _ _ _ _ _ _ _ _ _ _
      | exact compositorlaw04_exampleHolds.mono _
      | exact LeO.none _
      | refine LeO.ite ?_ ?_
      | refine LeO.bind ?_ (fun _ => ?_)
    · intro y0 y1 y2 y3 y4 y5 y6 y7 y8 y9 y10 y11 y12 y13 y14
      unfold compositorlaw04_RectPoints.j1
      repeat' first
      | (with_reducible exact ih0 _ _ _ _ _ _ _ _ _ _ _ _ _ _ _)
      | (with_reducible exact ih1 _ _ _ _ _ _ _ _ _ _ _ _ _ _ _)
      | (with_reducible exact ih2 _ _ _ _ _ _ _ _ _ _ _ _ _ _)
      | (with_reducible exact ih3 _ _ _ _ _ _ _ _ _ _ _ _ _ _ _)
      | (with_reducible exact compositorlaw04_exampleHolds.mono _)
      | (with_reducible exact LeO.refl _)
      | (with_reducible exact LeO.none _)
      | (with_reducible refine LeO.ite ?_ ?_)
      | (with_reducible refine LeO.bind ?_ (fun _ => ?_))
      | exact ih0 _ _ _ _ _ _ _ _ _ _ _ _ _ _ _
      | exact ih1 _ _ _ _ _ _ _ _ _ _ _ _ _ _ _
      | exact ih2 _ _ _ _ _ _ _ _ _ _ _ _ _ _
      | exact ih3 _ _ _ _ _ _ _ _ _ _ _ _ _ _ _
      | exact compositorlaw04_exampleHolds.mono _
      | exact LeO.none _
      | refine LeO.ite ?_ ?_
      | refine LeO.bind ?_ (fun _ => ?_)
    · intro y0 y1 y2 y3 y4 y5 y6 y7 y8 y9 y10 y11 y12 y13
      unfold compositorlaw04_RectPoints.j2
      repeat' first
      | (with_reducible exact ih0 _ _ _ _ _ _ _ _ _ _ _ _ _ _ _)
      | (with_reducible exact ih1 _ _ _ _ _ _ _ _ _ _ _ _ _ _ _)
      | (with_reducible exact ih2 _ _ _ _ _ _ _ _ _ _ _ _ _ _)
      | (with_reducible exact ih3 _ _ _ _ _ _ _ _ _ _ _ _ _ _ _)
      | (with_reducible exact compositorlaw04_exampleHolds.mono _)
      | (with_reducible exact LeO.refl _)
      | (with_reducible exact LeO.none _)
      | (with_reducible refine LeO.ite ?_ ?_)
      | (with_reducible refine LeO.bind ?_ (fun _ => ?_))
      | exact ih0 _ _ _ _ _ _ _ _ _ _ _ _ _ _ _
      | exact ih1 _ _ _ _ _ _ _ _ _ _ _ _ _ _ _
      | exact ih2 _ _ _ _ _ _ _ _ _ _ _ _ _ _
      | exact ih3 _ _ _ _ _ _ _ _ _ _ _ _ _ _ _
      | exact compositorlaw04_exampleHolds.mono _
      | exact LeO.none _
      | refine LeO.ite ?_ ?_
      | refine LeO.bind ?_ (fun _ => ?_)
    · intro y0 y1 y2 y3 y4 y5 y6 y7 y8 y9 y10 y11 y12 y13 y14
      unfold compositorlaw04_RectPoints.j3
      repeat' first
      | (with_reducible exact ih0 _ _ _ _ _ _ _ _ _ _ _ _ _ _ _)
      | (with_reducible exact ih1 _ _ _ _ _ _ _ _ _ _ _ _ _ _ _)
      | (with_reducible exact ih2 _ _ _ _ _ _ _ _ _ _ _ _ _ _)
      | (with_reducible exact ih3 _ _ _ _ _ _ _ _ _ _ _ _ _ _ _)
      | (with_reducible exact compositorlaw04_exampleHolds.mono _)
      | (with_reducible exact LeO.refl _)
      | (with_reducible exact LeO.none _)
      | (with_reducible refine LeO.ite ?_ ?_)
      | (with_reducible refine LeO.bind ?_ (fun _ => ?_))
      | exact ih0 _ _ _ _ _ _ _ _ _ _ _ _ _ _ _
      | exact ih1 _ _ _ _ _ _ _ _ _ _ _ _ _ _ _
      | exact ih2 _ _ _ _ _ _ _ _ _ _ _ _ _ _
      | exact ih3 _ _ _ _ _ _ _ _ _ _ _ _ _ _ _
      | exact compositorlaw04_exampleHolds.mono _
      | exact LeO.none _
      | refine LeO.ite ?_ ?_
      | refine LeO.bind ?_ (fun _ => ?_)
theorem compositorlaw04_RectPoints.mono : ∀ a0 a1 a2 a3 a4 a5 a6 a7 a8 a9 k, LeO (compositorlaw04_RectPoints.f k a0 a1 a2 a3 a4 a5 a6 a7 a8 a9) (compositorlaw04_RectPoints.f (k + 1) a0 a1 a2 a3 a4 a5 a6 a7 a8 a9) := by
  intro a0 a1 a2 a3 a4 a5 a6 a7 a8 a9 k
  obtain ⟨ih0, ih1, ih2, ih3⟩ := compositorlaw04_RectPoints.mono_l k
  unfold compositorlaw04_RectPoints.f
  repeat' first
      | (with_reducible exact ih0 _ _ _ _ _ _ _ _ _ _ _ _ _ _ _)
      | (with_reducible exact ih1 _ _ _ _ _ _ _ _ _ _ _ _ _ _ _)
      | (with_reducible exact ih2 _ _ _ _ _ _ _ _ _ _ _ _ _ _)
      | (with_reducible exact ih3 _ _ _ _ _ _ _ _ _ _ _ _ _ _ _)
      | (with_reducible exact compositorlaw04_exampleHolds.mono _)
      | (with_reducible exact LeO.refl _)
      | (with_reducible exact LeO.none _)
      | (with_reducible refine LeO.ite ?_ ?_)
      | (with_reducible refine LeO.bind ?_ (fun _ => ?_))
      | exact ih0 _ _ _ _ _ _ _ _ _ _ _ _ _ _ _
      | exact ih1 _ _ _ _ _ _ _ _ _ _ _ _ _ _ _
      | exact ih2 _ _ _ _ _ _ _ _ _ _ _ _ _ _
      | exact ih3 _ _ _ _ _ _ _ _ _ _ _ _ _ _ _
      | exact compositorlaw04_exampleHolds.mono _
      | exact LeO.none _
      | refine LeO.ite ?_ ?_
      | refine LeO.bind ?_ (fun _ => ?_)
def compositorlaw04_RectPoints.T2 : Bool × List (List Nat × List Nat) := (true, [([], []), ([], []), ([], []), ([0, 1, 2], [0, 1, 2]), ([], []), ([], []), ([], []), ([4, 5, 6, 3], [4, 5, 6]), ([3, 7, 0, 1, 2, 3], [3]), ([7, 8, 0, 1, 2, 3, 4, 5, 6, 7, 8], [7])])
def compositorlaw04_RectPoints.B2 : List Nat := [0, 0, 0, 7, 0, 0, 0, 127, 255, 511]
theorem compositorlaw04_RectPoints.tab2 : rtab .any (opsOf Try.f10 2) = compositorlaw04_RectPoints.T2 := by kernel_rfl
theorem compositorlaw04_RectPoints.bits2 : waitsOk compositorlaw04_RectPoints.T2.2 compositorlaw04_RectPoints.B2 = true := by kernel_rfl
set_option maxHeartbeats 8000000 in
set_option maxRecDepth 100000 in
theorem compositorlaw04_RectPoints.calls (k : Nat) (a0_0 : Int) (a0_1 : Int) (a0_2 : Int) (a0_3 : Int) (a1_0 : Int) (a1_1 : Int) (a1_2 : Int) (a1_3 : Int) (a2_0 : Int) (a2_1 : Int) (w : World) (h : compositorlaw04_RectPoints.f k a0_0 a0_1 a0_2 a0_3 a1_0 a1_1 a1_2 a1_3 a2_0 a2_1 = some true) :
    Calls Try.prog 10 #[.agg #[.int .i64 a0_0, .int .i64 a0_1, .int .i64 a0_2, .int .i64 a0_3], .agg #[.int .i64 a1_0, .int .i64 a1_1, .int .i64 a1_2, .int .i64 a1_3], .agg #[.int .i64 a2_0, .int .i64 a2_1]] w fun e w' => e = .returned (.bool true) ∧ Below w.heap.size w w' := by
  have hu23 := Try.underlying23
  have hu30 := Try.underlying30
  have HB := Aside0.mk (Below.refl w.heap.size w)
  have H : ((rect_Contains.f a0_0 a0_1 a0_2 a0_3 a2_0 a2_1).bind fun t541 => ((rect_Contains.f a1_0 a1_1 a1_2 a1_3 a2_0 a2_1).bind fun t542 => ((rect_Subtract.f a0_0 a0_1 a0_2 a0_3 a1_0 a1_1 a1_2 a1_3).bind fun t543 => (compositorlaw04_RectPoints.l0 k a2_0 a2_1 t541 t542 0 t543 0 a0_0 a0_1 a0_2 a0_3 a1_0 a1_1 a1_2 a1_3)))) = some true := h
  clear h
  replace H := Option.bind_eq_some_iff.mp H
  obtain ⟨t541, A40, H⟩ := H
  replace H : ((rect_Contains.f a1_0 a1_1 a1_2 a1_3 a2_0 a2_1).bind fun t542 => ((rect_Subtract.f a0_0 a0_1 a0_2 a0_3 a1_0 a1_1 a1_2 a1_3).bind fun t543 => (compositorlaw04_RectPoints.l0 k a2_0 a2_1 t541 t542 0 t543 0 a0_0 a0_1 a0_2 a0_3 a1_0 a1_1 a1_2 a1_3))) = some true := H
  have A4 := Aside0.mk A40
  clear A40
  replace H := Option.bind_eq_some_iff.mp H
  obtain ⟨t542, A50, H⟩ := H
  replace H : ((rect_Subtract.f a0_0 a0_1 a0_2 a0_3 a1_0 a1_1 a1_2 a1_3).bind fun t543 => (compositorlaw04_RectPoints.l0 k a2_0 a2_1 t541 t542 0 t543 0 a0_0 a0_1 a0_2 a0_3 a1_0 a1_1 a1_2 a1_3)) = some true := H
  have A5 := Aside0.mk A50
  clear A50
  replace H := Option.bind_eq_some_iff.mp H
  obtain ⟨t543, A60, H⟩ := H
  replace H : (compositorlaw04_RectPoints.l0 k a2_0 a2_1 t541 t542 0 t543 0 a0_0 a0_1 a0_2 a0_3 a1_0 a1_1 a1_2 a1_3) = some true := H
  have A6 := Aside0.mk A60
  clear A60
  have H' := Aside0.mk H
  clear H
  go_enter Try.func10, Try.ntmps10
  try go_wp2_with (first | ((with_reducible refine gate_dst (N := 3) rfl ?_); refine box_event ?hg (N := 3) ?hd (cs := #[.int .i64 a0_0, .int .i64 a0_1, .int .i64 a0_2, .int .i64 a0_3]) (t := 23) ?hr ?_; (case hd => rfl); (case hg => rfl); (case hr => first | (go_simp; done) | (go_simp; rfl)); intro gb538 hg w7 hbox hb; have n0_ := Aside0.mk (below_step (by repeat (first | (with_reducible first | exact HB.out | apply below_alloc | apply pw_below_drewN | apply below_drew1) | exact HB.out)) hb); have n1_ := Aside0.mk (hbox); have n2_ := Aside0.mk ((by rw [hg]; exact (below_size (by repeat (first | (with_reducible first | exact HB.out | apply below_alloc | apply pw_below_drewN | apply below_drew1) | exact HB.out))) : w.heap.size ≤ gb538)); have n3_ := Aside0.mk ((by rw [hg]; exact (below_size (by repeat (first | (with_reducible first | exact HB.out | apply below_alloc | apply pw_below_drewN | apply below_drew1) | exact HB.out))) : w.heap.size ≤ gb538)); clear HB; have HB := n0_; have BK538 := n1_; have GW538 := n2_; have GE538 := n3_; clear n0_ n1_ n2_ n3_; clear hb hbox hg) | ((with_reducible refine gate_dst (N := 4) rfl ?_); refine box_event ?hg (N := 4) ?hd (cs := #[.int .i64 a1_0, .int .i64 a1_1, .int .i64 a1_2, .int .i64 a1_3]) (t := 23) ?hr ?_; (case hd => rfl); (case hg => rfl); (case hr => first | (go_simp; done) | (go_simp; rfl)); intro gb539 hg w8 hbox hb; have n0_ := Aside0.mk (blk_below (g := gb538) (o := .cells #[.int .i64 a0_0, .int .i64 a0_1, .int .i64 a0_2, .int .i64 a0_3] 23 (0, 0)) (by (with_reducible repeat (first | refine blk_drewN ?_ _ | refine blk_drew ?_ | refine blk_alloc ?_ _)); exact BK538.out) hb); have n1_ := Aside0.mk (below_step (by repeat (first | (with_reducible first | exact HB.out | apply below_alloc | apply pw_below_drewN | apply below_drew1 | refine below_set ?_ GE538.out) | exact HB.out)) hb); have n2_ := Aside0.mk (hbox); have n3_ := Aside0.mk ((by rw [hg]; exact (below_size (by repeat (first | (with_reducible first | exact HB.out | apply below_alloc | apply pw_below_drewN | apply below_drew1 | refine below_set ?_ GE538.out) | exact HB.out))) : w.heap.size ≤ gb539)); have n4_ := Aside0.mk ((by rw [hg]; exact (below_size (by repeat (first | (with_reducible first | exact HB.out | apply below_alloc | apply pw_below_drewN | apply below_drew1 | refine below_set ?_ GE538.out) | exact HB.out))) : w.heap.size ≤ gb539)); have n5_ := Aside0.mk ((by rw [hg]; exact Nat.ne_of_lt (blk_lt (g := gb538) (o := .cells #[.int .i64 a0_0, .int .i64 a0_1, .int .i64 a0_2, .int .i64 a0_3] 23 (0, 0)) (by (with_reducible repeat (first | refine blk_drewN ?_ _ | refine blk_drew ?_ | refine blk_alloc ?_ _)); exact BK538.out)) : gb538 ≠ gb539)); have n6_ := Aside0.mk ((by rw [hg]; exact Nat.ne_of_gt (blk_lt (g := gb538) (o := .cells #[.int .i64 a0_0, .int .i64 a0_1, .int .i64 a0_2, .int .i64 a0_3] 23 (0, 0)) (by (with_reducible repeat (first | refine blk_drewN ?_ _ | refine blk_drew ?_ | refine blk_alloc ?_ _)); exact BK538.out)) : gb539 ≠ gb538)); clear BK538; clear HB; have BK538 := n0_; have HB := n1_; have BK539 := n2_; have GW539 := n3_; have GE539 := n4_; have NB538_539 := n5_; have NB539_538 := n6_; clear n0_ n1_ n2_ n3_ n4_ n5_ n6_; clear hb hbox hg) | ((with_reducible refine gate_dst (N := 5) rfl ?_); refine box_event ?hg (N := 5) ?hd (cs := #[.int .i64 a2_0, .int .i64 a2_1]) (t := 30) ?hr ?_; (case hd => rfl); (case hg => rfl); (case hr => first | (go_simp; done) | (go_simp; rfl)); intro gb540 hg w9 hbox hb; have n0_ := Aside0.mk (blk_below (g := gb538) (o := .cells #[.int .i64 a0_0, .int .i64 a0_1, .int .i64 a0_2, .int .i64 a0_3] 23 (0, 0)) (by (with_reducible repeat (first | refine blk_drewN ?_ _ | refine blk_drew ?_ | refine blk_alloc ?_ _)); exact BK538.out) hb); have n1_ := Aside0.mk (blk_below (g := gb539) (o := .cells #[.int .i64 a1_0, .int .i64 a1_1, .int .i64 a1_2, .int .i64 a1_3] 23 (0, 0)) (by (with_reducible repeat (first | refine blk_drewN ?_ _ | refine blk_drew ?_ | refine blk_alloc ?_ _)); exact BK539.out) hb); have n2_ := Aside0.mk (below_step (by repeat (first | (with_reducible first | exact HB.out | apply below_alloc | apply pw_below_drewN | apply below_drew1 | refine below_set ?_ GE538.out | refine below_set ?_ GE539.out) | exact HB.out)) hb); have n3_ := Aside0.mk (hbox); have n4_ := Aside0.mk ((by rw [hg]; exact (below_size (by repeat (first | (with_reducible first | exact HB.out | apply below_alloc | apply pw_below_drewN | apply below_drew1 | refine below_set ?_ GE538.out | refine below_set ?_ GE539.out) | exact HB.out))) : w.heap.size ≤ gb540)); have n5_ := Aside0.mk ((by rw [hg]; exact (below_size (by repeat (first | (with_reducible first | exact HB.out | apply below_alloc | apply pw_below_drewN | apply below_drew1 | refine below_set ?_ GE538.out | refine below_set ?_ GE539.out) | exact HB.out))) : w.heap.size ≤ gb540)); have n6_ := Aside0.mk ((by rw [hg]; exact Nat.ne_of_lt (blk_lt (g := gb538) (o := .cells #[.int .i64 a0_0, .int .i64 a0_1, .int .i64 a0_2, .int .i64 a0_3] 23 (0, 0)) (by (with_reducible repeat (first | refine blk_drewN ?_ _ | refine blk_drew ?_ | refine blk_alloc ?_ _)); exact BK538.out)) : gb538 ≠ gb540)); have n7_ := Aside0.mk ((by rw [hg]; exact Nat.ne_of_gt (blk_lt (g := gb538) (o := .cells #[.int .i64 a0_0, .int .i64 a0_1, .int .i64 a0_2, .int .i64 a0_3] 23 (0, 0)) (by (with_reducible repeat (first | refine blk_drewN ?_ _ | refine blk_drew ?_ | refine blk_alloc ?_ _)); exact BK538.out)) : gb540 ≠ gb538)); have n8_ := Aside0.mk ((by rw [hg]; exact Nat.ne_of_lt (blk_lt (g := gb539) (o := .cells #[.int .i64 a1_0, .int .i64 a1_1, .int .i64 a1_2, .int .i64 a1_3] 23 (0, 0)) (by (with_reducible repeat (first | refine blk_drewN ?_ _ | refine blk_drew ?_ | refine blk_alloc ?_ _)); exact BK539.out)) : gb539 ≠ gb540)); have n9_ := Aside0.mk ((by rw [hg]; exact Nat.ne_of_gt (blk_lt (g := gb539) (o := .cells #[.int .i64 a1_0, .int .i64 a1_1, .int .i64 a1_2, .int .i64 a1_3] 23 (0, 0)) (by (with_reducible repeat (first | refine blk_drewN ?_ _ | refine blk_drew ?_ | refine blk_alloc ?_ _)); exact BK539.out)) : gb540 ≠ gb539)); clear BK538; clear BK539; clear HB; have BK538 := n0_; have BK539 := n1_; have HB := n2_; have BK540 := n3_; have GW540 := n4_; have GE540 := n5_; have NB538_540 := n6_; have NB540_538 := n7_; have NB539_540 := n8_; have NB540_539 := n9_; clear n0_ n1_ n2_ n3_ n4_ n5_ n6_ n7_ n8_ n9_; clear hb hbox hg))
  have n0_ := Aside0.mk (blk_drew BK538.out)
  have n1_ := Aside0.mk (blk_drew BK539.out)
  have n2_ := Aside0.mk (blk_drew BK540.out)
  have n3_ := Aside0.mk (below_drew1 HB.out)
  clear BK538
  clear BK539
  clear BK540
  clear HB
  have BK538 := n0_
  have BK539 := n1_
  have BK540 := n2_
  have HB := n3_
  clear n0_ n1_ n2_ n3_
  refine start_ (n := 6) (S := fun w' => w'.cell? ⟨gb540, 0, none⟩ = some (.int .i64 a2_0) ∧ w'.cell? ⟨gb540, 1, none⟩ = some (.int .i64 a2_1)) (ds := []) #[false, false, false, false, false, false] (by kernel_rfl) rfl rfl ⟨(blk_cell BK540.out 0).trans rfl, (blk_cell BK540.out 1).trans rfl⟩ (fun hHeld => ?_)
  generalize w9.drew = w10 at BK538 BK539 BK540 HB hHeld ⊢
  refine pure_ (i := 0) (N := some 15) (v := ?_) (a' := ?_) #[true, false, false, false, false, false] rfl rfl (by kernel_rfl) (fun _ _ _ h => h) (Or.inl ⟨by rfl, ?_⟩) ?_ ?_
  rotate_left
  · intro w'
    go_simp
    with_reducible rfl
  rotate_left
  · simp only [Act.put, List.setIfInBounds_toArray, List.set_cons_zero, List.set_cons_succ, i64_w, i32_w]
    rfl
  refine pure_ (i := 2) (N := some 17) (v := ?_) (a' := ?_) #[true, false, true, false, false, false] rfl rfl (by kernel_rfl) (fun _ _ _ h => h) (Or.inl ⟨by rfl, ?_⟩) ?_ ?_
  rotate_left
  · intro w'
    go_simp
    with_reducible rfl
  rotate_left
  · simp only [Act.put, List.setIfInBounds_toArray, List.set_cons_zero, List.set_cons_succ, i64_w, i32_w]
    rfl
  refine take_ (i := 1) (N := some 16) (v := ?_) (a' := ?_) #[true, true, true, false, false, false] rfl rfl (by kernel_rfl) (fun _ _ _ h => h) (Or.inl ⟨by rfl, ?_⟩) hHeld ?_ ?_
  rotate_left
  · rintro w' ⟨s0, s1⟩
    go_simp
    with_reducible rfl
  rotate_left
  · simp only [Act.put, List.setIfInBounds_toArray, List.set_cons_zero, List.set_cons_succ, i64_w, i32_w]
    rfl
  refine pure_ (i := 4) (N := some 7) (v := ?_) (a' := ?_) #[true, true, true, false, true, false] rfl rfl (by kernel_rfl) (fun _ _ _ h => h) (Or.inl ⟨by rfl, ?_⟩) ?_ ?_
  rotate_left
  · intro w'
    go_simp
    with_reducible rfl
  rotate_left
  · simp only [Act.put, List.setIfInBounds_toArray, List.set_cons_zero, List.set_cons_succ, i64_w, i32_w]
    rfl
  refine take_ (i := 3) (N := some 18) (v := ?_) (a' := ?_) #[true, true, true, true, true, false] rfl rfl (by kernel_rfl) (fun _ _ _ h => h) (Or.inl ⟨by rfl, ?_⟩) hHeld ?_ ?_
  rotate_left
  · rintro w' ⟨s0, s1⟩
    go_simp
    with_reducible rfl
  rotate_left
  · simp only [Act.put, List.setIfInBounds_toArray, List.set_cons_zero, List.set_cons_succ, i64_w, i32_w]
    rfl
  refine pure_ (i := 5) (N := some 8) (v := ?_) (a' := ?_) #[true, true, true, true, true, true] rfl rfl (by kernel_rfl) (fun _ _ _ h => h) (Or.inl ⟨by rfl, ?_⟩) ?_ ?_
  rotate_left
  · intro w'
    go_simp
    with_reducible rfl
  rotate_left
  · simp only [Act.put, List.setIfInBounds_toArray, List.set_cons_zero, List.set_cons_succ, i64_w, i32_w]
    rfl
  refine done_ (by kernel_rfl) ?_
  try go_wp2
  have n0_ := Aside0.mk (blk_drew BK538.out)
  have n1_ := Aside0.mk (blk_drew BK539.out)
  have n2_ := Aside0.mk (blk_drew BK540.out)
  have n3_ := Aside0.mk (below_drew1 HB.out)
  clear BK538
  clear BK539
  clear BK540
  clear HB
  have BK538 := n0_
  have BK539 := n1_
  have BK540 := n2_
  have HB := n3_
  clear n0_ n1_ n2_ n3_
  refine start_ (n := 10) (S := fun w' => w'.cell? ⟨gb538, 0, none⟩ = some (.int .i64 a0_0) ∧ w'.cell? ⟨gb538, 1, none⟩ = some (.int .i64 a0_1) ∧ w'.cell? ⟨gb538, 2, none⟩ = some (.int .i64 a0_2) ∧ w'.cell? ⟨gb538, 3, none⟩ = some (.int .i64 a0_3) ∧ w'.cell? ⟨gb539, 0, none⟩ = some (.int .i64 a1_0) ∧ w'.cell? ⟨gb539, 1, none⟩ = some (.int .i64 a1_1) ∧ w'.cell? ⟨gb539, 2, none⟩ = some (.int .i64 a1_2) ∧ w'.cell? ⟨gb539, 3, none⟩ = some (.int .i64 a1_3)) (ds := []) zq10.q0 (by kernel_rfl) rfl rfl ⟨(blk_cell BK538.out 0).trans rfl, (blk_cell BK538.out 1).trans rfl, (blk_cell BK538.out 2).trans rfl, (blk_cell BK538.out 3).trans rfl, (blk_cell BK539.out 0).trans rfl, (blk_cell BK539.out 1).trans rfl, (blk_cell BK539.out 2).trans rfl, (blk_cell BK539.out 3).trans rfl⟩ (fun hHeld => ?_); refine with_tabW compositorlaw04_RectPoints.tab2 compositorlaw04_RectPoints.bits2 (fun HT_ HW_ => ?_)
  generalize w10.drew = w11 at BK538 BK539 BK540 HB hHeld ⊢
  refine pure_ (i := 1) (N := some 20) (v := ?_) (a' := ?_) zq10.q1 rfl rfl (any_of HT_.out (by kernel_rfl)) (fun _ _ _ h => h) (Or.inl ⟨by rfl, ?_⟩) ?_ ?_
  rotate_left
  · intro w'
    go_simp
    with_reducible rfl
  rotate_left
  · simp only [Act.put, List.setIfInBounds_toArray, List.set_cons_zero, List.set_cons_succ, i64_w, i32_w]
    rfl
  refine pure_ (i := 2) (N := some 21) (v := ?_) (a' := ?_) zq10.q2 rfl rfl (any_of HT_.out (by kernel_rfl)) (fun _ _ _ h => h) (Or.inl ⟨by rfl, ?_⟩) ?_ ?_
  rotate_left
  · intro w'
    go_simp
    with_reducible rfl
  rotate_left
  · simp only [Act.put, List.setIfInBounds_toArray, List.set_cons_zero, List.set_cons_succ, i64_w, i32_w]
    rfl
  refine pure_ (i := 5) (N := some 24) (v := ?_) (a' := ?_) zq10.q3 rfl rfl (any_of HT_.out (by kernel_rfl)) (fun _ _ _ h => h) (Or.inl ⟨by rfl, ?_⟩) ?_ ?_
  rotate_left
  · intro w'
    go_simp
    with_reducible rfl
  rotate_left
  · simp only [Act.put, List.setIfInBounds_toArray, List.set_cons_zero, List.set_cons_succ, i64_w, i32_w]
    rfl
  refine pure_ (i := 6) (N := some 25) (v := ?_) (a' := ?_) zq10.q4 rfl rfl (any_of HT_.out (by kernel_rfl)) (fun _ _ _ h => h) (Or.inl ⟨by rfl, ?_⟩) ?_ ?_
  rotate_left
  · intro w'
    go_simp
    with_reducible rfl
  rotate_left
  · simp only [Act.put, List.setIfInBounds_toArray, List.set_cons_zero, List.set_cons_succ, i64_w, i32_w]
    rfl
  refine take_ (i := 0) (N := some 19) (v := ?_) (a' := ?_) zq10.q5 rfl rfl (take_ofW HT_.out HW_.out (by kernel_rfl)) (fun _ _ _ h => h) (Or.inl ⟨by rfl, ?_⟩) hHeld ?_ ?_
  rotate_left
  · rintro w' ⟨s0, s1, s2, s3, s4, s5, s6, s7⟩
    go_simp
    with_reducible rfl
  rotate_left
  · simp only [Act.put, List.setIfInBounds_toArray, List.set_cons_zero, List.set_cons_succ, i64_w, i32_w]
    rfl
  refine take_ (i := 4) (N := some 23) (v := ?_) (a' := ?_) zq10.q6 rfl rfl (take_ofW HT_.out HW_.out (by kernel_rfl)) (fun _ _ _ h => h) (Or.inl ⟨by rfl, ?_⟩) hHeld ?_ ?_
  rotate_left
  · rintro w' ⟨s0, s1, s2, s3, s4, s5, s6, s7⟩
    go_simp
    with_reducible rfl
  rotate_left
  · simp only [Act.put, List.setIfInBounds_toArray, List.set_cons_zero, List.set_cons_succ, i64_w, i32_w]
    rfl
  refine one_ (i := 3) (N := some 22) zq10.q7 rfl rfl (one_of HT_.out (by kernel_rfl)) (by decide) (fun K hK => ?_)
  refine goes_ Try.func27 (by kernel_rfl) rfl #[.agg #[.int .i64 a0_0, .int .i64 a0_1, .int .i64 a0_2, .int .i64 a0_3], .int .i64 a2_0, .int .i64 a2_1] (by rfl) rfl rfl (by (try simp only [List.map_toArray, List.map_cons, List.map_nil]); first | done | rfl | (simp only [List.length_drop, List.length_take]; rfl)) ?_
  with_reducible refine (rect_Contains.calls a0_0 a0_1 a0_2 a0_3 a2_0 a2_1 t541 _ A4.out).mono ?_
  rintro e w12 ⟨rfl, hb⟩
  refine ⟨_, rfl, ?_⟩
  have n0_ := Aside0.mk (blk_below (g := gb538) (o := .cells #[.int .i64 a0_0, .int .i64 a0_1, .int .i64 a0_2, .int .i64 a0_3] 23 (0, 0)) (by (with_reducible repeat (first | refine blk_drewN ?_ _ | refine blk_drew ?_ | refine blk_alloc ?_ _)); exact BK538.out) hb)
  have n1_ := Aside0.mk (blk_below (g := gb539) (o := .cells #[.int .i64 a1_0, .int .i64 a1_1, .int .i64 a1_2, .int .i64 a1_3] 23 (0, 0)) (by (with_reducible repeat (first | refine blk_drewN ?_ _ | refine blk_drew ?_ | refine blk_alloc ?_ _)); exact BK539.out) hb)
  have n2_ := Aside0.mk (blk_below (g := gb540) (o := .cells #[.int .i64 a2_0, .int .i64 a2_1] 30 (0, 0)) (by (with_reducible repeat (first | refine blk_drewN ?_ _ | refine blk_drew ?_ | refine blk_alloc ?_ _)); exact BK540.out) hb)
  have n3_ := Aside0.mk (below_step (by repeat (first | (with_reducible first | exact HB.out | apply below_alloc | apply pw_below_drewN | apply below_drew1 | refine below_set ?_ GE538.out | refine below_set ?_ GE539.out | refine below_set ?_ GE540.out) | exact HB.out)) hb)
  clear BK538
  clear BK539
  clear BK540
  clear HB
  have BK538 := n0_
  have BK539 := n1_
  have BK540 := n2_
  have HB := n3_
  clear n0_ n1_ n2_ n3_
  (try clear hb)
  (try clear hb2)
  (try clear hk)
  (try clear hi)
  refine hK.out _ _ ⟨(blk_cell BK538.out 0).trans rfl, (blk_cell BK538.out 1).trans rfl, (blk_cell BK538.out 2).trans rfl, (blk_cell BK538.out 3).trans rfl, (blk_cell BK539.out 0).trans rfl, (blk_cell BK539.out 1).trans rfl, (blk_cell BK539.out 2).trans rfl, (blk_cell BK539.out 3).trans rfl⟩ (fun hHeld => ?_)
  clear hK K
  refine norm_ (a' := ?_) ?_ ?_
  rotate_left
  · show Act.put _ (some 22) _ = _
    simp only [Act.put, List.setIfInBounds_toArray, List.set_cons_zero, List.set_cons_succ, i64_w, i32_w]
    rfl
  refine one_ (i := 7) (N := some 26) zq10.q8 rfl rfl (one_of HT_.out (by kernel_rfl)) (by decide) (fun K hK => ?_)
  refine goes_ Try.func27 (by kernel_rfl) rfl #[.agg #[.int .i64 a1_0, .int .i64 a1_1, .int .i64 a1_2, .int .i64 a1_3], .int .i64 a2_0, .int .i64 a2_1] (by rfl) rfl rfl (by (try simp only [List.map_toArray, List.map_cons, List.map_nil]); first | done | rfl | (simp only [List.length_drop, List.length_take]; rfl)) ?_
  with_reducible refine (rect_Contains.calls a1_0 a1_1 a1_2 a1_3 a2_0 a2_1 t542 _ A5.out).mono ?_
  rintro e w13 ⟨rfl, hb⟩
  refine ⟨_, rfl, ?_⟩
  have n0_ := Aside0.mk (blk_below (g := gb538) (o := .cells #[.int .i64 a0_0, .int .i64 a0_1, .int .i64 a0_2, .int .i64 a0_3] 23 (0, 0)) (by (with_reducible repeat (first | refine blk_drewN ?_ _ | refine blk_drew ?_ | refine blk_alloc ?_ _)); exact BK538.out) hb)
  have n1_ := Aside0.mk (blk_below (g := gb539) (o := .cells #[.int .i64 a1_0, .int .i64 a1_1, .int .i64 a1_2, .int .i64 a1_3] 23 (0, 0)) (by (with_reducible repeat (first | refine blk_drewN ?_ _ | refine blk_drew ?_ | refine blk_alloc ?_ _)); exact BK539.out) hb)
  have n2_ := Aside0.mk (blk_below (g := gb540) (o := .cells #[.int .i64 a2_0, .int .i64 a2_1] 30 (0, 0)) (by (with_reducible repeat (first | refine blk_drewN ?_ _ | refine blk_drew ?_ | refine blk_alloc ?_ _)); exact BK540.out) hb)
  have n3_ := Aside0.mk (below_step (by repeat (first | (with_reducible first | exact HB.out | apply below_alloc | apply pw_below_drewN | apply below_drew1 | refine below_set ?_ GE538.out | refine below_set ?_ GE539.out | refine below_set ?_ GE540.out) | exact HB.out)) hb)
  clear BK538
  clear BK539
  clear BK540
  clear HB
  have BK538 := n0_
  have BK539 := n1_
  have BK540 := n2_
  have HB := n3_
  clear n0_ n1_ n2_ n3_
  (try clear hb)
  (try clear hb2)
  (try clear hk)
  (try clear hi)
  refine hK.out _ _ ⟨(blk_cell BK538.out 0).trans rfl, (blk_cell BK538.out 1).trans rfl, (blk_cell BK538.out 2).trans rfl, (blk_cell BK538.out 3).trans rfl, (blk_cell BK539.out 0).trans rfl, (blk_cell BK539.out 1).trans rfl, (blk_cell BK539.out 2).trans rfl, (blk_cell BK539.out 3).trans rfl⟩ (fun hHeld => ?_)
  clear hK K
  refine norm_ (a' := ?_) ?_ ?_
  rotate_left
  · show Act.put _ (some 26) _ = _
    simp only [Act.put, List.setIfInBounds_toArray, List.set_cons_zero, List.set_cons_succ, i64_w, i32_w]
    rfl
  refine pure_ (i := 8) (N := some 9) (v := ?_) (a' := ?_) zq10.q9 rfl rfl (any_of HT_.out (by kernel_rfl)) (fun _ _ _ h => h) (Or.inl ⟨by rfl, ?_⟩) ?_ ?_
  rotate_left
  · intro w'
    go_simp
    with_reducible rfl
  rotate_left
  · simp only [Act.put, List.setIfInBounds_toArray, List.set_cons_zero, List.set_cons_succ, i64_w, i32_w]
    rfl
  refine pure_ (i := 9) (N := some 10) (v := ?_) (a' := ?_) zq10.q10 rfl rfl (any_of HT_.out (by kernel_rfl)) (fun _ _ _ h => h) (Or.inl ⟨by rfl, ?_⟩) ?_ ?_
  rotate_left
  · intro w'
    go_simp
    with_reducible rfl
  rotate_left
  · simp only [Act.put, List.setIfInBounds_toArray, List.set_cons_zero, List.set_cons_succ, i64_w, i32_w]
    rfl
  refine done_ (done_of HT_.out (by kernel_rfl)) ?_
  have hnb14 := NB538_539.out
  have hnc14 := NB539_538.out
  have hnb15 := NB538_540.out
  have hnc15 := NB540_538.out
  have hcz16_0 : w13.cell? ⟨gb538, 0, none⟩ = some (.int .i64 a0_0) := (blk_cell BK538.out 0).trans rfl
  have hcz16_1 : w13.cell? ⟨gb538, 1, none⟩ = some (.int .i64 a0_1) := (blk_cell BK538.out 1).trans rfl
  have hcz16_2 : w13.cell? ⟨gb538, 2, none⟩ = some (.int .i64 a0_2) := (blk_cell BK538.out 2).trans rfl
  have hcz16_3 : w13.cell? ⟨gb538, 3, none⟩ = some (.int .i64 a0_3) := (blk_cell BK538.out 3).trans rfl
  have hfz16_0 := blk_frozen BK538.out 0
  have hfz16_1 := blk_frozen BK538.out 1
  have hfz16_2 := blk_frozen BK538.out 2
  have hfz16_3 := blk_frozen BK538.out 3
  have hnb17 := NB539_540.out
  have hnc17 := NB540_539.out
  have hcz18_0 : w13.cell? ⟨gb539, 0, none⟩ = some (.int .i64 a1_0) := (blk_cell BK539.out 0).trans rfl
  have hcz18_1 : w13.cell? ⟨gb539, 1, none⟩ = some (.int .i64 a1_1) := (blk_cell BK539.out 1).trans rfl
  have hcz18_2 : w13.cell? ⟨gb539, 2, none⟩ = some (.int .i64 a1_2) := (blk_cell BK539.out 2).trans rfl
  have hcz18_3 : w13.cell? ⟨gb539, 3, none⟩ = some (.int .i64 a1_3) := (blk_cell BK539.out 3).trans rfl
  have hfz18_0 := blk_frozen BK539.out 0
  have hfz18_1 := blk_frozen BK539.out 1
  have hfz18_2 := blk_frozen BK539.out 2
  have hfz18_3 := blk_frozen BK539.out 3
  try go_wp2_with (first | ((with_reducible refine gate_callee (f := 34) rfl ?_); refine goesL_ (some 29) rfl rfl Try.func34 (by kernel_rfl) rfl #[.agg #[.int .i64 a0_0, .int .i64 a0_1, .int .i64 a0_2, .int .i64 a0_3], .agg #[.int .i64 a1_0, .int .i64 a1_1, .int .i64 a1_2, .int .i64 a1_3]] rfl (by (try simp only [List.map_toArray, List.map_cons, List.map_nil]); first | done | rfl | (simp only [List.length_drop, List.length_take]; rfl)) ?_; (with_reducible refine (rect_Subtract.calls a0_0 a0_1 a0_2 a0_3 a1_0 a1_1 a1_2 a1_3 t543 _ A6.out).mono ?_); rintro e w19 ⟨v544, rfl, ho0, hb⟩; refine ⟨_, rfl, ?_⟩; have n0_ := Aside0.mk (Kd.R_lower (Kd.R_newB (Kd.R_newB ho0 (g := gb538) (o := .cells #[.int .i64 a0_0, .int .i64 a0_1, .int .i64 a0_2, .int .i64 a0_3] 23 (0, 0)) (by (with_reducible repeat (first | refine blk_drewN ?_ _ | refine blk_drew ?_ | refine blk_alloc ?_ _)); exact BK538.out)) (g := gb539) (o := .cells #[.int .i64 a1_0, .int .i64 a1_1, .int .i64 a1_2, .int .i64 a1_3] 23 (0, 0)) (by (with_reducible repeat (first | refine blk_drewN ?_ _ | refine blk_drew ?_ | refine blk_alloc ?_ _)); exact BK539.out)) (below_size (by repeat (first | (with_reducible first | exact HB.out | apply below_alloc | apply pw_below_drewN | apply below_drew1 | refine below_set ?_ GE538.out | refine below_set ?_ GE539.out | refine below_set ?_ GE540.out) | exact HB.out)))); have n1_ := Aside0.mk (blk_below (g := gb538) (o := .cells #[.int .i64 a0_0, .int .i64 a0_1, .int .i64 a0_2, .int .i64 a0_3] 23 (0, 0)) (by (with_reducible repeat (first | refine blk_drewN ?_ _ | refine blk_drew ?_ | refine blk_alloc ?_ _)); exact BK538.out) hb); have n2_ := Aside0.mk (blk_below (g := gb539) (o := .cells #[.int .i64 a1_0, .int .i64 a1_1, .int .i64 a1_2, .int .i64 a1_3] 23 (0, 0)) (by (with_reducible repeat (first | refine blk_drewN ?_ _ | refine blk_drew ?_ | refine blk_alloc ?_ _)); exact BK539.out) hb); have n3_ := Aside0.mk (blk_below (g := gb540) (o := .cells #[.int .i64 a2_0, .int .i64 a2_1] 30 (0, 0)) (by (with_reducible repeat (first | refine blk_drewN ?_ _ | refine blk_drew ?_ | refine blk_alloc ?_ _)); exact BK540.out) hb); have n4_ := Aside0.mk (below_step (by repeat (first | (with_reducible first | exact HB.out | apply below_alloc | apply pw_below_drewN | apply below_drew1 | refine below_set ?_ GE538.out | refine below_set ?_ GE539.out | refine below_set ?_ GE540.out) | exact HB.out)) hb); clear BK538; clear BK539; clear BK540; clear HB; have HO545 := n0_; have BK538 := n1_; have BK539 := n2_; have BK540 := n3_; have HB := n4_; clear n0_ n1_ n2_ n3_ n4_; (try clear hb); (try clear hb2); (try clear hk); (try clear hi); (try clear ho0)))
  go_loopg [11, 13] k (fun kq v11 v13 w' => ∃ (x11_1 : Int) (x13_1 : Int), v11 = .int .i64 x11_1 ∧ v13 = .int .i64 x13_1 ∧ Aside0 (compositorlaw04_RectPoints.l0 kq a2_0 a2_1 t541 t542 x11_1 t543 x13_1 a0_0 a0_1 a0_2 a0_3 a1_0 a1_1 a1_2 a1_3 = some true) ∧ Aside0 (kq ≤ k) ∧ Aside0 (Kd.R k23 23 w' w.heap.size (fun k_ => k_ ≠ gb538 ∧ k_ ≠ gb539) v544 t543) ∧ Aside0 (w'.heap[gb538]? = some (.cells #[.int .i64 a0_0, .int .i64 a0_1, .int .i64 a0_2, .int .i64 a0_3] 23 (0, 0))) ∧ Aside0 (w'.heap[gb539]? = some (.cells #[.int .i64 a1_0, .int .i64 a1_1, .int .i64 a1_2, .int .i64 a1_3] 23 (0, 0))) ∧ Aside0 (w'.heap[gb540]? = some (.cells #[.int .i64 a2_0, .int .i64 a2_1] 30 (0, 0))) ∧ Aside0 (Below w.heap.size w w'))
  case atStart => exact ⟨(0), (0), (by first | rfl | (simp; done) | (simp [*]; done)), (by first | rfl | (simp; done) | (simp [*]; done)), H', ⟨Nat.le_refl _⟩, ⟨by (with_reducible repeat (first | apply Kd.R_alloc | apply Kd.R_drewN | apply Kd.R_drew)); exact Kd.R_mono HO545.out (fun _ hk => ⟨hk.1.2, hk.2⟩)⟩, ⟨by (with_reducible repeat (first | refine blk_drewN ?_ _ | refine blk_drew ?_ | refine blk_alloc ?_ _)); exact BK538.out⟩, ⟨by (with_reducible repeat (first | refine blk_drewN ?_ _ | refine blk_drew ?_ | refine blk_alloc ?_ _)); exact BK539.out⟩, ⟨by (with_reducible repeat (first | refine blk_drewN ?_ _ | refine blk_drew ?_ | refine blk_alloc ?_ _)); exact BK540.out⟩, ⟨by repeat (first | (with_reducible first | exact HB.out | apply below_alloc | apply pw_below_drewN | apply below_drew1 | refine below_set ?_ GE538.out | refine below_set ?_ GE539.out | refine below_set ?_ GE540.out) | exact HB.out)⟩⟩
  case round =>
    clear H'
    try clear c1
    try clear c2
    try clear p2
    try clear c3
    try clear c10
    try clear c14
    try clear c15
    try clear c17
    try clear hcz16_0
    try clear hcz16_1
    try clear hcz16_2
    try clear hcz16_3
    try clear hcz18_0
    try clear hcz18_1
    try clear hcz18_2
    try clear hcz18_3
    try clear hfz16_0
    try clear hfz16_1
    try clear hfz16_2
    try clear hfz16_3
    try clear hfz18_0
    try clear hfz18_1
    try clear hfz18_2
    try clear hfz18_3
    obtain ⟨x11_1, x13_1, rfl, rfl, HA, HK1, HO_12, BK538, BK539, BK540, HB⟩ := hrel
    cases gk with
    | zero => exact absurd HA.out (by simp [compositorlaw04_RectPoints.l0])
    | succ k1 =>
      have H := HA.out
      clear HA
      simp only [compositorlaw04_RectPoints.l0] at H
      by_cases c20 : x13_1 < (t543.length : Int)
      · rw [if_pos c20] at H
        have c20b0 : decide (x13_1 < (t543.length : Int)) = true := decide_eq_true c20
        clear c20
        by_cases c21 : 0 ≤ x13_1
        · rw [if_pos c21] at H
          have c21b0 : decide (0 ≤ x13_1) = true := decide_eq_true c21
          clear c21
          replace H := Option.bind_eq_some_iff.mp H
          obtain ⟨t547, A220, H⟩ := H
          replace H : (if t547 = true then (compositorlaw04_RectPoints.l0 k1 a2_0 a2_1 t541 t542 (wrap64 (x11_1 + 1)) t543 (wrap64 (x13_1 + 1)) a0_0 a0_1 a0_2 a0_3 a1_0 a1_1 a1_2 a1_3) else (compositorlaw04_RectPoints.l0 k1 a2_0 a2_1 t541 t542 x11_1 t543 (wrap64 (x13_1 + 1)) a0_0 a0_1 a0_2 a0_3 a1_0 a1_1 a1_2 a1_3)) = some true := H
          have A22 := Aside0.mk A220
          clear A220
          by_cases c23 : t547 = true
          · subst c23
            have H1 : (compositorlaw04_RectPoints.l0 k1 a2_0 a2_1 t541 t542 (wrap64 (x11_1 + 1)) t543 (wrap64 (x13_1 + 1)) a0_0 a0_1 a0_2 a0_3 a1_0 a1_1 a1_2 a1_3) = some true := by rw [if_pos rfl] at H; exact H
            clear H
            have H := H1
            clear H1
            have H' := Aside0.mk H
            clear H
            obtain ⟨Ao24, co24, eo24⟩ := Kd.R_slice HO_12.out
            subst eo24
            have p546 : 0 ≤ (x13_1 : Int) := of_decide_eq_true (by first | (with_reducible assumption) | assumption)
            have q546 : x13_1 < (t543.length : Int) := of_decide_eq_true (by first | (with_reducible assumption) | assumption)
            obtain ⟨ad546, e546, hx546_0, hx546_1, hx546_2, hx546_3⟩ := at_T23 (Kd.R_reads' HO_12.out).2.2 x13_1 p546 q546
            cases e546
            replace p546 := eq_true p546
            replace q546 := eq_true q546
            go_wp2_with (first | ((with_reducible refine gate_callee (f := 27) rfl ?_); refine goesL_ (some 42) rfl rfl Try.func27 (by kernel_rfl) rfl #[.agg #[.int .i64 ((rd_T23 t543 x13_1).f0), .int .i64 ((rd_T23 t543 x13_1).f1), .int .i64 ((rd_T23 t543 x13_1).f2), .int .i64 ((rd_T23 t543 x13_1).f3)], .int .i64 a2_0, .int .i64 a2_1] rfl (by (try simp only [List.map_toArray, List.map_cons, List.map_nil]); first | done | rfl | (simp only [List.length_drop, List.length_take]; rfl)) ?_; (with_reducible refine (rect_Contains.calls ((rd_T23 t543 x13_1).f0) ((rd_T23 t543 x13_1).f1) ((rd_T23 t543 x13_1).f2) ((rd_T23 t543 x13_1).f3) a2_0 a2_1 true _ A22.out).mono ?_); rintro e w25 ⟨rfl, hb⟩; refine ⟨_, rfl, ?_⟩; have n0_ := Aside0.mk (Kd.R_below (by (with_reducible repeat (first | apply Kd.R_alloc | apply Kd.R_drewN | apply Kd.R_drew)); exact HO_12.out) hb); have n1_ := Aside0.mk (blk_below (g := gb538) (o := .cells #[.int .i64 a0_0, .int .i64 a0_1, .int .i64 a0_2, .int .i64 a0_3] 23 (0, 0)) (by (with_reducible repeat (first | refine blk_drewN ?_ _ | refine blk_drew ?_ | refine blk_alloc ?_ _)); exact BK538.out) hb); have n2_ := Aside0.mk (blk_below (g := gb539) (o := .cells #[.int .i64 a1_0, .int .i64 a1_1, .int .i64 a1_2, .int .i64 a1_3] 23 (0, 0)) (by (with_reducible repeat (first | refine blk_drewN ?_ _ | refine blk_drew ?_ | refine blk_alloc ?_ _)); exact BK539.out) hb); have n3_ := Aside0.mk (blk_below (g := gb540) (o := .cells #[.int .i64 a2_0, .int .i64 a2_1] 30 (0, 0)) (by (with_reducible repeat (first | refine blk_drewN ?_ _ | refine blk_drew ?_ | refine blk_alloc ?_ _)); exact BK540.out) hb); have n4_ := Aside0.mk (below_step (by repeat (first | (with_reducible first | exact HB.out | apply below_alloc | apply pw_below_drewN | apply below_drew1 | refine below_set ?_ GE538.out | refine below_set ?_ GE539.out | refine below_set ?_ GE540.out) | exact HB.out)) hb); clear HO_12; clear BK538; clear BK539; clear BK540; clear HB; have HO_12 := n0_; have BK538 := n1_; have BK539 := n2_; have BK540 := n3_; have HB := n4_; clear n0_ n1_ n2_ n3_ n4_; (try clear hb); (try clear hb2); (try clear hk); (try clear hi)))
            go_roundg k1
            case measure => have := HK1.out; omega
            case rel => exact ⟨(wrap64 (x11_1 + 1)), (wrap64 (x13_1 + 1)), (by first | rfl | (simp; done) | (simp [*]; done)), (by first | rfl | (simp; done) | (simp [*]; done)), H', ⟨by have := HK1.out; omega⟩, ⟨by (with_reducible repeat (first | apply Kd.R_alloc | apply Kd.R_drewN | apply Kd.R_drew)); exact HO_12.out⟩, ⟨by (with_reducible repeat (first | refine blk_drewN ?_ _ | refine blk_drew ?_ | refine blk_alloc ?_ _)); exact BK538.out⟩, ⟨by (with_reducible repeat (first | refine blk_drewN ?_ _ | refine blk_drew ?_ | refine blk_alloc ?_ _)); exact BK539.out⟩, ⟨by (with_reducible repeat (first | refine blk_drewN ?_ _ | refine blk_drew ?_ | refine blk_alloc ?_ _)); exact BK540.out⟩, ⟨by repeat (first | (with_reducible first | exact HB.out | apply below_alloc | apply pw_below_drewN | apply below_drew1 | refine below_set ?_ GE538.out | refine below_set ?_ GE539.out | refine below_set ?_ GE540.out) | exact HB.out)⟩⟩
          · replace c23 := Bool.eq_false_iff.mpr c23
            subst c23
            have H1 : (compositorlaw04_RectPoints.l0 k1 a2_0 a2_1 t541 t542 x11_1 t543 (wrap64 (x13_1 + 1)) a0_0 a0_1 a0_2 a0_3 a1_0 a1_1 a1_2 a1_3) = some true := by rw [if_neg (show ¬ (false = true) by decide)] at H; exact H
            clear H
            have H := H1
            clear H1
            have H' := Aside0.mk H
            clear H
            obtain ⟨Ao26, co26, eo26⟩ := Kd.R_slice HO_12.out
            subst eo26
            have p546 : 0 ≤ (x13_1 : Int) := of_decide_eq_true (by first | (with_reducible assumption) | assumption)
            have q546 : x13_1 < (t543.length : Int) := of_decide_eq_true (by first | (with_reducible assumption) | assumption)
            obtain ⟨ad546, e546, hx546_0, hx546_1, hx546_2, hx546_3⟩ := at_T23 (Kd.R_reads' HO_12.out).2.2 x13_1 p546 q546
            cases e546
            replace p546 := eq_true p546
            replace q546 := eq_true q546
            go_wp2_with (first | ((with_reducible refine gate_callee (f := 27) rfl ?_); refine goesL_ (some 42) rfl rfl Try.func27 (by kernel_rfl) rfl #[.agg #[.int .i64 ((rd_T23 t543 x13_1).f0), .int .i64 ((rd_T23 t543 x13_1).f1), .int .i64 ((rd_T23 t543 x13_1).f2), .int .i64 ((rd_T23 t543 x13_1).f3)], .int .i64 a2_0, .int .i64 a2_1] rfl (by (try simp only [List.map_toArray, List.map_cons, List.map_nil]); first | done | rfl | (simp only [List.length_drop, List.length_take]; rfl)) ?_; (with_reducible refine (rect_Contains.calls ((rd_T23 t543 x13_1).f0) ((rd_T23 t543 x13_1).f1) ((rd_T23 t543 x13_1).f2) ((rd_T23 t543 x13_1).f3) a2_0 a2_1 false _ A22.out).mono ?_); rintro e w27 ⟨rfl, hb⟩; refine ⟨_, rfl, ?_⟩; have n0_ := Aside0.mk (Kd.R_below (by (with_reducible repeat (first | apply Kd.R_alloc | apply Kd.R_drewN | apply Kd.R_drew)); exact HO_12.out) hb); have n1_ := Aside0.mk (blk_below (g := gb538) (o := .cells #[.int .i64 a0_0, .int .i64 a0_1, .int .i64 a0_2, .int .i64 a0_3] 23 (0, 0)) (by (with_reducible repeat (first | refine blk_drewN ?_ _ | refine blk_drew ?_ | refine blk_alloc ?_ _)); exact BK538.out) hb); have n2_ := Aside0.mk (blk_below (g := gb539) (o := .cells #[.int .i64 a1_0, .int .i64 a1_1, .int .i64 a1_2, .int .i64 a1_3] 23 (0, 0)) (by (with_reducible repeat (first | refine blk_drewN ?_ _ | refine blk_drew ?_ | refine blk_alloc ?_ _)); exact BK539.out) hb); have n3_ := Aside0.mk (blk_below (g := gb540) (o := .cells #[.int .i64 a2_0, .int .i64 a2_1] 30 (0, 0)) (by (with_reducible repeat (first | refine blk_drewN ?_ _ | refine blk_drew ?_ | refine blk_alloc ?_ _)); exact BK540.out) hb); have n4_ := Aside0.mk (below_step (by repeat (first | (with_reducible first | exact HB.out | apply below_alloc | apply pw_below_drewN | apply below_drew1 | refine below_set ?_ GE538.out | refine below_set ?_ GE539.out | refine below_set ?_ GE540.out) | exact HB.out)) hb); clear HO_12; clear BK538; clear BK539; clear BK540; clear HB; have HO_12 := n0_; have BK538 := n1_; have BK539 := n2_; have BK540 := n3_; have HB := n4_; clear n0_ n1_ n2_ n3_ n4_; (try clear hb); (try clear hb2); (try clear hk); (try clear hi)))
            go_roundg k1
            case measure => have := HK1.out; omega
            case rel => exact ⟨(x11_1), (wrap64 (x13_1 + 1)), (by first | rfl | (simp; done) | (simp [*]; done)), (by first | rfl | (simp; done) | (simp [*]; done)), H', ⟨by have := HK1.out; omega⟩, ⟨by (with_reducible repeat (first | apply Kd.R_alloc | apply Kd.R_drewN | apply Kd.R_drew)); exact HO_12.out⟩, ⟨by (with_reducible repeat (first | refine blk_drewN ?_ _ | refine blk_drew ?_ | refine blk_alloc ?_ _)); exact BK538.out⟩, ⟨by (with_reducible repeat (first | refine blk_drewN ?_ _ | refine blk_drew ?_ | refine blk_alloc ?_ _)); exact BK539.out⟩, ⟨by (with_reducible repeat (first | refine blk_drewN ?_ _ | refine blk_drew ?_ | refine blk_alloc ?_ _)); exact BK540.out⟩, ⟨by repeat (first | (with_reducible first | exact HB.out | apply below_alloc | apply pw_below_drewN | apply below_drew1 | refine below_set ?_ GE538.out | refine below_set ?_ GE539.out | refine below_set ?_ GE540.out) | exact HB.out)⟩⟩
        · rw [if_neg c21] at H
          exact absurd H (by simp)
      · rw [if_neg c20] at H
        have c20b0 : decide (x13_1 < (t543.length : Int)) = false := decide_eq_false c20
        clear c20
        have HC28 := Aside0.mk H
        clear H
        obtain ⟨Ao29, co29, eo29⟩ := Kd.R_slice HO_12.out
        subst eo29
        go_upto_region 11 with (fail)
        go_cut [49] (fun v49 wc => ∃ (kq : Nat) (x49_27 : Bool), v49 = .bool x49_27 ∧ Aside0 (compositorlaw04_RectPoints.j1 kq a2_0 a2_1 t541 t542 x11_1 0 x49_27 a0_0 a0_1 a0_2 a0_3 a1_0 a1_1 a1_2 a1_3 = some true) ∧ Aside0 (kq ≤ k1) ∧ Aside0 (wc.heap[gb538]? = some (.cells #[.int .i64 a0_0, .int .i64 a0_1, .int .i64 a0_2, .int .i64 a0_3] 23 (0, 0))) ∧ Aside0 (wc.heap[gb539]? = some (.cells #[.int .i64 a1_0, .int .i64 a1_1, .int .i64 a1_2, .int .i64 a1_3] 23 (0, 0))) ∧ Aside0 (wc.heap[gb540]? = some (.cells #[.int .i64 a2_0, .int .i64 a2_1] 30 (0, 0))) ∧ Aside0 (Below w.heap.size w wc))
        case first =>
          have H := HC28.out
          clear HC28
          by_cases c30 : t541 = true
          · subst c30
            have H1 : (compositorlaw04_RectPoints.j1 k1 a2_0 a2_1 true t542 x11_1 0 (!t542) a0_0 a0_1 a0_2 a0_3 a1_0 a1_1 a1_2 a1_3) = some true := by rw [if_pos rfl] at H; exact H
            clear H
            have H := H1
            clear H1
            have H' := Aside0.mk H
            clear H
            go_wp2
            go_meet
            case rel => exact ⟨_, (!t542), (by first | rfl | (simp; done) | (simp [*]; done)), H', ⟨by have := HK1.out; first | omega | exact Nat.le_refl _⟩, ⟨by (with_reducible repeat (first | refine blk_drewN ?_ _ | refine blk_drew ?_ | refine blk_alloc ?_ _)); exact BK538.out⟩, ⟨by (with_reducible repeat (first | refine blk_drewN ?_ _ | refine blk_drew ?_ | refine blk_alloc ?_ _)); exact BK539.out⟩, ⟨by (with_reducible repeat (first | refine blk_drewN ?_ _ | refine blk_drew ?_ | refine blk_alloc ?_ _)); exact BK540.out⟩, ⟨by repeat (first | (with_reducible first | exact HB.out | apply below_alloc | apply pw_below_drewN | apply below_drew1 | refine below_set ?_ GE538.out | refine below_set ?_ GE539.out | refine below_set ?_ GE540.out) | exact HB.out)⟩⟩
          · replace c30 := Bool.eq_false_iff.mpr c30
            subst c30
            have H1 : (compositorlaw04_RectPoints.j1 k1 a2_0 a2_1 false t542 x11_1 0 false a0_0 a0_1 a0_2 a0_3 a1_0 a1_1 a1_2 a1_3) = some true := by rw [if_neg (show ¬ (false = true) by decide)] at H; exact H
            clear H
            have H := H1
            clear H1
            have H' := Aside0.mk H
            clear H
            go_wp2
            go_meet
            case rel => exact ⟨_, (false), (by first | rfl | (simp; done) | (simp [*]; done)), H', ⟨by have := HK1.out; first | omega | exact Nat.le_refl _⟩, ⟨by (with_reducible repeat (first | refine blk_drewN ?_ _ | refine blk_drew ?_ | refine blk_alloc ?_ _)); exact BK538.out⟩, ⟨by (with_reducible repeat (first | refine blk_drewN ?_ _ | refine blk_drew ?_ | refine blk_alloc ?_ _)); exact BK539.out⟩, ⟨by (with_reducible repeat (first | refine blk_drewN ?_ _ | refine blk_drew ?_ | refine blk_alloc ?_ _)); exact BK540.out⟩, ⟨by repeat (first | (with_reducible first | exact HB.out | apply below_alloc | apply pw_below_drewN | apply below_drew1 | refine below_set ?_ GE538.out | refine below_set ?_ GE539.out | refine below_set ?_ GE540.out) | exact HB.out)⟩⟩
        case rest =>
          clear HC28
          try clear c1
          try clear c2
          try clear p2
          try clear c3
          try clear p5
          try clear q5
          try clear hx5
          try clear p6
          try clear c10
          try clear c14
          try clear c15
          try clear c17
          try clear c20
          try clear c20b0
          try clear c21
          try clear c21b0
          try clear c23
          try clear c27
          try clear c30
          try clear hcz16_0
          try clear hcz16_1
          try clear hcz16_2
          try clear hcz16_3
          try clear hcz18_0
          try clear hcz18_1
          try clear hcz18_2
          try clear hcz18_3
          try clear hfz16_0
          try clear hfz16_1
          try clear hfz16_2
          try clear hfz16_3
          try clear hfz18_0
          try clear hfz18_1
          try clear hfz18_2
          try clear hfz18_3
          try clear hx546_0
          try clear hx546_1
          try clear hx546_2
          try clear hx546_3
          try clear p2
          try clear p546
          try clear q546
          obtain ⟨kq, x49_27, rfl, HA, HJ27, BK538, BK539, BK540, HB⟩ := hcut
          cases kq with
          | zero => exact absurd HA.out (by simp [compositorlaw04_RectPoints.j1])
          | succ kj27 =>
            have H := HA.out
            clear HA
            simp only [compositorlaw04_RectPoints.j1] at H
            have HC31 := Aside0.mk H
            clear H
            go_upto_if 49 with (fail)
            go_cut [14] (fun v14 wc => ∃ (kq : Nat) (x14_30 : Int), v14 = .int .i64 x14_30 ∧ Aside0 (compositorlaw04_RectPoints.j2 kq a2_0 a2_1 t541 t542 x11_1 x14_30 a0_0 a0_1 a0_2 a0_3 a1_0 a1_1 a1_2 a1_3 = some true) ∧ Aside0 (kq ≤ kj27) ∧ Aside0 (wc.heap[gb538]? = some (.cells #[.int .i64 a0_0, .int .i64 a0_1, .int .i64 a0_2, .int .i64 a0_3] 23 (0, 0))) ∧ Aside0 (wc.heap[gb539]? = some (.cells #[.int .i64 a1_0, .int .i64 a1_1, .int .i64 a1_2, .int .i64 a1_3] 23 (0, 0))) ∧ Aside0 (wc.heap[gb540]? = some (.cells #[.int .i64 a2_0, .int .i64 a2_1] 30 (0, 0))) ∧ Aside0 (Below w.heap.size w wc))
            case first =>
              have H := HC31.out
              clear HC31
              by_cases c32 : x49_27 = true
              · subst c32
                have H1 : (compositorlaw04_RectPoints.j2 kj27 a2_0 a2_1 t541 t542 x11_1 1 a0_0 a0_1 a0_2 a0_3 a1_0 a1_1 a1_2 a1_3) = some true := by rw [if_pos rfl] at H; exact H
                clear H
                have H := H1
                clear H1
                have H' := Aside0.mk H
                clear H
                go_wp2
                go_meet
                case rel => exact ⟨_, (1), (by first | rfl | (simp; done) | (simp [*]; done)), H', ⟨by have := HK1.out; have := HJ27.out; first | omega | exact Nat.le_refl _⟩, ⟨by (with_reducible repeat (first | refine blk_drewN ?_ _ | refine blk_drew ?_ | refine blk_alloc ?_ _)); exact BK538.out⟩, ⟨by (with_reducible repeat (first | refine blk_drewN ?_ _ | refine blk_drew ?_ | refine blk_alloc ?_ _)); exact BK539.out⟩, ⟨by (with_reducible repeat (first | refine blk_drewN ?_ _ | refine blk_drew ?_ | refine blk_alloc ?_ _)); exact BK540.out⟩, ⟨by repeat (first | (with_reducible first | exact HB.out | apply below_alloc | apply pw_below_drewN | apply below_drew1 | refine below_set ?_ GE538.out | refine below_set ?_ GE539.out | refine below_set ?_ GE540.out) | exact HB.out)⟩⟩
              · replace c32 := Bool.eq_false_iff.mpr c32
                subst c32
                have H1 : (compositorlaw04_RectPoints.j2 kj27 a2_0 a2_1 t541 t542 x11_1 0 a0_0 a0_1 a0_2 a0_3 a1_0 a1_1 a1_2 a1_3) = some true := by rw [if_neg (show ¬ (false = true) by decide)] at H; exact H
                clear H
                have H := H1
                clear H1
                have H' := Aside0.mk H
                clear H
                go_wp2
                go_meet
                case rel => exact ⟨_, (0), (by first | rfl | (simp; done) | (simp [*]; done)), H', ⟨by have := HK1.out; have := HJ27.out; first | omega | exact Nat.le_refl _⟩, ⟨by (with_reducible repeat (first | refine blk_drewN ?_ _ | refine blk_drew ?_ | refine blk_alloc ?_ _)); exact BK538.out⟩, ⟨by (with_reducible repeat (first | refine blk_drewN ?_ _ | refine blk_drew ?_ | refine blk_alloc ?_ _)); exact BK539.out⟩, ⟨by (with_reducible repeat (first | refine blk_drewN ?_ _ | refine blk_drew ?_ | refine blk_alloc ?_ _)); exact BK540.out⟩, ⟨by repeat (first | (with_reducible first | exact HB.out | apply below_alloc | apply pw_below_drewN | apply below_drew1 | refine below_set ?_ GE538.out | refine below_set ?_ GE539.out | refine below_set ?_ GE540.out) | exact HB.out)⟩⟩
            case rest =>
              clear HC31
              try clear c1
              try clear c2
              try clear p2
              try clear c3
              try clear p5
              try clear q5
              try clear hx5
              try clear p6
              try clear c10
              try clear c14
              try clear c15
              try clear c17
              try clear c20
              try clear c20b0
              try clear c21
              try clear c21b0
              try clear c23
              try clear c27
              try clear c30
              try clear c32
              try clear hcz16_0
              try clear hcz16_1
              try clear hcz16_2
              try clear hcz16_3
              try clear hcz18_0
              try clear hcz18_1
              try clear hcz18_2
              try clear hcz18_3
              try clear hfz16_0
              try clear hfz16_1
              try clear hfz16_2
              try clear hfz16_3
              try clear hfz18_0
              try clear hfz18_1
              try clear hfz18_2
              try clear hfz18_3
              try clear hx546_0
              try clear hx546_1
              try clear hx546_2
              try clear hx546_3
              try clear p2
              try clear p5
              try clear p546
              try clear p6
              try clear q5
              try clear q546
              obtain ⟨kq, x14_30, rfl, HA, HJ30, BK538, BK539, BK540, HB⟩ := hcut
              cases kq with
              | zero => exact absurd HA.out (by simp [compositorlaw04_RectPoints.j2])
              | succ kj30 =>
                have H := HA.out
                clear HA
                simp only [compositorlaw04_RectPoints.j2] at H
                have HC33 := Aside0.mk H
                clear H
                go_upto_region 13 with (fail)
                go_cut [74] (fun v74 wc => ∃ (kq : Nat) (x74_32 : Bool), v74 = .bool x74_32 ∧ Aside0 (compositorlaw04_RectPoints.j3 kq a2_0 a2_1 t541 t542 x11_1 x14_30 x74_32 a0_0 a0_1 a0_2 a0_3 a1_0 a1_1 a1_2 a1_3 = some true) ∧ Aside0 (kq ≤ kj30) ∧ Aside0 (wc.heap[gb538]? = some (.cells #[.int .i64 a0_0, .int .i64 a0_1, .int .i64 a0_2, .int .i64 a0_3] 23 (0, 0))) ∧ Aside0 (wc.heap[gb539]? = some (.cells #[.int .i64 a1_0, .int .i64 a1_1, .int .i64 a1_2, .int .i64 a1_3] 23 (0, 0))) ∧ Aside0 (wc.heap[gb540]? = some (.cells #[.int .i64 a2_0, .int .i64 a2_1] 30 (0, 0))) ∧ Aside0 (Below w.heap.size w wc))
                case first =>
                  have H := HC33.out
                  clear HC33
                  by_cases c34 : t541 = true
                  · subst c34
                    have H1 : ((rect_Union.f a0_0 a0_1 a0_2 a0_3 a1_0 a1_1 a1_2 a1_3).bind fun bt548 => ((rect_Contains.f bt548.1 bt548.2.1 bt548.2.2.1 bt548.2.2.2 a2_0 a2_1).bind fun t552 => (if t552 = true then ((rect_Within.f a0_0 a0_1 a0_2 a0_3 a1_0 a1_1 a1_2 a1_3).bind fun t553 => (if t553 = true then (compositorlaw04_RectPoints.j3 kj30 a2_0 a2_1 true t542 x11_1 x14_30 (!t542) a0_0 a0_1 a0_2 a0_3 a1_0 a1_1 a1_2 a1_3) else (compositorlaw04_RectPoints.j3 kj30 a2_0 a2_1 true t542 x11_1 x14_30 false a0_0 a0_1 a0_2 a0_3 a1_0 a1_1 a1_2 a1_3))) else (compositorlaw04_RectPoints.j3 kj30 a2_0 a2_1 true t542 x11_1 x14_30 true a0_0 a0_1 a0_2 a0_3 a1_0 a1_1 a1_2 a1_3)))) = some true := by rw [if_pos rfl] at H; exact H
                    clear H
                    have H := H1
                    clear H1
                    replace H := Option.bind_eq_some_iff.mp H
                    obtain ⟨⟨t548, t549, t550, t551⟩, A350, H⟩ := H
                    replace H : ((rect_Contains.f t548 t549 t550 t551 a2_0 a2_1).bind fun t552 => (if t552 = true then ((rect_Within.f a0_0 a0_1 a0_2 a0_3 a1_0 a1_1 a1_2 a1_3).bind fun t553 => (if t553 = true then (compositorlaw04_RectPoints.j3 kj30 a2_0 a2_1 true t542 x11_1 x14_30 (!t542) a0_0 a0_1 a0_2 a0_3 a1_0 a1_1 a1_2 a1_3) else (compositorlaw04_RectPoints.j3 kj30 a2_0 a2_1 true t542 x11_1 x14_30 false a0_0 a0_1 a0_2 a0_3 a1_0 a1_1 a1_2 a1_3))) else (compositorlaw04_RectPoints.j3 kj30 a2_0 a2_1 true t542 x11_1 x14_30 true a0_0 a0_1 a0_2 a0_3 a1_0 a1_1 a1_2 a1_3))) = some true := H
                    have A35 := Aside0.mk A350
                    clear A350
                    replace H := Option.bind_eq_some_iff.mp H
                    obtain ⟨t552, A360, H⟩ := H
                    replace H : (if t552 = true then ((rect_Within.f a0_0 a0_1 a0_2 a0_3 a1_0 a1_1 a1_2 a1_3).bind fun t553 => (if t553 = true then (compositorlaw04_RectPoints.j3 kj30 a2_0 a2_1 true t542 x11_1 x14_30 (!t542) a0_0 a0_1 a0_2 a0_3 a1_0 a1_1 a1_2 a1_3) else (compositorlaw04_RectPoints.j3 kj30 a2_0 a2_1 true t542 x11_1 x14_30 false a0_0 a0_1 a0_2 a0_3 a1_0 a1_1 a1_2 a1_3))) else (compositorlaw04_RectPoints.j3 kj30 a2_0 a2_1 true t542 x11_1 x14_30 true a0_0 a0_1 a0_2 a0_3 a1_0 a1_1 a1_2 a1_3)) = some true := H
                    have A36 := Aside0.mk A360
                    clear A360
                    by_cases c37 : t552 = true
                    · subst c37
                      have H1 : ((rect_Within.f a0_0 a0_1 a0_2 a0_3 a1_0 a1_1 a1_2 a1_3).bind fun t553 => (if t553 = true then (compositorlaw04_RectPoints.j3 kj30 a2_0 a2_1 true t542 x11_1 x14_30 (!t542) a0_0 a0_1 a0_2 a0_3 a1_0 a1_1 a1_2 a1_3) else (compositorlaw04_RectPoints.j3 kj30 a2_0 a2_1 true t542 x11_1 x14_30 false a0_0 a0_1 a0_2 a0_3 a1_0 a1_1 a1_2 a1_3))) = some true := by rw [if_pos rfl] at H; exact H
                      clear H
                      have H := H1
                      clear H1
                      replace H := Option.bind_eq_some_iff.mp H
                      obtain ⟨t553, A380, H⟩ := H
                      replace H : (if t553 = true then (compositorlaw04_RectPoints.j3 kj30 a2_0 a2_1 true t542 x11_1 x14_30 (!t542) a0_0 a0_1 a0_2 a0_3 a1_0 a1_1 a1_2 a1_3) else (compositorlaw04_RectPoints.j3 kj30 a2_0 a2_1 true t542 x11_1 x14_30 false a0_0 a0_1 a0_2 a0_3 a1_0 a1_1 a1_2 a1_3)) = some true := H
                      have A38 := Aside0.mk A380
                      clear A380
                      by_cases c39 : t553 = true
                      · subst c39
                        have H1 : (compositorlaw04_RectPoints.j3 kj30 a2_0 a2_1 true t542 x11_1 x14_30 (!t542) a0_0 a0_1 a0_2 a0_3 a1_0 a1_1 a1_2 a1_3) = some true := by rw [if_pos rfl] at H; exact H
                        clear H
                        have H := H1
                        clear H1
                        have H' := Aside0.mk H
                        clear H
                        have hnb40 := NB538_539.out
                        have hnc40 := NB539_538.out
                        have hnb41 := NB538_540.out
                        have hnc41 := NB540_538.out
                        have hcz42_0 : wc.cell? ⟨gb538, 0, none⟩ = some (.int .i64 a0_0) := (blk_cell BK538.out 0).trans rfl
                        have hcz42_1 : wc.cell? ⟨gb538, 1, none⟩ = some (.int .i64 a0_1) := (blk_cell BK538.out 1).trans rfl
                        have hcz42_2 : wc.cell? ⟨gb538, 2, none⟩ = some (.int .i64 a0_2) := (blk_cell BK538.out 2).trans rfl
                        have hcz42_3 : wc.cell? ⟨gb538, 3, none⟩ = some (.int .i64 a0_3) := (blk_cell BK538.out 3).trans rfl
                        have hfz42_0 := blk_frozen BK538.out 0
                        have hfz42_1 := blk_frozen BK538.out 1
                        have hfz42_2 := blk_frozen BK538.out 2
                        have hfz42_3 := blk_frozen BK538.out 3
                        have hnb43 := NB539_540.out
                        have hnc43 := NB540_539.out
                        have hcz44_0 : wc.cell? ⟨gb539, 0, none⟩ = some (.int .i64 a1_0) := (blk_cell BK539.out 0).trans rfl
                        have hcz44_1 : wc.cell? ⟨gb539, 1, none⟩ = some (.int .i64 a1_1) := (blk_cell BK539.out 1).trans rfl
                        have hcz44_2 : wc.cell? ⟨gb539, 2, none⟩ = some (.int .i64 a1_2) := (blk_cell BK539.out 2).trans rfl
                        have hcz44_3 : wc.cell? ⟨gb539, 3, none⟩ = some (.int .i64 a1_3) := (blk_cell BK539.out 3).trans rfl
                        have hfz44_0 := blk_frozen BK539.out 0
                        have hfz44_1 := blk_frozen BK539.out 1
                        have hfz44_2 := blk_frozen BK539.out 2
                        have hfz44_3 := blk_frozen BK539.out 3
                        go_wp2_with (first | (go_at_call 17; (with_reducible refine (rect_Union.calls a0_0 a0_1 a0_2 a0_3 a1_0 a1_1 a1_2 a1_3 t548 t549 t550 t551 _ A35.out).mono ?_); rintro e w45 ⟨rfl, hb⟩; have n0_ := Aside0.mk (blk_below (g := gb538) (o := .cells #[.int .i64 a0_0, .int .i64 a0_1, .int .i64 a0_2, .int .i64 a0_3] 23 (0, 0)) (by (with_reducible repeat (first | refine blk_drewN ?_ _ | refine blk_drew ?_ | refine blk_alloc ?_ _)); exact BK538.out) hb); have n1_ := Aside0.mk (blk_below (g := gb539) (o := .cells #[.int .i64 a1_0, .int .i64 a1_1, .int .i64 a1_2, .int .i64 a1_3] 23 (0, 0)) (by (with_reducible repeat (first | refine blk_drewN ?_ _ | refine blk_drew ?_ | refine blk_alloc ?_ _)); exact BK539.out) hb); have n2_ := Aside0.mk (blk_below (g := gb540) (o := .cells #[.int .i64 a2_0, .int .i64 a2_1] 30 (0, 0)) (by (with_reducible repeat (first | refine blk_drewN ?_ _ | refine blk_drew ?_ | refine blk_alloc ?_ _)); exact BK540.out) hb); have n3_ := Aside0.mk (below_step (by repeat (first | (with_reducible first | exact HB.out | apply below_alloc | apply pw_below_drewN | apply below_drew1 | refine below_set ?_ GE538.out | refine below_set ?_ GE539.out | refine below_set ?_ GE540.out) | exact HB.out)) hb); clear BK538; clear BK539; clear BK540; clear HB; have BK538 := n0_; have BK539 := n1_; have BK540 := n2_; have HB := n3_; clear n0_ n1_ n2_ n3_; (try clear hb); (try clear hb2); (try clear hk); (try clear hi)) | (go_at_call 27; (with_reducible refine (rect_Contains.calls t548 t549 t550 t551 a2_0 a2_1 true _ A36.out).mono ?_); rintro e w46 ⟨rfl, hb⟩; have n0_ := Aside0.mk (blk_below (g := gb538) (o := .cells #[.int .i64 a0_0, .int .i64 a0_1, .int .i64 a0_2, .int .i64 a0_3] 23 (0, 0)) (by (with_reducible repeat (first | refine blk_drewN ?_ _ | refine blk_drew ?_ | refine blk_alloc ?_ _)); exact BK538.out) hb); have n1_ := Aside0.mk (blk_below (g := gb539) (o := .cells #[.int .i64 a1_0, .int .i64 a1_1, .int .i64 a1_2, .int .i64 a1_3] 23 (0, 0)) (by (with_reducible repeat (first | refine blk_drewN ?_ _ | refine blk_drew ?_ | refine blk_alloc ?_ _)); exact BK539.out) hb); have n2_ := Aside0.mk (blk_below (g := gb540) (o := .cells #[.int .i64 a2_0, .int .i64 a2_1] 30 (0, 0)) (by (with_reducible repeat (first | refine blk_drewN ?_ _ | refine blk_drew ?_ | refine blk_alloc ?_ _)); exact BK540.out) hb); have n3_ := Aside0.mk (below_step (by repeat (first | (with_reducible first | exact HB.out | apply below_alloc | apply pw_below_drewN | apply below_drew1 | refine below_set ?_ GE538.out | refine below_set ?_ GE539.out | refine below_set ?_ GE540.out) | exact HB.out)) hb); clear BK538; clear BK539; clear BK540; clear HB; have BK538 := n0_; have BK539 := n1_; have BK540 := n2_; have HB := n3_; clear n0_ n1_ n2_ n3_; (try clear hb); (try clear hb2); (try clear hk); (try clear hi); have hcz47_0 : w46.cell? ⟨gb538, 0, none⟩ = some (.int .i64 a0_0) := (blk_cell BK538.out 0).trans rfl; have hcz47_1 : w46.cell? ⟨gb538, 1, none⟩ = some (.int .i64 a0_1) := (blk_cell BK538.out 1).trans rfl; have hcz47_2 : w46.cell? ⟨gb538, 2, none⟩ = some (.int .i64 a0_2) := (blk_cell BK538.out 2).trans rfl; have hcz47_3 : w46.cell? ⟨gb538, 3, none⟩ = some (.int .i64 a0_3) := (blk_cell BK538.out 3).trans rfl; have hfz47_0 := blk_frozen BK538.out 0; have hfz47_1 := blk_frozen BK538.out 1; have hfz47_2 := blk_frozen BK538.out 2; have hfz47_3 := blk_frozen BK538.out 3; have hcz48_0 : w46.cell? ⟨gb539, 0, none⟩ = some (.int .i64 a1_0) := (blk_cell BK539.out 0).trans rfl; have hcz48_1 : w46.cell? ⟨gb539, 1, none⟩ = some (.int .i64 a1_1) := (blk_cell BK539.out 1).trans rfl; have hcz48_2 : w46.cell? ⟨gb539, 2, none⟩ = some (.int .i64 a1_2) := (blk_cell BK539.out 2).trans rfl; have hcz48_3 : w46.cell? ⟨gb539, 3, none⟩ = some (.int .i64 a1_3) := (blk_cell BK539.out 3).trans rfl; have hfz48_0 := blk_frozen BK539.out 0; have hfz48_1 := blk_frozen BK539.out 1; have hfz48_2 := blk_frozen BK539.out 2; have hfz48_3 := blk_frozen BK539.out 3) | (go_at_call 29; (with_reducible refine (rect_Within.calls a0_0 a0_1 a0_2 a0_3 a1_0 a1_1 a1_2 a1_3 true _ A38.out).mono ?_); rintro e w49 ⟨rfl, hb⟩; have n0_ := Aside0.mk (blk_below (g := gb538) (o := .cells #[.int .i64 a0_0, .int .i64 a0_1, .int .i64 a0_2, .int .i64 a0_3] 23 (0, 0)) (by (with_reducible repeat (first | refine blk_drewN ?_ _ | refine blk_drew ?_ | refine blk_alloc ?_ _)); exact BK538.out) hb); have n1_ := Aside0.mk (blk_below (g := gb539) (o := .cells #[.int .i64 a1_0, .int .i64 a1_1, .int .i64 a1_2, .int .i64 a1_3] 23 (0, 0)) (by (with_reducible repeat (first | refine blk_drewN ?_ _ | refine blk_drew ?_ | refine blk_alloc ?_ _)); exact BK539.out) hb); have n2_ := Aside0.mk (blk_below (g := gb540) (o := .cells #[.int .i64 a2_0, .int .i64 a2_1] 30 (0, 0)) (by (with_reducible repeat (first | refine blk_drewN ?_ _ | refine blk_drew ?_ | refine blk_alloc ?_ _)); exact BK540.out) hb); have n3_ := Aside0.mk (below_step (by repeat (first | (with_reducible first | exact HB.out | apply below_alloc | apply pw_below_drewN | apply below_drew1 | refine below_set ?_ GE538.out | refine below_set ?_ GE539.out | refine below_set ?_ GE540.out) | exact HB.out)) hb); clear BK538; clear BK539; clear BK540; clear HB; have BK538 := n0_; have BK539 := n1_; have BK540 := n2_; have HB := n3_; clear n0_ n1_ n2_ n3_; (try clear hb); (try clear hb2); (try clear hk); (try clear hi)))
                        go_meet
                        case rel => exact ⟨_, (!t542), (by first | rfl | (simp; done) | (simp [*]; done)), H', ⟨by have := HK1.out; have := HJ27.out; have := HJ30.out; first | omega | exact Nat.le_refl _⟩, ⟨by (with_reducible repeat (first | refine blk_drewN ?_ _ | refine blk_drew ?_ | refine blk_alloc ?_ _)); exact BK538.out⟩, ⟨by (with_reducible repeat (first | refine blk_drewN ?_ _ | refine blk_drew ?_ | refine blk_alloc ?_ _)); exact BK539.out⟩, ⟨by (with_reducible repeat (first | refine blk_drewN ?_ _ | refine blk_drew ?_ | refine blk_alloc ?_ _)); exact BK540.out⟩, ⟨by repeat (first | (with_reducible first | exact HB.out | apply below_alloc | apply pw_below_drewN | apply below_drew1 | refine below_set ?_ GE538.out | refine below_set ?_ GE539.out | refine below_set ?_ GE540.out) | exact HB.out)⟩⟩
                      · replace c39 := Bool.eq_false_iff.mpr c39
                        subst c39
                        have H1 : (compositorlaw04_RectPoints.j3 kj30 a2_0 a2_1 true t542 x11_1 x14_30 false a0_0 a0_1 a0_2 a0_3 a1_0 a1_1 a1_2 a1_3) = some true := by rw [if_neg (show ¬ (false = true) by decide)] at H; exact H
                        clear H
                        have H := H1
                        clear H1
                        have H' := Aside0.mk H
                        clear H
                        have hnb50 := NB538_539.out
                        have hnc50 := NB539_538.out
                        have hnb51 := NB538_540.out
                        have hnc51 := NB540_538.out
                        have hcz52_0 : wc.cell? ⟨gb538, 0, none⟩ = some (.int .i64 a0_0) := (blk_cell BK538.out 0).trans rfl
                        have hcz52_1 : wc.cell? ⟨gb538, 1, none⟩ = some (.int .i64 a0_1) := (blk_cell BK538.out 1).trans rfl
                        have hcz52_2 : wc.cell? ⟨gb538, 2, none⟩ = some (.int .i64 a0_2) := (blk_cell BK538.out 2).trans rfl
                        have hcz52_3 : wc.cell? ⟨gb538, 3, none⟩ = some (.int .i64 a0_3) := (blk_cell BK538.out 3).trans rfl
                        have hfz52_0 := blk_frozen BK538.out 0
                        have hfz52_1 := blk_frozen BK538.out 1
                        have hfz52_2 := blk_frozen BK538.out 2
                        have hfz52_3 := blk_frozen BK538.out 3
                        have hnb53 := NB539_540.out
                        have hnc53 := NB540_539.out
                        have hcz54_0 : wc.cell? ⟨gb539, 0, none⟩ = some (.int .i64 a1_0) := (blk_cell BK539.out 0).trans rfl
                        have hcz54_1 : wc.cell? ⟨gb539, 1, none⟩ = some (.int .i64 a1_1) := (blk_cell BK539.out 1).trans rfl
                        have hcz54_2 : wc.cell? ⟨gb539, 2, none⟩ = some (.int .i64 a1_2) := (blk_cell BK539.out 2).trans rfl
                        have hcz54_3 : wc.cell? ⟨gb539, 3, none⟩ = some (.int .i64 a1_3) := (blk_cell BK539.out 3).trans rfl
                        have hfz54_0 := blk_frozen BK539.out 0
                        have hfz54_1 := blk_frozen BK539.out 1
                        have hfz54_2 := blk_frozen BK539.out 2
                        have hfz54_3 := blk_frozen BK539.out 3
                        go_wp2_with (first | (go_at_call 17; (with_reducible refine (rect_Union.calls a0_0 a0_1 a0_2 a0_3 a1_0 a1_1 a1_2 a1_3 t548 t549 t550 t551 _ A35.out).mono ?_); rintro e w55 ⟨rfl, hb⟩; have n0_ := Aside0.mk (blk_below (g := gb538) (o := .cells #[.int .i64 a0_0, .int .i64 a0_1, .int .i64 a0_2, .int .i64 a0_3] 23 (0, 0)) (by (with_reducible repeat (first | refine blk_drewN ?_ _ | refine blk_drew ?_ | refine blk_alloc ?_ _)); exact BK538.out) hb); have n1_ := Aside0.mk (blk_below (g := gb539) (o := .cells #[.int .i64 a1_0, .int .i64 a1_1, .int .i64 a1_2, .int .i64 a1_3] 23 (0, 0)) (by (with_reducible repeat (first | refine blk_drewN ?_ _ | refine blk_drew ?_ | refine blk_alloc ?_ _)); exact BK539.out) hb); have n2_ := Aside0.mk (blk_below (g := gb540) (o := .cells #[.int .i64 a2_0, .int .i64 a2_1] 30 (0, 0)) (by (with_reducible repeat (first | refine blk_drewN ?_ _ | refine blk_drew ?_ | refine blk_alloc ?_ _)); exact BK540.out) hb); have n3_ := Aside0.mk (below_step (by repeat (first | (with_reducible first | exact HB.out | apply below_alloc | apply pw_below_drewN | apply below_drew1 | refine below_set ?_ GE538.out | refine below_set ?_ GE539.out | refine below_set ?_ GE540.out) | exact HB.out)) hb); clear BK538; clear BK539; clear BK540; clear HB; have BK538 := n0_; have BK539 := n1_; have BK540 := n2_; have HB := n3_; clear n0_ n1_ n2_ n3_; (try clear hb); (try clear hb2); (try clear hk); (try clear hi)) | (go_at_call 27; (with_reducible refine (rect_Contains.calls t548 t549 t550 t551 a2_0 a2_1 true _ A36.out).mono ?_); rintro e w56 ⟨rfl, hb⟩; have n0_ := Aside0.mk (blk_below (g := gb538) (o := .cells #[.int .i64 a0_0, .int .i64 a0_1, .int .i64 a0_2, .int .i64 a0_3] 23 (0, 0)) (by (with_reducible repeat (first | refine blk_drewN ?_ _ | refine blk_drew ?_ | refine blk_alloc ?_ _)); exact BK538.out) hb); have n1_ := Aside0.mk (blk_below (g := gb539) (o := .cells #[.int .i64 a1_0, .int .i64 a1_1, .int .i64 a1_2, .int .i64 a1_3] 23 (0, 0)) (by (with_reducible repeat (first | refine blk_drewN ?_ _ | refine blk_drew ?_ | refine blk_alloc ?_ _)); exact BK539.out) hb); have n2_ := Aside0.mk (blk_below (g := gb540) (o := .cells #[.int .i64 a2_0, .int .i64 a2_1] 30 (0, 0)) (by (with_reducible repeat (first | refine blk_drewN ?_ _ | refine blk_drew ?_ | refine blk_alloc ?_ _)); exact BK540.out) hb); have n3_ := Aside0.mk (below_step (by repeat (first | (with_reducible first | exact HB.out | apply below_alloc | apply pw_below_drewN | apply below_drew1 | refine below_set ?_ GE538.out | refine below_set ?_ GE539.out | refine below_set ?_ GE540.out) | exact HB.out)) hb); clear BK538; clear BK539; clear BK540; clear HB; have BK538 := n0_; have BK539 := n1_; have BK540 := n2_; have HB := n3_; clear n0_ n1_ n2_ n3_; (try clear hb); (try clear hb2); (try clear hk); (try clear hi); have hcz57_0 : w56.cell? ⟨gb538, 0, none⟩ = some (.int .i64 a0_0) := (blk_cell BK538.out 0).trans rfl; have hcz57_1 : w56.cell? ⟨gb538, 1, none⟩ = some (.int .i64 a0_1) := (blk_cell BK538.out 1).trans rfl; have hcz57_2 : w56.cell? ⟨gb538, 2, none⟩ = some (.int .i64 a0_2) := (blk_cell BK538.out 2).trans rfl; have hcz57_3 : w56.cell? ⟨gb538, 3, none⟩ = some (.int .i64 a0_3) := (blk_cell BK538.out 3).trans rfl; have hfz57_0 := blk_frozen BK538.out 0; have hfz57_1 := blk_frozen BK538.out 1; have hfz57_2 := blk_frozen BK538.out 2; have hfz57_3 := blk_frozen BK538.out 3; have hcz58_0 : w56.cell? ⟨gb539, 0, none⟩ = some (.int .i64 a1_0) := (blk_cell BK539.out 0).trans rfl; have hcz58_1 : w56.cell? ⟨gb539, 1, none⟩ = some (.int .i64 a1_1) := (blk_cell BK539.out 1).trans rfl; have hcz58_2 : w56.cell? ⟨gb539, 2, none⟩ = some (.int .i64 a1_2) := (blk_cell BK539.out 2).trans rfl; have hcz58_3 : w56.cell? ⟨gb539, 3, none⟩ = some (.int .i64 a1_3) := (blk_cell BK539.out 3).trans rfl; have hfz58_0 := blk_frozen BK539.out 0; have hfz58_1 := blk_frozen BK539.out 1; have hfz58_2 := blk_frozen BK539.out 2; have hfz58_3 := blk_frozen BK539.out 3) | (go_at_call 29; (with_reducible refine (rect_Within.calls a0_0 a0_1 a0_2 a0_3 a1_0 a1_1 a1_2 a1_3 false _ A38.out).mono ?_); rintro e w59 ⟨rfl, hb⟩; have n0_ := Aside0.mk (blk_below (g := gb538) (o := .cells #[.int .i64 a0_0, .int .i64 a0_1, .int .i64 a0_2, .int .i64 a0_3] 23 (0, 0)) (by (with_reducible repeat (first | refine blk_drewN ?_ _ | refine blk_drew ?_ | refine blk_alloc ?_ _)); exact BK538.out) hb); have n1_ := Aside0.mk (blk_below (g := gb539) (o := .cells #[.int .i64 a1_0, .int .i64 a1_1, .int .i64 a1_2, .int .i64 a1_3] 23 (0, 0)) (by (with_reducible repeat (first | refine blk_drewN ?_ _ | refine blk_drew ?_ | refine blk_alloc ?_ _)); exact BK539.out) hb); have n2_ := Aside0.mk (blk_below (g := gb540) (o := .cells #[.int .i64 a2_0, .int .i64 a2_1] 30 (0, 0)) (by (with_reducible repeat (first | refine blk_drewN ?_ _ | refine blk_drew ?_ | refine blk_alloc ?_ _)); exact BK540.out) hb); have n3_ := Aside0.mk (below_step (by repeat (first | (with_reducible first | exact HB.out | apply below_alloc | apply pw_below_drewN | apply below_drew1 | refine below_set ?_ GE538.out | refine below_set ?_ GE539.out | refine below_set ?_ GE540.out) | exact HB.out)) hb); clear BK538; clear BK539; clear BK540; clear HB; have BK538 := n0_; have BK539 := n1_; have BK540 := n2_; have HB := n3_; clear n0_ n1_ n2_ n3_; (try clear hb); (try clear hb2); (try clear hk); (try clear hi)))
                        go_meet
                        case rel => exact ⟨_, (false), (by first | rfl | (simp; done) | (simp [*]; done)), H', ⟨by have := HK1.out; have := HJ27.out; have := HJ30.out; first | omega | exact Nat.le_refl _⟩, ⟨by (with_reducible repeat (first | refine blk_drewN ?_ _ | refine blk_drew ?_ | refine blk_alloc ?_ _)); exact BK538.out⟩, ⟨by (with_reducible repeat (first | refine blk_drewN ?_ _ | refine blk_drew ?_ | refine blk_alloc ?_ _)); exact BK539.out⟩, ⟨by (with_reducible repeat (first | refine blk_drewN ?_ _ | refine blk_drew ?_ | refine blk_alloc ?_ _)); exact BK540.out⟩, ⟨by repeat (first | (with_reducible first | exact HB.out | apply below_alloc | apply pw_below_drewN | apply below_drew1 | refine below_set ?_ GE538.out | refine below_set ?_ GE539.out | refine below_set ?_ GE540.out) | exact HB.out)⟩⟩
                    · replace c37 := Bool.eq_false_iff.mpr c37
                      subst c37
                      have H1 : (compositorlaw04_RectPoints.j3 kj30 a2_0 a2_1 true t542 x11_1 x14_30 true a0_0 a0_1 a0_2 a0_3 a1_0 a1_1 a1_2 a1_3) = some true := by rw [if_neg (show ¬ (false = true) by decide)] at H; exact H
                      clear H
                      have H := H1
                      clear H1
                      have H' := Aside0.mk H
                      clear H
                      have hnb60 := NB538_539.out
                      have hnc60 := NB539_538.out
                      have hnb61 := NB538_540.out
                      have hnc61 := NB540_538.out
                      have hcz62_0 : wc.cell? ⟨gb538, 0, none⟩ = some (.int .i64 a0_0) := (blk_cell BK538.out 0).trans rfl
                      have hcz62_1 : wc.cell? ⟨gb538, 1, none⟩ = some (.int .i64 a0_1) := (blk_cell BK538.out 1).trans rfl
                      have hcz62_2 : wc.cell? ⟨gb538, 2, none⟩ = some (.int .i64 a0_2) := (blk_cell BK538.out 2).trans rfl
                      have hcz62_3 : wc.cell? ⟨gb538, 3, none⟩ = some (.int .i64 a0_3) := (blk_cell BK538.out 3).trans rfl
                      have hfz62_0 := blk_frozen BK538.out 0
                      have hfz62_1 := blk_frozen BK538.out 1
                      have hfz62_2 := blk_frozen BK538.out 2
                      have hfz62_3 := blk_frozen BK538.out 3
                      have hnb63 := NB539_540.out
                      have hnc63 := NB540_539.out
                      have hcz64_0 : wc.cell? ⟨gb539, 0, none⟩ = some (.int .i64 a1_0) := (blk_cell BK539.out 0).trans rfl
                      have hcz64_1 : wc.cell? ⟨gb539, 1, none⟩ = some (.int .i64 a1_1) := (blk_cell BK539.out 1).trans rfl
                      have hcz64_2 : wc.cell? ⟨gb539, 2, none⟩ = some (.int .i64 a1_2) := (blk_cell BK539.out 2).trans rfl
                      have hcz64_3 : wc.cell? ⟨gb539, 3, none⟩ = some (.int .i64 a1_3) := (blk_cell BK539.out 3).trans rfl
                      have hfz64_0 := blk_frozen BK539.out 0
                      have hfz64_1 := blk_frozen BK539.out 1
                      have hfz64_2 := blk_frozen BK539.out 2
                      have hfz64_3 := blk_frozen BK539.out 3
                      go_wp2_with (first | (go_at_call 17; (with_reducible refine (rect_Union.calls a0_0 a0_1 a0_2 a0_3 a1_0 a1_1 a1_2 a1_3 t548 t549 t550 t551 _ A35.out).mono ?_); rintro e w65 ⟨rfl, hb⟩; have n0_ := Aside0.mk (blk_below (g := gb538) (o := .cells #[.int .i64 a0_0, .int .i64 a0_1, .int .i64 a0_2, .int .i64 a0_3] 23 (0, 0)) (by (with_reducible repeat (first | refine blk_drewN ?_ _ | refine blk_drew ?_ | refine blk_alloc ?_ _)); exact BK538.out) hb); have n1_ := Aside0.mk (blk_below (g := gb539) (o := .cells #[.int .i64 a1_0, .int .i64 a1_1, .int .i64 a1_2, .int .i64 a1_3] 23 (0, 0)) (by (with_reducible repeat (first | refine blk_drewN ?_ _ | refine blk_drew ?_ | refine blk_alloc ?_ _)); exact BK539.out) hb); have n2_ := Aside0.mk (blk_below (g := gb540) (o := .cells #[.int .i64 a2_0, .int .i64 a2_1] 30 (0, 0)) (by (with_reducible repeat (first | refine blk_drewN ?_ _ | refine blk_drew ?_ | refine blk_alloc ?_ _)); exact BK540.out) hb); have n3_ := Aside0.mk (below_step (by repeat (first | (with_reducible first | exact HB.out | apply below_alloc | apply pw_below_drewN | apply below_drew1 | refine below_set ?_ GE538.out | refine below_set ?_ GE539.out | refine below_set ?_ GE540.out) | exact HB.out)) hb); clear BK538; clear BK539; clear BK540; clear HB; have BK538 := n0_; have BK539 := n1_; have BK540 := n2_; have HB := n3_; clear n0_ n1_ n2_ n3_; (try clear hb); (try clear hb2); (try clear hk); (try clear hi)) | (go_at_call 27; (with_reducible refine (rect_Contains.calls t548 t549 t550 t551 a2_0 a2_1 false _ A36.out).mono ?_); rintro e w66 ⟨rfl, hb⟩; have n0_ := Aside0.mk (blk_below (g := gb538) (o := .cells #[.int .i64 a0_0, .int .i64 a0_1, .int .i64 a0_2, .int .i64 a0_3] 23 (0, 0)) (by (with_reducible repeat (first | refine blk_drewN ?_ _ | refine blk_drew ?_ | refine blk_alloc ?_ _)); exact BK538.out) hb); have n1_ := Aside0.mk (blk_below (g := gb539) (o := .cells #[.int .i64 a1_0, .int .i64 a1_1, .int .i64 a1_2, .int .i64 a1_3] 23 (0, 0)) (by (with_reducible repeat (first | refine blk_drewN ?_ _ | refine blk_drew ?_ | refine blk_alloc ?_ _)); exact BK539.out) hb); have n2_ := Aside0.mk (blk_below (g := gb540) (o := .cells #[.int .i64 a2_0, .int .i64 a2_1] 30 (0, 0)) (by (with_reducible repeat (first | refine blk_drewN ?_ _ | refine blk_drew ?_ | refine blk_alloc ?_ _)); exact BK540.out) hb); have n3_ := Aside0.mk (below_step (by repeat (first | (with_reducible first | exact HB.out | apply below_alloc | apply pw_below_drewN | apply below_drew1 | refine below_set ?_ GE538.out | refine below_set ?_ GE539.out | refine below_set ?_ GE540.out) | exact HB.out)) hb); clear BK538; clear BK539; clear BK540; clear HB; have BK538 := n0_; have BK539 := n1_; have BK540 := n2_; have HB := n3_; clear n0_ n1_ n2_ n3_; (try clear hb); (try clear hb2); (try clear hk); (try clear hi)))
                      go_meet
                      case rel => exact ⟨_, (true), (by first | rfl | (simp; done) | (simp [*]; done)), H', ⟨by have := HK1.out; have := HJ27.out; have := HJ30.out; first | omega | exact Nat.le_refl _⟩, ⟨by (with_reducible repeat (first | refine blk_drewN ?_ _ | refine blk_drew ?_ | refine blk_alloc ?_ _)); exact BK538.out⟩, ⟨by (with_reducible repeat (first | refine blk_drewN ?_ _ | refine blk_drew ?_ | refine blk_alloc ?_ _)); exact BK539.out⟩, ⟨by (with_reducible repeat (first | refine blk_drewN ?_ _ | refine blk_drew ?_ | refine blk_alloc ?_ _)); exact BK540.out⟩, ⟨by repeat (first | (with_reducible first | exact HB.out | apply below_alloc | apply pw_below_drewN | apply below_drew1 | refine below_set ?_ GE538.out | refine below_set ?_ GE539.out | refine below_set ?_ GE540.out) | exact HB.out)⟩⟩
                  · replace c34 := Bool.eq_false_iff.mpr c34
                    subst c34
                    have H1 : (if t542 = true then ((rect_Union.f a0_0 a0_1 a0_2 a0_3 a1_0 a1_1 a1_2 a1_3).bind fun bt554 => ((rect_Contains.f bt554.1 bt554.2.1 bt554.2.2.1 bt554.2.2.2 a2_0 a2_1).bind fun t558 => (if t558 = true then ((rect_Within.f a0_0 a0_1 a0_2 a0_3 a1_0 a1_1 a1_2 a1_3).bind fun t559 => (if t559 = true then (compositorlaw04_RectPoints.j3 kj30 a2_0 a2_1 false t542 x11_1 x14_30 false a0_0 a0_1 a0_2 a0_3 a1_0 a1_1 a1_2 a1_3) else (compositorlaw04_RectPoints.j3 kj30 a2_0 a2_1 false t542 x11_1 x14_30 false a0_0 a0_1 a0_2 a0_3 a1_0 a1_1 a1_2 a1_3))) else (compositorlaw04_RectPoints.j3 kj30 a2_0 a2_1 false t542 x11_1 x14_30 true a0_0 a0_1 a0_2 a0_3 a1_0 a1_1 a1_2 a1_3)))) else ((rect_Within.f a0_0 a0_1 a0_2 a0_3 a1_0 a1_1 a1_2 a1_3).bind fun t560 => (if t560 = true then (compositorlaw04_RectPoints.j3 kj30 a2_0 a2_1 false t542 x11_1 x14_30 false a0_0 a0_1 a0_2 a0_3 a1_0 a1_1 a1_2 a1_3) else (compositorlaw04_RectPoints.j3 kj30 a2_0 a2_1 false t542 x11_1 x14_30 false a0_0 a0_1 a0_2 a0_3 a1_0 a1_1 a1_2 a1_3)))) = some true := by rw [if_neg (show ¬ (false = true) by decide)] at H; exact H
                    clear H
                    have H := H1
                    clear H1
                    by_cases c67 : t542 = true
                    · subst c67
                      have H1 : ((rect_Union.f a0_0 a0_1 a0_2 a0_3 a1_0 a1_1 a1_2 a1_3).bind fun bt554 => ((rect_Contains.f bt554.1 bt554.2.1 bt554.2.2.1 bt554.2.2.2 a2_0 a2_1).bind fun t558 => (if t558 = true then ((rect_Within.f a0_0 a0_1 a0_2 a0_3 a1_0 a1_1 a1_2 a1_3).bind fun t559 => (if t559 = true then (compositorlaw04_RectPoints.j3 kj30 a2_0 a2_1 false true x11_1 x14_30 false a0_0 a0_1 a0_2 a0_3 a1_0 a1_1 a1_2 a1_3) else (compositorlaw04_RectPoints.j3 kj30 a2_0 a2_1 false true x11_1 x14_30 false a0_0 a0_1 a0_2 a0_3 a1_0 a1_1 a1_2 a1_3))) else (compositorlaw04_RectPoints.j3 kj30 a2_0 a2_1 false true x11_1 x14_30 true a0_0 a0_1 a0_2 a0_3 a1_0 a1_1 a1_2 a1_3)))) = some true := by rw [if_pos rfl] at H; exact H
                      clear H
                      have H := H1
                      clear H1
                      replace H := Option.bind_eq_some_iff.mp H
                      obtain ⟨⟨t554, t555, t556, t557⟩, A680, H⟩ := H
                      replace H : ((rect_Contains.f t554 t555 t556 t557 a2_0 a2_1).bind fun t558 => (if t558 = true then ((rect_Within.f a0_0 a0_1 a0_2 a0_3 a1_0 a1_1 a1_2 a1_3).bind fun t559 => (if t559 = true then (compositorlaw04_RectPoints.j3 kj30 a2_0 a2_1 false true x11_1 x14_30 false a0_0 a0_1 a0_2 a0_3 a1_0 a1_1 a1_2 a1_3) else (compositorlaw04_RectPoints.j3 kj30 a2_0 a2_1 false true x11_1 x14_30 false a0_0 a0_1 a0_2 a0_3 a1_0 a1_1 a1_2 a1_3))) else (compositorlaw04_RectPoints.j3 kj30 a2_0 a2_1 false true x11_1 x14_30 true a0_0 a0_1 a0_2 a0_3 a1_0 a1_1 a1_2 a1_3))) = some true := H
                      have A68 := Aside0.mk A680
                      clear A680
                      replace H := Option.bind_eq_some_iff.mp H
                      obtain ⟨t558, A690, H⟩ := H
                      replace H : (if t558 = true then ((rect_Within.f a0_0 a0_1 a0_2 a0_3 a1_0 a1_1 a1_2 a1_3).bind fun t559 => (if t559 = true then (compositorlaw04_RectPoints.j3 kj30 a2_0 a2_1 false true x11_1 x14_30 false a0_0 a0_1 a0_2 a0_3 a1_0 a1_1 a1_2 a1_3) else (compositorlaw04_RectPoints.j3 kj30 a2_0 a2_1 false true x11_1 x14_30 false a0_0 a0_1 a0_2 a0_3 a1_0 a1_1 a1_2 a1_3))) else (compositorlaw04_RectPoints.j3 kj30 a2_0 a2_1 false true x11_1 x14_30 true a0_0 a0_1 a0_2 a0_3 a1_0 a1_1 a1_2 a1_3)) = some true := H
                      have A69 := Aside0.mk A690
                      clear A690
                      by_cases c70 : t558 = true
                      · subst c70
                        have H1 : ((rect_Within.f a0_0 a0_1 a0_2 a0_3 a1_0 a1_1 a1_2 a1_3).bind fun t559 => (if t559 = true then (compositorlaw04_RectPoints.j3 kj30 a2_0 a2_1 false true x11_1 x14_30 false a0_0 a0_1 a0_2 a0_3 a1_0 a1_1 a1_2 a1_3) else (compositorlaw04_RectPoints.j3 kj30 a2_0 a2_1 false true x11_1 x14_30 false a0_0 a0_1 a0_2 a0_3 a1_0 a1_1 a1_2 a1_3))) = some true := by rw [if_pos rfl] at H; exact H
                        clear H
                        have H := H1
                        clear H1
                        replace H := Option.bind_eq_some_iff.mp H
                        obtain ⟨t559, A710, H⟩ := H
                        replace H : (if t559 = true then (compositorlaw04_RectPoints.j3 kj30 a2_0 a2_1 false true x11_1 x14_30 false a0_0 a0_1 a0_2 a0_3 a1_0 a1_1 a1_2 a1_3) else (compositorlaw04_RectPoints.j3 kj30 a2_0 a2_1 false true x11_1 x14_30 false a0_0 a0_1 a0_2 a0_3 a1_0 a1_1 a1_2 a1_3)) = some true := H
                        have A71 := Aside0.mk A710
                        clear A710
                        by_cases c72 : t559 = true
                        · subst c72
                          have H1 : (compositorlaw04_RectPoints.j3 kj30 a2_0 a2_1 false true x11_1 x14_30 false a0_0 a0_1 a0_2 a0_3 a1_0 a1_1 a1_2 a1_3) = some true := by rw [if_pos rfl] at H; exact H
                          clear H
                          have H := H1
                          clear H1
                          have H' := Aside0.mk H
                          clear H
                          have hnb73 := NB538_539.out
                          have hnc73 := NB539_538.out
                          have hnb74 := NB538_540.out
                          have hnc74 := NB540_538.out
                          have hcz75_0 : wc.cell? ⟨gb538, 0, none⟩ = some (.int .i64 a0_0) := (blk_cell BK538.out 0).trans rfl
                          have hcz75_1 : wc.cell? ⟨gb538, 1, none⟩ = some (.int .i64 a0_1) := (blk_cell BK538.out 1).trans rfl
                          have hcz75_2 : wc.cell? ⟨gb538, 2, none⟩ = some (.int .i64 a0_2) := (blk_cell BK538.out 2).trans rfl
                          have hcz75_3 : wc.cell? ⟨gb538, 3, none⟩ = some (.int .i64 a0_3) := (blk_cell BK538.out 3).trans rfl
                          have hfz75_0 := blk_frozen BK538.out 0
                          have hfz75_1 := blk_frozen BK538.out 1
                          have hfz75_2 := blk_frozen BK538.out 2
                          have hfz75_3 := blk_frozen BK538.out 3
                          have hnb76 := NB539_540.out
                          have hnc76 := NB540_539.out
                          have hcz77_0 : wc.cell? ⟨gb539, 0, none⟩ = some (.int .i64 a1_0) := (blk_cell BK539.out 0).trans rfl
                          have hcz77_1 : wc.cell? ⟨gb539, 1, none⟩ = some (.int .i64 a1_1) := (blk_cell BK539.out 1).trans rfl
                          have hcz77_2 : wc.cell? ⟨gb539, 2, none⟩ = some (.int .i64 a1_2) := (blk_cell BK539.out 2).trans rfl
                          have hcz77_3 : wc.cell? ⟨gb539, 3, none⟩ = some (.int .i64 a1_3) := (blk_cell BK539.out 3).trans rfl
                          have hfz77_0 := blk_frozen BK539.out 0
                          have hfz77_1 := blk_frozen BK539.out 1
                          have hfz77_2 := blk_frozen BK539.out 2
                          have hfz77_3 := blk_frozen BK539.out 3
                          go_wp2_with (first | (go_at_call 17; (with_reducible refine (rect_Union.calls a0_0 a0_1 a0_2 a0_3 a1_0 a1_1 a1_2 a1_3 t554 t555 t556 t557 _ A68.out).mono ?_); rintro e w78 ⟨rfl, hb⟩; have n0_ := Aside0.mk (blk_below (g := gb538) (o := .cells #[.int .i64 a0_0, .int .i64 a0_1, .int .i64 a0_2, .int .i64 a0_3] 23 (0, 0)) (by (with_reducible repeat (first | refine blk_drewN ?_ _ | refine blk_drew ?_ | refine blk_alloc ?_ _)); exact BK538.out) hb); have n1_ := Aside0.mk (blk_below (g := gb539) (o := .cells #[.int .i64 a1_0, .int .i64 a1_1, .int .i64 a1_2, .int .i64 a1_3] 23 (0, 0)) (by (with_reducible repeat (first | refine blk_drewN ?_ _ | refine blk_drew ?_ | refine blk_alloc ?_ _)); exact BK539.out) hb); have n2_ := Aside0.mk (blk_below (g := gb540) (o := .cells #[.int .i64 a2_0, .int .i64 a2_1] 30 (0, 0)) (by (with_reducible repeat (first | refine blk_drewN ?_ _ | refine blk_drew ?_ | refine blk_alloc ?_ _)); exact BK540.out) hb); have n3_ := Aside0.mk (below_step (by repeat (first | (with_reducible first | exact HB.out | apply below_alloc | apply pw_below_drewN | apply below_drew1 | refine below_set ?_ GE538.out | refine below_set ?_ GE539.out | refine below_set ?_ GE540.out) | exact HB.out)) hb); clear BK538; clear BK539; clear BK540; clear HB; have BK538 := n0_; have BK539 := n1_; have BK540 := n2_; have HB := n3_; clear n0_ n1_ n2_ n3_; (try clear hb); (try clear hb2); (try clear hk); (try clear hi)) | (go_at_call 27; (with_reducible refine (rect_Contains.calls t554 t555 t556 t557 a2_0 a2_1 true _ A69.out).mono ?_); rintro e w79 ⟨rfl, hb⟩; have n0_ := Aside0.mk (blk_below (g := gb538) (o := .cells #[.int .i64 a0_0, .int .i64 a0_1, .int .i64 a0_2, .int .i64 a0_3] 23 (0, 0)) (by (with_reducible repeat (first | refine blk_drewN ?_ _ | refine blk_drew ?_ | refine blk_alloc ?_ _)); exact BK538.out) hb); have n1_ := Aside0.mk (blk_below (g := gb539) (o := .cells #[.int .i64 a1_0, .int .i64 a1_1, .int .i64 a1_2, .int .i64 a1_3] 23 (0, 0)) (by (with_reducible repeat (first | refine blk_drewN ?_ _ | refine blk_drew ?_ | refine blk_alloc ?_ _)); exact BK539.out) hb); have n2_ := Aside0.mk (blk_below (g := gb540) (o := .cells #[.int .i64 a2_0, .int .i64 a2_1] 30 (0, 0)) (by (with_reducible repeat (first | refine blk_drewN ?_ _ | refine blk_drew ?_ | refine blk_alloc ?_ _)); exact BK540.out) hb); have n3_ := Aside0.mk (below_step (by repeat (first | (with_reducible first | exact HB.out | apply below_alloc | apply pw_below_drewN | apply below_drew1 | refine below_set ?_ GE538.out | refine below_set ?_ GE539.out | refine below_set ?_ GE540.out) | exact HB.out)) hb); clear BK538; clear BK539; clear BK540; clear HB; have BK538 := n0_; have BK539 := n1_; have BK540 := n2_; have HB := n3_; clear n0_ n1_ n2_ n3_; (try clear hb); (try clear hb2); (try clear hk); (try clear hi); have hcz80_0 : w79.cell? ⟨gb538, 0, none⟩ = some (.int .i64 a0_0) := (blk_cell BK538.out 0).trans rfl; have hcz80_1 : w79.cell? ⟨gb538, 1, none⟩ = some (.int .i64 a0_1) := (blk_cell BK538.out 1).trans rfl; have hcz80_2 : w79.cell? ⟨gb538, 2, none⟩ = some (.int .i64 a0_2) := (blk_cell BK538.out 2).trans rfl; have hcz80_3 : w79.cell? ⟨gb538, 3, none⟩ = some (.int .i64 a0_3) := (blk_cell BK538.out 3).trans rfl; have hfz80_0 := blk_frozen BK538.out 0; have hfz80_1 := blk_frozen BK538.out 1; have hfz80_2 := blk_frozen BK538.out 2; have hfz80_3 := blk_frozen BK538.out 3; have hcz81_0 : w79.cell? ⟨gb539, 0, none⟩ = some (.int .i64 a1_0) := (blk_cell BK539.out 0).trans rfl; have hcz81_1 : w79.cell? ⟨gb539, 1, none⟩ = some (.int .i64 a1_1) := (blk_cell BK539.out 1).trans rfl; have hcz81_2 : w79.cell? ⟨gb539, 2, none⟩ = some (.int .i64 a1_2) := (blk_cell BK539.out 2).trans rfl; have hcz81_3 : w79.cell? ⟨gb539, 3, none⟩ = some (.int .i64 a1_3) := (blk_cell BK539.out 3).trans rfl; have hfz81_0 := blk_frozen BK539.out 0; have hfz81_1 := blk_frozen BK539.out 1; have hfz81_2 := blk_frozen BK539.out 2; have hfz81_3 := blk_frozen BK539.out 3) | (go_at_call 29; (with_reducible refine (rect_Within.calls a0_0 a0_1 a0_2 a0_3 a1_0 a1_1 a1_2 a1_3 true _ A71.out).mono ?_); rintro e w82 ⟨rfl, hb⟩; have n0_ := Aside0.mk (blk_below (g := gb538) (o := .cells #[.int .i64 a0_0, .int .i64 a0_1, .int .i64 a0_2, .int .i64 a0_3] 23 (0, 0)) (by (with_reducible repeat (first | refine blk_drewN ?_ _ | refine blk_drew ?_ | refine blk_alloc ?_ _)); exact BK538.out) hb); have n1_ := Aside0.mk (blk_below (g := gb539) (o := .cells #[.int .i64 a1_0, .int .i64 a1_1, .int .i64 a1_2, .int .i64 a1_3] 23 (0, 0)) (by (with_reducible repeat (first | refine blk_drewN ?_ _ | refine blk_drew ?_ | refine blk_alloc ?_ _)); exact BK539.out) hb); have n2_ := Aside0.mk (blk_below (g := gb540) (o := .cells #[.int .i64 a2_0, .int .i64 a2_1] 30 (0, 0)) (by (with_reducible repeat (first | refine blk_drewN ?_ _ | refine blk_drew ?_ | refine blk_alloc ?_ _)); exact BK540.out) hb); have n3_ := Aside0.mk (below_step (by repeat (first | (with_reducible first | exact HB.out | apply below_alloc | apply pw_below_drewN | apply below_drew1 | refine below_set ?_ GE538.out | refine below_set ?_ GE539.out | refine below_set ?_ GE540.out) | exact HB.out)) hb); clear BK538; clear BK539; clear BK540; clear HB; have BK538 := n0_; have BK539 := n1_; have BK540 := n2_; have HB := n3_; clear n0_ n1_ n2_ n3_; (try clear hb); (try clear hb2); (try clear hk); (try clear hi)))
                          go_meet
                          case rel => exact ⟨_, (false), (by first | rfl | (simp; done) | (simp [*]; done)), H', ⟨by have := HK1.out; have := HJ27.out; have := HJ30.out; first | omega | exact Nat.le_refl _⟩, ⟨by (with_reducible repeat (first | refine blk_drewN ?_ _ | refine blk_drew ?_ | refine blk_alloc ?_ _)); exact BK538.out⟩, ⟨by (with_reducible repeat (first | refine blk_drewN ?_ _ | refine blk_drew ?_ | refine blk_alloc ?_ _)); exact BK539.out⟩, ⟨by (with_reducible repeat (first | refine blk_drewN ?_ _ | refine blk_drew ?_ | refine blk_alloc ?_ _)); exact BK540.out⟩, ⟨by repeat (first | (with_reducible first | exact HB.out | apply below_alloc | apply pw_below_drewN | apply below_drew1 | refine below_set ?_ GE538.out | refine below_set ?_ GE539.out | refine below_set ?_ GE540.out) | exact HB.out)⟩⟩
                        · replace c72 := Bool.eq_false_iff.mpr c72
                          subst c72
                          have H1 : (compositorlaw04_RectPoints.j3 kj30 a2_0 a2_1 false true x11_1 x14_30 false a0_0 a0_1 a0_2 a0_3 a1_0 a1_1 a1_2 a1_3) = some true := by rw [if_neg (show ¬ (false = true) by decide)] at H; exact H
                          clear H
                          have H := H1
                          clear H1
                          have H' := Aside0.mk H
                          clear H
                          have hnb83 := NB538_539.out
                          have hnc83 := NB539_538.out
                          have hnb84 := NB538_540.out
                          have hnc84 := NB540_538.out
                          have hcz85_0 : wc.cell? ⟨gb538, 0, none⟩ = some (.int .i64 a0_0) := (blk_cell BK538.out 0).trans rfl
                          have hcz85_1 : wc.cell? ⟨gb538, 1, none⟩ = some (.int .i64 a0_1) := (blk_cell BK538.out 1).trans rfl
                          have hcz85_2 : wc.cell? ⟨gb538, 2, none⟩ = some (.int .i64 a0_2) := (blk_cell BK538.out 2).trans rfl
                          have hcz85_3 : wc.cell? ⟨gb538, 3, none⟩ = some (.int .i64 a0_3) := (blk_cell BK538.out 3).trans rfl
                          have hfz85_0 := blk_frozen BK538.out 0
                          have hfz85_1 := blk_frozen BK538.out 1
                          have hfz85_2 := blk_frozen BK538.out 2
                          have hfz85_3 := blk_frozen BK538.out 3
                          have hnb86 := NB539_540.out
                          have hnc86 := NB540_539.out
                          have hcz87_0 : wc.cell? ⟨gb539, 0, none⟩ = some (.int .i64 a1_0) := (blk_cell BK539.out 0).trans rfl
                          have hcz87_1 : wc.cell? ⟨gb539, 1, none⟩ = some (.int .i64 a1_1) := (blk_cell BK539.out 1).trans rfl
                          have hcz87_2 : wc.cell? ⟨gb539, 2, none⟩ = some (.int .i64 a1_2) := (blk_cell BK539.out 2).trans rfl
                          have hcz87_3 : wc.cell? ⟨gb539, 3, none⟩ = some (.int .i64 a1_3) := (blk_cell BK539.out 3).trans rfl
                          have hfz87_0 := blk_frozen BK539.out 0
                          have hfz87_1 := blk_frozen BK539.out 1
                          have hfz87_2 := blk_frozen BK539.out 2
                          have hfz87_3 := blk_frozen BK539.out 3
                          go_wp2_with (first | (go_at_call 17; (with_reducible refine (rect_Union.calls a0_0 a0_1 a0_2 a0_3 a1_0 a1_1 a1_2 a1_3 t554 t555 t556 t557 _ A68.out).mono ?_); rintro e w88 ⟨rfl, hb⟩; have n0_ := Aside0.mk (blk_below (g := gb538) (o := .cells #[.int .i64 a0_0, .int .i64 a0_1, .int .i64 a0_2, .int .i64 a0_3] 23 (0, 0)) (by (with_reducible repeat (first | refine blk_drewN ?_ _ | refine blk_drew ?_ | refine blk_alloc ?_ _)); exact BK538.out) hb); have n1_ := Aside0.mk (blk_below (g := gb539) (o := .cells #[.int .i64 a1_0, .int .i64 a1_1, .int .i64 a1_2, .int .i64 a1_3] 23 (0, 0)) (by (with_reducible repeat (first | refine blk_drewN ?_ _ | refine blk_drew ?_ | refine blk_alloc ?_ _)); exact BK539.out) hb); have n2_ := Aside0.mk (blk_below (g := gb540) (o := .cells #[.int .i64 a2_0, .int .i64 a2_1] 30 (0, 0)) (by (with_reducible repeat (first | refine blk_drewN ?_ _ | refine blk_drew ?_ | refine blk_alloc ?_ _)); exact BK540.out) hb); have n3_ := Aside0.mk (below_step (by repeat (first | (with_reducible first | exact HB.out | apply below_alloc | apply pw_below_drewN | apply below_drew1 | refine below_set ?_ GE538.out | refine below_set ?_ GE539.out | refine below_set ?_ GE540.out) | exact HB.out)) hb); clear BK538; clear BK539; clear BK540; clear HB; have BK538 := n0_; have BK539 := n1_; have BK540 := n2_; have HB := n3_; clear n0_ n1_ n2_ n3_; (try clear hb); (try clear hb2); (try clear hk); (try clear hi)) | (go_at_call 27; (with_reducible refine (rect_Contains.calls t554 t555 t556 t557 a2_0 a2_1 true _ A69.out).mono ?_); rintro e w89 ⟨rfl, hb⟩; have n0_ := Aside0.mk (blk_below (g := gb538) (o := .cells #[.int .i64 a0_0, .int .i64 a0_1, .int .i64 a0_2, .int .i64 a0_3] 23 (0, 0)) (by (with_reducible repeat (first | refine blk_drewN ?_ _ | refine blk_drew ?_ | refine blk_alloc ?_ _)); exact BK538.out) hb); have n1_ := Aside0.mk (blk_below (g := gb539) (o := .cells #[.int .i64 a1_0, .int .i64 a1_1, .int .i64 a1_2, .int .i64 a1_3] 23 (0, 0)) (by (with_reducible repeat (first | refine blk_drewN ?_ _ | refine blk_drew ?_ | refine blk_alloc ?_ _)); exact BK539.out) hb); have n2_ := Aside0.mk (blk_below (g := gb540) (o := .cells #[.int .i64 a2_0, .int .i64 a2_1] 30 (0, 0)) (by (with_reducible repeat (first | refine blk_drewN ?_ _ | refine blk_drew ?_ | refine blk_alloc ?_ _)); exact BK540.out) hb); have n3_ := Aside0.mk (below_step (by repeat (first | (with_reducible first | exact HB.out | apply below_alloc | apply pw_below_drewN | apply below_drew1 | refine below_set ?_ GE538.out | refine below_set ?_ GE539.out | refine below_set ?_ GE540.out) | exact HB.out)) hb); clear BK538; clear BK539; clear BK540; clear HB; have BK538 := n0_; have BK539 := n1_; have BK540 := n2_; have HB := n3_; clear n0_ n1_ n2_ n3_; (try clear hb); (try clear hb2); (try clear hk); (try clear hi); have hcz90_0 : w89.cell? ⟨gb538, 0, none⟩ = some (.int .i64 a0_0) := (blk_cell BK538.out 0).trans rfl; have hcz90_1 : w89.cell? ⟨gb538, 1, none⟩ = some (.int .i64 a0_1) := (blk_cell BK538.out 1).trans rfl; have hcz90_2 : w89.cell? ⟨gb538, 2, none⟩ = some (.int .i64 a0_2) := (blk_cell BK538.out 2).trans rfl; have hcz90_3 : w89.cell? ⟨gb538, 3, none⟩ = some (.int .i64 a0_3) := (blk_cell BK538.out 3).trans rfl; have hfz90_0 := blk_frozen BK538.out 0; have hfz90_1 := blk_frozen BK538.out 1; have hfz90_2 := blk_frozen BK538.out 2; have hfz90_3 := blk_frozen BK538.out 3; have hcz91_0 : w89.cell? ⟨gb539, 0, none⟩ = some (.int .i64 a1_0) := (blk_cell BK539.out 0).trans rfl; have hcz91_1 : w89.cell? ⟨gb539, 1, none⟩ = some (.int .i64 a1_1) := (blk_cell BK539.out 1).trans rfl; have hcz91_2 : w89.cell? ⟨gb539, 2, none⟩ = some (.int .i64 a1_2) := (blk_cell BK539.out 2).trans rfl; have hcz91_3 : w89.cell? ⟨gb539, 3, none⟩ = some (.int .i64 a1_3) := (blk_cell BK539.out 3).trans rfl; have hfz91_0 := blk_frozen BK539.out 0; have hfz91_1 := blk_frozen BK539.out 1; have hfz91_2 := blk_frozen BK539.out 2; have hfz91_3 := blk_frozen BK539.out 3) | (go_at_call 29; (with_reducible refine (rect_Within.calls a0_0 a0_1 a0_2 a0_3 a1_0 a1_1 a1_2 a1_3 false _ A71.out).mono ?_); rintro e w92 ⟨rfl, hb⟩; have n0_ := Aside0.mk (blk_below (g := gb538) (o := .cells #[.int .i64 a0_0, .int .i64 a0_1, .int .i64 a0_2, .int .i64 a0_3] 23 (0, 0)) (by (with_reducible repeat (first | refine blk_drewN ?_ _ | refine blk_drew ?_ | refine blk_alloc ?_ _)); exact BK538.out) hb); have n1_ := Aside0.mk (blk_below (g := gb539) (o := .cells #[.int .i64 a1_0, .int .i64 a1_1, .int .i64 a1_2, .int .i64 a1_3] 23 (0, 0)) (by (with_reducible repeat (first | refine blk_drewN ?_ _ | refine blk_drew ?_ | refine blk_alloc ?_ _)); exact BK539.out) hb); have n2_ := Aside0.mk (blk_below (g := gb540) (o := .cells #[.int .i64 a2_0, .int .i64 a2_1] 30 (0, 0)) (by (with_reducible repeat (first | refine blk_drewN ?_ _ | refine blk_drew ?_ | refine blk_alloc ?_ _)); exact BK540.out) hb); have n3_ := Aside0.mk (below_step (by repeat (first | (with_reducible first | exact HB.out | apply below_alloc | apply pw_below_drewN | apply below_drew1 | refine below_set ?_ GE538.out | refine below_set ?_ GE539.out | refine below_set ?_ GE540.out) | exact HB.out)) hb); clear BK538; clear BK539; clear BK540; clear HB; have BK538 := n0_; have BK539 := n1_; have BK540 := n2_; have HB := n3_; clear n0_ n1_ n2_ n3_; (try clear hb); (try clear hb2); (try clear hk); (try clear hi)))
                          go_meet
                          case rel => exact ⟨_, (false), (by first | rfl | (simp; done) | (simp [*]; done)), H', ⟨by have := HK1.out; have := HJ27.out; have := HJ30.out; first | omega | exact Nat.le_refl _⟩, ⟨by (with_reducible repeat (first | refine blk_drewN ?_ _ | refine blk_drew ?_ | refine blk_alloc ?_ _)); exact BK538.out⟩, ⟨by (with_reducible repeat (first | refine blk_drewN ?_ _ | refine blk_drew ?_ | refine blk_alloc ?_ _)); exact BK539.out⟩, ⟨by (with_reducible repeat (first | refine blk_drewN ?_ _ | refine blk_drew ?_ | refine blk_alloc ?_ _)); exact BK540.out⟩, ⟨by repeat (first | (with_reducible first | exact HB.out | apply below_alloc | apply pw_below_drewN | apply below_drew1 | refine below_set ?_ GE538.out | refine below_set ?_ GE539.out | refine below_set ?_ GE540.out) | exact HB.out)⟩⟩
                      · replace c70 := Bool.eq_false_iff.mpr c70
                        subst c70
                        have H1 : (compositorlaw04_RectPoints.j3 kj30 a2_0 a2_1 false true x11_1 x14_30 true a0_0 a0_1 a0_2 a0_3 a1_0 a1_1 a1_2 a1_3) = some true := by rw [if_neg (show ¬ (false = true) by decide)] at H; exact H
                        clear H
                        have H := H1
                        clear H1
                        have H' := Aside0.mk H
                        clear H
                        have hnb93 := NB538_539.out
                        have hnc93 := NB539_538.out
                        have hnb94 := NB538_540.out
                        have hnc94 := NB540_538.out
                        have hcz95_0 : wc.cell? ⟨gb538, 0, none⟩ = some (.int .i64 a0_0) := (blk_cell BK538.out 0).trans rfl
                        have hcz95_1 : wc.cell? ⟨gb538, 1, none⟩ = some (.int .i64 a0_1) := (blk_cell BK538.out 1).trans rfl
                        have hcz95_2 : wc.cell? ⟨gb538, 2, none⟩ = some (.int .i64 a0_2) := (blk_cell BK538.out 2).trans rfl
                        have hcz95_3 : wc.cell? ⟨gb538, 3, none⟩ = some (.int .i64 a0_3) := (blk_cell BK538.out 3).trans rfl
                        have hfz95_0 := blk_frozen BK538.out 0
                        have hfz95_1 := blk_frozen BK538.out 1
                        have hfz95_2 := blk_frozen BK538.out 2
                        have hfz95_3 := blk_frozen BK538.out 3
                        have hnb96 := NB539_540.out
                        have hnc96 := NB540_539.out
                        have hcz97_0 : wc.cell? ⟨gb539, 0, none⟩ = some (.int .i64 a1_0) := (blk_cell BK539.out 0).trans rfl
                        have hcz97_1 : wc.cell? ⟨gb539, 1, none⟩ = some (.int .i64 a1_1) := (blk_cell BK539.out 1).trans rfl
                        have hcz97_2 : wc.cell? ⟨gb539, 2, none⟩ = some (.int .i64 a1_2) := (blk_cell BK539.out 2).trans rfl
                        have hcz97_3 : wc.cell? ⟨gb539, 3, none⟩ = some (.int .i64 a1_3) := (blk_cell BK539.out 3).trans rfl
                        have hfz97_0 := blk_frozen BK539.out 0
                        have hfz97_1 := blk_frozen BK539.out 1
                        have hfz97_2 := blk_frozen BK539.out 2
                        have hfz97_3 := blk_frozen BK539.out 3
                        go_wp2_with (first | (go_at_call 17; (with_reducible refine (rect_Union.calls a0_0 a0_1 a0_2 a0_3 a1_0 a1_1 a1_2 a1_3 t554 t555 t556 t557 _ A68.out).mono ?_); rintro e w98 ⟨rfl, hb⟩; have n0_ := Aside0.mk (blk_below (g := gb538) (o := .cells #[.int .i64 a0_0, .int .i64 a0_1, .int .i64 a0_2, .int .i64 a0_3] 23 (0, 0)) (by (with_reducible repeat (first | refine blk_drewN ?_ _ | refine blk_drew ?_ | refine blk_alloc ?_ _)); exact BK538.out) hb); have n1_ := Aside0.mk (blk_below (g := gb539) (o := .cells #[.int .i64 a1_0, .int .i64 a1_1, .int .i64 a1_2, .int .i64 a1_3] 23 (0, 0)) (by (with_reducible repeat (first | refine blk_drewN ?_ _ | refine blk_drew ?_ | refine blk_alloc ?_ _)); exact BK539.out) hb); have n2_ := Aside0.mk (blk_below (g := gb540) (o := .cells #[.int .i64 a2_0, .int .i64 a2_1] 30 (0, 0)) (by (with_reducible repeat (first | refine blk_drewN ?_ _ | refine blk_drew ?_ | refine blk_alloc ?_ _)); exact BK540.out) hb); have n3_ := Aside0.mk (below_step (by repeat (first | (with_reducible first | exact HB.out | apply below_alloc | apply pw_below_drewN | apply below_drew1 | refine below_set ?_ GE538.out | refine below_set ?_ GE539.out | refine below_set ?_ GE540.out) | exact HB.out)) hb); clear BK538; clear BK539; clear BK540; clear HB; have BK538 := n0_; have BK539 := n1_; have BK540 := n2_; have HB := n3_; clear n0_ n1_ n2_ n3_; (try clear hb); (try clear hb2); (try clear hk); (try clear hi)) | (go_at_call 27; (with_reducible refine (rect_Contains.calls t554 t555 t556 t557 a2_0 a2_1 false _ A69.out).mono ?_); rintro e w99 ⟨rfl, hb⟩; have n0_ := Aside0.mk (blk_below (g := gb538) (o := .cells #[.int .i64 a0_0, .int .i64 a0_1, .int .i64 a0_2, .int .i64 a0_3] 23 (0, 0)) (by (with_reducible repeat (first | refine blk_drewN ?_ _ | refine blk_drew ?_ | refine blk_alloc ?_ _)); exact BK538.out) hb); have n1_ := Aside0.mk (blk_below (g := gb539) (o := .cells #[.int .i64 a1_0, .int .i64 a1_1, .int .i64 a1_2, .int .i64 a1_3] 23 (0, 0)) (by (with_reducible repeat (first | refine blk_drewN ?_ _ | refine blk_drew ?_ | refine blk_alloc ?_ _)); exact BK539.out) hb); have n2_ := Aside0.mk (blk_below (g := gb540) (o := .cells #[.int .i64 a2_0, .int .i64 a2_1] 30 (0, 0)) (by (with_reducible repeat (first | refine blk_drewN ?_ _ | refine blk_drew ?_ | refine blk_alloc ?_ _)); exact BK540.out) hb); have n3_ := Aside0.mk (below_step (by repeat (first | (with_reducible first | exact HB.out | apply below_alloc | apply pw_below_drewN | apply below_drew1 | refine below_set ?_ GE538.out | refine below_set ?_ GE539.out | refine below_set ?_ GE540.out) | exact HB.out)) hb); clear BK538; clear BK539; clear BK540; clear HB; have BK538 := n0_; have BK539 := n1_; have BK540 := n2_; have HB := n3_; clear n0_ n1_ n2_ n3_; (try clear hb); (try clear hb2); (try clear hk); (try clear hi)))
                        go_meet
                        case rel => exact ⟨_, (true), (by first | rfl | (simp; done) | (simp [*]; done)), H', ⟨by have := HK1.out; have := HJ27.out; have := HJ30.out; first | omega | exact Nat.le_refl _⟩, ⟨by (with_reducible repeat (first | refine blk_drewN ?_ _ | refine blk_drew ?_ | refine blk_alloc ?_ _)); exact BK538.out⟩, ⟨by (with_reducible repeat (first | refine blk_drewN ?_ _ | refine blk_drew ?_ | refine blk_alloc ?_ _)); exact BK539.out⟩, ⟨by (with_reducible repeat (first | refine blk_drewN ?_ _ | refine blk_drew ?_ | refine blk_alloc ?_ _)); exact BK540.out⟩, ⟨by repeat (first | (with_reducible first | exact HB.out | apply below_alloc | apply pw_below_drewN | apply below_drew1 | refine below_set ?_ GE538.out | refine below_set ?_ GE539.out | refine below_set ?_ GE540.out) | exact HB.out)⟩⟩
                    · replace c67 := Bool.eq_false_iff.mpr c67
                      subst c67
                      have H1 : ((rect_Within.f a0_0 a0_1 a0_2 a0_3 a1_0 a1_1 a1_2 a1_3).bind fun t560 => (if t560 = true then (compositorlaw04_RectPoints.j3 kj30 a2_0 a2_1 false false x11_1 x14_30 false a0_0 a0_1 a0_2 a0_3 a1_0 a1_1 a1_2 a1_3) else (compositorlaw04_RectPoints.j3 kj30 a2_0 a2_1 false false x11_1 x14_30 false a0_0 a0_1 a0_2 a0_3 a1_0 a1_1 a1_2 a1_3))) = some true := by rw [if_neg (show ¬ (false = true) by decide)] at H; exact H
                      clear H
                      have H := H1
                      clear H1
                      replace H := Option.bind_eq_some_iff.mp H
                      obtain ⟨t560, A1000, H⟩ := H
                      replace H : (if t560 = true then (compositorlaw04_RectPoints.j3 kj30 a2_0 a2_1 false false x11_1 x14_30 false a0_0 a0_1 a0_2 a0_3 a1_0 a1_1 a1_2 a1_3) else (compositorlaw04_RectPoints.j3 kj30 a2_0 a2_1 false false x11_1 x14_30 false a0_0 a0_1 a0_2 a0_3 a1_0 a1_1 a1_2 a1_3)) = some true := H
                      have A100 := Aside0.mk A1000
                      clear A1000
                      by_cases c101 : t560 = true
                      · subst c101
                        have H1 : (compositorlaw04_RectPoints.j3 kj30 a2_0 a2_1 false false x11_1 x14_30 false a0_0 a0_1 a0_2 a0_3 a1_0 a1_1 a1_2 a1_3) = some true := by rw [if_pos rfl] at H; exact H
                        clear H
                        have H := H1
                        clear H1
                        have H' := Aside0.mk H
                        clear H
                        have hnb102 := NB538_539.out
                        have hnc102 := NB539_538.out
                        have hnb103 := NB538_540.out
                        have hnc103 := NB540_538.out
                        have hcz104_0 : wc.cell? ⟨gb538, 0, none⟩ = some (.int .i64 a0_0) := (blk_cell BK538.out 0).trans rfl
                        have hcz104_1 : wc.cell? ⟨gb538, 1, none⟩ = some (.int .i64 a0_1) := (blk_cell BK538.out 1).trans rfl
                        have hcz104_2 : wc.cell? ⟨gb538, 2, none⟩ = some (.int .i64 a0_2) := (blk_cell BK538.out 2).trans rfl
                        have hcz104_3 : wc.cell? ⟨gb538, 3, none⟩ = some (.int .i64 a0_3) := (blk_cell BK538.out 3).trans rfl
                        have hfz104_0 := blk_frozen BK538.out 0
                        have hfz104_1 := blk_frozen BK538.out 1
                        have hfz104_2 := blk_frozen BK538.out 2
                        have hfz104_3 := blk_frozen BK538.out 3
                        have hnb105 := NB539_540.out
                        have hnc105 := NB540_539.out
                        have hcz106_0 : wc.cell? ⟨gb539, 0, none⟩ = some (.int .i64 a1_0) := (blk_cell BK539.out 0).trans rfl
                        have hcz106_1 : wc.cell? ⟨gb539, 1, none⟩ = some (.int .i64 a1_1) := (blk_cell BK539.out 1).trans rfl
                        have hcz106_2 : wc.cell? ⟨gb539, 2, none⟩ = some (.int .i64 a1_2) := (blk_cell BK539.out 2).trans rfl
                        have hcz106_3 : wc.cell? ⟨gb539, 3, none⟩ = some (.int .i64 a1_3) := (blk_cell BK539.out 3).trans rfl
                        have hfz106_0 := blk_frozen BK539.out 0
                        have hfz106_1 := blk_frozen BK539.out 1
                        have hfz106_2 := blk_frozen BK539.out 2
                        have hfz106_3 := blk_frozen BK539.out 3
                        go_wp2_with (first | (go_at_call 29; (with_reducible refine (rect_Within.calls a0_0 a0_1 a0_2 a0_3 a1_0 a1_1 a1_2 a1_3 true _ A100.out).mono ?_); rintro e w107 ⟨rfl, hb⟩; have n0_ := Aside0.mk (blk_below (g := gb538) (o := .cells #[.int .i64 a0_0, .int .i64 a0_1, .int .i64 a0_2, .int .i64 a0_3] 23 (0, 0)) (by (with_reducible repeat (first | refine blk_drewN ?_ _ | refine blk_drew ?_ | refine blk_alloc ?_ _)); exact BK538.out) hb); have n1_ := Aside0.mk (blk_below (g := gb539) (o := .cells #[.int .i64 a1_0, .int .i64 a1_1, .int .i64 a1_2, .int .i64 a1_3] 23 (0, 0)) (by (with_reducible repeat (first | refine blk_drewN ?_ _ | refine blk_drew ?_ | refine blk_alloc ?_ _)); exact BK539.out) hb); have n2_ := Aside0.mk (blk_below (g := gb540) (o := .cells #[.int .i64 a2_0, .int .i64 a2_1] 30 (0, 0)) (by (with_reducible repeat (first | refine blk_drewN ?_ _ | refine blk_drew ?_ | refine blk_alloc ?_ _)); exact BK540.out) hb); have n3_ := Aside0.mk (below_step (by repeat (first | (with_reducible first | exact HB.out | apply below_alloc | apply pw_below_drewN | apply below_drew1 | refine below_set ?_ GE538.out | refine below_set ?_ GE539.out | refine below_set ?_ GE540.out) | exact HB.out)) hb); clear BK538; clear BK539; clear BK540; clear HB; have BK538 := n0_; have BK539 := n1_; have BK540 := n2_; have HB := n3_; clear n0_ n1_ n2_ n3_; (try clear hb); (try clear hb2); (try clear hk); (try clear hi)))
                        go_meet
                        case rel => exact ⟨_, (false), (by first | rfl | (simp; done) | (simp [*]; done)), H', ⟨by have := HK1.out; have := HJ27.out; have := HJ30.out; first | omega | exact Nat.le_refl _⟩, ⟨by (with_reducible repeat (first | refine blk_drewN ?_ _ | refine blk_drew ?_ | refine blk_alloc ?_ _)); exact BK538.out⟩, ⟨by (with_reducible repeat (first | refine blk_drewN ?_ _ | refine blk_drew ?_ | refine blk_alloc ?_ _)); exact BK539.out⟩, ⟨by (with_reducible repeat (first | refine blk_drewN ?_ _ | refine blk_drew ?_ | refine blk_alloc ?_ _)); exact BK540.out⟩, ⟨by repeat (first | (with_reducible first | exact HB.out | apply below_alloc | apply pw_below_drewN | apply below_drew1 | refine below_set ?_ GE538.out | refine below_set ?_ GE539.out | refine below_set ?_ GE540.out) | exact HB.out)⟩⟩
                      · replace c101 := Bool.eq_false_iff.mpr c101
                        subst c101
                        have H1 : (compositorlaw04_RectPoints.j3 kj30 a2_0 a2_1 false false x11_1 x14_30 false a0_0 a0_1 a0_2 a0_3 a1_0 a1_1 a1_2 a1_3) = some true := by rw [if_neg (show ¬ (false = true) by decide)] at H; exact H
                        clear H
                        have H := H1
                        clear H1
                        have H' := Aside0.mk H
                        clear H
                        have hnb108 := NB538_539.out
                        have hnc108 := NB539_538.out
                        have hnb109 := NB538_540.out
                        have hnc109 := NB540_538.out
                        have hcz110_0 : wc.cell? ⟨gb538, 0, none⟩ = some (.int .i64 a0_0) := (blk_cell BK538.out 0).trans rfl
                        have hcz110_1 : wc.cell? ⟨gb538, 1, none⟩ = some (.int .i64 a0_1) := (blk_cell BK538.out 1).trans rfl
                        have hcz110_2 : wc.cell? ⟨gb538, 2, none⟩ = some (.int .i64 a0_2) := (blk_cell BK538.out 2).trans rfl
                        have hcz110_3 : wc.cell? ⟨gb538, 3, none⟩ = some (.int .i64 a0_3) := (blk_cell BK538.out 3).trans rfl
                        have hfz110_0 := blk_frozen BK538.out 0
                        have hfz110_1 := blk_frozen BK538.out 1
                        have hfz110_2 := blk_frozen BK538.out 2
                        have hfz110_3 := blk_frozen BK538.out 3
                        have hnb111 := NB539_540.out
                        have hnc111 := NB540_539.out
                        have hcz112_0 : wc.cell? ⟨gb539, 0, none⟩ = some (.int .i64 a1_0) := (blk_cell BK539.out 0).trans rfl
                        have hcz112_1 : wc.cell? ⟨gb539, 1, none⟩ = some (.int .i64 a1_1) := (blk_cell BK539.out 1).trans rfl
                        have hcz112_2 : wc.cell? ⟨gb539, 2, none⟩ = some (.int .i64 a1_2) := (blk_cell BK539.out 2).trans rfl
                        have hcz112_3 : wc.cell? ⟨gb539, 3, none⟩ = some (.int .i64 a1_3) := (blk_cell BK539.out 3).trans rfl
                        have hfz112_0 := blk_frozen BK539.out 0
                        have hfz112_1 := blk_frozen BK539.out 1
                        have hfz112_2 := blk_frozen BK539.out 2
                        have hfz112_3 := blk_frozen BK539.out 3
                        go_wp2_with (first | (go_at_call 29; (with_reducible refine (rect_Within.calls a0_0 a0_1 a0_2 a0_3 a1_0 a1_1 a1_2 a1_3 false _ A100.out).mono ?_); rintro e w113 ⟨rfl, hb⟩; have n0_ := Aside0.mk (blk_below (g := gb538) (o := .cells #[.int .i64 a0_0, .int .i64 a0_1, .int .i64 a0_2, .int .i64 a0_3] 23 (0, 0)) (by (with_reducible repeat (first | refine blk_drewN ?_ _ | refine blk_drew ?_ | refine blk_alloc ?_ _)); exact BK538.out) hb); have n1_ := Aside0.mk (blk_below (g := gb539) (o := .cells #[.int .i64 a1_0, .int .i64 a1_1, .int .i64 a1_2, .int .i64 a1_3] 23 (0, 0)) (by (with_reducible repeat (first | refine blk_drewN ?_ _ | refine blk_drew ?_ | refine blk_alloc ?_ _)); exact BK539.out) hb); have n2_ := Aside0.mk (blk_below (g := gb540) (o := .cells #[.int .i64 a2_0, .int .i64 a2_1] 30 (0, 0)) (by (with_reducible repeat (first | refine blk_drewN ?_ _ | refine blk_drew ?_ | refine blk_alloc ?_ _)); exact BK540.out) hb); have n3_ := Aside0.mk (below_step (by repeat (first | (with_reducible first | exact HB.out | apply below_alloc | apply pw_below_drewN | apply below_drew1 | refine below_set ?_ GE538.out | refine below_set ?_ GE539.out | refine below_set ?_ GE540.out) | exact HB.out)) hb); clear BK538; clear BK539; clear BK540; clear HB; have BK538 := n0_; have BK539 := n1_; have BK540 := n2_; have HB := n3_; clear n0_ n1_ n2_ n3_; (try clear hb); (try clear hb2); (try clear hk); (try clear hi)))
                        go_meet
                        case rel => exact ⟨_, (false), (by first | rfl | (simp; done) | (simp [*]; done)), H', ⟨by have := HK1.out; have := HJ27.out; have := HJ30.out; first | omega | exact Nat.le_refl _⟩, ⟨by (with_reducible repeat (first | refine blk_drewN ?_ _ | refine blk_drew ?_ | refine blk_alloc ?_ _)); exact BK538.out⟩, ⟨by (with_reducible repeat (first | refine blk_drewN ?_ _ | refine blk_drew ?_ | refine blk_alloc ?_ _)); exact BK539.out⟩, ⟨by (with_reducible repeat (first | refine blk_drewN ?_ _ | refine blk_drew ?_ | refine blk_alloc ?_ _)); exact BK540.out⟩, ⟨by repeat (first | (with_reducible first | exact HB.out | apply below_alloc | apply pw_below_drewN | apply below_drew1 | refine below_set ?_ GE538.out | refine below_set ?_ GE539.out | refine below_set ?_ GE540.out) | exact HB.out)⟩⟩
                case rest =>
                  clear HC33
                  try clear c1
                  try clear c2
                  try clear p2
                  try clear c3
                  try clear c4
                  try clear c5
                  try clear p5
                  try clear q5
                  try clear hx5
                  try clear c6
                  try clear p6
                  try clear c7
                  try clear c8
                  try clear c9
                  try clear c10
                  try clear c11
                  try clear c14
                  try clear c15
                  try clear c17
                  try clear c20
                  try clear c20b0
                  try clear c21
                  try clear c21b0
                  try clear c23
                  try clear c27
                  try clear c30
                  try clear c32
                  try clear c34
                  try clear c37
                  try clear c39
                  try clear c40
                  try clear c41
                  try clear c43
                  try clear c50
                  try clear c51
                  try clear c53
                  try clear p54
                  try clear q54
                  try clear hx54
                  try clear c60
                  try clear c61
                  try clear c63
                  try clear p64
                  try clear c67
                  try clear c70
                  try clear c72
                  try clear c73
                  try clear c74
                  try clear c76
                  try clear c83
                  try clear c84
                  try clear c86
                  try clear c93
                  try clear c94
                  try clear c96
                  try clear c101
                  try clear c102
                  try clear c103
                  try clear c105
                  try clear c108
                  try clear c109
                  try clear c111
                  try clear hcz104_0
                  try clear hcz104_1
                  try clear hcz104_2
                  try clear hcz104_3
                  try clear hcz106_0
                  try clear hcz106_1
                  try clear hcz106_2
                  try clear hcz106_3
                  try clear hcz110_0
                  try clear hcz110_1
                  try clear hcz110_2
                  try clear hcz110_3
                  try clear hcz112_0
                  try clear hcz112_1
                  try clear hcz112_2
                  try clear hcz112_3
                  try clear hcz16_0
                  try clear hcz16_1
                  try clear hcz16_2
                  try clear hcz16_3
                  try clear hcz18_0
                  try clear hcz18_1
                  try clear hcz18_2
                  try clear hcz18_3
                  try clear hcz42_0
                  try clear hcz42_1
                  try clear hcz42_2
                  try clear hcz42_3
                  try clear hcz44_0
                  try clear hcz44_1
                  try clear hcz44_2
                  try clear hcz44_3
                  try clear hcz47_0
                  try clear hcz47_1
                  try clear hcz47_2
                  try clear hcz47_3
                  try clear hcz48_0
                  try clear hcz48_1
                  try clear hcz48_2
                  try clear hcz48_3
                  try clear hcz52_0
                  try clear hcz52_1
                  try clear hcz52_2
                  try clear hcz52_3
                  try clear hcz54_0
                  try clear hcz54_1
                  try clear hcz54_2
                  try clear hcz54_3
                  try clear hcz57_0
                  try clear hcz57_1
                  try clear hcz57_2
                  try clear hcz57_3
                  try clear hcz58_0
                  try clear hcz58_1
                  try clear hcz58_2
                  try clear hcz58_3
                  try clear hcz62_0
                  try clear hcz62_1
                  try clear hcz62_2
                  try clear hcz62_3
                  try clear hcz64_0
                  try clear hcz64_1
                  try clear hcz64_2
                  try clear hcz64_3
                  try clear hcz75_0
                  try clear hcz75_1
                  try clear hcz75_2
                  try clear hcz75_3
                  try clear hcz77_0
                  try clear hcz77_1
                  try clear hcz77_2
                  try clear hcz77_3
                  try clear hcz80_0
                  try clear hcz80_1
                  try clear hcz80_2
                  try clear hcz80_3
                  try clear hcz81_0
                  try clear hcz81_1
                  try clear hcz81_2
                  try clear hcz81_3
                  try clear hcz85_0
                  try clear hcz85_1
                  try clear hcz85_2
                  try clear hcz85_3
                  try clear hcz87_0
                  try clear hcz87_1
                  try clear hcz87_2
                  try clear hcz87_3
                  try clear hcz90_0
                  try clear hcz90_1
                  try clear hcz90_2
                  try clear hcz90_3
                  try clear hcz91_0
                  try clear hcz91_1
                  try clear hcz91_2
                  try clear hcz91_3
                  try clear hcz95_0
                  try clear hcz95_1
                  try clear hcz95_2
                  try clear hcz95_3
                  try clear hcz97_0
                  try clear hcz97_1
                  try clear hcz97_2
                  try clear hcz97_3
                  try clear hfz104_0
                  try clear hfz104_1
                  try clear hfz104_2
                  try clear hfz104_3
                  try clear hfz106_0
                  try clear hfz106_1
                  try clear hfz106_2
                  try clear hfz106_3
                  try clear hfz110_0
                  try clear hfz110_1
                  try clear hfz110_2
                  try clear hfz110_3
                  try clear hfz112_0
                  try clear hfz112_1
                  try clear hfz112_2
                  try clear hfz112_3
                  try clear hfz16_0
                  try clear hfz16_1
                  try clear hfz16_2
                  try clear hfz16_3
                  try clear hfz18_0
                  try clear hfz18_1
                  try clear hfz18_2
                  try clear hfz18_3
                  try clear hfz42_0
                  try clear hfz42_1
                  try clear hfz42_2
                  try clear hfz42_3
                  try clear hfz44_0
                  try clear hfz44_1
                  try clear hfz44_2
                  try clear hfz44_3
                  try clear hfz47_0
                  try clear hfz47_1
                  try clear hfz47_2
                  try clear hfz47_3
                  try clear hfz48_0
                  try clear hfz48_1
                  try clear hfz48_2
                  try clear hfz48_3
                  try clear hfz52_0
                  try clear hfz52_1
                  try clear hfz52_2
                  try clear hfz52_3
                  try clear hfz54_0
                  try clear hfz54_1
                  try clear hfz54_2
                  try clear hfz54_3
                  try clear hfz57_0
                  try clear hfz57_1
                  try clear hfz57_2
                  try clear hfz57_3
                  try clear hfz58_0
                  try clear hfz58_1
                  try clear hfz58_2
                  try clear hfz58_3
                  try clear hfz62_0
                  try clear hfz62_1
                  try clear hfz62_2
                  try clear hfz62_3
                  try clear hfz64_0
                  try clear hfz64_1
                  try clear hfz64_2
                  try clear hfz64_3
                  try clear hfz75_0
                  try clear hfz75_1
                  try clear hfz75_2
                  try clear hfz75_3
                  try clear hfz77_0
                  try clear hfz77_1
                  try clear hfz77_2
                  try clear hfz77_3
                  try clear hfz80_0
                  try clear hfz80_1
                  try clear hfz80_2
                  try clear hfz80_3
                  try clear hfz81_0
                  try clear hfz81_1
                  try clear hfz81_2
                  try clear hfz81_3
                  try clear hfz85_0
                  try clear hfz85_1
                  try clear hfz85_2
                  try clear hfz85_3
                  try clear hfz87_0
                  try clear hfz87_1
                  try clear hfz87_2
                  try clear hfz87_3
                  try clear hfz90_0
                  try clear hfz90_1
                  try clear hfz90_2
                  try clear hfz90_3
                  try clear hfz91_0
                  try clear hfz91_1
                  try clear hfz91_2
                  try clear hfz91_3
                  try clear hfz95_0
                  try clear hfz95_1
                  try clear hfz95_2
                  try clear hfz95_3
                  try clear hfz97_0
                  try clear hfz97_1
                  try clear hfz97_2
                  try clear hfz97_3
                  try clear hx546_0
                  try clear hx546_1
                  try clear hx546_2
                  try clear hx546_3
                  try clear p2
                  try clear p5
                  try clear p546
                  try clear p6
                  try clear q5
                  try clear q546
                  obtain ⟨kq, x74_32, rfl, HA, HJ32, BK538, BK539, BK540, HB⟩ := hcut
                  cases kq with
                  | zero => exact absurd HA.out (by simp [compositorlaw04_RectPoints.j3])
                  | succ kj32 =>
                    have H := HA.out
                    clear HA
                    simp only [compositorlaw04_RectPoints.j3] at H
                    by_cases c114 : x74_32 = true
                    · subst c114
                      have H1 : (some false) = some true := by rw [if_pos rfl] at H; exact H
                      clear H
                      have H := H1
                      clear H1
                      exact absurd H (by simp)
                    · replace c114 := Bool.eq_false_iff.mpr c114
                      subst c114
                      have H1 : ((rect_Intersect.f a0_0 a0_1 a0_2 a0_3 a1_0 a1_1 a1_2 a1_3).bind fun bt561 => ((rect_Contains.f bt561.1 bt561.2.1 bt561.2.2.1 bt561.2.2.2 a2_0 a2_1).bind fun t565 => (if t541 = true then (if (t565 == t542) = true then (if x11_1 = x14_30 then ((compositorlaw04_exampleHolds.f kj32).bind fun t566 => (some t566)) else (some false)) else (some false)) else (if (t565 == false) = true then (if x11_1 = x14_30 then ((compositorlaw04_exampleHolds.f kj32).bind fun t567 => (some t567)) else (some false)) else (some false))))) = some true := by rw [if_neg (show ¬ (false = true) by decide)] at H; exact H
                      clear H
                      have H := H1
                      clear H1
                      replace H := Option.bind_eq_some_iff.mp H
                      obtain ⟨⟨t561, t562, t563, t564⟩, A1150, H⟩ := H
                      replace H : ((rect_Contains.f t561 t562 t563 t564 a2_0 a2_1).bind fun t565 => (if t541 = true then (if (t565 == t542) = true then (if x11_1 = x14_30 then ((compositorlaw04_exampleHolds.f kj32).bind fun t566 => (some t566)) else (some false)) else (some false)) else (if (t565 == false) = true then (if x11_1 = x14_30 then ((compositorlaw04_exampleHolds.f kj32).bind fun t567 => (some t567)) else (some false)) else (some false)))) = some true := H
                      have A115 := Aside0.mk A1150
                      clear A1150
                      replace H := Option.bind_eq_some_iff.mp H
                      obtain ⟨t565, A1160, H⟩ := H
                      replace H : (if t541 = true then (if (t565 == t542) = true then (if x11_1 = x14_30 then ((compositorlaw04_exampleHolds.f kj32).bind fun t566 => (some t566)) else (some false)) else (some false)) else (if (t565 == false) = true then (if x11_1 = x14_30 then ((compositorlaw04_exampleHolds.f kj32).bind fun t567 => (some t567)) else (some false)) else (some false))) = some true := H
                      have A116 := Aside0.mk A1160
                      clear A1160
                      by_cases c117 : t541 = true
                      · subst c117
                        have H1 : (if (t565 == t542) = true then (if x11_1 = x14_30 then ((compositorlaw04_exampleHolds.f kj32).bind fun t566 => (some t566)) else (some false)) else (some false)) = some true := by rw [if_pos rfl] at H; exact H
                        clear H
                        have H := H1
                        clear H1
                        by_cases c118 : (t565 == t542) = true
                        · rw [if_pos c118] at H
                          have c118b0 : (t565 == t542) = true := c118
                          (try (have c118b1 : decide (t565 = t542) = true := by simpa using c118))
                          (try (have c118b2 : (t565 == t542) = true := by simpa using c118))
                          clear c118
                          by_cases c119 : x11_1 = x14_30
                          · rw [if_pos c119] at H
                            have c119b0 : (x11_1 == x14_30) = true := beq_iff_eq.mpr c119
                            have c119b1 : (x11_1 != x14_30) = false := bne_eq_false_iff_eq.mpr c119
                            clear c119
                            replace H := Option.bind_eq_some_iff.mp H
                            obtain ⟨t566, A1200, H⟩ := H
                            replace H : (some t566) = some true := H
                            have A120 := Aside0.mk A1200
                            clear A1200
                            have Hq_ := Option.some.inj H
                            have hnb121 := NB538_539.out
                            have hnc121 := NB539_538.out
                            have hnb122 := NB538_540.out
                            have hnc122 := NB540_538.out
                            have hcz123_0 : wc.cell? ⟨gb538, 0, none⟩ = some (.int .i64 a0_0) := (blk_cell BK538.out 0).trans rfl
                            have hcz123_1 : wc.cell? ⟨gb538, 1, none⟩ = some (.int .i64 a0_1) := (blk_cell BK538.out 1).trans rfl
                            have hcz123_2 : wc.cell? ⟨gb538, 2, none⟩ = some (.int .i64 a0_2) := (blk_cell BK538.out 2).trans rfl
                            have hcz123_3 : wc.cell? ⟨gb538, 3, none⟩ = some (.int .i64 a0_3) := (blk_cell BK538.out 3).trans rfl
                            have hfz123_0 := blk_frozen BK538.out 0
                            have hfz123_1 := blk_frozen BK538.out 1
                            have hfz123_2 := blk_frozen BK538.out 2
                            have hfz123_3 := blk_frozen BK538.out 3
                            have hnb124 := NB539_540.out
                            have hnc124 := NB540_539.out
                            have hcz125_0 : wc.cell? ⟨gb539, 0, none⟩ = some (.int .i64 a1_0) := (blk_cell BK539.out 0).trans rfl
                            have hcz125_1 : wc.cell? ⟨gb539, 1, none⟩ = some (.int .i64 a1_1) := (blk_cell BK539.out 1).trans rfl
                            have hcz125_2 : wc.cell? ⟨gb539, 2, none⟩ = some (.int .i64 a1_2) := (blk_cell BK539.out 2).trans rfl
                            have hcz125_3 : wc.cell? ⟨gb539, 3, none⟩ = some (.int .i64 a1_3) := (blk_cell BK539.out 3).trans rfl
                            have hfz125_0 := blk_frozen BK539.out 0
                            have hfz125_1 := blk_frozen BK539.out 1
                            have hfz125_2 := blk_frozen BK539.out 2
                            have hfz125_3 := blk_frozen BK539.out 3
                            go_wp2_with (first | ((with_reducible refine gate_callee (f := 21) rfl ?_); refine goesL_ (some 77) rfl rfl Try.func21 (by kernel_rfl) rfl #[.agg #[.int .i64 a0_0, .int .i64 a0_1, .int .i64 a0_2, .int .i64 a0_3], .agg #[.int .i64 a1_0, .int .i64 a1_1, .int .i64 a1_2, .int .i64 a1_3]] rfl (by (try simp only [List.map_toArray, List.map_cons, List.map_nil]); first | done | rfl | (simp only [List.length_drop, List.length_take]; rfl)) ?_; (with_reducible refine (rect_Intersect.calls a0_0 a0_1 a0_2 a0_3 a1_0 a1_1 a1_2 a1_3 t561 t562 t563 t564 _ A115.out).mono ?_); rintro e w126 ⟨rfl, hb⟩; refine ⟨_, rfl, ?_⟩; have n0_ := Aside0.mk (blk_below (g := gb538) (o := .cells #[.int .i64 a0_0, .int .i64 a0_1, .int .i64 a0_2, .int .i64 a0_3] 23 (0, 0)) (by (with_reducible repeat (first | refine blk_drewN ?_ _ | refine blk_drew ?_ | refine blk_alloc ?_ _)); exact BK538.out) hb); have n1_ := Aside0.mk (blk_below (g := gb539) (o := .cells #[.int .i64 a1_0, .int .i64 a1_1, .int .i64 a1_2, .int .i64 a1_3] 23 (0, 0)) (by (with_reducible repeat (first | refine blk_drewN ?_ _ | refine blk_drew ?_ | refine blk_alloc ?_ _)); exact BK539.out) hb); have n2_ := Aside0.mk (blk_below (g := gb540) (o := .cells #[.int .i64 a2_0, .int .i64 a2_1] 30 (0, 0)) (by (with_reducible repeat (first | refine blk_drewN ?_ _ | refine blk_drew ?_ | refine blk_alloc ?_ _)); exact BK540.out) hb); have n3_ := Aside0.mk (below_step (by repeat (first | (with_reducible first | exact HB.out | apply below_alloc | apply pw_below_drewN | apply below_drew1 | refine below_set ?_ GE538.out | refine below_set ?_ GE539.out | refine below_set ?_ GE540.out) | exact HB.out)) hb); clear BK538; clear BK539; clear BK540; clear HB; have BK538 := n0_; have BK539 := n1_; have BK540 := n2_; have HB := n3_; clear n0_ n1_ n2_ n3_; (try clear hb); (try clear hb2); (try clear hk); (try clear hi)) | ((with_reducible refine gate_callee (f := 27) rfl ?_); refine goesL_ (some 80) rfl rfl Try.func27 (by kernel_rfl) rfl #[.agg #[.int .i64 t561, .int .i64 t562, .int .i64 t563, .int .i64 t564], .int .i64 a2_0, .int .i64 a2_1] rfl (by (try simp only [List.map_toArray, List.map_cons, List.map_nil]); first | done | rfl | (simp only [List.length_drop, List.length_take]; rfl)) ?_; (with_reducible refine (rect_Contains.calls t561 t562 t563 t564 a2_0 a2_1 t565 _ A116.out).mono ?_); rintro e w127 ⟨rfl, hb⟩; refine ⟨_, rfl, ?_⟩; have n0_ := Aside0.mk (blk_below (g := gb538) (o := .cells #[.int .i64 a0_0, .int .i64 a0_1, .int .i64 a0_2, .int .i64 a0_3] 23 (0, 0)) (by (with_reducible repeat (first | refine blk_drewN ?_ _ | refine blk_drew ?_ | refine blk_alloc ?_ _)); exact BK538.out) hb); have n1_ := Aside0.mk (blk_below (g := gb539) (o := .cells #[.int .i64 a1_0, .int .i64 a1_1, .int .i64 a1_2, .int .i64 a1_3] 23 (0, 0)) (by (with_reducible repeat (first | refine blk_drewN ?_ _ | refine blk_drew ?_ | refine blk_alloc ?_ _)); exact BK539.out) hb); have n2_ := Aside0.mk (blk_below (g := gb540) (o := .cells #[.int .i64 a2_0, .int .i64 a2_1] 30 (0, 0)) (by (with_reducible repeat (first | refine blk_drewN ?_ _ | refine blk_drew ?_ | refine blk_alloc ?_ _)); exact BK540.out) hb); have n3_ := Aside0.mk (below_step (by repeat (first | (with_reducible first | exact HB.out | apply below_alloc | apply pw_below_drewN | apply below_drew1 | refine below_set ?_ GE538.out | refine below_set ?_ GE539.out | refine below_set ?_ GE540.out) | exact HB.out)) hb); clear BK538; clear BK539; clear BK540; clear HB; have BK538 := n0_; have BK539 := n1_; have BK540 := n2_; have HB := n3_; clear n0_ n1_ n2_ n3_; (try clear hb); (try clear hb2); (try clear hk); (try clear hi)) | (go_at_call 15; (with_reducible refine (compositorlaw04_exampleHolds.calls kj32  t566 _ A120.out).mono ?_); rintro e w128 ⟨rfl, hb⟩; have n0_ := Aside0.mk (blk_below (g := gb538) (o := .cells #[.int .i64 a0_0, .int .i64 a0_1, .int .i64 a0_2, .int .i64 a0_3] 23 (0, 0)) (by (with_reducible repeat (first | refine blk_drewN ?_ _ | refine blk_drew ?_ | refine blk_alloc ?_ _)); exact BK538.out) hb); have n1_ := Aside0.mk (blk_below (g := gb539) (o := .cells #[.int .i64 a1_0, .int .i64 a1_1, .int .i64 a1_2, .int .i64 a1_3] 23 (0, 0)) (by (with_reducible repeat (first | refine blk_drewN ?_ _ | refine blk_drew ?_ | refine blk_alloc ?_ _)); exact BK539.out) hb); have n2_ := Aside0.mk (blk_below (g := gb540) (o := .cells #[.int .i64 a2_0, .int .i64 a2_1] 30 (0, 0)) (by (with_reducible repeat (first | refine blk_drewN ?_ _ | refine blk_drew ?_ | refine blk_alloc ?_ _)); exact BK540.out) hb); have n3_ := Aside0.mk (below_step (by repeat (first | (with_reducible first | exact HB.out | apply below_alloc | apply pw_below_drewN | apply below_drew1 | refine below_set ?_ GE538.out | refine below_set ?_ GE539.out | refine below_set ?_ GE540.out) | exact HB.out)) hb); clear BK538; clear BK539; clear BK540; clear HB; have BK538 := n0_; have BK539 := n1_; have BK540 := n2_; have HB := n3_; clear n0_ n1_ n2_ n3_; (try clear hb); (try clear hb2); (try clear hk); (try clear hi)))
                            go_ret
                            exact ⟨by first | rfl | (simp [errW_none, errW_some] <;> rfl) | (simp [*, errW_none, errW_some] <;> rfl), by repeat (first | (with_reducible first | exact HB.out | apply below_alloc | apply pw_below_drewN | apply below_drew1 | refine below_set ?_ GE538.out | refine below_set ?_ GE539.out | refine below_set ?_ GE540.out) | exact HB.out)⟩
                          · rw [if_neg c119] at H
                            have c119b0 : (x11_1 == x14_30) = false := beq_eq_false_iff_ne.mpr c119
                            have c119b1 : (x11_1 != x14_30) = true := bne_iff_ne.mpr c119
                            exact absurd H (by simp)
                        · rw [if_neg c118] at H
                          have c118b0 : (t565 == t542) = false := by simpa using c118
                          (try (have c118b1 : decide (t565 = t542) = false := by simpa using c118))
                          (try (have c118b2 : (t565 == t542) = false := by simpa using c118))
                          (try (have c118b3 : ¬ (t565 = t542) := by simpa using c118))
                          clear c118
                          exact absurd H (by simp)
                      · replace c117 := Bool.eq_false_iff.mpr c117
                        subst c117
                        have H1 : (if (t565 == false) = true then (if x11_1 = x14_30 then ((compositorlaw04_exampleHolds.f kj32).bind fun t567 => (some t567)) else (some false)) else (some false)) = some true := by rw [if_neg (show ¬ (false = true) by decide)] at H; exact H
                        clear H
                        have H := H1
                        clear H1
                        by_cases c129 : (t565 == false) = true
                        · rw [if_pos c129] at H
                          have c129b0 : (t565 == false) = true := c129
                          (try (have c129b1 : decide (t565 = false) = true := by simpa using c129))
                          (try (have c129b2 : (t565 == false) = true := by simpa using c129))
                          clear c129
                          by_cases c130 : x11_1 = x14_30
                          · rw [if_pos c130] at H
                            have c130b0 : (x11_1 == x14_30) = true := beq_iff_eq.mpr c130
                            have c130b1 : (x11_1 != x14_30) = false := bne_eq_false_iff_eq.mpr c130
                            clear c130
                            replace H := Option.bind_eq_some_iff.mp H
                            obtain ⟨t567, A1310, H⟩ := H
                            replace H : (some t567) = some true := H
                            have A131 := Aside0.mk A1310
                            clear A1310
                            have Hq_ := Option.some.inj H
                            have hnb132 := NB538_539.out
                            have hnc132 := NB539_538.out
                            have hnb133 := NB538_540.out
                            have hnc133 := NB540_538.out
                            have hcz134_0 : wc.cell? ⟨gb538, 0, none⟩ = some (.int .i64 a0_0) := (blk_cell BK538.out 0).trans rfl
                            have hcz134_1 : wc.cell? ⟨gb538, 1, none⟩ = some (.int .i64 a0_1) := (blk_cell BK538.out 1).trans rfl
                            have hcz134_2 : wc.cell? ⟨gb538, 2, none⟩ = some (.int .i64 a0_2) := (blk_cell BK538.out 2).trans rfl
                            have hcz134_3 : wc.cell? ⟨gb538, 3, none⟩ = some (.int .i64 a0_3) := (blk_cell BK538.out 3).trans rfl
                            have hfz134_0 := blk_frozen BK538.out 0
                            have hfz134_1 := blk_frozen BK538.out 1
                            have hfz134_2 := blk_frozen BK538.out 2
                            have hfz134_3 := blk_frozen BK538.out 3
                            have hnb135 := NB539_540.out
                            have hnc135 := NB540_539.out
                            have hcz136_0 : wc.cell? ⟨gb539, 0, none⟩ = some (.int .i64 a1_0) := (blk_cell BK539.out 0).trans rfl
                            have hcz136_1 : wc.cell? ⟨gb539, 1, none⟩ = some (.int .i64 a1_1) := (blk_cell BK539.out 1).trans rfl
                            have hcz136_2 : wc.cell? ⟨gb539, 2, none⟩ = some (.int .i64 a1_2) := (blk_cell BK539.out 2).trans rfl
                            have hcz136_3 : wc.cell? ⟨gb539, 3, none⟩ = some (.int .i64 a1_3) := (blk_cell BK539.out 3).trans rfl
                            have hfz136_0 := blk_frozen BK539.out 0
                            have hfz136_1 := blk_frozen BK539.out 1
                            have hfz136_2 := blk_frozen BK539.out 2
                            have hfz136_3 := blk_frozen BK539.out 3
                            go_wp2_with (first | ((with_reducible refine gate_callee (f := 21) rfl ?_); refine goesL_ (some 77) rfl rfl Try.func21 (by kernel_rfl) rfl #[.agg #[.int .i64 a0_0, .int .i64 a0_1, .int .i64 a0_2, .int .i64 a0_3], .agg #[.int .i64 a1_0, .int .i64 a1_1, .int .i64 a1_2, .int .i64 a1_3]] rfl (by (try simp only [List.map_toArray, List.map_cons, List.map_nil]); first | done | rfl | (simp only [List.length_drop, List.length_take]; rfl)) ?_; (with_reducible refine (rect_Intersect.calls a0_0 a0_1 a0_2 a0_3 a1_0 a1_1 a1_2 a1_3 t561 t562 t563 t564 _ A115.out).mono ?_); rintro e w137 ⟨rfl, hb⟩; refine ⟨_, rfl, ?_⟩; have n0_ := Aside0.mk (blk_below (g := gb538) (o := .cells #[.int .i64 a0_0, .int .i64 a0_1, .int .i64 a0_2, .int .i64 a0_3] 23 (0, 0)) (by (with_reducible repeat (first | refine blk_drewN ?_ _ | refine blk_drew ?_ | refine blk_alloc ?_ _)); exact BK538.out) hb); have n1_ := Aside0.mk (blk_below (g := gb539) (o := .cells #[.int .i64 a1_0, .int .i64 a1_1, .int .i64 a1_2, .int .i64 a1_3] 23 (0, 0)) (by (with_reducible repeat (first | refine blk_drewN ?_ _ | refine blk_drew ?_ | refine blk_alloc ?_ _)); exact BK539.out) hb); have n2_ := Aside0.mk (blk_below (g := gb540) (o := .cells #[.int .i64 a2_0, .int .i64 a2_1] 30 (0, 0)) (by (with_reducible repeat (first | refine blk_drewN ?_ _ | refine blk_drew ?_ | refine blk_alloc ?_ _)); exact BK540.out) hb); have n3_ := Aside0.mk (below_step (by repeat (first | (with_reducible first | exact HB.out | apply below_alloc | apply pw_below_drewN | apply below_drew1 | refine below_set ?_ GE538.out | refine below_set ?_ GE539.out | refine below_set ?_ GE540.out) | exact HB.out)) hb); clear BK538; clear BK539; clear BK540; clear HB; have BK538 := n0_; have BK539 := n1_; have BK540 := n2_; have HB := n3_; clear n0_ n1_ n2_ n3_; (try clear hb); (try clear hb2); (try clear hk); (try clear hi)) | ((with_reducible refine gate_callee (f := 27) rfl ?_); refine goesL_ (some 80) rfl rfl Try.func27 (by kernel_rfl) rfl #[.agg #[.int .i64 t561, .int .i64 t562, .int .i64 t563, .int .i64 t564], .int .i64 a2_0, .int .i64 a2_1] rfl (by (try simp only [List.map_toArray, List.map_cons, List.map_nil]); first | done | rfl | (simp only [List.length_drop, List.length_take]; rfl)) ?_; (with_reducible refine (rect_Contains.calls t561 t562 t563 t564 a2_0 a2_1 t565 _ A116.out).mono ?_); rintro e w138 ⟨rfl, hb⟩; refine ⟨_, rfl, ?_⟩; have n0_ := Aside0.mk (blk_below (g := gb538) (o := .cells #[.int .i64 a0_0, .int .i64 a0_1, .int .i64 a0_2, .int .i64 a0_3] 23 (0, 0)) (by (with_reducible repeat (first | refine blk_drewN ?_ _ | refine blk_drew ?_ | refine blk_alloc ?_ _)); exact BK538.out) hb); have n1_ := Aside0.mk (blk_below (g := gb539) (o := .cells #[.int .i64 a1_0, .int .i64 a1_1, .int .i64 a1_2, .int .i64 a1_3] 23 (0, 0)) (by (with_reducible repeat (first | refine blk_drewN ?_ _ | refine blk_drew ?_ | refine blk_alloc ?_ _)); exact BK539.out) hb); have n2_ := Aside0.mk (blk_below (g := gb540) (o := .cells #[.int .i64 a2_0, .int .i64 a2_1] 30 (0, 0)) (by (with_reducible repeat (first | refine blk_drewN ?_ _ | refine blk_drew ?_ | refine blk_alloc ?_ _)); exact BK540.out) hb); have n3_ := Aside0.mk (below_step (by repeat (first | (with_reducible first | exact HB.out | apply below_alloc | apply pw_below_drewN | apply below_drew1 | refine below_set ?_ GE538.out | refine below_set ?_ GE539.out | refine below_set ?_ GE540.out) | exact HB.out)) hb); clear BK538; clear BK539; clear BK540; clear HB; have BK538 := n0_; have BK539 := n1_; have BK540 := n2_; have HB := n3_; clear n0_ n1_ n2_ n3_; (try clear hb); (try clear hb2); (try clear hk); (try clear hi)) | (go_at_call 15; (with_reducible refine (compositorlaw04_exampleHolds.calls kj32  t567 _ A131.out).mono ?_); rintro e w139 ⟨rfl, hb⟩; have n0_ := Aside0.mk (blk_below (g := gb538) (o := .cells #[.int .i64 a0_0, .int .i64 a0_1, .int .i64 a0_2, .int .i64 a0_3] 23 (0, 0)) (by (with_reducible repeat (first | refine blk_drewN ?_ _ | refine blk_drew ?_ | refine blk_alloc ?_ _)); exact BK538.out) hb); have n1_ := Aside0.mk (blk_below (g := gb539) (o := .cells #[.int .i64 a1_0, .int .i64 a1_1, .int .i64 a1_2, .int .i64 a1_3] 23 (0, 0)) (by (with_reducible repeat (first | refine blk_drewN ?_ _ | refine blk_drew ?_ | refine blk_alloc ?_ _)); exact BK539.out) hb); have n2_ := Aside0.mk (blk_below (g := gb540) (o := .cells #[.int .i64 a2_0, .int .i64 a2_1] 30 (0, 0)) (by (with_reducible repeat (first | refine blk_drewN ?_ _ | refine blk_drew ?_ | refine blk_alloc ?_ _)); exact BK540.out) hb); have n3_ := Aside0.mk (below_step (by repeat (first | (with_reducible first | exact HB.out | apply below_alloc | apply pw_below_drewN | apply below_drew1 | refine below_set ?_ GE538.out | refine below_set ?_ GE539.out | refine below_set ?_ GE540.out) | exact HB.out)) hb); clear BK538; clear BK539; clear BK540; clear HB; have BK538 := n0_; have BK539 := n1_; have BK540 := n2_; have HB := n3_; clear n0_ n1_ n2_ n3_; (try clear hb); (try clear hb2); (try clear hk); (try clear hi)))
                            go_ret
                            exact ⟨by first | rfl | (simp [errW_none, errW_some] <;> rfl) | (simp [*, errW_none, errW_some] <;> rfl), by repeat (first | (with_reducible first | exact HB.out | apply below_alloc | apply pw_below_drewN | apply below_drew1 | refine below_set ?_ GE538.out | refine below_set ?_ GE539.out | refine below_set ?_ GE540.out) | exact HB.out)⟩
                          · rw [if_neg c130] at H
                            have c130b0 : (x11_1 == x14_30) = false := beq_eq_false_iff_ne.mpr c130
                            have c130b1 : (x11_1 != x14_30) = true := bne_iff_ne.mpr c130
                            exact absurd H (by simp)
                        · rw [if_neg c129] at H
                          have c129b0 : (t565 == false) = false := by simpa using c129
                          (try (have c129b1 : decide (t565 = false) = false := by simpa using c129))
                          (try (have c129b2 : (t565 == false) = false := by simpa using c129))
                          (try (have c129b3 : ¬ (t565 = false) := by simpa using c129))
                          clear c129
                          exact absurd H (by simp)

end Go.Proofs.Ytloojhnohofonaa.All
