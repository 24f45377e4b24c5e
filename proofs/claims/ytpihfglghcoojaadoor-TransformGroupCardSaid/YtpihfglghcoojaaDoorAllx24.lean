-- Written by a program of this session, which runs the kit's print.py and puts in functions that this session typed. Not trusted: Lean checks it.
import Derived.Test.YtpihfglghcoojaaDoorAllx0
import Derived.Test.YtpihfglghcoojaaDoorAllx4
import Derived.Test.YtpihfglghcoojaaDoorAllx5
import Derived.Test.YtpihfglghcoojaaDoorAllx8
import Derived.Test.YtpihfglghcoojaaDoorAllx15
import Derived.Test.YtpihfglghcoojaaDoorAllx23
namespace Go.Proofs.YtpihfglghcoojaaDoor.All
open Go.RowKit Go.Proofs.YtpihfglghcoojaaDoorW.PrintWords Go.Proofs.YtpihfglghcoojaaDoorW.PrintLast Go.Proofs.YtpihfglghcoojaaDoorW.PrintMore
attribute [local go_sem] max2_int min2_int max_two min_two max_three min_three max_four min_four   -- for this text's walks alone
set_option linter.unusedVariables false
set_option linter.unusedSimpArgs false

/-! ### compositorlaw07_TransformGroup: function 5 -/
def compositorlaw07_TransformGroup.j0 : Nat → Int → Int → Int → Bool → Option (Bool)
  | 0, _, _, _, _ => none
  | k + 1, x0, x1, x7, x41 => if x41 = true then (some false) else ((transform_Invert.f x0).bind fun t264 => ((transform_Compose.f x0 t264).bind fun t265 => (if t265 = 0 then ((transform_Compose.f t264 x0).bind fun t266 => (if t266 = 0 then ((transform_Invert.f x7).bind fun t267 => ((transform_Invert.f x1).bind fun t268 => ((transform_Compose.f t268 t264).bind fun t269 => (if t267 = t269 then ((compositorlaw07_exampleHolds.f k).bind fun t270 => (some t270)) else (some false))))) else (some false))) else (some false))))
def compositorlaw07_TransformGroup.f (k : Nat) (a0 : Int) (a1 : Int) (a2 : Int) : Option (Bool) := (transform_Compose.f a0 a1).bind fun t255 => ((transform_Compose.f a1 a2).bind fun t256 => ((transform_Valid.f t255).bind fun t257 => (if t257 = true then ((transform_Compose.f t255 a2).bind fun t258 => ((transform_Compose.f a0 t256).bind fun t259 => (if t258 = t259 then ((transform_Compose.f a0 0).bind fun t260 => ((compositorlaw07_clean.f a0).bind fun t261 => (if t260 = t261 then ((transform_Compose.f 0 a0).bind fun t262 => ((compositorlaw07_clean.f a0).bind fun t263 => (compositorlaw07_TransformGroup.j0 k a0 a1 t255 (t262 != t263)))) else (compositorlaw07_TransformGroup.j0 k a0 a1 t255 true)))) else (compositorlaw07_TransformGroup.j0 k a0 a1 t255 true)))) else (compositorlaw07_TransformGroup.j0 k a0 a1 t255 true))))
theorem compositorlaw07_TransformGroup.mono_l : ∀ k, (∀ y0 y1 y2 y3, LeO (compositorlaw07_TransformGroup.j0 k y0 y1 y2 y3) (compositorlaw07_TransformGroup.j0 (k + 1) y0 y1 y2 y3))
  | 0 => fun _ _ _ _ r h => by simp [compositorlaw07_TransformGroup.j0] at h
  | k + 1 => by
    have ih0 := compositorlaw07_TransformGroup.mono_l k
    · intro y0 y1 y2 y3
      unfold compositorlaw07_TransformGroup.j0
      repeat' first
      | (with_reducible exact ih0 _ _ _ _)
      | (with_reducible exact compositorlaw07_exampleHolds.mono _)
      | (with_reducible exact LeO.refl _)
      | (with_reducible exact LeO.none _)
      | (with_reducible refine LeO.ite ?_ ?_)
      | (with_reducible refine LeO.bind ?_ (fun _ => ?_))
      | exact ih0 _ _ _ _
      | exact compositorlaw07_exampleHolds.mono _
      | exact LeO.none _
      | refine LeO.ite ?_ ?_
      | refine LeO.bind ?_ (fun _ => ?_)
theorem compositorlaw07_TransformGroup.mono : ∀ a0 a1 a2 k, LeO (compositorlaw07_TransformGroup.f k a0 a1 a2) (compositorlaw07_TransformGroup.f (k + 1) a0 a1 a2) := by
  intro a0 a1 a2 k
  have ih0 := compositorlaw07_TransformGroup.mono_l k
  unfold compositorlaw07_TransformGroup.f
  repeat' first
      | (with_reducible exact ih0 _ _ _ _)
      | (with_reducible exact compositorlaw07_exampleHolds.mono _)
      | (with_reducible exact LeO.refl _)
      | (with_reducible exact LeO.none _)
      | (with_reducible refine LeO.ite ?_ ?_)
      | (with_reducible refine LeO.bind ?_ (fun _ => ?_))
      | exact ih0 _ _ _ _
      | exact compositorlaw07_exampleHolds.mono _
      | exact LeO.none _
      | refine LeO.ite ?_ ?_
      | refine LeO.bind ?_ (fun _ => ?_)
set_option maxHeartbeats 8000000 in
set_option maxRecDepth 100000 in
theorem compositorlaw07_TransformGroup.calls (k : Nat) (a0 : Int) (a1 : Int) (a2 : Int) (w : World) (h : compositorlaw07_TransformGroup.f k a0 a1 a2 = some true) (hT_ : Go.Proofs.YtpihfglghcoojaaDoorHand.Tab w) :
    Calls Tryd.prog 5 #[.int .i64 a0, .int .i64 a1, .int .i64 a2] w fun e w' => e = .returned (.bool true) ∧ Below w.heap.size w w' := by
  have HB := Aside0.mk (Below.refl w.heap.size w)
  have HTab_ := Aside0.mk hT_
  clear hT_
  have H : ((transform_Compose.f a0 a1).bind fun t255 => ((transform_Compose.f a1 a2).bind fun t256 => ((transform_Valid.f t255).bind fun t257 => (if t257 = true then ((transform_Compose.f t255 a2).bind fun t258 => ((transform_Compose.f a0 t256).bind fun t259 => (if t258 = t259 then ((transform_Compose.f a0 0).bind fun t260 => ((compositorlaw07_clean.f a0).bind fun t261 => (if t260 = t261 then ((transform_Compose.f 0 a0).bind fun t262 => ((compositorlaw07_clean.f a0).bind fun t263 => (compositorlaw07_TransformGroup.j0 k a0 a1 t255 (t262 != t263)))) else (compositorlaw07_TransformGroup.j0 k a0 a1 t255 true)))) else (compositorlaw07_TransformGroup.j0 k a0 a1 t255 true)))) else (compositorlaw07_TransformGroup.j0 k a0 a1 t255 true))))) = some true := h
  clear h
  replace H := Option.bind_eq_some_iff.mp H
  obtain ⟨t255, A40, H⟩ := H
  replace H : ((transform_Compose.f a1 a2).bind fun t256 => ((transform_Valid.f t255).bind fun t257 => (if t257 = true then ((transform_Compose.f t255 a2).bind fun t258 => ((transform_Compose.f a0 t256).bind fun t259 => (if t258 = t259 then ((transform_Compose.f a0 0).bind fun t260 => ((compositorlaw07_clean.f a0).bind fun t261 => (if t260 = t261 then ((transform_Compose.f 0 a0).bind fun t262 => ((compositorlaw07_clean.f a0).bind fun t263 => (compositorlaw07_TransformGroup.j0 k a0 a1 t255 (t262 != t263)))) else (compositorlaw07_TransformGroup.j0 k a0 a1 t255 true)))) else (compositorlaw07_TransformGroup.j0 k a0 a1 t255 true)))) else (compositorlaw07_TransformGroup.j0 k a0 a1 t255 true)))) = some true := H
  have A4 := Aside0.mk A40
  clear A40
  replace H := Option.bind_eq_some_iff.mp H
  obtain ⟨t256, A50, H⟩ := H
  replace H : ((transform_Valid.f t255).bind fun t257 => (if t257 = true then ((transform_Compose.f t255 a2).bind fun t258 => ((transform_Compose.f a0 t256).bind fun t259 => (if t258 = t259 then ((transform_Compose.f a0 0).bind fun t260 => ((compositorlaw07_clean.f a0).bind fun t261 => (if t260 = t261 then ((transform_Compose.f 0 a0).bind fun t262 => ((compositorlaw07_clean.f a0).bind fun t263 => (compositorlaw07_TransformGroup.j0 k a0 a1 t255 (t262 != t263)))) else (compositorlaw07_TransformGroup.j0 k a0 a1 t255 true)))) else (compositorlaw07_TransformGroup.j0 k a0 a1 t255 true)))) else (compositorlaw07_TransformGroup.j0 k a0 a1 t255 true))) = some true := H
  have A5 := Aside0.mk A50
  clear A50
  have HC6 := Aside0.mk H
  clear H
  go_enter Tryd.func5, Tryd.ntmps5
  go_upto_region 2 with (first | ((with_reducible refine gate_callee (f := 14) rfl ?_); refine goesL_ (some 12) rfl rfl Tryd.func14 (by kernel_rfl) rfl #[.int .i64 a0, .int .i64 a1] rfl (by (try simp only [List.map_toArray, List.map_cons, List.map_nil]); first | done | rfl | (simp only [List.length_drop, List.length_take]; rfl)) ?_; (with_reducible refine (transform_Compose.calls a0 a1 t255 _ A4.out (Go.Proofs.YtpihfglghcoojaaDoorHand.tb_ HTab_ HB)).mono ?_); rintro e w7 ⟨rfl, hb⟩; refine ⟨_, rfl, ?_⟩; have n0_ := Aside0.mk (below_step (by repeat (first | (with_reducible first | exact HB.out | apply below_alloc | apply pw_below_drewN | apply below_drew1) | exact HB.out)) hb); clear HB; have HB := n0_; clear n0_; (try clear hb); (try clear hb2); (try clear hk); (try clear hi)) | ((with_reducible refine gate_callee (f := 14) rfl ?_); refine goesL_ (some 15) rfl rfl Tryd.func14 (by kernel_rfl) rfl #[.int .i64 a1, .int .i64 a2] rfl (by (try simp only [List.map_toArray, List.map_cons, List.map_nil]); first | done | rfl | (simp only [List.length_drop, List.length_take]; rfl)) ?_; (with_reducible refine (transform_Compose.calls a1 a2 t256 _ A5.out (Go.Proofs.YtpihfglghcoojaaDoorHand.tb_ HTab_ HB)).mono ?_); rintro e w8 ⟨rfl, hb⟩; refine ⟨_, rfl, ?_⟩; have n0_ := Aside0.mk (below_step (by repeat (first | (with_reducible first | exact HB.out | apply below_alloc | apply pw_below_drewN | apply below_drew1) | exact HB.out)) hb); clear HB; have HB := n0_; clear n0_; (try clear hb); (try clear hb2); (try clear hk); (try clear hi)))
  (try simp only [Act.put, List.setIfInBounds_toArray, List.set_cons_zero, List.set_cons_succ])
  go_cut [41] (fun v41 wc => ∃ (kq : Nat) (x41_5 : Bool), v41 = .bool x41_5 ∧ Aside0 (compositorlaw07_TransformGroup.j0 kq a0 a1 t255 x41_5 = some true) ∧ Aside0 (kq ≤ k) ∧ Aside0 (Below w.heap.size w wc))
  case first =>
    have H := HC6.out
    clear HC6
    replace H := Option.bind_eq_some_iff.mp H
    obtain ⟨t257, A90, H⟩ := H
    replace H : (if t257 = true then ((transform_Compose.f t255 a2).bind fun t258 => ((transform_Compose.f a0 t256).bind fun t259 => (if t258 = t259 then ((transform_Compose.f a0 0).bind fun t260 => ((compositorlaw07_clean.f a0).bind fun t261 => (if t260 = t261 then ((transform_Compose.f 0 a0).bind fun t262 => ((compositorlaw07_clean.f a0).bind fun t263 => (compositorlaw07_TransformGroup.j0 k a0 a1 t255 (t262 != t263)))) else (compositorlaw07_TransformGroup.j0 k a0 a1 t255 true)))) else (compositorlaw07_TransformGroup.j0 k a0 a1 t255 true)))) else (compositorlaw07_TransformGroup.j0 k a0 a1 t255 true)) = some true := H
    have A9 := Aside0.mk A90
    clear A90
    by_cases c10 : t257 = true
    · subst c10
      have H1 : ((transform_Compose.f t255 a2).bind fun t258 => ((transform_Compose.f a0 t256).bind fun t259 => (if t258 = t259 then ((transform_Compose.f a0 0).bind fun t260 => ((compositorlaw07_clean.f a0).bind fun t261 => (if t260 = t261 then ((transform_Compose.f 0 a0).bind fun t262 => ((compositorlaw07_clean.f a0).bind fun t263 => (compositorlaw07_TransformGroup.j0 k a0 a1 t255 (t262 != t263)))) else (compositorlaw07_TransformGroup.j0 k a0 a1 t255 true)))) else (compositorlaw07_TransformGroup.j0 k a0 a1 t255 true)))) = some true := by rw [if_pos rfl] at H; exact H
      clear H
      have H := H1
      clear H1
      replace H := Option.bind_eq_some_iff.mp H
      obtain ⟨t258, A110, H⟩ := H
      replace H : ((transform_Compose.f a0 t256).bind fun t259 => (if t258 = t259 then ((transform_Compose.f a0 0).bind fun t260 => ((compositorlaw07_clean.f a0).bind fun t261 => (if t260 = t261 then ((transform_Compose.f 0 a0).bind fun t262 => ((compositorlaw07_clean.f a0).bind fun t263 => (compositorlaw07_TransformGroup.j0 k a0 a1 t255 (t262 != t263)))) else (compositorlaw07_TransformGroup.j0 k a0 a1 t255 true)))) else (compositorlaw07_TransformGroup.j0 k a0 a1 t255 true))) = some true := H
      have A11 := Aside0.mk A110
      clear A110
      replace H := Option.bind_eq_some_iff.mp H
      obtain ⟨t259, A120, H⟩ := H
      replace H : (if t258 = t259 then ((transform_Compose.f a0 0).bind fun t260 => ((compositorlaw07_clean.f a0).bind fun t261 => (if t260 = t261 then ((transform_Compose.f 0 a0).bind fun t262 => ((compositorlaw07_clean.f a0).bind fun t263 => (compositorlaw07_TransformGroup.j0 k a0 a1 t255 (t262 != t263)))) else (compositorlaw07_TransformGroup.j0 k a0 a1 t255 true)))) else (compositorlaw07_TransformGroup.j0 k a0 a1 t255 true)) = some true := H
      have A12 := Aside0.mk A120
      clear A120
      by_cases c13 : t258 = t259
      · rw [if_pos c13] at H
        have c13b0 : (t258 == t259) = true := beq_iff_eq.mpr c13
        have c13b1 : (t258 != t259) = false := bne_eq_false_iff_eq.mpr c13
        clear c13
        (first | rw [c13b0] | (simp only [i64_w, i32_w]; rw [c13b0]) | skip)
        replace H := Option.bind_eq_some_iff.mp H
        obtain ⟨t260, A140, H⟩ := H
        replace H : ((compositorlaw07_clean.f a0).bind fun t261 => (if t260 = t261 then ((transform_Compose.f 0 a0).bind fun t262 => ((compositorlaw07_clean.f a0).bind fun t263 => (compositorlaw07_TransformGroup.j0 k a0 a1 t255 (t262 != t263)))) else (compositorlaw07_TransformGroup.j0 k a0 a1 t255 true))) = some true := H
        have A14 := Aside0.mk A140
        clear A140
        replace H := Option.bind_eq_some_iff.mp H
        obtain ⟨t261, A150, H⟩ := H
        replace H : (if t260 = t261 then ((transform_Compose.f 0 a0).bind fun t262 => ((compositorlaw07_clean.f a0).bind fun t263 => (compositorlaw07_TransformGroup.j0 k a0 a1 t255 (t262 != t263)))) else (compositorlaw07_TransformGroup.j0 k a0 a1 t255 true)) = some true := H
        have A15 := Aside0.mk A150
        clear A150
        by_cases c16 : t260 = t261
        · rw [if_pos c16] at H
          have c16b0 : (t260 == t261) = true := beq_iff_eq.mpr c16
          have c16b1 : (t260 != t261) = false := bne_eq_false_iff_eq.mpr c16
          clear c16
          replace H := Option.bind_eq_some_iff.mp H
          obtain ⟨t262, A170, H⟩ := H
          replace H : ((compositorlaw07_clean.f a0).bind fun t263 => (compositorlaw07_TransformGroup.j0 k a0 a1 t255 (t262 != t263))) = some true := H
          have A17 := Aside0.mk A170
          clear A170
          replace H := Option.bind_eq_some_iff.mp H
          obtain ⟨t263, A180, H⟩ := H
          replace H : (compositorlaw07_TransformGroup.j0 k a0 a1 t255 (t262 != t263)) = some true := H
          have A18 := Aside0.mk A180
          clear A180
          have H' := Aside0.mk H
          clear H
          go_wp2_with (first | ((with_reducible refine gate_callee (f := 12) rfl ?_); refine goesL_ (some 17) rfl rfl Tryd.func12 (by kernel_rfl) rfl #[.int .i64 t255] rfl (by (try simp only [List.map_toArray, List.map_cons, List.map_nil]); first | done | rfl | (simp only [List.length_drop, List.length_take]; rfl)) ?_; (with_reducible refine (transform_Valid.calls t255 true _ A9.out).mono ?_); rintro e w' ⟨rfl, ⟨nd, rfl⟩⟩; refine ⟨_, rfl, ?_⟩) | (go_at_call 14; (with_reducible refine (transform_Compose.calls t255 a2 t258 _ A11.out (Go.Proofs.YtpihfglghcoojaaDoorHand.tb_ HTab_ HB)).mono ?_); rintro e w19 ⟨rfl, hb⟩; have n0_ := Aside0.mk (below_step (by repeat (first | (with_reducible first | exact HB.out | apply below_alloc | apply pw_below_drewN | apply below_drew1) | exact HB.out)) hb); clear HB; have HB := n0_; clear n0_; (try clear hb); (try clear hb2); (try clear hk); (try clear hi)) | (go_at_call 14; (with_reducible refine (transform_Compose.calls a0 t256 t259 _ A12.out (Go.Proofs.YtpihfglghcoojaaDoorHand.tb_ HTab_ HB)).mono ?_); rintro e w20 ⟨rfl, hb⟩; have n0_ := Aside0.mk (below_step (by repeat (first | (with_reducible first | exact HB.out | apply below_alloc | apply pw_below_drewN | apply below_drew1) | exact HB.out)) hb); clear HB; have HB := n0_; clear n0_; (try clear hb); (try clear hb2); (try clear hk); (try clear hi)) | (go_at_call 14; (with_reducible refine (transform_Compose.calls a0 0 t260 _ A14.out (Go.Proofs.YtpihfglghcoojaaDoorHand.tb_ HTab_ HB)).mono ?_); rintro e w21 ⟨rfl, hb⟩; have n0_ := Aside0.mk (below_step (by repeat (first | (with_reducible first | exact HB.out | apply below_alloc | apply pw_below_drewN | apply below_drew1) | exact HB.out)) hb); clear HB; have HB := n0_; clear n0_; (try clear hb); (try clear hb2); (try clear hk); (try clear hi)) | (go_at_call 23; (with_reducible refine (compositorlaw07_clean.calls a0 t261 _ A15.out).mono ?_); (try clear A15); rintro e w' ⟨rfl, ⟨nd, rfl⟩⟩) | (go_at_call 14; (with_reducible refine (transform_Compose.calls 0 a0 t262 _ A17.out (Go.Proofs.YtpihfglghcoojaaDoorHand.tb_ HTab_ HB)).mono ?_); rintro e w22 ⟨rfl, hb⟩; have n0_ := Aside0.mk (below_step (by repeat (first | (with_reducible first | exact HB.out | apply below_alloc | apply pw_below_drewN | apply below_drew1) | exact HB.out)) hb); clear HB; have HB := n0_; clear n0_; (try clear hb); (try clear hb2); (try clear hk); (try clear hi)) | (go_at_call 23; (with_reducible refine (compositorlaw07_clean.calls a0 t263 _ A18.out).mono ?_); rintro e w' ⟨rfl, ⟨nd, rfl⟩⟩))
          go_meet
          case rel => exact ⟨_, ((t262 != t263)), (by first | rfl | (simp; done) | (simp [*]; done)), H', ⟨by first | omega | exact Nat.le_refl _⟩, ⟨by repeat (first | (with_reducible first | exact HB.out | apply below_alloc | apply pw_below_drewN | apply below_drew1) | exact HB.out)⟩⟩
        · rw [if_neg c16] at H
          have c16b0 : (t260 == t261) = false := beq_eq_false_iff_ne.mpr c16
          have c16b1 : (t260 != t261) = true := bne_iff_ne.mpr c16
          have H' := Aside0.mk H
          clear H
          go_wp2_with (first | ((with_reducible refine gate_callee (f := 12) rfl ?_); refine goesL_ (some 17) rfl rfl Tryd.func12 (by kernel_rfl) rfl #[.int .i64 t255] rfl (by (try simp only [List.map_toArray, List.map_cons, List.map_nil]); first | done | rfl | (simp only [List.length_drop, List.length_take]; rfl)) ?_; (with_reducible refine (transform_Valid.calls t255 true _ A9.out).mono ?_); rintro e w' ⟨rfl, ⟨nd, rfl⟩⟩; refine ⟨_, rfl, ?_⟩) | (go_at_call 14; (with_reducible refine (transform_Compose.calls t255 a2 t258 _ A11.out (Go.Proofs.YtpihfglghcoojaaDoorHand.tb_ HTab_ HB)).mono ?_); rintro e w23 ⟨rfl, hb⟩; have n0_ := Aside0.mk (below_step (by repeat (first | (with_reducible first | exact HB.out | apply below_alloc | apply pw_below_drewN | apply below_drew1) | exact HB.out)) hb); clear HB; have HB := n0_; clear n0_; (try clear hb); (try clear hb2); (try clear hk); (try clear hi)) | (go_at_call 14; (with_reducible refine (transform_Compose.calls a0 t256 t259 _ A12.out (Go.Proofs.YtpihfglghcoojaaDoorHand.tb_ HTab_ HB)).mono ?_); rintro e w24 ⟨rfl, hb⟩; have n0_ := Aside0.mk (below_step (by repeat (first | (with_reducible first | exact HB.out | apply below_alloc | apply pw_below_drewN | apply below_drew1) | exact HB.out)) hb); clear HB; have HB := n0_; clear n0_; (try clear hb); (try clear hb2); (try clear hk); (try clear hi)) | (go_at_call 14; (with_reducible refine (transform_Compose.calls a0 0 t260 _ A14.out (Go.Proofs.YtpihfglghcoojaaDoorHand.tb_ HTab_ HB)).mono ?_); rintro e w25 ⟨rfl, hb⟩; have n0_ := Aside0.mk (below_step (by repeat (first | (with_reducible first | exact HB.out | apply below_alloc | apply pw_below_drewN | apply below_drew1) | exact HB.out)) hb); clear HB; have HB := n0_; clear n0_; (try clear hb); (try clear hb2); (try clear hk); (try clear hi)) | (go_at_call 23; (with_reducible refine (compositorlaw07_clean.calls a0 t261 _ A15.out).mono ?_); rintro e w' ⟨rfl, ⟨nd, rfl⟩⟩))
          go_meet
          case rel => exact ⟨_, (true), (by first | rfl | (simp; done) | (simp [*]; done)), H', ⟨by first | omega | exact Nat.le_refl _⟩, ⟨by repeat (first | (with_reducible first | exact HB.out | apply below_alloc | apply pw_below_drewN | apply below_drew1) | exact HB.out)⟩⟩
      · rw [if_neg c13] at H
        have c13b0 : (t258 == t259) = false := beq_eq_false_iff_ne.mpr c13
        have c13b1 : (t258 != t259) = true := bne_iff_ne.mpr c13
        (first | rw [c13b0] | (simp only [i64_w, i32_w]; rw [c13b0]) | skip)
        have H' := Aside0.mk H
        clear H
        go_wp2_with (first | ((with_reducible refine gate_callee (f := 12) rfl ?_); refine goesL_ (some 17) rfl rfl Tryd.func12 (by kernel_rfl) rfl #[.int .i64 t255] rfl (by (try simp only [List.map_toArray, List.map_cons, List.map_nil]); first | done | rfl | (simp only [List.length_drop, List.length_take]; rfl)) ?_; (with_reducible refine (transform_Valid.calls t255 true _ A9.out).mono ?_); rintro e w' ⟨rfl, ⟨nd, rfl⟩⟩; refine ⟨_, rfl, ?_⟩) | (go_at_call 14; (with_reducible refine (transform_Compose.calls t255 a2 t258 _ A11.out (Go.Proofs.YtpihfglghcoojaaDoorHand.tb_ HTab_ HB)).mono ?_); rintro e w26 ⟨rfl, hb⟩; have n0_ := Aside0.mk (below_step (by repeat (first | (with_reducible first | exact HB.out | apply below_alloc | apply pw_below_drewN | apply below_drew1) | exact HB.out)) hb); clear HB; have HB := n0_; clear n0_; (try clear hb); (try clear hb2); (try clear hk); (try clear hi)) | (go_at_call 14; (with_reducible refine (transform_Compose.calls a0 t256 t259 _ A12.out (Go.Proofs.YtpihfglghcoojaaDoorHand.tb_ HTab_ HB)).mono ?_); rintro e w27 ⟨rfl, hb⟩; have n0_ := Aside0.mk (below_step (by repeat (first | (with_reducible first | exact HB.out | apply below_alloc | apply pw_below_drewN | apply below_drew1) | exact HB.out)) hb); clear HB; have HB := n0_; clear n0_; (try clear hb); (try clear hb2); (try clear hk); (try clear hi)))
        go_meet
        case rel => exact ⟨_, (true), (by first | rfl | (simp; done) | (simp [*]; done)), H', ⟨by first | omega | exact Nat.le_refl _⟩, ⟨by repeat (first | (with_reducible first | exact HB.out | apply below_alloc | apply pw_below_drewN | apply below_drew1) | exact HB.out)⟩⟩
    · replace c10 := Bool.eq_false_iff.mpr c10
      subst c10
      have H1 : (compositorlaw07_TransformGroup.j0 k a0 a1 t255 true) = some true := by rw [if_neg (show ¬ (false = true) by decide)] at H; exact H
      clear H
      have H := H1
      clear H1
      have H' := Aside0.mk H
      clear H
      go_wp2_with (first | ((with_reducible refine gate_callee (f := 12) rfl ?_); refine goesL_ (some 17) rfl rfl Tryd.func12 (by kernel_rfl) rfl #[.int .i64 t255] rfl (by (try simp only [List.map_toArray, List.map_cons, List.map_nil]); first | done | rfl | (simp only [List.length_drop, List.length_take]; rfl)) ?_; (with_reducible refine (transform_Valid.calls t255 false _ A9.out).mono ?_); rintro e w' ⟨rfl, ⟨nd, rfl⟩⟩; refine ⟨_, rfl, ?_⟩))
      go_meet
      case rel => exact ⟨_, (true), (by first | rfl | (simp; done) | (simp [*]; done)), H', ⟨by first | omega | exact Nat.le_refl _⟩, ⟨by repeat (first | (with_reducible first | exact HB.out | apply below_alloc | apply pw_below_drewN | apply below_drew1) | exact HB.out)⟩⟩
  case rest =>
    clear HC6
    try clear c1
    try clear p2
    try clear c5
    try clear c10
    try clear c12
    try clear c13
    try clear c13b0
    try clear c13b1
    try clear c14
    try clear c16
    try clear c16b0
    try clear c16b1
    obtain ⟨kq, x41_5, rfl, HA, HJ5, HB⟩ := hcut
    cases kq with
    | zero => exact absurd HA.out (by simp [compositorlaw07_TransformGroup.j0])
    | succ kj5 =>
      have H := HA.out
      clear HA
      simp only [compositorlaw07_TransformGroup.j0] at H
      by_cases c28 : x41_5 = true
      · subst c28
        have H1 : (some false) = some true := by rw [if_pos rfl] at H; exact H
        clear H
        have H := H1
        clear H1
        exact absurd H (by simp)
      · replace c28 := Bool.eq_false_iff.mpr c28
        subst c28
        have H1 : ((transform_Invert.f a0).bind fun t264 => ((transform_Compose.f a0 t264).bind fun t265 => (if t265 = 0 then ((transform_Compose.f t264 a0).bind fun t266 => (if t266 = 0 then ((transform_Invert.f t255).bind fun t267 => ((transform_Invert.f a1).bind fun t268 => ((transform_Compose.f t268 t264).bind fun t269 => (if t267 = t269 then ((compositorlaw07_exampleHolds.f kj5).bind fun t270 => (some t270)) else (some false))))) else (some false))) else (some false)))) = some true := by rw [if_neg (show ¬ (false = true) by decide)] at H; exact H
        clear H
        have H := H1
        clear H1
        replace H := Option.bind_eq_some_iff.mp H
        obtain ⟨t264, A290, H⟩ := H
        replace H : ((transform_Compose.f a0 t264).bind fun t265 => (if t265 = 0 then ((transform_Compose.f t264 a0).bind fun t266 => (if t266 = 0 then ((transform_Invert.f t255).bind fun t267 => ((transform_Invert.f a1).bind fun t268 => ((transform_Compose.f t268 t264).bind fun t269 => (if t267 = t269 then ((compositorlaw07_exampleHolds.f kj5).bind fun t270 => (some t270)) else (some false))))) else (some false))) else (some false))) = some true := H
        have A29 := Aside0.mk A290
        clear A290
        replace H := Option.bind_eq_some_iff.mp H
        obtain ⟨t265, A300, H⟩ := H
        replace H : (if t265 = 0 then ((transform_Compose.f t264 a0).bind fun t266 => (if t266 = 0 then ((transform_Invert.f t255).bind fun t267 => ((transform_Invert.f a1).bind fun t268 => ((transform_Compose.f t268 t264).bind fun t269 => (if t267 = t269 then ((compositorlaw07_exampleHolds.f kj5).bind fun t270 => (some t270)) else (some false))))) else (some false))) else (some false)) = some true := H
        have A30 := Aside0.mk A300
        clear A300
        by_cases c31 : t265 = 0
        · rw [if_pos c31] at H
          have c31b0 : (t265 == 0) = true := beq_iff_eq.mpr c31
          have c31b1 : (t265 != 0) = false := bne_eq_false_iff_eq.mpr c31
          clear c31
          replace H := Option.bind_eq_some_iff.mp H
          obtain ⟨t266, A320, H⟩ := H
          replace H : (if t266 = 0 then ((transform_Invert.f t255).bind fun t267 => ((transform_Invert.f a1).bind fun t268 => ((transform_Compose.f t268 t264).bind fun t269 => (if t267 = t269 then ((compositorlaw07_exampleHolds.f kj5).bind fun t270 => (some t270)) else (some false))))) else (some false)) = some true := H
          have A32 := Aside0.mk A320
          clear A320
          by_cases c33 : t266 = 0
          · rw [if_pos c33] at H
            have c33b0 : (t266 == 0) = true := beq_iff_eq.mpr c33
            have c33b1 : (t266 != 0) = false := bne_eq_false_iff_eq.mpr c33
            clear c33
            replace H := Option.bind_eq_some_iff.mp H
            obtain ⟨t267, A340, H⟩ := H
            replace H : ((transform_Invert.f a1).bind fun t268 => ((transform_Compose.f t268 t264).bind fun t269 => (if t267 = t269 then ((compositorlaw07_exampleHolds.f kj5).bind fun t270 => (some t270)) else (some false)))) = some true := H
            have A34 := Aside0.mk A340
            clear A340
            replace H := Option.bind_eq_some_iff.mp H
            obtain ⟨t268, A350, H⟩ := H
            replace H : ((transform_Compose.f t268 t264).bind fun t269 => (if t267 = t269 then ((compositorlaw07_exampleHolds.f kj5).bind fun t270 => (some t270)) else (some false))) = some true := H
            have A35 := Aside0.mk A350
            clear A350
            replace H := Option.bind_eq_some_iff.mp H
            obtain ⟨t269, A360, H⟩ := H
            replace H : (if t267 = t269 then ((compositorlaw07_exampleHolds.f kj5).bind fun t270 => (some t270)) else (some false)) = some true := H
            have A36 := Aside0.mk A360
            clear A360
            by_cases c37 : t267 = t269
            · rw [if_pos c37] at H
              have c37b0 : (t267 == t269) = true := beq_iff_eq.mpr c37
              have c37b1 : (t267 != t269) = false := bne_eq_false_iff_eq.mpr c37
              clear c37
              replace H := Option.bind_eq_some_iff.mp H
              obtain ⟨t270, A380, H⟩ := H
              replace H : (some t270) = some true := H
              have A38 := Aside0.mk A380
              clear A380
              have Hq_ := Option.some.inj H
              go_wp2_with (first | ((with_reducible refine gate_callee (f := 16) rfl ?_); refine goesL_ (some 43) rfl rfl Tryd.func16 (by kernel_rfl) rfl #[.int .i64 a0] rfl (by (try simp only [List.map_toArray, List.map_cons, List.map_nil]); first | done | rfl | (simp only [List.length_drop, List.length_take]; rfl)) ?_; (with_reducible refine (transform_Invert.calls a0 t264 _ A29.out (Go.Proofs.YtpihfglghcoojaaDoorHand.tb_ HTab_ HB)).mono ?_); rintro e w39 ⟨rfl, hb⟩; refine ⟨_, rfl, ?_⟩; have n0_ := Aside0.mk (below_step (by repeat (first | (with_reducible first | exact HB.out | apply below_alloc | apply pw_below_drewN | apply below_drew1) | exact HB.out)) hb); clear HB; have HB := n0_; clear n0_; (try clear hb); (try clear hb2); (try clear hk); (try clear hi)) | ((with_reducible refine gate_callee (f := 14) rfl ?_); refine goesL_ (some 46) rfl rfl Tryd.func14 (by kernel_rfl) rfl #[.int .i64 a0, .int .i64 t264] rfl (by (try simp only [List.map_toArray, List.map_cons, List.map_nil]); first | done | rfl | (simp only [List.length_drop, List.length_take]; rfl)) ?_; (with_reducible refine (transform_Compose.calls a0 t264 t265 _ A30.out (Go.Proofs.YtpihfglghcoojaaDoorHand.tb_ HTab_ HB)).mono ?_); rintro e w40 ⟨rfl, hb⟩; refine ⟨_, rfl, ?_⟩; have n0_ := Aside0.mk (below_step (by repeat (first | (with_reducible first | exact HB.out | apply below_alloc | apply pw_below_drewN | apply below_drew1) | exact HB.out)) hb); clear HB; have HB := n0_; clear n0_; (try clear hb); (try clear hb2); (try clear hk); (try clear hi)) | (go_at_call 14; (with_reducible refine (transform_Compose.calls t264 a0 t266 _ A32.out (Go.Proofs.YtpihfglghcoojaaDoorHand.tb_ HTab_ HB)).mono ?_); rintro e w41 ⟨rfl, hb⟩; have n0_ := Aside0.mk (below_step (by repeat (first | (with_reducible first | exact HB.out | apply below_alloc | apply pw_below_drewN | apply below_drew1) | exact HB.out)) hb); clear HB; have HB := n0_; clear n0_; (try clear hb); (try clear hb2); (try clear hk); (try clear hi)) | (go_at_call 16; (with_reducible refine (transform_Invert.calls t255 t267 _ A34.out (Go.Proofs.YtpihfglghcoojaaDoorHand.tb_ HTab_ HB)).mono ?_); rintro e w42 ⟨rfl, hb⟩; have n0_ := Aside0.mk (below_step (by repeat (first | (with_reducible first | exact HB.out | apply below_alloc | apply pw_below_drewN | apply below_drew1) | exact HB.out)) hb); clear HB; have HB := n0_; clear n0_; (try clear hb); (try clear hb2); (try clear hk); (try clear hi)) | (go_at_call 16; (with_reducible refine (transform_Invert.calls a1 t268 _ A35.out (Go.Proofs.YtpihfglghcoojaaDoorHand.tb_ HTab_ HB)).mono ?_); rintro e w43 ⟨rfl, hb⟩; have n0_ := Aside0.mk (below_step (by repeat (first | (with_reducible first | exact HB.out | apply below_alloc | apply pw_below_drewN | apply below_drew1) | exact HB.out)) hb); clear HB; have HB := n0_; clear n0_; (try clear hb); (try clear hb2); (try clear hk); (try clear hi)) | (go_at_call 14; (with_reducible refine (transform_Compose.calls t268 t264 t269 _ A36.out (Go.Proofs.YtpihfglghcoojaaDoorHand.tb_ HTab_ HB)).mono ?_); rintro e w44 ⟨rfl, hb⟩; have n0_ := Aside0.mk (below_step (by repeat (first | (with_reducible first | exact HB.out | apply below_alloc | apply pw_below_drewN | apply below_drew1) | exact HB.out)) hb); clear HB; have HB := n0_; clear n0_; (try clear hb); (try clear hb2); (try clear hk); (try clear hi)) | (go_at_call 18; (with_reducible refine (compositorlaw07_exampleHolds.calls kj5  t270 _ A38.out (Go.Proofs.YtpihfglghcoojaaDoorHand.tb_ HTab_ HB)).mono ?_); rintro e w45 ⟨rfl, hb⟩; have n0_ := Aside0.mk (below_step (by repeat (first | (with_reducible first | exact HB.out | apply below_alloc | apply pw_below_drewN | apply below_drew1) | exact HB.out)) hb); clear HB; have HB := n0_; clear n0_; (try clear hb); (try clear hb2); (try clear hk); (try clear hi)))
              go_ret
              exact ⟨by first | rfl | (simp [errW_none, errW_some] <;> rfl) | (simp [*, errW_none, errW_some] <;> rfl), by repeat (first | (with_reducible first | exact HB.out | apply below_alloc | apply pw_below_drewN | apply below_drew1) | exact HB.out)⟩
            · rw [if_neg c37] at H
              have c37b0 : (t267 == t269) = false := beq_eq_false_iff_ne.mpr c37
              have c37b1 : (t267 != t269) = true := bne_iff_ne.mpr c37
              exact absurd H (by simp)
          · rw [if_neg c33] at H
            have c33b0 : (t266 == 0) = false := beq_eq_false_iff_ne.mpr c33
            have c33b1 : (t266 != 0) = true := bne_iff_ne.mpr c33
            exact absurd H (by simp)
        · rw [if_neg c31] at H
          have c31b0 : (t265 == 0) = false := beq_eq_false_iff_ne.mpr c31
          have c31b1 : (t265 != 0) = true := bne_iff_ne.mpr c31
          exact absurd H (by simp)

end Go.Proofs.YtpihfglghcoojaaDoor.All
