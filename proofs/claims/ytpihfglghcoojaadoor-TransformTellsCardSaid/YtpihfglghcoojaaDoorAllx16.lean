-- Written by a program of this session, which runs the kit's print.py and puts in functions that this session typed. Not trusted: Lean checks it.
import Derived.Test.YtpihfglghcoojaaDoorAllx0
import Derived.Test.YtpihfglghcoojaaDoorAllx4
import Derived.Test.YtpihfglghcoojaaDoorAllx5
import Derived.Test.YtpihfglghcoojaaDoorAllx7
import Derived.Test.YtpihfglghcoojaaDoorAllx8
import Derived.Test.YtpihfglghcoojaaDoorAllx15
namespace Go.Proofs.YtpihfglghcoojaaDoor.All
open Go.RowKit Go.Proofs.YtpihfglghcoojaaDoorW.PrintWords Go.Proofs.YtpihfglghcoojaaDoorW.PrintLast Go.Proofs.YtpihfglghcoojaaDoorW.PrintMore
attribute [local go_sem] max2_int min2_int max_two min_two max_three min_three max_four min_four   -- for this text's walks alone
set_option linter.unusedVariables false
set_option linter.unusedSimpArgs false

/-! ### compositorlaw07_TransformTells: function 3 -/
def compositorlaw07_TransformTells.f (k : Nat) (a0 : Int) (a1 : Int) (a2_0 : Int) (a2_1 : Int) : Option (Bool) := (transform_Size.f a0 a2_0 a2_1).bind fun bt187 => ((compositorref07_Size.f a0 a2_0 a2_1).bind fun bt189 => ((transform_Valid.f a0).bind fun t191 => ((compositorref07_Valid.f a0).bind fun t192 => (if (t191 == t192) = true then ((transform_Compose.f a0 a1).bind fun t193 => ((compositorref07_Compose.f k a0 a1).bind fun t194 => (if t193 = t194 then ((transform_Invert.f a0).bind fun t195 => ((compositorref07_Invert.f k a0).bind fun t196 => (if t195 = t196 then (if bt187.1 = bt189.1 then (if bt187.2 = bt189.2 then ((compositorlaw07_exampleHolds.f k).bind fun t197 => (some t197)) else (some false)) else (some false)) else (some false)))) else (some false)))) else (some false)))))
theorem compositorlaw07_TransformTells.mono : ∀ a0 a1 a2 a3 k, LeO (compositorlaw07_TransformTells.f k a0 a1 a2 a3) (compositorlaw07_TransformTells.f (k + 1) a0 a1 a2 a3) := by
  intro a0 a1 a2 a3 k
  unfold compositorlaw07_TransformTells.f
  repeat' first
      | (with_reducible exact compositorlaw07_exampleHolds.mono _)
      | (with_reducible exact compositorref07_Compose.mono _ _ _)
      | (with_reducible exact compositorref07_Invert.mono _ _)
      | (with_reducible exact LeO.refl _)
      | (with_reducible exact LeO.none _)
      | (with_reducible refine LeO.ite ?_ ?_)
      | (with_reducible refine LeO.bind ?_ (fun _ => ?_))
      | exact compositorlaw07_exampleHolds.mono _
      | exact compositorref07_Compose.mono _ _ _
      | exact compositorref07_Invert.mono _ _
      | exact LeO.none _
      | refine LeO.ite ?_ ?_
      | refine LeO.bind ?_ (fun _ => ?_)
set_option maxHeartbeats 8000000 in
set_option maxRecDepth 100000 in
theorem compositorlaw07_TransformTells.calls (k : Nat) (a0 : Int) (a1 : Int) (a2_0 : Int) (a2_1 : Int) (w : World) (h : compositorlaw07_TransformTells.f k a0 a1 a2_0 a2_1 = some true) (hT_ : Go.Proofs.YtpihfglghcoojaaDoorHand.Tab w) :
    Calls Tryd.prog 3 #[.int .i64 a0, .int .i64 a1, .agg #[.int .i64 a2_0, .int .i64 a2_1]] w fun e w' => e = .returned (.bool true) ∧ Below w.heap.size w w' := by
  have hu23 := Tryd.underlying23
  have HB := Aside0.mk (Below.refl w.heap.size w)
  have HTab_ := Aside0.mk hT_
  clear hT_
  have H : ((transform_Size.f a0 a2_0 a2_1).bind fun bt187 => ((compositorref07_Size.f a0 a2_0 a2_1).bind fun bt189 => ((transform_Valid.f a0).bind fun t191 => ((compositorref07_Valid.f a0).bind fun t192 => (if (t191 == t192) = true then ((transform_Compose.f a0 a1).bind fun t193 => ((compositorref07_Compose.f k a0 a1).bind fun t194 => (if t193 = t194 then ((transform_Invert.f a0).bind fun t195 => ((compositorref07_Invert.f k a0).bind fun t196 => (if t195 = t196 then (if bt187.1 = bt189.1 then (if bt187.2 = bt189.2 then ((compositorlaw07_exampleHolds.f k).bind fun t197 => (some t197)) else (some false)) else (some false)) else (some false)))) else (some false)))) else (some false)))))) = some true := h
  clear h
  replace H := Option.bind_eq_some_iff.mp H
  obtain ⟨⟨t187, t188⟩, A40, H⟩ := H
  replace H : ((compositorref07_Size.f a0 a2_0 a2_1).bind fun bt189 => ((transform_Valid.f a0).bind fun t191 => ((compositorref07_Valid.f a0).bind fun t192 => (if (t191 == t192) = true then ((transform_Compose.f a0 a1).bind fun t193 => ((compositorref07_Compose.f k a0 a1).bind fun t194 => (if t193 = t194 then ((transform_Invert.f a0).bind fun t195 => ((compositorref07_Invert.f k a0).bind fun t196 => (if t195 = t196 then (if t187 = bt189.1 then (if t188 = bt189.2 then ((compositorlaw07_exampleHolds.f k).bind fun t197 => (some t197)) else (some false)) else (some false)) else (some false)))) else (some false)))) else (some false))))) = some true := H
  have A4 := Aside0.mk A40
  clear A40
  replace H := Option.bind_eq_some_iff.mp H
  obtain ⟨⟨t189, t190⟩, A50, H⟩ := H
  replace H : ((transform_Valid.f a0).bind fun t191 => ((compositorref07_Valid.f a0).bind fun t192 => (if (t191 == t192) = true then ((transform_Compose.f a0 a1).bind fun t193 => ((compositorref07_Compose.f k a0 a1).bind fun t194 => (if t193 = t194 then ((transform_Invert.f a0).bind fun t195 => ((compositorref07_Invert.f k a0).bind fun t196 => (if t195 = t196 then (if t187 = t189 then (if t188 = t190 then ((compositorlaw07_exampleHolds.f k).bind fun t197 => (some t197)) else (some false)) else (some false)) else (some false)))) else (some false)))) else (some false)))) = some true := H
  have A5 := Aside0.mk A50
  clear A50
  replace H := Option.bind_eq_some_iff.mp H
  obtain ⟨t191, A60, H⟩ := H
  replace H : ((compositorref07_Valid.f a0).bind fun t192 => (if (t191 == t192) = true then ((transform_Compose.f a0 a1).bind fun t193 => ((compositorref07_Compose.f k a0 a1).bind fun t194 => (if t193 = t194 then ((transform_Invert.f a0).bind fun t195 => ((compositorref07_Invert.f k a0).bind fun t196 => (if t195 = t196 then (if t187 = t189 then (if t188 = t190 then ((compositorlaw07_exampleHolds.f k).bind fun t197 => (some t197)) else (some false)) else (some false)) else (some false)))) else (some false)))) else (some false))) = some true := H
  have A6 := Aside0.mk A60
  clear A60
  replace H := Option.bind_eq_some_iff.mp H
  obtain ⟨t192, A70, H⟩ := H
  replace H : (if (t191 == t192) = true then ((transform_Compose.f a0 a1).bind fun t193 => ((compositorref07_Compose.f k a0 a1).bind fun t194 => (if t193 = t194 then ((transform_Invert.f a0).bind fun t195 => ((compositorref07_Invert.f k a0).bind fun t196 => (if t195 = t196 then (if t187 = t189 then (if t188 = t190 then ((compositorlaw07_exampleHolds.f k).bind fun t197 => (some t197)) else (some false)) else (some false)) else (some false)))) else (some false)))) else (some false)) = some true := H
  have A7 := Aside0.mk A70
  clear A70
  by_cases c8 : (t191 == t192) = true
  · rw [if_pos c8] at H
    have c8b0 : (t191 == t192) = true := c8
    (try (have c8b1 : decide (t191 = t192) = true := by simpa using c8))
    (try (have c8b2 : (t191 == t192) = true := by simpa using c8))
    clear c8
    replace H := Option.bind_eq_some_iff.mp H
    obtain ⟨t193, A90, H⟩ := H
    replace H : ((compositorref07_Compose.f k a0 a1).bind fun t194 => (if t193 = t194 then ((transform_Invert.f a0).bind fun t195 => ((compositorref07_Invert.f k a0).bind fun t196 => (if t195 = t196 then (if t187 = t189 then (if t188 = t190 then ((compositorlaw07_exampleHolds.f k).bind fun t197 => (some t197)) else (some false)) else (some false)) else (some false)))) else (some false))) = some true := H
    have A9 := Aside0.mk A90
    clear A90
    replace H := Option.bind_eq_some_iff.mp H
    obtain ⟨t194, A100, H⟩ := H
    replace H : (if t193 = t194 then ((transform_Invert.f a0).bind fun t195 => ((compositorref07_Invert.f k a0).bind fun t196 => (if t195 = t196 then (if t187 = t189 then (if t188 = t190 then ((compositorlaw07_exampleHolds.f k).bind fun t197 => (some t197)) else (some false)) else (some false)) else (some false)))) else (some false)) = some true := H
    have A10 := Aside0.mk A100
    clear A100
    by_cases c11 : t193 = t194
    · rw [if_pos c11] at H
      have c11b0 : (t193 == t194) = true := beq_iff_eq.mpr c11
      have c11b1 : (t193 != t194) = false := bne_eq_false_iff_eq.mpr c11
      clear c11
      replace H := Option.bind_eq_some_iff.mp H
      obtain ⟨t195, A120, H⟩ := H
      replace H : ((compositorref07_Invert.f k a0).bind fun t196 => (if t195 = t196 then (if t187 = t189 then (if t188 = t190 then ((compositorlaw07_exampleHolds.f k).bind fun t197 => (some t197)) else (some false)) else (some false)) else (some false))) = some true := H
      have A12 := Aside0.mk A120
      clear A120
      replace H := Option.bind_eq_some_iff.mp H
      obtain ⟨t196, A130, H⟩ := H
      replace H : (if t195 = t196 then (if t187 = t189 then (if t188 = t190 then ((compositorlaw07_exampleHolds.f k).bind fun t197 => (some t197)) else (some false)) else (some false)) else (some false)) = some true := H
      have A13 := Aside0.mk A130
      clear A130
      by_cases c14 : t195 = t196
      · rw [if_pos c14] at H
        have c14b0 : (t195 == t196) = true := beq_iff_eq.mpr c14
        have c14b1 : (t195 != t196) = false := bne_eq_false_iff_eq.mpr c14
        clear c14
        by_cases c15 : t187 = t189
        · rw [if_pos c15] at H
          have c15b0 : (t187 == t189) = true := beq_iff_eq.mpr c15
          have c15b1 : (t187 != t189) = false := bne_eq_false_iff_eq.mpr c15
          clear c15
          by_cases c16 : t188 = t190
          · rw [if_pos c16] at H
            have c16b0 : (t188 == t190) = true := beq_iff_eq.mpr c16
            have c16b1 : (t188 != t190) = false := bne_eq_false_iff_eq.mpr c16
            clear c16
            replace H := Option.bind_eq_some_iff.mp H
            obtain ⟨t197, A170, H⟩ := H
            replace H : (some t197) = some true := H
            have A17 := Aside0.mk A170
            clear A170
            have Hq_ := Option.some.inj H
            go_enter Tryd.func3, Tryd.ntmps3
            go_wp2_with (first | ((with_reducible refine gate_dst (N := 5) rfl ?_); refine box_event ?hg (N := 5) ?hd (cs := #[.int .i64 a2_0, .int .i64 a2_1]) (t := 23) ?hr ?_; (case hd => rfl); (case hg => rfl); (case hr => first | (go_simp; done) | (go_simp; rfl)); intro gb186 hg w18 hbox hb; have n0_ := Aside0.mk (below_step (by repeat (first | (with_reducible first | exact HB.out | apply below_alloc | apply pw_below_drewN | apply below_drew1) | exact HB.out)) hb); have n1_ := Aside0.mk (hbox); have n2_ := Aside0.mk ((by rw [hg]; exact (below_size (by repeat (first | (with_reducible first | exact HB.out | apply below_alloc | apply pw_below_drewN | apply below_drew1) | exact HB.out))) : w.heap.size ≤ gb186)); have n3_ := Aside0.mk ((by rw [hg]; exact (below_size (by repeat (first | (with_reducible first | exact HB.out | apply below_alloc | apply pw_below_drewN | apply below_drew1) | exact HB.out))) : w.heap.size ≤ gb186)); clear HB; have HB := n0_; have BK186 := n1_; have GW186 := n2_; have GE186 := n3_; clear n0_ n1_ n2_ n3_; clear hb hbox hg; have hcz19_0 : w18.cell? ⟨gb186, 0, none⟩ = some (.int .i64 a2_0) := (blk_cell BK186.out 0).trans rfl; have hcz19_1 : w18.cell? ⟨gb186, 1, none⟩ = some (.int .i64 a2_1) := (blk_cell BK186.out 1).trans rfl; have hfz19_0 := blk_frozen BK186.out 0; have hfz19_1 := blk_frozen BK186.out 1) | ((with_reducible refine gate_callee (f := 10) rfl ?_); refine goesL_ (some 17) rfl rfl Tryd.func10 (by kernel_rfl) rfl #[.int .i64 a0, .int .i64 a2_0, .int .i64 a2_1] rfl (by (try simp only [List.map_toArray, List.map_cons, List.map_nil]); first | done | rfl | (simp only [List.length_drop, List.length_take]; rfl)) ?_; (with_reducible refine (transform_Size.calls a0 a2_0 a2_1 t187 t188 _ A4.out).mono ?_); rintro e w' ⟨rfl, ⟨nd, rfl⟩⟩; refine ⟨_, rfl, ?_⟩) | ((with_reducible refine gate_callee (f := 11) rfl ?_); refine goesL_ (some 26) rfl rfl Tryd.func11 (by kernel_rfl) rfl #[.int .i64 a0, .int .i64 a2_0, .int .i64 a2_1] rfl (by (try simp only [List.map_toArray, List.map_cons, List.map_nil]); first | done | rfl | (simp only [List.length_drop, List.length_take]; rfl)) ?_; (with_reducible refine (compositorref07_Size.calls a0 a2_0 a2_1 t189 t190 _ A5.out).mono ?_); rintro e w' ⟨rfl, ⟨nd, rfl⟩⟩; refine ⟨_, rfl, ?_⟩) | ((with_reducible refine gate_callee (f := 12) rfl ?_); refine goesL_ (some 30) rfl rfl Tryd.func12 (by kernel_rfl) rfl #[.int .i64 a0] rfl (by (try simp only [List.map_toArray, List.map_cons, List.map_nil]); first | done | rfl | (simp only [List.length_drop, List.length_take]; rfl)) ?_; (with_reducible refine (transform_Valid.calls a0 t191 _ A6.out).mono ?_); rintro e w' ⟨rfl, ⟨nd, rfl⟩⟩; refine ⟨_, rfl, ?_⟩) | ((with_reducible refine gate_callee (f := 13) rfl ?_); refine goesL_ (some 32) rfl rfl Tryd.func13 (by kernel_rfl) rfl #[.int .i64 a0] rfl (by (try simp only [List.map_toArray, List.map_cons, List.map_nil]); first | done | rfl | (simp only [List.length_drop, List.length_take]; rfl)) ?_; (with_reducible refine (compositorref07_Valid.calls a0 t192 _ A7.out).mono ?_); rintro e w' ⟨rfl, ⟨nd, rfl⟩⟩; refine ⟨_, rfl, ?_⟩) | (go_at_call 14; (with_reducible refine (transform_Compose.calls a0 a1 t193 _ A9.out (Go.Proofs.YtpihfglghcoojaaDoorHand.tb_ HTab_ HB)).mono ?_); rintro e w20 ⟨rfl, hb⟩; have n0_ := Aside0.mk (blk_below (g := gb186) (o := .cells #[.int .i64 a2_0, .int .i64 a2_1] 23 (0, 0)) (by (with_reducible repeat (first | refine blk_drewN ?_ _ | refine blk_drew ?_ | refine blk_alloc ?_ _)); exact BK186.out) hb); have n1_ := Aside0.mk (below_step (by repeat (first | (with_reducible first | exact HB.out | apply below_alloc | apply pw_below_drewN | apply below_drew1 | refine below_set ?_ GE186.out) | exact HB.out)) hb); clear BK186; clear HB; have BK186 := n0_; have HB := n1_; clear n0_ n1_; (try clear hb); (try clear hb2); (try clear hk); (try clear hi)) | (go_at_call 15; (with_reducible refine (compositorref07_Compose.calls k a0 a1 t194 _ A10.out).mono ?_); rintro e w21 ⟨rfl, hb⟩; have n0_ := Aside0.mk (blk_below (g := gb186) (o := .cells #[.int .i64 a2_0, .int .i64 a2_1] 23 (0, 0)) (by (with_reducible repeat (first | refine blk_drewN ?_ _ | refine blk_drew ?_ | refine blk_alloc ?_ _)); exact BK186.out) hb); have n1_ := Aside0.mk (below_step (by repeat (first | (with_reducible first | exact HB.out | apply below_alloc | apply pw_below_drewN | apply below_drew1 | refine below_set ?_ GE186.out) | exact HB.out)) hb); clear BK186; clear HB; have BK186 := n0_; have HB := n1_; clear n0_ n1_; (try clear hb); (try clear hb2); (try clear hk); (try clear hi)) | (go_at_call 16; (with_reducible refine (transform_Invert.calls a0 t195 _ A12.out (Go.Proofs.YtpihfglghcoojaaDoorHand.tb_ HTab_ HB)).mono ?_); rintro e w22 ⟨rfl, hb⟩; have n0_ := Aside0.mk (blk_below (g := gb186) (o := .cells #[.int .i64 a2_0, .int .i64 a2_1] 23 (0, 0)) (by (with_reducible repeat (first | refine blk_drewN ?_ _ | refine blk_drew ?_ | refine blk_alloc ?_ _)); exact BK186.out) hb); have n1_ := Aside0.mk (below_step (by repeat (first | (with_reducible first | exact HB.out | apply below_alloc | apply pw_below_drewN | apply below_drew1 | refine below_set ?_ GE186.out) | exact HB.out)) hb); clear BK186; clear HB; have BK186 := n0_; have HB := n1_; clear n0_ n1_; (try clear hb); (try clear hb2); (try clear hk); (try clear hi)) | (go_at_call 17; (with_reducible refine (compositorref07_Invert.calls k a0 t196 _ A13.out).mono ?_); rintro e w23 ⟨rfl, hb⟩; have n0_ := Aside0.mk (blk_below (g := gb186) (o := .cells #[.int .i64 a2_0, .int .i64 a2_1] 23 (0, 0)) (by (with_reducible repeat (first | refine blk_drewN ?_ _ | refine blk_drew ?_ | refine blk_alloc ?_ _)); exact BK186.out) hb); have n1_ := Aside0.mk (below_step (by repeat (first | (with_reducible first | exact HB.out | apply below_alloc | apply pw_below_drewN | apply below_drew1 | refine below_set ?_ GE186.out) | exact HB.out)) hb); clear BK186; clear HB; have BK186 := n0_; have HB := n1_; clear n0_ n1_; (try clear hb); (try clear hb2); (try clear hk); (try clear hi)) | (go_at_call 18; (with_reducible refine (compositorlaw07_exampleHolds.calls k  t197 _ A17.out (Go.Proofs.YtpihfglghcoojaaDoorHand.tb_ HTab_ HB)).mono ?_); rintro e w24 ⟨rfl, hb⟩; have n0_ := Aside0.mk (blk_below (g := gb186) (o := .cells #[.int .i64 a2_0, .int .i64 a2_1] 23 (0, 0)) (by (with_reducible repeat (first | refine blk_drewN ?_ _ | refine blk_drew ?_ | refine blk_alloc ?_ _)); exact BK186.out) hb); have n1_ := Aside0.mk (below_step (by repeat (first | (with_reducible first | exact HB.out | apply below_alloc | apply pw_below_drewN | apply below_drew1 | refine below_set ?_ GE186.out) | exact HB.out)) hb); clear BK186; clear HB; have BK186 := n0_; have HB := n1_; clear n0_ n1_; (try clear hb); (try clear hb2); (try clear hk); (try clear hi)))
            go_ret
            exact ⟨by first | rfl | (simp [errW_none, errW_some] <;> rfl) | (simp [*, errW_none, errW_some] <;> rfl), by repeat (first | (with_reducible first | exact HB.out | apply below_alloc | apply pw_below_drewN | apply below_drew1 | refine below_set ?_ GE186.out) | exact HB.out)⟩
          · rw [if_neg c16] at H
            have c16b0 : (t188 == t190) = false := beq_eq_false_iff_ne.mpr c16
            have c16b1 : (t188 != t190) = true := bne_iff_ne.mpr c16
            exact absurd H (by simp)
        · rw [if_neg c15] at H
          have c15b0 : (t187 == t189) = false := beq_eq_false_iff_ne.mpr c15
          have c15b1 : (t187 != t189) = true := bne_iff_ne.mpr c15
          exact absurd H (by simp)
      · rw [if_neg c14] at H
        have c14b0 : (t195 == t196) = false := beq_eq_false_iff_ne.mpr c14
        have c14b1 : (t195 != t196) = true := bne_iff_ne.mpr c14
        exact absurd H (by simp)
    · rw [if_neg c11] at H
      have c11b0 : (t193 == t194) = false := beq_eq_false_iff_ne.mpr c11
      have c11b1 : (t193 != t194) = true := bne_iff_ne.mpr c11
      exact absurd H (by simp)
  · rw [if_neg c8] at H
    have c8b0 : (t191 == t192) = false := by simpa using c8
    (try (have c8b1 : decide (t191 = t192) = false := by simpa using c8))
    (try (have c8b2 : (t191 == t192) = false := by simpa using c8))
    (try (have c8b3 : ¬ (t191 = t192) := by simpa using c8))
    clear c8
    exact absurd H (by simp)

end Go.Proofs.YtpihfglghcoojaaDoor.All
