-- Written by a program of this session, which runs the kit's print.py and puts in functions that this session typed. Not trusted: Lean checks it.
import Derived.Test.YtdhjbdofklglgaaAllx0
import Derived.Test.YtdhjbdofklglgaaAllx1
import Derived.Test.YtdhjbdofklglgaaAllx2
import Derived.Test.YtdhjbdofklglgaaAllx5
import Derived.Test.YtdhjbdofklglgaaAllx6
namespace Go.Proofs.Ytdhjbdofklglgaa.All
open Go.RowKit Go.Proofs.YtdhjbdofklglgaaW.PrintWords Go.Proofs.YtdhjbdofklglgaaW.PrintLast Go.Proofs.YtdhjbdofklglgaaW.PrintMore
attribute [local go_sem] max2_int min2_int max_two min_two max_three min_three max_four min_four   -- for this text's walks alone
set_option linter.unusedVariables false
set_option linter.unusedSimpArgs false

attribute [local go_sem high] eqA23
/-! ### compositorlaw08_exampleHolds: function 15 -/
def compositorlaw08_exampleHolds.f  : Option (Bool) := (pixel_Over.f 128 128 128 128 0 0 0 255).bind fun bt146 => (if (bt146.1 == 128 && (bt146.2.1 == 128 && (bt146.2.2.1 == 128 && (bt146.2.2.2 == 255)))) = true then ((pixel_Premultiply.f 255 100 0 128).bind fun bt150 => (if (bt150.1 == 128 && (bt150.2.1 == 50 && (bt150.2.2.1 == 0 && (bt150.2.2.2 == 128)))) = true then ((pixel_Average.f (([(⟨1, 0, 0, 2⟩ : S23), (⟨2, 0, 0, 2⟩ : S23)] : List (S23)))).bind fun bt157 => (some (bt157.1 == 2 && (bt157.2.1 == 0 && (bt157.2.2.1 == 0 && (bt157.2.2.2 == 2)))))) else (some false))) else (some false))
set_option maxHeartbeats 8000000 in
set_option maxRecDepth 100000 in
theorem compositorlaw08_exampleHolds.calls  (r : Bool) (w : World) (h : compositorlaw08_exampleHolds.f  = some r) :
    Calls Try.prog 15 #[] w fun e w' => e = .returned (.bool r) ∧ Below w.heap.size w w' := by
  have hu23 := Try.underlying23
  have HB := Aside0.mk (Below.refl w.heap.size w)
  have H : ((pixel_Over.f 128 128 128 128 0 0 0 255).bind fun bt146 => (if (bt146.1 == 128 && (bt146.2.1 == 128 && (bt146.2.2.1 == 128 && (bt146.2.2.2 == 255)))) = true then ((pixel_Premultiply.f 255 100 0 128).bind fun bt150 => (if (bt150.1 == 128 && (bt150.2.1 == 50 && (bt150.2.2.1 == 0 && (bt150.2.2.2 == 128)))) = true then ((pixel_Average.f (([(⟨1, 0, 0, 2⟩ : S23), (⟨2, 0, 0, 2⟩ : S23)] : List (S23)))).bind fun bt157 => (some (bt157.1 == 2 && (bt157.2.1 == 0 && (bt157.2.2.1 == 0 && (bt157.2.2.2 == 2)))))) else (some false))) else (some false))) = some r := h
  clear h
  replace H := Option.bind_eq_some_iff.mp H
  obtain ⟨⟨t146, t147, t148, t149⟩, A10, H⟩ := H
  replace H : (if (t146 == 128 && (t147 == 128 && (t148 == 128 && (t149 == 255)))) = true then ((pixel_Premultiply.f 255 100 0 128).bind fun bt150 => (if (bt150.1 == 128 && (bt150.2.1 == 50 && (bt150.2.2.1 == 0 && (bt150.2.2.2 == 128)))) = true then ((pixel_Average.f (([(⟨1, 0, 0, 2⟩ : S23), (⟨2, 0, 0, 2⟩ : S23)] : List (S23)))).bind fun bt157 => (some (bt157.1 == 2 && (bt157.2.1 == 0 && (bt157.2.2.1 == 0 && (bt157.2.2.2 == 2)))))) else (some false))) else (some false)) = some r := H
  have A1 := Aside0.mk A10
  clear A10
  by_cases c2 : (t146 == 128 && (t147 == 128 && (t148 == 128 && (t149 == 255)))) = true
  · rw [if_pos c2] at H
    have c2b0 : (t146 == 128 && (t147 == 128 && (t148 == 128 && (t149 == 255)))) = true := c2
    (try (have c2b1 : decide (t146 = 128 && (t147 == 128 && (t148 == 128 && (t149 == 255)))) = true := by simpa using c2))
    (try (have c2b2 : (t146 == 128 && (t147 == 128 && (t148 == 128 && (t149 == 255)))) = true := by simpa using c2))
    clear c2
    replace H := Option.bind_eq_some_iff.mp H
    obtain ⟨⟨t150, t151, t152, t153⟩, A30, H⟩ := H
    replace H : (if (t150 == 128 && (t151 == 50 && (t152 == 0 && (t153 == 128)))) = true then ((pixel_Average.f (([(⟨1, 0, 0, 2⟩ : S23), (⟨2, 0, 0, 2⟩ : S23)] : List (S23)))).bind fun bt157 => (some (bt157.1 == 2 && (bt157.2.1 == 0 && (bt157.2.2.1 == 0 && (bt157.2.2.2 == 2)))))) else (some false)) = some r := H
    have A3 := Aside0.mk A30
    clear A30
    by_cases c4 : (t150 == 128 && (t151 == 50 && (t152 == 0 && (t153 == 128)))) = true
    · rw [if_pos c4] at H
      have c4b0 : (t150 == 128 && (t151 == 50 && (t152 == 0 && (t153 == 128)))) = true := c4
      (try (have c4b1 : decide (t150 = 128 && (t151 == 50 && (t152 == 0 && (t153 == 128)))) = true := by simpa using c4))
      (try (have c4b2 : (t150 == 128 && (t151 == 50 && (t152 == 0 && (t153 == 128)))) = true := by simpa using c4))
      clear c4
      obtain ⟨y154, hy154⟩ : ∃ y_ : List (S23), y_ = (([(⟨1, 0, 0, 2⟩ : S23), (⟨2, 0, 0, 2⟩ : S23)] : List (S23))) := ⟨_, rfl⟩
      replace H : ((pixel_Average.f y154).bind fun bt157 => (some (bt157.1 == 2 && (bt157.2.1 == 0 && (bt157.2.2.1 == 0 && (bt157.2.2.2 == 2)))))) = some r := by first | (rw [hy154]; with_reducible exact H) | (have H2_ := (Option.bind_some _ _).symm.trans H; rw [hy154]; with_reducible exact H2_) | (have H2_ := (Option.bind_some _ _).symm.trans H; with_reducible exact H2_) | with_reducible exact H | (rw [hy154]; exact H) | exact H
      have Ny154 := Aside0.mk hy154
      clear hy154
      replace H := Option.bind_eq_some_iff.mp H
      obtain ⟨⟨t157, t158, t159, t160⟩, A50, H⟩ := H
      replace H : (some (t157 == 2 && (t158 == 0 && (t159 == 0 && (t160 == 2))))) = some r := H
      have A5 := Aside0.mk A50
      clear A50
      obtain rfl := Option.some.inj H
      go_enter Try.func15, Try.ntmps15
      go_wp2_with (first | ((with_reducible refine gate_callee (f := 13) rfl ?_); refine goesL_ (some 3) rfl rfl Try.func13 (by kernel_rfl) rfl #[.agg #[.int .u8 128, .int .u8 128, .int .u8 128, .int .u8 128], .agg #[.int .u8 0, .int .u8 0, .int .u8 0, .int .u8 255]] rfl (by (try simp only [List.map_toArray, List.map_cons, List.map_nil]); first | done | rfl | (simp only [List.length_drop, List.length_take]; rfl)) ?_; (with_reducible refine (pixel_Over.calls 128 128 128 128 0 0 0 255 t146 t147 t148 t149 _ A1.out).mono ?_); rintro e w6 ⟨rfl, hb⟩; refine ⟨_, rfl, ?_⟩; have n0_ := Aside0.mk (below_step (by repeat (first | (with_reducible first | exact HB.out | apply below_alloc | apply pw_below_drewN | apply below_drew1) | exact HB.out)) hb); clear HB; have HB := n0_; clear n0_; (try clear hb); (try clear hb2); (try clear hk); (try clear hi)) | (go_at_call 9; (with_reducible refine (pixel_Premultiply.calls 255 100 0 128 t150 t151 t152 t153 _ A3.out).mono ?_); rintro e w7 ⟨rfl, hb⟩; have n0_ := Aside0.mk (below_step (by repeat (first | (with_reducible first | exact HB.out | apply below_alloc | apply pw_below_drewN | apply below_drew1) | exact HB.out)) hb); clear HB; have HB := n0_; clear n0_; (try clear hb); (try clear hb2); (try clear hk); (try clear hi)) | ((with_reducible refine gate_dst (N := 14) rfl ?_); (try (refine gate_guard (by rfl) ?_; dsimp only)); refine Kd.R_lit k23 _ 23 ?hg (N := 14) ?hd (xs := ([(⟨1, 0, 0, 2⟩ : S23), (⟨2, 0, 0, 2⟩ : S23)] : List (S23))) (inner := [.int .u8 1, .int .u8 0, .int .u8 0, .int .u8 2, .int .u8 2, .int .u8 0, .int .u8 0, .int .u8 2]) (ok := fun _ => True) (okp := fun _ => True) ?hr ?hp (fun _ hk => hk) trivial (Below.refl _ _) (Nat.le_refl _) (by simp) ?_; (case hd => rfl); (case hg => rfl); (case hr => first | (go_simp; done) | (go_simp; rfl)); (case hp => exact (Reps.c4 (show Kd.M k23 _ _ _ (⟨1, 0, 0, 2⟩ : S23) [.int .u8 1, .int .u8 0, .int .u8 0, .int .u8 2] from (k23_mkM _ _ _ (⟨1, 0, 0, 2⟩ : S23) )) (Reps.c4 (show Kd.M k23 _ _ _ (⟨2, 0, 0, 2⟩ : S23) [.int .u8 2, .int .u8 0, .int .u8 0, .int .u8 2] from (k23_mkM _ _ _ (⟨2, 0, 0, 2⟩ : S23) )) (Reps.none _ _)))); intro v155 w8 ho9 hb hg_ hnew_; clear hg_ hnew_; (first | rw [← Ny154.out] at ho9 | (simp only [Int.reduceToNat] at ho9; rw [← Ny154.out] at ho9)); have n0_ := Aside0.mk (Kd.R_lower ho9 (below_size (by repeat (first | (with_reducible first | exact HB.out | apply below_alloc | apply pw_below_drewN | apply below_drew1) | exact HB.out)))); have n1_ := Aside0.mk (below_step (by repeat (first | (with_reducible first | exact HB.out | apply below_alloc | apply pw_below_drewN | apply below_drew1) | exact HB.out)) hb); clear HB; have HO156 := n0_; have HB := n1_; clear n0_ n1_; clear hb ho9; obtain ⟨Ao10, co10, eo10⟩ := Kd.R_slice HO156.out; subst eo10) | (go_at_call 16; (with_reducible refine (pixel_Average.calls _ _ y154 t157 t158 t159 t160 _ ?side1 ?side2 A5.out).mono ?_); (case side1 => repeat (first | exact (Kd.R_reads' HO156.out).2.2 | (with_reducible refine Kd.C_alloc ?_ _) | (with_reducible refine Kd.C_drewN ?_ _) | (with_reducible refine Kd.C_drew ?_))); (case side2 => exact (Kd.R_reads' HO156.out).2.1); rintro e w11 ⟨rfl, hb⟩; have n0_ := Aside0.mk (Kd.R_below (by (with_reducible repeat (first | apply Kd.R_alloc | apply Kd.R_drewN | apply Kd.R_drew)); exact HO156.out) hb); have n1_ := Aside0.mk (below_step (by repeat (first | (with_reducible first | exact HB.out | apply below_alloc | apply pw_below_drewN | apply below_drew1) | exact HB.out)) hb); clear HO156; clear HB; have HO156 := n0_; have HB := n1_; clear n0_ n1_; (try clear hb); (try clear hb2); (try clear hk); (try clear hi)))
      go_ret
      exact ⟨by first | rfl | (simp [errW_none, errW_some] <;> rfl) | (simp [*, errW_none, errW_some] <;> rfl), by repeat (first | (with_reducible first | exact HB.out | apply below_alloc | apply pw_below_drewN | apply below_drew1) | exact HB.out)⟩
    · rw [if_neg c4] at H
      have c4b0 : (t150 == 128 && (t151 == 50 && (t152 == 0 && (t153 == 128)))) = false := by simpa using c4
      (try (have c4b1 : decide (t150 = 128 && (t151 == 50 && (t152 == 0 && (t153 == 128)))) = false := by simpa using c4))
      (try (have c4b2 : (t150 == 128 && (t151 == 50 && (t152 == 0 && (t153 == 128)))) = false := by simpa using c4))
      (try (have c4b3 : ¬ (t150 = 128 && (t151 == 50 && (t152 == 0 && (t153 == 128)))) := by simpa using c4))
      clear c4
      obtain rfl := Option.some.inj H
      go_enter Try.func15, Try.ntmps15
      go_wp2_with (first | ((with_reducible refine gate_callee (f := 13) rfl ?_); refine goesL_ (some 3) rfl rfl Try.func13 (by kernel_rfl) rfl #[.agg #[.int .u8 128, .int .u8 128, .int .u8 128, .int .u8 128], .agg #[.int .u8 0, .int .u8 0, .int .u8 0, .int .u8 255]] rfl (by (try simp only [List.map_toArray, List.map_cons, List.map_nil]); first | done | rfl | (simp only [List.length_drop, List.length_take]; rfl)) ?_; (with_reducible refine (pixel_Over.calls 128 128 128 128 0 0 0 255 t146 t147 t148 t149 _ A1.out).mono ?_); rintro e w12 ⟨rfl, hb⟩; refine ⟨_, rfl, ?_⟩; have n0_ := Aside0.mk (below_step (by repeat (first | (with_reducible first | exact HB.out | apply below_alloc | apply pw_below_drewN | apply below_drew1) | exact HB.out)) hb); clear HB; have HB := n0_; clear n0_; (try clear hb); (try clear hb2); (try clear hk); (try clear hi)) | (go_at_call 9; (with_reducible refine (pixel_Premultiply.calls 255 100 0 128 t150 t151 t152 t153 _ A3.out).mono ?_); rintro e w13 ⟨rfl, hb⟩; have n0_ := Aside0.mk (below_step (by repeat (first | (with_reducible first | exact HB.out | apply below_alloc | apply pw_below_drewN | apply below_drew1) | exact HB.out)) hb); clear HB; have HB := n0_; clear n0_; (try clear hb); (try clear hb2); (try clear hk); (try clear hi)))
      go_ret
      exact ⟨by first | rfl | (simp [errW_none, errW_some] <;> rfl) | (simp [*, errW_none, errW_some] <;> rfl), by repeat (first | (with_reducible first | exact HB.out | apply below_alloc | apply pw_below_drewN | apply below_drew1) | exact HB.out)⟩
  · rw [if_neg c2] at H
    have c2b0 : (t146 == 128 && (t147 == 128 && (t148 == 128 && (t149 == 255)))) = false := by simpa using c2
    (try (have c2b1 : decide (t146 = 128 && (t147 == 128 && (t148 == 128 && (t149 == 255)))) = false := by simpa using c2))
    (try (have c2b2 : (t146 == 128 && (t147 == 128 && (t148 == 128 && (t149 == 255)))) = false := by simpa using c2))
    (try (have c2b3 : ¬ (t146 = 128 && (t147 == 128 && (t148 == 128 && (t149 == 255)))) := by simpa using c2))
    clear c2
    obtain rfl := Option.some.inj H
    go_enter Try.func15, Try.ntmps15
    go_wp2_with (first | ((with_reducible refine gate_callee (f := 13) rfl ?_); refine goesL_ (some 3) rfl rfl Try.func13 (by kernel_rfl) rfl #[.agg #[.int .u8 128, .int .u8 128, .int .u8 128, .int .u8 128], .agg #[.int .u8 0, .int .u8 0, .int .u8 0, .int .u8 255]] rfl (by (try simp only [List.map_toArray, List.map_cons, List.map_nil]); first | done | rfl | (simp only [List.length_drop, List.length_take]; rfl)) ?_; (with_reducible refine (pixel_Over.calls 128 128 128 128 0 0 0 255 t146 t147 t148 t149 _ A1.out).mono ?_); rintro e w14 ⟨rfl, hb⟩; refine ⟨_, rfl, ?_⟩; have n0_ := Aside0.mk (below_step (by repeat (first | (with_reducible first | exact HB.out | apply below_alloc | apply pw_below_drewN | apply below_drew1) | exact HB.out)) hb); clear HB; have HB := n0_; clear n0_; (try clear hb); (try clear hb2); (try clear hk); (try clear hi)))
    go_ret
    exact ⟨by first | rfl | (simp [errW_none, errW_some] <;> rfl) | (simp [*, errW_none, errW_some] <;> rfl), by repeat (first | (with_reducible first | exact HB.out | apply below_alloc | apply pw_below_drewN | apply below_drew1) | exact HB.out)⟩

end Go.Proofs.Ytdhjbdofklglgaa.All
