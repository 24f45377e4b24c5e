-- Written by a program of this session, which runs the kit's print.py and puts in functions that this session typed. Not trusted: Lean checks it.
import Derived.Test.YtpihfglghcoojaaDoorAllx0
import Derived.Test.YtpihfglghcoojaaDoorAllx4
import Derived.Test.YtpihfglghcoojaaDoorAllx7
namespace Go.Proofs.YtpihfglghcoojaaDoor.All
open Go.RowKit Go.Proofs.YtpihfglghcoojaaDoorW.PrintWords Go.Proofs.YtpihfglghcoojaaDoorW.PrintLast Go.Proofs.YtpihfglghcoojaaDoorW.PrintMore
attribute [local go_sem] max2_int min2_int max_two min_two max_three min_three max_four min_four   -- for this text's walks alone
set_option linter.unusedVariables false
set_option linter.unusedSimpArgs false

/-! ### transform_Invert: function 16 -/
section
open Go.Proofs.YtpihfglghcoojaaDoorHand
theorem transform_Invert.range {a r : Int} (h : transform_normal.f a = some r) : 0 ≤ r ∧ r ≤ 7 := by
  unfold transform_normal.f transform_Valid.f at h
  simp only [Option.bind_eq_some_iff] at h
  grind
def transform_Invert.inv (n : Nat) : Nat := [0, 3, 2, 1, 4, 5, 6, 7].getD n 0
theorem transform_Invert.inv_spec : ∀ n, n < 8 → transform_Invert.inv n < 8 ∧ ∀ u, u < 8 → u ≤ transform_Invert.inv n → (prods.getD (8 * n + u) 0 = 0 ↔ u = transform_Invert.inv n) := by decide
def transform_Invert.f (a0 : Int) : Option Int := (transform_normal.f a0).bind fun x => some (transform_Invert.inv x.toNat)
set_option maxHeartbeats 4000000 in
theorem transform_Invert.calls (a0 r : Int) (w : World) (h : transform_Invert.f a0 = some r) (hT_ : Tab w) :
    Calls Tryd.prog 16 #[.int .i64 a0] w fun e w' => e = .returned (.int .i64 r) ∧ Below w.heap.size w w' := by
  obtain ⟨x, hx, h⟩ := Option.bind_eq_some_iff.mp h
  obtain rfl := Option.some.inj h
  have rx := transform_Invert.range hx
  obtain ⟨n, rfl⟩ : ∃ n : Nat, x = n := ⟨x.toNat, by omega⟩
  have hn : n < 8 := by omega
  obtain ⟨hi, hs0⟩ := transform_Invert.inv_spec n hn
  have hs := Aside0.mk hs0
  have Hx := Aside0.mk hx
  have hT := Aside0.mk hT_
  have Hi := Aside0.mk hi
  simp only [Int.toNat_natCast]
  clear h hx hT_ hs0 rx hi
  go_enter Tryd.func16, Tryd.ntmps16
  go_wp2_with fail
  refine (transform_normal.calls a0 n w Hx.out).mono ?_
  rintro e w1 ⟨rfl, hd⟩
  have hB := Aside0.mk hd.below
  clear hd
  go_wp2_with fail
  go_loopw [6] (fun v w' => ∃ u : Nat, u ≤ transform_Invert.inv n ∧ v = .int .i64 u ∧ Aside0 (Below w.heap.size w w')) (fun v _ => 8 - (intOf v).toNat)
  case atStart => exact ⟨0, Nat.zero_le _, rfl, hB⟩
  case round =>
    clear hB
    obtain ⟨u, hu, rfl, hB⟩ := hrel
    have hu8 : u < 8 := Nat.lt_of_le_of_lt hu Hi.out
    have hs1 := hs.out u hu8 hu
    have hk64 : 8 * n + u < 64 := by omega
    have hc := (show Tab wr from tb_ hT hB) (8 * n + u) hk64
    have hu8' : (u : Int) < 8 := by omega
    have e2 : IntKind.i64.wrap (8 * (n : Int) + u) = ((8 * n + u : Nat) : Int) := by rw [i64_w]; unfold wrap64; omega
    clear hs1
    have hs1 := Aside0.mk (hs.out u hu8 hu)
    generalize prods.getD (8 * n + u) 0 = z at hs1 hc
    generalize 8 * n + u = k at *
    by_cases hz : z = 0
    · obtain rfl : u = transform_Invert.inv n := hs1.out.mp hz
      subst hz
      clear hs1
      go_wp2
      go_ret
      exact ⟨rfl, hB.out⟩
    · have hne : ¬ u = transform_Invert.inv n := fun h => hz (hs1.out.mpr h)
      have hz1 : (z == 0) = false := beq_eq_false_iff_ne.mpr hz
      clear hs1
      go_wp2
      go_roundw
      case rel => exact ⟨u + 1, by omega, by go_num, hB⟩
      case measure => simp [intOf]; omega
end


/-! ### compositorref07_Invert: function 17 -/
def compositorref07_Invert.l0 : Nat → Int → Int → Option (Int)
  | 0, _, _ => none
  | k + 1, x0, x3 => if x3 ≤ 7 then ((compositorref07_Compose.f k x0 x3).bind fun t128 => (if t128 = 0 then (some x3) else (compositorref07_Invert.l0 k x0 (wrap64 (x3 + 1))))) else (some 0)
def compositorref07_Invert.f (k : Nat) (a0 : Int) : Option (Int) := compositorref07_Invert.l0 k a0 0
theorem compositorref07_Invert.mono_l : ∀ k, (∀ y0 y1, LeO (compositorref07_Invert.l0 k y0 y1) (compositorref07_Invert.l0 (k + 1) y0 y1))
  | 0 => fun _ _ r h => by simp [compositorref07_Invert.l0] at h
  | k + 1 => by
    have ih0 := compositorref07_Invert.mono_l k
    · intro y0 y1
      unfold compositorref07_Invert.l0
      repeat' first
      | (with_reducible exact ih0 _ _)
      | (with_reducible exact compositorref07_Compose.mono _ _ _)
      | (with_reducible exact LeO.refl _)
      | (with_reducible exact LeO.none _)
      | (with_reducible refine LeO.ite ?_ ?_)
      | (with_reducible refine LeO.bind ?_ (fun _ => ?_))
      | exact ih0 _ _
      | exact compositorref07_Compose.mono _ _ _
      | exact LeO.none _
      | refine LeO.ite ?_ ?_
      | refine LeO.bind ?_ (fun _ => ?_)
theorem compositorref07_Invert.mono : ∀ a0 k, LeO (compositorref07_Invert.f k a0) (compositorref07_Invert.f (k + 1) a0) := by
  intro a0 k
  have ih0 := compositorref07_Invert.mono_l k
  unfold compositorref07_Invert.f
  repeat' first
      | (with_reducible exact ih0 _ _)
      | (with_reducible exact compositorref07_Compose.mono _ _ _)
      | (with_reducible exact LeO.refl _)
      | (with_reducible exact LeO.none _)
      | (with_reducible refine LeO.ite ?_ ?_)
      | (with_reducible refine LeO.bind ?_ (fun _ => ?_))
      | exact ih0 _ _
      | exact compositorref07_Compose.mono _ _ _
      | exact LeO.none _
      | refine LeO.ite ?_ ?_
      | refine LeO.bind ?_ (fun _ => ?_)
set_option maxHeartbeats 8000000 in
set_option maxRecDepth 100000 in
theorem compositorref07_Invert.calls (k : Nat) (a0 : Int) (r : Int) (w : World) (h : compositorref07_Invert.f k a0 = some r) :
    Calls Tryd.prog 17 #[.int .i64 a0] w fun e w' => e = .returned (.int .i64 r) ∧ Below w.heap.size w w' := by
  have HB := Aside0.mk (Below.refl w.heap.size w)
  have H : (compositorref07_Invert.l0 k a0 0) = some r := h
  clear h
  have H' := Aside0.mk H
  clear H
  go_enter Tryd.func17, Tryd.ntmps17
  go_wp2
  go_loopg [3] k (fun kq v3 w' => ∃ (x3_1 : Int), v3 = .int .i64 x3_1 ∧ Aside0 (compositorref07_Invert.l0 kq a0 x3_1 = some r) ∧ Aside0 (kq ≤ k) ∧ Aside0 (Below w.heap.size w w'))
  case atStart => exact ⟨(0), (by first | rfl | (simp; done) | (simp [*]; done)), H', ⟨Nat.le_refl _⟩, ⟨by repeat (first | (with_reducible first | exact HB.out | apply below_alloc | apply pw_below_drewN | apply below_drew1) | exact HB.out)⟩⟩
  case round =>
    clear H'
    try clear c1
    obtain ⟨x3_1, rfl, HA, HK1, HB⟩ := hrel
    cases gk with
    | zero => exact absurd HA.out (by simp [compositorref07_Invert.l0])
    | succ k1 =>
      have H := HA.out
      clear HA
      simp only [compositorref07_Invert.l0] at H
      by_cases c2 : x3_1 ≤ 7
      · rw [if_pos c2] at H
        have c2b0 : decide (x3_1 ≤ 7) = true := decide_eq_true c2
        clear c2
        replace H := Option.bind_eq_some_iff.mp H
        obtain ⟨t128, A30, H⟩ := H
        replace H : (if t128 = 0 then (some x3_1) else (compositorref07_Invert.l0 k1 a0 (wrap64 (x3_1 + 1)))) = some r := H
        have A3 := Aside0.mk A30
        clear A30
        by_cases c4 : t128 = 0
        · rw [if_pos c4] at H
          have c4b0 : (t128 == 0) = true := beq_iff_eq.mpr c4
          have c4b1 : (t128 != 0) = false := bne_eq_false_iff_eq.mpr c4
          clear c4
          obtain rfl := Option.some.inj H
          go_wp2_with (first | ((with_reducible refine gate_callee (f := 15) rfl ?_); refine goesL_ (some 10) rfl rfl Tryd.func15 (by kernel_rfl) rfl #[.int .i64 a0, .int .i64 x3_1] rfl (by (try simp only [List.map_toArray, List.map_cons, List.map_nil]); first | done | rfl | (simp only [List.length_drop, List.length_take]; rfl)) ?_; (with_reducible refine (compositorref07_Compose.calls k1 a0 x3_1 t128 _ A3.out).mono ?_); rintro e w5 ⟨rfl, hb⟩; refine ⟨_, rfl, ?_⟩; have n0_ := Aside0.mk (below_step (by repeat (first | (with_reducible first | exact HB.out | apply below_alloc | apply pw_below_drewN | apply below_drew1) | exact HB.out)) hb); clear HB; have HB := n0_; clear n0_; (try clear hb); (try clear hb2); (try clear hk); (try clear hi)))
          go_ret
          exact ⟨by first | rfl | (simp [errW_none, errW_some] <;> rfl) | (simp [*, errW_none, errW_some] <;> rfl), by repeat (first | (with_reducible first | exact HB.out | apply below_alloc | apply pw_below_drewN | apply below_drew1) | exact HB.out)⟩
        · rw [if_neg c4] at H
          have c4b0 : (t128 == 0) = false := beq_eq_false_iff_ne.mpr c4
          have c4b1 : (t128 != 0) = true := bne_iff_ne.mpr c4
          have H' := Aside0.mk H
          clear H
          go_wp2_with (first | ((with_reducible refine gate_callee (f := 15) rfl ?_); refine goesL_ (some 10) rfl rfl Tryd.func15 (by kernel_rfl) rfl #[.int .i64 a0, .int .i64 x3_1] rfl (by (try simp only [List.map_toArray, List.map_cons, List.map_nil]); first | done | rfl | (simp only [List.length_drop, List.length_take]; rfl)) ?_; (with_reducible refine (compositorref07_Compose.calls k1 a0 x3_1 t128 _ A3.out).mono ?_); rintro e w6 ⟨rfl, hb⟩; refine ⟨_, rfl, ?_⟩; have n0_ := Aside0.mk (below_step (by repeat (first | (with_reducible first | exact HB.out | apply below_alloc | apply pw_below_drewN | apply below_drew1) | exact HB.out)) hb); clear HB; have HB := n0_; clear n0_; (try clear hb); (try clear hb2); (try clear hk); (try clear hi)))
          go_roundg k1
          case measure => have := HK1.out; omega
          case rel => exact ⟨(wrap64 (x3_1 + 1)), (by first | rfl | (simp; done) | (simp [*]; done)), H', ⟨by have := HK1.out; omega⟩, ⟨by repeat (first | (with_reducible first | exact HB.out | apply below_alloc | apply pw_below_drewN | apply below_drew1) | exact HB.out)⟩⟩
      · rw [if_neg c2] at H
        have c2b0 : decide (x3_1 ≤ 7) = false := decide_eq_false c2
        clear c2
        obtain rfl := Option.some.inj H
        go_wp2
        go_ret
        exact ⟨by first | rfl | (simp [errW_none, errW_some] <;> rfl) | (simp [*, errW_none, errW_some] <;> rfl), by repeat (first | (with_reducible first | exact HB.out | apply below_alloc | apply pw_below_drewN | apply below_drew1) | exact HB.out)⟩

end Go.Proofs.YtpihfglghcoojaaDoor.All
