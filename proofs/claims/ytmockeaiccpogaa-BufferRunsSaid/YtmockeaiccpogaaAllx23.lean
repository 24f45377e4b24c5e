-- Written by a program of this session, which runs the kit's print.py and puts in functions that this session typed. Not trusted: Lean checks it.
import Derived.Test.YtmockeaiccpogaaAllx0
namespace Go.Proofs.Ytmockeaiccpogaa.All
open Go.RowKit Go.Proofs.YtmockeaiccpogaaW.PrintWords Go.Proofs.YtmockeaiccpogaaW.PrintLast Go.Proofs.YtmockeaiccpogaaW.PrintMore
attribute [local go_sem] max2_int min2_int max_two min_two max_three min_three max_four min_four   -- for this text's walks alone
set_option linter.unusedVariables false
set_option linter.unusedSimpArgs false

/-! ### compositorref09_Runs: function 46 -/
mutual
def compositorref09_Runs.l0 : Nat → Int → Int → List Bool → List (S47) → Int → Option ((List (S47)))
  | 0, _, _, _, _, _ => none
  | k + 1, x0, x1, x2, x7, x8 => if x8 < x1 then (compositorref09_Runs.l1 k x0 x1 x2 x7 x8 0) else (some x7)
def compositorref09_Runs.l1 : Nat → Int → Int → List Bool → List (S47) → Int → Int → Option ((List (S47)))
  | 0, _, _, _, _, _, _ => none
  | k + 1, x0, x1, x2, x7, x8, x9 => if x9 < x0 then (if 0 ≤ (wrap64 ((wrap64 (x8 * x0)) + x9)) then (if (wrap64 ((wrap64 (x8 * x0)) + x9)) < (x2.length : Int) then (if (rdOf false x2 (wrap64 ((wrap64 (x8 * x0)) + x9)) = true) then (if x9 > 0 then (if 0 ≤ (wrap64 ((wrap64 ((wrap64 (x8 * x0)) + x9)) - 1)) then (if (wrap64 ((wrap64 ((wrap64 (x8 * x0)) + x9)) - 1)) < (x2.length : Int) then (if rdOf false x2 (wrap64 ((wrap64 ((wrap64 (x8 * x0)) + x9)) - 1)) = true then (if 0 ≤ (wrap64 ((x7.length : Int) - 1)) then (if (wrap64 ((x7.length : Int) - 1)) < (x7.length : Int) then (compositorref09_Runs.l1 k x0 x1 x2 (x7.set ((wrap64 ((x7.length : Int) - 1)) : Int).toNat (⟨(rd_T47 x7 (wrap64 ((x7.length : Int) - 1))).f0, (rd_T47 x7 (wrap64 ((x7.length : Int) - 1))).f1, wrap64 (x9 + 1), (rd_T47 x7 (wrap64 ((x7.length : Int) - 1))).f3⟩ : S47)) x8 (wrap64 (x9 + 1))) else (none)) else (none)) else (if x7.length < 4398046511104 then (compositorref09_Runs.l1 k x0 x1 x2 (x7 ++ [(⟨x9, x8, wrap64 (x9 + 1), wrap64 (x8 + 1)⟩ : S47)]) x8 (wrap64 (x9 + 1))) else (none))) else (none)) else (none)) else (if x7.length < 4398046511104 then (compositorref09_Runs.l1 k x0 x1 x2 (x7 ++ [(⟨x9, x8, wrap64 (x9 + 1), wrap64 (x8 + 1)⟩ : S47)]) x8 (wrap64 (x9 + 1))) else (none))) else (compositorref09_Runs.l1 k x0 x1 x2 x7 x8 (wrap64 (x9 + 1)))) else (none)) else (none)) else (compositorref09_Runs.l0 k x0 x1 x2 x7 (wrap64 (x8 + 1)))
end
def compositorref09_Runs.f (k : Nat) (a0 : Int) (a1 : Int) (l2 : List Bool) : Option ((List (S47))) := compositorref09_Runs.l0 k a0 a1 l2 ([] : List (S47)) 0
theorem compositorref09_Runs.mono_l : ∀ k, (∀ y0 y1 y2 y3 y4, LeO (compositorref09_Runs.l0 k y0 y1 y2 y3 y4) (compositorref09_Runs.l0 (k + 1) y0 y1 y2 y3 y4)) ∧ (∀ y0 y1 y2 y3 y4 y5, LeO (compositorref09_Runs.l1 k y0 y1 y2 y3 y4 y5) (compositorref09_Runs.l1 (k + 1) y0 y1 y2 y3 y4 y5))
  | 0 => ⟨fun _ _ _ _ _ r h => by simp [compositorref09_Runs.l0] at h, fun _ _ _ _ _ _ r h => by simp [compositorref09_Runs.l1] at h⟩
  | k + 1 => by
    obtain ⟨ih0, ih1⟩ := compositorref09_Runs.mono_l k
    refine ⟨?_, ?_⟩
    · intro y0 y1 y2 y3 y4
      unfold compositorref09_Runs.l0
      repeat' first
      | (with_reducible exact ih0 _ _ _ _ _)
      | (with_reducible exact ih1 _ _ _ _ _ _)
      | (with_reducible exact LeO.refl _)
      | (with_reducible exact LeO.none _)
      | (with_reducible refine LeO.ite ?_ ?_)
      | (with_reducible refine LeO.bind ?_ (fun _ => ?_))
      | exact ih0 _ _ _ _ _
      | exact ih1 _ _ _ _ _ _
      | exact LeO.none _
      | refine LeO.ite ?_ ?_
      | refine LeO.bind ?_ (fun _ => ?_)
    · intro y0 y1 y2 y3 y4 y5
      unfold compositorref09_Runs.l1
      repeat' first
      | (with_reducible exact ih0 _ _ _ _ _)
      | (with_reducible exact ih1 _ _ _ _ _ _)
      | (with_reducible exact LeO.refl _)
      | (with_reducible exact LeO.none _)
      | (with_reducible refine LeO.ite ?_ ?_)
      | (with_reducible refine LeO.bind ?_ (fun _ => ?_))
      | exact ih0 _ _ _ _ _
      | exact ih1 _ _ _ _ _ _
      | exact LeO.none _
      | refine LeO.ite ?_ ?_
      | refine LeO.bind ?_ (fun _ => ?_)
theorem compositorref09_Runs.mono : ∀ a0 a1 a2 k, LeO (compositorref09_Runs.f k a0 a1 a2) (compositorref09_Runs.f (k + 1) a0 a1 a2) := by
  intro a0 a1 a2 k
  obtain ⟨ih0, ih1⟩ := compositorref09_Runs.mono_l k
  unfold compositorref09_Runs.f
  repeat' first
      | (with_reducible exact ih0 _ _ _ _ _)
      | (with_reducible exact ih1 _ _ _ _ _ _)
      | (with_reducible exact LeO.refl _)
      | (with_reducible exact LeO.none _)
      | (with_reducible refine LeO.ite ?_ ?_)
      | (with_reducible refine LeO.bind ?_ (fun _ => ?_))
      | exact ih0 _ _ _ _ _
      | exact ih1 _ _ _ _ _ _
      | exact LeO.none _
      | refine LeO.ite ?_ ?_
      | refine LeO.bind ?_ (fun _ => ?_)
set_option maxHeartbeats 8000000 in
set_option maxRecDepth 100000 in
theorem compositorref09_Runs.calls (k : Nat) (a0 : Int) (a1 : Int) (A2 : Option Addr) (c2 : Nat) (l2 : List Bool) (r : List (S47)) (w : World) (hr2 : Kd.C Kd.bool w A2 l2.length l2) (hc2 : l2.length ≤ c2) (h : compositorref09_Runs.f k a0 a1 l2 = some r) :
    Calls Try.prog 46 #[.int .i64 a0, .int .i64 a1, .slice A2 l2.length c2] w fun e w' => ∃ v0_ : Value, e = .returned (v0_) ∧ Kd.R k47 47 w' w.heap.size (fun _ => True) v0_ r ∧ Below w.heap.size w w' := by
  have hu47 := Try.underlying47
  have HR2 := Aside0.mk hr2
  have HC2 := Aside0.mk hc2
  clear hr2 hc2
  have HB := Aside0.mk (Below.refl w.heap.size w)
  have H : (compositorref09_Runs.l0 k a0 a1 l2 ([] : List (S47)) 0) = some r := h
  clear h
  have H' := Aside0.mk H
  clear H
  go_enter Try.func46, Try.ntmps46
  go_wp2
  go_loopg [7, 8] k (fun kq v7 v8 w' => ∃ (x7_1 : List (S47)) (x8_1 : Int), v8 = .int .i64 x8_1 ∧ Aside0 (compositorref09_Runs.l0 kq a0 a1 l2 x7_1 x8_1 = some r) ∧ Aside0 (kq ≤ k) ∧ Aside0 (Kd.R k47 47 w' w.heap.size (fun _ => True) v7 x7_1) ∧ Aside0 (Below w.heap.size w w'))
  case atStart => exact ⟨(([] : List (S47))), (0), (by first | rfl | (simp; done) | (simp [*]; done)), H', ⟨Nat.le_refl _⟩, ⟨by first | exact Kd.R_nil _ _ _ _ _ | exact Kd.N_nil _ _ _ _ _ | exact Kd.V_nil _ _ _ _ _ | exact Kd.Q_nil _ _ _ _ _ | exact Kd.S_nil _ _ _ _ _⟩, ⟨by repeat (first | (with_reducible first | exact HB.out | apply below_alloc | apply pw_below_drewN | apply below_drew1) | exact HB.out)⟩⟩
  case round =>
    clear H'
    try clear c2
    try clear p2
    obtain ⟨x7_1, x8_1, rfl, HA, HK1, HO_7, HB⟩ := hrel
    cases gk with
    | zero => exact absurd HA.out (by simp [compositorref09_Runs.l0])
    | succ k1 =>
      have H := HA.out
      clear HA
      simp only [compositorref09_Runs.l0] at H
      by_cases c4 : x8_1 < a1
      · rw [if_pos c4] at H
        have c4b0 : decide (x8_1 < a1) = true := decide_eq_true c4
        clear c4
        have H' := Aside0.mk H
        clear H
        go_wp2
        go_loopg [7, 9] k1 (fun kq v7 v9 w' => ∃ (x7_2 : List (S47)) (x9_2 : Int), v9 = .int .i64 x9_2 ∧ Aside0 (compositorref09_Runs.l1 kq a0 a1 l2 x7_2 x8_1 x9_2 = some r) ∧ Aside0 (kq ≤ k1) ∧ Aside0 (Kd.R k47 47 w' w.heap.size (fun _ => True) v7 x7_2) ∧ Aside0 (Below w.heap.size w w'))
        case atStart => exact ⟨(x7_1), (0), (by first | rfl | (simp; done) | (simp [*]; done)), H', ⟨Nat.le_refl _⟩, ⟨by (with_reducible repeat (first | apply Kd.R_alloc | apply Kd.R_drewN | apply Kd.R_drew)); exact HO_7.out⟩, ⟨by repeat (first | (with_reducible first | exact HB.out | apply below_alloc | apply pw_below_drewN | apply below_drew1) | exact HB.out)⟩⟩
        case round =>
          clear H'
          try clear c2
          try clear p2
          try clear c4
          try clear c4b0
          try clear p2
          obtain ⟨x7_2, x9_2, rfl, HA, HK2, HO_7, HB⟩ := hrel
          cases gk with
          | zero => exact absurd HA.out (by simp [compositorref09_Runs.l1])
          | succ k2 =>
            have H := HA.out
            clear HA
            simp only [compositorref09_Runs.l1] at H
            by_cases c5 : x9_2 < a0
            · rw [if_pos c5] at H
              have c5b0 : decide (x9_2 < a0) = true := decide_eq_true c5
              clear c5
              obtain ⟨ji6, hji6⟩ : ∃ j_ : Int, (wrap64 ((wrap64 (x8_1 * a0)) + x9_2)) = j_ := ⟨_, rfl⟩
              replace H : (if 0 ≤ (ji6) then (if (ji6) < (l2.length : Int) then (if (rdOf false l2 (ji6) = true) then (if x9_2 > 0 then (if 0 ≤ (wrap64 ((ji6) - 1)) then (if (wrap64 ((ji6) - 1)) < (l2.length : Int) then (if rdOf false l2 (wrap64 ((ji6) - 1)) = true then (if 0 ≤ (wrap64 ((x7_2.length : Int) - 1)) then (if (wrap64 ((x7_2.length : Int) - 1)) < (x7_2.length : Int) then (compositorref09_Runs.l1 k2 a0 a1 l2 (x7_2.set ((wrap64 ((x7_2.length : Int) - 1)) : Int).toNat (⟨(rd_T47 x7_2 (wrap64 ((x7_2.length : Int) - 1))).f0, (rd_T47 x7_2 (wrap64 ((x7_2.length : Int) - 1))).f1, wrap64 (x9_2 + 1), (rd_T47 x7_2 (wrap64 ((x7_2.length : Int) - 1))).f3⟩ : S47)) x8_1 (wrap64 (x9_2 + 1))) else (none)) else (none)) else (if x7_2.length < 4398046511104 then (compositorref09_Runs.l1 k2 a0 a1 l2 (x7_2 ++ [(⟨x9_2, x8_1, wrap64 (x9_2 + 1), wrap64 (x8_1 + 1)⟩ : S47)]) x8_1 (wrap64 (x9_2 + 1))) else (none))) else (none)) else (none)) else (if x7_2.length < 4398046511104 then (compositorref09_Runs.l1 k2 a0 a1 l2 (x7_2 ++ [(⟨x9_2, x8_1, wrap64 (x9_2 + 1), wrap64 (x8_1 + 1)⟩ : S47)]) x8_1 (wrap64 (x9_2 + 1))) else (none))) else (compositorref09_Runs.l1 k2 a0 a1 l2 x7_2 x8_1 (wrap64 (x9_2 + 1)))) else (none)) else (none)) = some r := by first | (rw [hji6] at H; exact H) | (simp only [hji6] at H ⊢; exact H)
              have hji6w : (IntKind.i64.wrap ((wrap64 (x8_1 * a0)) + x9_2)) = ji6 := (i64_w _).trans hji6
              by_cases c7 : 0 ≤ (ji6)
              · rw [if_pos c7] at H
                have c7b0 : decide (0 ≤ (ji6)) = true := decide_eq_true c7
                clear c7
                by_cases c8 : (ji6) < (l2.length : Int)
                · rw [if_pos c8] at H
                  have c8b0 : decide ((ji6) < (l2.length : Int)) = true := decide_eq_true c8
                  clear c8
                  obtain ⟨bq9, hbq9⟩ : ∃ b_ : Bool, b_ = (rdOf false l2 (ji6)) := ⟨_, rfl⟩
                  replace H : (if (bq9 = true) then (if x9_2 > 0 then (if 0 ≤ (wrap64 ((ji6) - 1)) then (if (wrap64 ((ji6) - 1)) < (l2.length : Int) then (if rdOf false l2 (wrap64 ((ji6) - 1)) = true then (if 0 ≤ (wrap64 ((x7_2.length : Int) - 1)) then (if (wrap64 ((x7_2.length : Int) - 1)) < (x7_2.length : Int) then (compositorref09_Runs.l1 k2 a0 a1 l2 (x7_2.set ((wrap64 ((x7_2.length : Int) - 1)) : Int).toNat (⟨(rd_T47 x7_2 (wrap64 ((x7_2.length : Int) - 1))).f0, (rd_T47 x7_2 (wrap64 ((x7_2.length : Int) - 1))).f1, wrap64 (x9_2 + 1), (rd_T47 x7_2 (wrap64 ((x7_2.length : Int) - 1))).f3⟩ : S47)) x8_1 (wrap64 (x9_2 + 1))) else (none)) else (none)) else (if x7_2.length < 4398046511104 then (compositorref09_Runs.l1 k2 a0 a1 l2 (x7_2 ++ [(⟨x9_2, x8_1, wrap64 (x9_2 + 1), wrap64 (x8_1 + 1)⟩ : S47)]) x8_1 (wrap64 (x9_2 + 1))) else (none))) else (none)) else (none)) else (if x7_2.length < 4398046511104 then (compositorref09_Runs.l1 k2 a0 a1 l2 (x7_2 ++ [(⟨x9_2, x8_1, wrap64 (x9_2 + 1), wrap64 (x8_1 + 1)⟩ : S47)]) x8_1 (wrap64 (x9_2 + 1))) else (none))) else (compositorref09_Runs.l1 k2 a0 a1 l2 x7_2 x8_1 (wrap64 (x9_2 + 1)))) = some r := by rw [← hbq9] at H; exact H
                  have Nbq9 := Aside0.mk hbq9
                  clear hbq9
                  by_cases c10 : (bq9 = true)
                  · subst c10
                    have H1 : (if x9_2 > 0 then (if 0 ≤ (wrap64 ((ji6) - 1)) then (if (wrap64 ((ji6) - 1)) < (l2.length : Int) then (if rdOf false l2 (wrap64 ((ji6) - 1)) = true then (if 0 ≤ (wrap64 ((x7_2.length : Int) - 1)) then (if (wrap64 ((x7_2.length : Int) - 1)) < (x7_2.length : Int) then (compositorref09_Runs.l1 k2 a0 a1 l2 (x7_2.set ((wrap64 ((x7_2.length : Int) - 1)) : Int).toNat (⟨(rd_T47 x7_2 (wrap64 ((x7_2.length : Int) - 1))).f0, (rd_T47 x7_2 (wrap64 ((x7_2.length : Int) - 1))).f1, wrap64 (x9_2 + 1), (rd_T47 x7_2 (wrap64 ((x7_2.length : Int) - 1))).f3⟩ : S47)) x8_1 (wrap64 (x9_2 + 1))) else (none)) else (none)) else (if x7_2.length < 4398046511104 then (compositorref09_Runs.l1 k2 a0 a1 l2 (x7_2 ++ [(⟨x9_2, x8_1, wrap64 (x9_2 + 1), wrap64 (x8_1 + 1)⟩ : S47)]) x8_1 (wrap64 (x9_2 + 1))) else (none))) else (none)) else (none)) else (if x7_2.length < 4398046511104 then (compositorref09_Runs.l1 k2 a0 a1 l2 (x7_2 ++ [(⟨x9_2, x8_1, wrap64 (x9_2 + 1), wrap64 (x8_1 + 1)⟩ : S47)]) x8_1 (wrap64 (x9_2 + 1))) else (none))) = some r := by rw [if_pos rfl] at H; exact H
                    clear H
                    have H := H1
                    clear H1
                    by_cases c11 : x9_2 > 0
                    · rw [if_pos c11] at H
                      have c11b0 : decide (0 < x9_2) = true := decide_eq_true c11
                      clear c11
                      obtain ⟨ji12, hji12⟩ : ∃ j_ : Int, (wrap64 ((ji6) - 1)) = j_ := ⟨_, rfl⟩
                      replace H : (if 0 ≤ (ji12) then (if (ji12) < (l2.length : Int) then (if rdOf false l2 (ji12) = true then (if 0 ≤ (wrap64 ((x7_2.length : Int) - 1)) then (if (wrap64 ((x7_2.length : Int) - 1)) < (x7_2.length : Int) then (compositorref09_Runs.l1 k2 a0 a1 l2 (x7_2.set ((wrap64 ((x7_2.length : Int) - 1)) : Int).toNat (⟨(rd_T47 x7_2 (wrap64 ((x7_2.length : Int) - 1))).f0, (rd_T47 x7_2 (wrap64 ((x7_2.length : Int) - 1))).f1, wrap64 (x9_2 + 1), (rd_T47 x7_2 (wrap64 ((x7_2.length : Int) - 1))).f3⟩ : S47)) x8_1 (wrap64 (x9_2 + 1))) else (none)) else (none)) else (if x7_2.length < 4398046511104 then (compositorref09_Runs.l1 k2 a0 a1 l2 (x7_2 ++ [(⟨x9_2, x8_1, wrap64 (x9_2 + 1), wrap64 (x8_1 + 1)⟩ : S47)]) x8_1 (wrap64 (x9_2 + 1))) else (none))) else (none)) else (none)) = some r := by first | (rw [hji12] at H; exact H) | (simp only [hji12] at H ⊢; exact H)
                      have hji12w : (IntKind.i64.wrap ((ji6) - 1)) = ji12 := (i64_w _).trans hji12
                      by_cases c13 : 0 ≤ (ji12)
                      · rw [if_pos c13] at H
                        have c13b0 : decide (0 ≤ (ji12)) = true := decide_eq_true c13
                        clear c13
                        by_cases c14 : (ji12) < (l2.length : Int)
                        · rw [if_pos c14] at H
                          have c14b0 : decide ((ji12) < (l2.length : Int)) = true := decide_eq_true c14
                          clear c14
                          obtain ⟨bq15, hbq15⟩ : ∃ b_ : Bool, b_ = (rdOf false l2 (ji12)) := ⟨_, rfl⟩
                          replace H : (if bq15 = true then (if 0 ≤ (wrap64 ((x7_2.length : Int) - 1)) then (if (wrap64 ((x7_2.length : Int) - 1)) < (x7_2.length : Int) then (compositorref09_Runs.l1 k2 a0 a1 l2 (x7_2.set ((wrap64 ((x7_2.length : Int) - 1)) : Int).toNat (⟨(rd_T47 x7_2 (wrap64 ((x7_2.length : Int) - 1))).f0, (rd_T47 x7_2 (wrap64 ((x7_2.length : Int) - 1))).f1, wrap64 (x9_2 + 1), (rd_T47 x7_2 (wrap64 ((x7_2.length : Int) - 1))).f3⟩ : S47)) x8_1 (wrap64 (x9_2 + 1))) else (none)) else (none)) else (if x7_2.length < 4398046511104 then (compositorref09_Runs.l1 k2 a0 a1 l2 (x7_2 ++ [(⟨x9_2, x8_1, wrap64 (x9_2 + 1), wrap64 (x8_1 + 1)⟩ : S47)]) x8_1 (wrap64 (x9_2 + 1))) else (none))) = some r := by rw [← hbq15] at H; exact H
                          have Nbq15 := Aside0.mk hbq15
                          clear hbq15
                          by_cases c16 : bq15 = true
                          · subst c16
                            have H1 : (if 0 ≤ (wrap64 ((x7_2.length : Int) - 1)) then (if (wrap64 ((x7_2.length : Int) - 1)) < (x7_2.length : Int) then (compositorref09_Runs.l1 k2 a0 a1 l2 (x7_2.set ((wrap64 ((x7_2.length : Int) - 1)) : Int).toNat (⟨(rd_T47 x7_2 (wrap64 ((x7_2.length : Int) - 1))).f0, (rd_T47 x7_2 (wrap64 ((x7_2.length : Int) - 1))).f1, wrap64 (x9_2 + 1), (rd_T47 x7_2 (wrap64 ((x7_2.length : Int) - 1))).f3⟩ : S47)) x8_1 (wrap64 (x9_2 + 1))) else (none)) else (none)) = some r := by rw [if_pos rfl] at H; exact H
                            clear H
                            have H := H1
                            clear H1
                            obtain ⟨ji17, hji17⟩ : ∃ j_ : Int, (wrap64 ((x7_2.length : Int) - 1)) = j_ := ⟨_, rfl⟩
                            replace H : (if 0 ≤ (ji17) then (if (ji17) < (x7_2.length : Int) then (compositorref09_Runs.l1 k2 a0 a1 l2 (x7_2.set ((ji17) : Int).toNat (⟨(rd_T47 x7_2 (ji17)).f0, (rd_T47 x7_2 (ji17)).f1, wrap64 (x9_2 + 1), (rd_T47 x7_2 (ji17)).f3⟩ : S47)) x8_1 (wrap64 (x9_2 + 1))) else (none)) else (none)) = some r := by first | (rw [hji17] at H; exact H) | (simp only [hji17] at H ⊢; exact H)
                            have hji17w : (IntKind.i64.wrap ((x7_2.length : Int) - 1)) = ji17 := (i64_w _).trans hji17
                            by_cases c18 : 0 ≤ (ji17)
                            · rw [if_pos c18] at H
                              have c18b0 : decide (0 ≤ (ji17)) = true := decide_eq_true c18
                              clear c18
                              by_cases c19 : (ji17) < (x7_2.length : Int)
                              · rw [if_pos c19] at H
                                have c19b0 : decide ((ji17) < (x7_2.length : Int)) = true := decide_eq_true c19
                                clear c19
                                obtain ⟨y264, hy264⟩ : ∃ y_ : List (S47), y_ = (x7_2.set ((ji17) : Int).toNat (⟨(rd_T47 x7_2 (ji17)).f0, (rd_T47 x7_2 (ji17)).f1, wrap64 (x9_2 + 1), (rd_T47 x7_2 (ji17)).f3⟩ : S47)) := ⟨_, rfl⟩
                                replace H : (compositorref09_Runs.l1 k2 a0 a1 l2 y264 x8_1 (wrap64 (x9_2 + 1))) = some r := by first | (rw [hy264]; with_reducible exact H) | (have H2_ := (Option.bind_some _ _).symm.trans H; rw [hy264]; with_reducible exact H2_) | (have H2_ := (Option.bind_some _ _).symm.trans H; with_reducible exact H2_) | with_reducible exact H | (rw [hy264]; exact H) | exact H
                                have Ny264 := Aside0.mk hy264
                                clear hy264
                                have H' := Aside0.mk H
                                clear H
                                have p262 : 0 ≤ ((ji6) : Int) := of_decide_eq_true (by first | (with_reducible assumption) | assumption)
                                have q262 : (ji6) < (l2.length : Int) := of_decide_eq_true (by first | (with_reducible assumption) | assumption)
                                obtain ⟨ad262, e262, hx262_0⟩ := Kd.at_bool HR2.out (ji6) p262 q262
                                (try rw [← Nbq9.out] at hx262_0)
                                (try rw [← Nbq15.out] at hx262_0)
                                cases e262
                                replace hx262_0 := (HB.out.cell (World.block_lt_of_cell? w _ hx262_0)).trans hx262_0
                                replace p262 := eq_true p262
                                replace q262 := eq_true q262
                                have p263 : 0 ≤ ((ji12) : Int) := of_decide_eq_true (by first | (with_reducible assumption) | assumption)
                                have q263 : (ji12) < (l2.length : Int) := of_decide_eq_true (by first | (with_reducible assumption) | assumption)
                                obtain ⟨ad263, e263, hx263_0⟩ := Kd.at_bool HR2.out (ji12) p263 q263
                                (try rw [← Nbq9.out] at hx263_0)
                                (try rw [← Nbq15.out] at hx263_0)
                                obtain rfl : ad262 = ad263 := (by injection e263)
                                replace hx263_0 := (HB.out.cell (World.block_lt_of_cell? w _ hx263_0)).trans hx263_0
                                replace p263 := eq_true p263
                                replace q263 := eq_true q263
                                obtain ⟨Ao21, co21, eo21⟩ := Kd.R_slice HO_7.out
                                subst eo21
                                have p20 : 0 ≤ ((ji17) : Int) := of_decide_eq_true (by first | (with_reducible assumption) | assumption)
                                have q20 : ((ji17) : Int) < ((x7_2.length : Int) : Int) := of_decide_eq_true (by first | (with_reducible assumption) | assumption)
                                obtain ⟨go20, co20, eo20, gb20, gl20, cl20, HG20⟩ := Kd.R_form HO_7.out (by omega)
                                (first | cases eo20 | (injection eo20 with ea_ en_ ec_; (first | subst ea_ | (injection ea_ with ea_; subst ea_)); subst ec_; clear en_))
                                have GB20 := Aside0.mk gb20
                                have GG20 := Aside0.mk HG20
                                clear gb20 gl20 HG20
                                obtain ⟨ce20, hcl20, hM20, hcc20, hfr20⟩ := Kd.R_elem HO_7.out z47 ((ji17) : Int) p20 q20
                                obtain rfl := k47_openM hM20
                                have hx20_0 : wr.cell? ⟨go20, ((ji17) : Int).toNat * 4, none⟩ = some (.int .i64 ((rd_T47 x7_2 (ji17)).f0)) := hcc20 0 _ rfl
                                have hx20_1 : wr.cell? ⟨go20, ((ji17) : Int).toNat * 4 + 1, none⟩ = some (.int .i64 ((rd_T47 x7_2 (ji17)).f1)) := hcc20 1 _ rfl
                                have hx20_2 : wr.cell? ⟨go20, ((ji17) : Int).toNat * 4 + 2, none⟩ = some (.int .i64 ((rd_T47 x7_2 (ji17)).f2)) := hcc20 2 _ rfl
                                have hx20_3 : wr.cell? ⟨go20, ((ji17) : Int).toNat * 4 + 3, none⟩ = some (.int .i64 ((rd_T47 x7_2 (ji17)).f3)) := hcc20 3 _ rfl
                                have hf20_0 : wr.frozen? ⟨go20, ((ji17) : Int).toNat * 4, none⟩ = false := hfr20 0
                                have hf20_1 : wr.frozen? ⟨go20, ((ji17) : Int).toNat * 4 + 1, none⟩ = false := hfr20 1
                                have hf20_2 : wr.frozen? ⟨go20, ((ji17) : Int).toNat * 4 + 2, none⟩ = false := hfr20 2
                                have hf20_3 : wr.frozen? ⟨go20, ((ji17) : Int).toNat * 4 + 3, none⟩ = false := hfr20 3
                                clear hcl20 hcc20 hfr20 hM20
                                replace p20 := eq_true p20
                                replace q20 := eq_true q20
                                have HX22 := Aside0.mk (show Kd.R k47 47 wr w.heap.size (fun _ => True) (.slice (some ⟨go20, 0, none⟩) x7_2.length co21) x7_2 from (by (with_reducible repeat (first | apply Kd.R_alloc | apply Kd.R_drewN | apply Kd.R_drew)); exact HO_7.out))
                                obtain ⟨ce22, hcl22, hM22, hcc22, hfr22⟩ := Kd.R_elem HX22.out z47 ((ji17) : Int) (of_decide_eq_true (by first | (with_reducible assumption) | assumption)) (by have h_ : ((ji17) : Int) < ((x7_2.length : Int) : Int) := of_decide_eq_true (by first | (with_reducible assumption) | assumption); first | exact h_ | (have e_ := (Kd.R_reads' HO_7.out).1; omega) | simpa using h_)
                                obtain rfl := k47_openM hM22
                                have HP22 := Kd.R_seg HX22.out ((ji17) : Int) (of_decide_eq_true (by first | (with_reducible assumption) | assumption)) (by have h_ : ((ji17) : Int) < ((x7_2.length : Int) : Int) := of_decide_eq_true (by first | (with_reducible assumption) | assumption); first | exact h_ | (have e_ := (Kd.R_reads' HO_7.out).1; omega) | simpa using h_) (seg := [.int .i64 (wrap64 (x9_2 + 1))]) (j := 2) hcl22 hcc22 (show 3 ≤ 4 from by decide) (x' := (⟨(rd_T47 x7_2 (ji17)).f0, (rd_T47 x7_2 (ji17)).f1, wrap64 (x9_2 + 1), (rd_T47 x7_2 (ji17)).f3⟩ : S47)) (k47_mkM _ _ _ (⟨(rd_T47 x7_2 (ji17)).f0, (rd_T47 x7_2 (ji17)).f1, wrap64 (x9_2 + 1), (rd_T47 x7_2 (ji17)).f3⟩ : S47) ) (fun _ hk => hk)
                                have hx22_2 := hcc22 2 _ rfl
                                (try simp only [show (k47).sz = 4 from rfl, Nat.mul_one, Nat.add_zero] at hx22_2)
                                have hf22_2 := hfr22 2
                                (try simp only [show (k47).sz = 4 from rfl, Nat.mul_one, Nat.add_zero] at hf22_2)
                                clear hcl22 hcc22 hfr22 hM22
                                go_wp2_with (first | ((with_reducible refine gate_store (t := 3) (p := 49) rfl ?_); refine store_event (t := 3) (p := 49) (v := ?vo_w23) (w1 := (wr.setCell ⟨go20, ((ji17) : Int).toNat * 4 + 2, none⟩ (.int .i64 (wrap64 (x9_2 + 1))))) ?hg ?ho ?hn ?hr ?_; (case ho => rfl); (case hg => rfl); (case hn => rfl); (case hr => first | (go_simp; done) | (go_simp; rfl)); intro w23 hw; have hg : wr.grownBy w23 (some go20) := (by rw [hw]; exact HP22.2); have hp_ : Kd.R k47 47 w23 w.heap.size (fun _ => True) (.slice (some ⟨go20, 0, none⟩) x7_2.length co21) y264 := (by rw [hw, Ny264.out]; exact HP22.1); clear HP22; have n0_ := Aside0.mk (hp_); have n1_ := Aside0.mk ((by rw [hw]; exact below_set (HB.out) GB20.out : Below w.heap.size w w23)); clear HO_7; clear HB; have HO_7 := n0_; have HB := n1_; clear n0_ n1_; clear hg hw hp_))
                                go_roundg k2
                                case measure => have := HK1.out; have := HK2.out; omega
                                case rel => exact ⟨(y264), (wrap64 (x9_2 + 1)), (by first | rfl | (simp; done) | (simp [*]; done)), H', ⟨by have := HK1.out; have := HK2.out; omega⟩, ⟨by (with_reducible repeat (first | apply Kd.R_alloc | apply Kd.R_drewN | apply Kd.R_drew)); exact HO_7.out⟩, ⟨by repeat (first | (with_reducible first | exact HB.out | apply below_alloc | apply pw_below_drewN | apply below_drew1) | exact HB.out)⟩⟩
                              · rw [if_neg c19] at H
                                exact absurd H (by simp)
                            · rw [if_neg c18] at H
                              exact absurd H (by simp)
                          · replace c16 := Bool.eq_false_iff.mpr c16
                            subst c16
                            have H1 : (if x7_2.length < 4398046511104 then (compositorref09_Runs.l1 k2 a0 a1 l2 (x7_2 ++ [(⟨x9_2, x8_1, wrap64 (x9_2 + 1), wrap64 (x8_1 + 1)⟩ : S47)]) x8_1 (wrap64 (x9_2 + 1))) else (none)) = some r := by rw [if_neg (show ¬ (false = true) by decide)] at H; exact H
                            clear H
                            have H := H1
                            clear H1
                            by_cases c24 : x7_2.length < 4398046511104
                            · rw [if_pos c24] at H
                              have LMc24 := Aside0.mk c24
                              clear c24
                              obtain ⟨y265, hy265⟩ : ∃ y_ : List (S47), y_ = (x7_2 ++ [(⟨x9_2, x8_1, wrap64 (x9_2 + 1), wrap64 (x8_1 + 1)⟩ : S47)]) := ⟨_, rfl⟩
                              replace H : (compositorref09_Runs.l1 k2 a0 a1 l2 y265 x8_1 (wrap64 (x9_2 + 1))) = some r := by first | (rw [hy265]; with_reducible exact H) | (have H2_ := (Option.bind_some _ _).symm.trans H; rw [hy265]; with_reducible exact H2_) | (have H2_ := (Option.bind_some _ _).symm.trans H; with_reducible exact H2_) | with_reducible exact H | (rw [hy265]; exact H) | exact H
                              have Ny265 := Aside0.mk hy265
                              clear hy265
                              have H' := Aside0.mk H
                              clear H
                              have p262 : 0 ≤ ((ji6) : Int) := of_decide_eq_true (by first | (with_reducible assumption) | assumption)
                              have q262 : (ji6) < (l2.length : Int) := of_decide_eq_true (by first | (with_reducible assumption) | assumption)
                              obtain ⟨ad262, e262, hx262_0⟩ := Kd.at_bool HR2.out (ji6) p262 q262
                              (try rw [← Nbq9.out] at hx262_0)
                              (try rw [← Nbq15.out] at hx262_0)
                              cases e262
                              replace hx262_0 := (HB.out.cell (World.block_lt_of_cell? w _ hx262_0)).trans hx262_0
                              replace p262 := eq_true p262
                              replace q262 := eq_true q262
                              have p263 : 0 ≤ ((ji12) : Int) := of_decide_eq_true (by first | (with_reducible assumption) | assumption)
                              have q263 : (ji12) < (l2.length : Int) := of_decide_eq_true (by first | (with_reducible assumption) | assumption)
                              obtain ⟨ad263, e263, hx263_0⟩ := Kd.at_bool HR2.out (ji12) p263 q263
                              (try rw [← Nbq9.out] at hx263_0)
                              (try rw [← Nbq15.out] at hx263_0)
                              obtain rfl : ad262 = ad263 := (by injection e263)
                              replace hx263_0 := (HB.out.cell (World.block_lt_of_cell? w _ hx263_0)).trans hx263_0
                              replace p263 := eq_true p263
                              replace q263 := eq_true q263
                              go_wp2_with (first | ((with_reducible refine gate_builtin (b := .append) (xs := #[.tmp 50, .tmp 58]) rfl ?_); at_builtin; refine Kd.R_append k47 (w0 := w) w.heap.size rfl (.tmp 50) (.tmp 58) 33 47 (.agg #[(.int .i64 0), (.int .i64 0), (.int .i64 0), (.int .i64 0)]) 32 rfl Try.underlying33 info47 rfl (by decide) (by omega) u7 x7_2 (⟨x9_2, x8_1, wrap64 (x9_2 + 1), wrap64 (x8_1 + 1)⟩ : S47) [.int .i64 x9_2, .int .i64 x8_1, .int .i64 (wrap64 (x9_2 + 1)), .int .i64 (wrap64 (x8_1 + 1))] (fun _ => True) (fun _ => False) rfl rfl ?aP (fun _ hk => hk.elim) ?aF ?aO ?aB ?aS ?aL ?_; (case aP => exact k47_mkM _ _ _ (⟨x9_2, x8_1, wrap64 (x9_2 + 1), wrap64 (x8_1 + 1)⟩ : S47)); (case aB => exact (by repeat (first | (with_reducible first | exact HB.out | apply below_alloc | apply pw_below_drewN | apply below_drew1) | exact HB.out))); (case aF => exact (fun _ _ => trivial)); (case aO => exact (by (with_reducible repeat (first | apply Kd.R_alloc | apply Kd.R_drewN | apply Kd.R_drew)); exact HO_7.out)); (case aS => exact (below_size (by repeat (first | (with_reducible first | exact HB.out | apply below_alloc | apply pw_below_drewN | apply below_drew1) | exact HB.out)))); (case aL => have := LMc24.out; omega); intro v266 w25 ho hb hg hat; rw [← Ny265.out] at ho; have n0_ := Aside0.mk (hb); have n1_ := Aside0.mk (ho); clear HB; clear HO_7; have HB := n0_; have HO267 := n1_; clear n0_ n1_; clear ho hb hg hat))
                              go_roundg k2
                              case measure => have := HK1.out; have := HK2.out; omega
                              case rel => exact ⟨(y265), (wrap64 (x9_2 + 1)), (by first | rfl | (simp; done) | (simp [*]; done)), H', ⟨by have := HK1.out; have := HK2.out; omega⟩, ⟨by (with_reducible repeat (first | apply Kd.R_alloc | apply Kd.R_drewN | apply Kd.R_drew)); exact HO267.out⟩, ⟨by repeat (first | (with_reducible first | exact HB.out | apply below_alloc | apply pw_below_drewN | apply below_drew1) | exact HB.out)⟩⟩
                            · rw [if_neg c24] at H
                              exact absurd H (by simp)
                        · rw [if_neg c14] at H
                          exact absurd H (by simp)
                      · rw [if_neg c13] at H
                        exact absurd H (by simp)
                    · rw [if_neg c11] at H
                      have c11b0 : decide (0 < x9_2) = false := decide_eq_false c11
                      clear c11
                      by_cases c26 : x7_2.length < 4398046511104
                      · rw [if_pos c26] at H
                        have LMc26 := Aside0.mk c26
                        clear c26
                        obtain ⟨y268, hy268⟩ : ∃ y_ : List (S47), y_ = (x7_2 ++ [(⟨x9_2, x8_1, wrap64 (x9_2 + 1), wrap64 (x8_1 + 1)⟩ : S47)]) := ⟨_, rfl⟩
                        replace H : (compositorref09_Runs.l1 k2 a0 a1 l2 y268 x8_1 (wrap64 (x9_2 + 1))) = some r := by first | (rw [hy268]; with_reducible exact H) | (have H2_ := (Option.bind_some _ _).symm.trans H; rw [hy268]; with_reducible exact H2_) | (have H2_ := (Option.bind_some _ _).symm.trans H; with_reducible exact H2_) | with_reducible exact H | (rw [hy268]; exact H) | exact H
                        have Ny268 := Aside0.mk hy268
                        clear hy268
                        have H' := Aside0.mk H
                        clear H
                        have p262 : 0 ≤ ((ji6) : Int) := of_decide_eq_true (by first | (with_reducible assumption) | assumption)
                        have q262 : (ji6) < (l2.length : Int) := of_decide_eq_true (by first | (with_reducible assumption) | assumption)
                        obtain ⟨ad262, e262, hx262_0⟩ := Kd.at_bool HR2.out (ji6) p262 q262
                        (try rw [← Nbq9.out] at hx262_0)
                        cases e262
                        replace hx262_0 := (HB.out.cell (World.block_lt_of_cell? w _ hx262_0)).trans hx262_0
                        replace p262 := eq_true p262
                        replace q262 := eq_true q262
                        go_wp2_with (first | ((with_reducible refine gate_builtin (b := .append) (xs := #[.tmp 50, .tmp 58]) rfl ?_); at_builtin; refine Kd.R_append k47 (w0 := w) w.heap.size rfl (.tmp 50) (.tmp 58) 33 47 (.agg #[(.int .i64 0), (.int .i64 0), (.int .i64 0), (.int .i64 0)]) 32 rfl Try.underlying33 info47 rfl (by decide) (by omega) u7 x7_2 (⟨x9_2, x8_1, wrap64 (x9_2 + 1), wrap64 (x8_1 + 1)⟩ : S47) [.int .i64 x9_2, .int .i64 x8_1, .int .i64 (wrap64 (x9_2 + 1)), .int .i64 (wrap64 (x8_1 + 1))] (fun _ => True) (fun _ => False) rfl rfl ?aP (fun _ hk => hk.elim) ?aF ?aO ?aB ?aS ?aL ?_; (case aP => exact k47_mkM _ _ _ (⟨x9_2, x8_1, wrap64 (x9_2 + 1), wrap64 (x8_1 + 1)⟩ : S47)); (case aB => exact (by repeat (first | (with_reducible first | exact HB.out | apply below_alloc | apply pw_below_drewN | apply below_drew1) | exact HB.out))); (case aF => exact (fun _ _ => trivial)); (case aO => exact (by (with_reducible repeat (first | apply Kd.R_alloc | apply Kd.R_drewN | apply Kd.R_drew)); exact HO_7.out)); (case aS => exact (below_size (by repeat (first | (with_reducible first | exact HB.out | apply below_alloc | apply pw_below_drewN | apply below_drew1) | exact HB.out)))); (case aL => have := LMc26.out; omega); intro v269 w27 ho hb hg hat; rw [← Ny268.out] at ho; have n0_ := Aside0.mk (hb); have n1_ := Aside0.mk (ho); clear HB; clear HO_7; have HB := n0_; have HO270 := n1_; clear n0_ n1_; clear ho hb hg hat))
                        go_roundg k2
                        case measure => have := HK1.out; have := HK2.out; omega
                        case rel => exact ⟨(y268), (wrap64 (x9_2 + 1)), (by first | rfl | (simp; done) | (simp [*]; done)), H', ⟨by have := HK1.out; have := HK2.out; omega⟩, ⟨by (with_reducible repeat (first | apply Kd.R_alloc | apply Kd.R_drewN | apply Kd.R_drew)); exact HO270.out⟩, ⟨by repeat (first | (with_reducible first | exact HB.out | apply below_alloc | apply pw_below_drewN | apply below_drew1) | exact HB.out)⟩⟩
                      · rw [if_neg c26] at H
                        exact absurd H (by simp)
                  · replace c10 := Bool.eq_false_iff.mpr c10
                    subst c10
                    have H1 : (compositorref09_Runs.l1 k2 a0 a1 l2 x7_2 x8_1 (wrap64 (x9_2 + 1))) = some r := by rw [if_neg (show ¬ (false = true) by decide)] at H; exact H
                    clear H
                    have H := H1
                    clear H1
                    have H' := Aside0.mk H
                    clear H
                    have p262 : 0 ≤ ((ji6) : Int) := of_decide_eq_true (by first | (with_reducible assumption) | assumption)
                    have q262 : (ji6) < (l2.length : Int) := of_decide_eq_true (by first | (with_reducible assumption) | assumption)
                    obtain ⟨ad262, e262, hx262_0⟩ := Kd.at_bool HR2.out (ji6) p262 q262
                    (try rw [← Nbq9.out] at hx262_0)
                    cases e262
                    replace hx262_0 := (HB.out.cell (World.block_lt_of_cell? w _ hx262_0)).trans hx262_0
                    replace p262 := eq_true p262
                    replace q262 := eq_true q262
                    go_wp2
                    go_roundg k2
                    case measure => have := HK1.out; have := HK2.out; omega
                    case rel => exact ⟨(x7_2), (wrap64 (x9_2 + 1)), (by first | rfl | (simp; done) | (simp [*]; done)), H', ⟨by have := HK1.out; have := HK2.out; omega⟩, ⟨by (with_reducible repeat (first | apply Kd.R_alloc | apply Kd.R_drewN | apply Kd.R_drew)); exact HO_7.out⟩, ⟨by repeat (first | (with_reducible first | exact HB.out | apply below_alloc | apply pw_below_drewN | apply below_drew1) | exact HB.out)⟩⟩
                · rw [if_neg c8] at H
                  exact absurd H (by simp)
              · rw [if_neg c7] at H
                exact absurd H (by simp)
            · rw [if_neg c5] at H
              have c5b0 : decide (x9_2 < a0) = false := decide_eq_false c5
              clear c5
              have H' := Aside0.mk H
              clear H
              go_wp2
              go_roundg k2
              case measure => have := HK1.out; have := HK2.out; omega
              case rel => exact ⟨(x7_2), (wrap64 (x8_1 + 1)), (by first | rfl | (simp; done) | (simp [*]; done)), H', ⟨by have := HK1.out; have := HK2.out; omega⟩, ⟨by (with_reducible repeat (first | apply Kd.R_alloc | apply Kd.R_drewN | apply Kd.R_drew)); exact HO_7.out⟩, ⟨by repeat (first | (with_reducible first | exact HB.out | apply below_alloc | apply pw_below_drewN | apply below_drew1) | exact HB.out)⟩⟩
      · rw [if_neg c4] at H
        have c4b0 : decide (x8_1 < a1) = false := decide_eq_false c4
        clear c4
        obtain rfl := Option.some.inj H
        go_wp2
        go_ret
        exact ⟨_, by first | rfl | (simp [errW_none, errW_some] <;> rfl) | (simp [*, errW_none, errW_some] <;> rfl), by (with_reducible repeat (first | apply Kd.R_alloc | apply Kd.R_drewN | apply Kd.R_drew)); exact HO_7.out, by repeat (first | (with_reducible first | exact HB.out | apply below_alloc | apply pw_below_drewN | apply below_drew1) | exact HB.out)⟩

end Go.Proofs.Ytmockeaiccpogaa.All
