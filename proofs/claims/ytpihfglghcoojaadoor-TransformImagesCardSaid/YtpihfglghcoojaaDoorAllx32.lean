-- Written by a program of this session, which runs the kit's print.py and puts in functions that this session typed. Not trusted: Lean checks it.
import Derived.Test.YtpihfglghcoojaaDoorAllx0
namespace Go.Proofs.YtpihfglghcoojaaDoor.All
open Go.RowKit Go.Proofs.YtpihfglghcoojaaDoorW.PrintWords Go.Proofs.YtpihfglghcoojaaDoorW.PrintLast Go.Proofs.YtpihfglghcoojaaDoorW.PrintMore
attribute [local go_sem] max2_int min2_int max_two min_two max_three min_three max_four min_four   -- for this text's walks alone
set_option linter.unusedVariables false
set_option linter.unusedSimpArgs false

/-! ### transform_valid: function 43 -/
section
open Go.Proofs.YtpihfglghcoojaaDoorHand Go.Proofs.YtpihfglghcoojaaDoorSq
def transform_valid.sz (n : Int) : Bool := if n ≥ 1 then decide (n ≤ 256) else false
def transform_valid.ok (p : S58) : Bool := decide ((if (if p.f0 < p.f1 then p.f1 else p.f0) < p.f2 then p.f2 else if p.f0 < p.f1 then p.f1 else p.f0) ≤ p.f3)
def transform_valid.f (a0_0 a0_1 : Int) (l0_2 : List S58) : Option Bool :=
  if transform_valid.sz a0_0 = true then if transform_valid.sz a0_1 = true then (if (l0_2.length : Int) = wrap64 (a0_0 * a0_1) then some (l0_2.all transform_valid.ok) else some false) else some false else some false
theorem transform_valid.lit (n : Int) (w : World) : Calls Tryd.prog 50 #[.int .i64 n] w fun e w' => e = .returned (.bool (transform_valid.sz n)) ∧ Drawn0 w w' := by
  by_cases c : n ≥ 1
  · have e : transform_valid.sz n = decide (n ≤ 256) := by unfold transform_valid.sz; rw [if_pos c]
    rw [e]
    go_enter Tryd.func50, Tryd.ntmps50
    go_wp2
    go_ret
    exact ⟨rfl, by repeat (first | exact Drawn0.refl _ | apply Drawn0.step)⟩
  · have e : transform_valid.sz n = false := by unfold transform_valid.sz; rw [if_neg c]
    rw [e]
    go_enter Tryd.func50, Tryd.ntmps50
    go_wp2
    go_ret
    exact ⟨rfl, by repeat (first | exact Drawn0.refl _ | apply Drawn0.step)⟩
theorem transform_valid.all_stop {l : List S58} {i : Nat} (hi : i < l.length) (h : transform_valid.ok (rd_T58 l i) = false) : l.all transform_valid.ok = false := by
  have e : rd_T58 l (i : Int) = l[i] := by simp [rd_T58, List.getD_eq_getElem?_getD, List.getElem?_eq_getElem hi]
  rw [e] at h
  rw [Bool.eq_false_iff]
  intro q
  have := List.all_eq_true.mp q l[i] (List.getElem_mem hi)
  rw [h] at this
  cases this
theorem transform_valid.all_done {l : List S58} (h : ∀ i : Nat, i < l.length → transform_valid.ok (rd_T58 l i) = true) : l.all transform_valid.ok = true := by
  refine List.all_eq_true.mpr (fun p hp => ?_)
  obtain ⟨i, hi, rfl⟩ := List.mem_iff_getElem.mp hp
  have e : rd_T58 l (i : Int) = l[i] := by simp [rd_T58, List.getD_eq_getElem?_getD, List.getElem?_eq_getElem hi]
  rw [← e]
  exact h i hi
set_option maxHeartbeats 4000000 in
theorem transform_valid.calls (a0_0 : Int) (a0_1 : Int) (A0_2 : Option Addr) (c0_2 : Nat) (l0_2 : List (S58)) (r : Bool) (w : World) (hr0_2 : Kd.C k58 w A0_2 l0_2.length l0_2) (hc0_2 : l0_2.length ≤ c0_2) (h : transform_valid.f a0_0 a0_1 l0_2 = some r) :
    Calls Tryd.prog 43 #[.agg #[.int .i64 a0_0, .int .i64 a0_1, .slice A0_2 l0_2.length c0_2]] w fun e w' => e = .returned (.bool r) ∧ Below w.heap.size w w' := by
  unfold transform_valid.f at h
  have hmax : l0_2.length ≤ 9223372036854775807 := hr0_2.2.1
  have hC := Aside0.mk hr0_2
  clear hr0_2
  go_enter Tryd.func43, Tryd.ntmps43
  go_wp2_with fail
  obtain ⟨hb0, hB0⟩ := allocs1 w (Obj.cells #[.int .i64 a0_0, .int .i64 a0_1, .slice A0_2 l0_2.length c0_2] 47)
  generalize w.alloc (Obj.cells #[.int .i64 a0_0, .int .i64 a0_1, .slice A0_2 l0_2.length c0_2] 47) = V at hb0 hB0 ⊢
  have hb := Aside0.mk hb0
  have hB := Aside0.mk hB0
  clear hb0 hB0
  refine (transform_valid.lit a0_0 V).mono ?_
  rintro e w1 ⟨rfl, hd⟩
  replace hb := Aside0.mk (cells_drawn hd hb.out)
  replace hB := Aside0.mk (below_step hB.out hd.below)
  clear hd
  have x0 := (blk_cell hb.out 0).trans rfl
  have x1 := (blk_cell hb.out 1).trans rfl
  have x2 := (blk_cell hb.out 2).trans rfl
  cases s0 : transform_valid.sz a0_0 with
  | false =>
    rw [s0] at h
    obtain rfl : false = r := by simpa using h
    go_wp2
    go_ret
    exact ⟨rfl, hB.out⟩
  | true =>
    rw [s0, if_pos rfl] at h
    go_wp2_with fail
    refine (transform_valid.lit a0_1 w1).mono ?_
    rintro e w2 ⟨rfl, hd⟩
    replace hb := Aside0.mk (cells_drawn hd hb.out)
    replace hB := Aside0.mk (below_step hB.out hd.below)
    clear hd x0 x1 x2
    have x0 := (blk_cell hb.out 0).trans rfl
    have x1 := (blk_cell hb.out 1).trans rfl
    have x2 := (blk_cell hb.out 2).trans rfl
    cases s1 : transform_valid.sz a0_1 with
    | false =>
      rw [s1] at h
      obtain rfl : false = r := by simpa using h
      go_wp2
      go_ret
      exact ⟨rfl, hB.out⟩
    | true =>
      rw [s1, if_pos rfl] at h
      by_cases hl : (l0_2.length : Int) = wrap64 (a0_0 * a0_1)
      · rw [if_pos hl] at h
        have hr := Aside0.mk (Option.some.inj h)
        clear h
        have hl1 : ((l0_2.length : Int) != wrap64 (a0_0 * a0_1)) = false := by simpa using hl
        clear hl
        go_wp2_with fail
        clear x0 x1 x2 hl1 s0 s1
        go_loopw [32] (fun v w' => ∃ i : Nat, i ≤ l0_2.length ∧ v = .int .i64 i ∧ Aside0 (∀ j : Nat, j < i → transform_valid.ok (rd_T58 l0_2 j) = true) ∧ Aside0 (Below w.heap.size w w')) (fun v _ => l0_2.length - (intOf v).toNat)
        case atStart => exact ⟨0, Nat.zero_le _, rfl, ⟨fun j hj => absurd hj (by omega)⟩, hB⟩
        case round =>
          clear hb hB
          obtain ⟨i, hi, rfl, hok, hB⟩ := hrel
          by_cases hlt : i < l0_2.length
          · obtain ⟨ad, e0, x0, x1, x2, x3⟩ := at_T58 hC.out (i : Int) (by omega) (by omega)
            cases e0
            simp only [Int.toNat_natCast] at x0 x1 x2 x3
            replace x0 := (hB.out.cell (World.block_lt_of_cell? w _ x0)).trans x0
            replace x1 := (hB.out.cell (World.block_lt_of_cell? w _ x1)).trans x1
            replace x2 := (hB.out.cell (World.block_lt_of_cell? w _ x2)).trans x2
            replace x3 := (hB.out.cell (World.block_lt_of_cell? w _ x3)).trans x3
            have hok2 : Aside0 (∀ b, transform_valid.ok (rd_T58 l0_2 i) = b → transform_valid.ok (rd_T58 l0_2 i) = b) := ⟨fun _ h => h⟩
            generalize hp : rd_T58 l0_2 (i : Int) = p at x0 x1 x2 x3 hok2
            have Hp := Aside0.mk hp
            clear hp
            have hge := Aside0.mk hB.out.size
            by_cases c : (if (if p.f0 < p.f1 then p.f1 else p.f0) < p.f2 then p.f2 else if p.f0 < p.f1 then p.f1 else p.f0) ≤ p.f3
            · have e : transform_valid.ok p = true := by unfold transform_valid.ok; exact decide_eq_true c
              have He := Aside0.mk e
              clear e
              go_wp2
              all_goals first
                | (exfalso; omega)
                | skip
              go_roundw
              case measure => simp [intOf]; omega
              case rel =>
                refine ⟨i + 1, by omega, by go_num, ⟨fun j hj => ?_⟩, ⟨?_⟩⟩
                · by_cases hji : j = i
                  · subst hji; rw [Hp.out]; exact He.out
                  · exact hok.out j (by omega)
                · exact below_alloc hB.out _
            · have e : transform_valid.ok p = false := by unfold transform_valid.ok; exact decide_eq_false c
              have hall : l0_2.all transform_valid.ok = false := transform_valid.all_stop hlt (by rw [Hp.out]; exact e)
              obtain rfl : false = r := hall.symm.trans hr.out
              clear e hall
              go_wp2
              all_goals first
                | (exfalso; omega)
                | (go_ret; exact ⟨rfl, below_alloc hB.out _⟩)
                | (exfalso; simp_all; done)
          · obtain rfl : i = l0_2.length := by omega
            obtain rfl : true = r := (transform_valid.all_done hok.out).symm.trans hr.out
            go_wp2
            go_ret
            exact ⟨rfl, hB.out⟩
      · rw [if_neg hl] at h
        obtain rfl : false = r := by simpa using h
        have hl1 : ((l0_2.length : Int) != wrap64 (a0_0 * a0_1)) = true := by simpa using hl
        go_wp2
        go_ret
        exact ⟨rfl, hB.out⟩
end


end Go.Proofs.YtpihfglghcoojaaDoor.All
