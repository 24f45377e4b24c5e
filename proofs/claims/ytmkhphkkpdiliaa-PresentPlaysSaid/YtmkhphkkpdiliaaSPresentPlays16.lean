-- The texts behind this claim's law, put together by a program of this session (shake.py): what no text uses is left out. Its words are print.sh's.
import Derived.WalkMore
import Derived.Deep.DeepCutAuto
import Derived.Deep.CutBlock
import Derived.SizedLaws
import Derived.ChangeSlices
import Derived.OpenShut
import Derived.Test.YtmkhphkkpdiliaaSPresentPlays15
section
namespace Go.Proofs.Ytmkhphkkpdiliaa.All
open Go.RowKit Go.Proofs.YtmkhphkkpdiliaaW.PrintWords Go.Proofs.YtmkhphkkpdiliaaW.PrintLast Go.Proofs.YtmkhphkkpdiliaaW.PrintMore
attribute [local go_sem] max2_int min2_int max_two min_two max_three min_three max_four min_four
set_option linter.unusedVariables false
set_option linter.unusedSimpArgs false
attribute [local go_sem high] eqA42
def compositorlaw30_deliveries.l0 : Nat → List (S42) → List (S42) → Int → Option (Bool)
  | 0, _, _, _ => none
  | k + 1, x0, x1, x5 => if x5 < (x0.length : Int) then (if 0 ≤ x5 then (if x5 < (x1.length : Int) then (if (!(((rd_T42 x0 x5).f0) == ((rd_T42 x1 x5).f0)) || (!(((rd_T42 x0 x5).f1) == ((rd_T42 x1 x5).f1)) || (!(((rd_T42 x0 x5).f2) == ((rd_T42 x1 x5).f2)) || (!(((rd_T42 x0 x5).f3) == ((rd_T42 x1 x5).f3)) || (!(((rd_T42 x0 x5).f4) == ((rd_T42 x1 x5).f4)) || (!(((rd_T42 x0 x5).f5) == ((rd_T42 x1 x5).f5)) || (!(((rd_T42 x0 x5).f6) == ((rd_T42 x1 x5).f6)) || (!(((rd_T42 x0 x5).f7) == ((rd_T42 x1 x5).f7)) || (!(((rd_T42 x0 x5).f8) == ((rd_T42 x1 x5).f8))))))))))) = true then (some false) else (compositorlaw30_deliveries.l0 k x0 x1 (wrap64 (x5 + 1)))) else (none)) else (none)) else (some true)
def compositorlaw30_deliveries.f (k : Nat) (l0 : List (S42)) (l1 : List (S42)) : Option (Bool) := if (l0.length : Int) = (l1.length : Int) then (compositorlaw30_deliveries.l0 k l0 l1 0) else (some false)
set_option maxHeartbeats 8000000 in
set_option maxRecDepth 100000 in
theorem compositorlaw30_deliveries.calls (k : Nat) (A0 : Option Addr) (c0 : Nat) (l0 : List (S42)) (A1 : Option Addr) (c1 : Nat) (l1 : List (S42)) (r : Bool) (w : World) (hr0 : Kd.C k42 w A0 l0.length l0) (hc0 : l0.length ≤ c0) (hr1 : Kd.C k42 w A1 l1.length l1) (hc1 : l1.length ≤ c1) (h : compositorlaw30_deliveries.f k l0 l1 = some r) :
    Calls Try.prog 27 #[.slice A0 l0.length c0, .slice A1 l1.length c1] w fun e w' => e = .returned (.bool r) ∧ Drawn0 w w' := by
  have hu42 := Try.underlying42
  have HR0 := Aside0.mk hr0
  have HC0 := Aside0.mk hc0
  clear hr0 hc0
  have HR1 := Aside0.mk hr1
  have HC1 := Aside0.mk hc1
  clear hr1 hc1
  have H : (if (l0.length : Int) = (l1.length : Int) then (compositorlaw30_deliveries.l0 k l0 l1 0) else (some false)) = some r := h
  clear h
  by_cases c3 : (l0.length : Int) = (l1.length : Int)
  · rw [if_pos c3] at H
    have c3b0 : ((l0.length : Int) == (l1.length : Int)) = true := beq_iff_eq.mpr c3
    have c3b1 : ((l0.length : Int) != (l1.length : Int)) = false := bne_eq_false_iff_eq.mpr c3
    have c3b2 : (l0.length == l1.length) = true := by first | simpa using c3 | (simp at c3 ⊢; omega)
    clear c3
    have H' := Aside0.mk H
    clear H
    go_enter Try.func27, Try.ntmps27
    go_wp2
    repeat (go_quiet (fail); try go_wp2)
    go_loopg [5] k (fun kq v5 w' => ∃ (x5_1 : Int), v5 = .int .i64 x5_1 ∧ Aside0 (compositorlaw30_deliveries.l0 kq l0 l1 x5_1 = some r) ∧ Aside0 (kq ≤ k) ∧ Drawn0 w w')
    case atStart => exact ⟨(0), (by first | rfl | (simp; done) | (simp [*]; done)), H', ⟨Nat.le_refl _⟩, by repeat (first | exact Drawn0.refl _ | apply Drawn0.step)⟩
    case round =>
      clear H'
      try clear c1
      try clear c2
      try clear p2
      try clear c3
      try clear c3b0
      try clear c3b1
      try clear c3b2
      obtain ⟨x5_1, rfl, HA, HK1, ⟨m1, rfl⟩⟩ := hrel
      cases gk with
      | zero => exact absurd HA.out (by simp [compositorlaw30_deliveries.l0])
      | succ k1 =>
        have H := HA.out
        clear HA
        simp only [compositorlaw30_deliveries.l0] at H
        by_cases c4 : x5_1 < (l0.length : Int)
        · rw [if_pos c4] at H
          have c4b0 : decide (x5_1 < (l0.length : Int)) = true := decide_eq_true c4
          clear c4
          by_cases c5 : 0 ≤ x5_1
          · rw [if_pos c5] at H
            have c5b0 : decide (0 ≤ x5_1) = true := decide_eq_true c5
            clear c5
            by_cases c6 : x5_1 < (l1.length : Int)
            · rw [if_pos c6] at H
              have c6b0 : decide (x5_1 < (l1.length : Int)) = true := decide_eq_true c6
              clear c6
              by_cases c7 : (!(((rd_T42 l0 x5_1).f0) == ((rd_T42 l1 x5_1).f0)) || (!(((rd_T42 l0 x5_1).f1) == ((rd_T42 l1 x5_1).f1)) || (!(((rd_T42 l0 x5_1).f2) == ((rd_T42 l1 x5_1).f2)) || (!(((rd_T42 l0 x5_1).f3) == ((rd_T42 l1 x5_1).f3)) || (!(((rd_T42 l0 x5_1).f4) == ((rd_T42 l1 x5_1).f4)) || (!(((rd_T42 l0 x5_1).f5) == ((rd_T42 l1 x5_1).f5)) || (!(((rd_T42 l0 x5_1).f6) == ((rd_T42 l1 x5_1).f6)) || (!(((rd_T42 l0 x5_1).f7) == ((rd_T42 l1 x5_1).f7)) || (!(((rd_T42 l0 x5_1).f8) == ((rd_T42 l1 x5_1).f8))))))))))) = true
              · rw [if_pos c7] at H
                have c7b0 : (!(((rd_T42 l0 x5_1).f0) == ((rd_T42 l1 x5_1).f0)) || (!(((rd_T42 l0 x5_1).f1) == ((rd_T42 l1 x5_1).f1)) || (!(((rd_T42 l0 x5_1).f2) == ((rd_T42 l1 x5_1).f2)) || (!(((rd_T42 l0 x5_1).f3) == ((rd_T42 l1 x5_1).f3)) || (!(((rd_T42 l0 x5_1).f4) == ((rd_T42 l1 x5_1).f4)) || (!(((rd_T42 l0 x5_1).f5) == ((rd_T42 l1 x5_1).f5)) || (!(((rd_T42 l0 x5_1).f6) == ((rd_T42 l1 x5_1).f6)) || (!(((rd_T42 l0 x5_1).f7) == ((rd_T42 l1 x5_1).f7)) || (!(((rd_T42 l0 x5_1).f8) == ((rd_T42 l1 x5_1).f8))))))))))) = true := c7
                clear c7
                obtain rfl := Option.some.inj H
                have p171 : 0 ≤ (x5_1 : Int) := of_decide_eq_true (by first | (with_reducible assumption) | assumption)
                have q171 : x5_1 < (l0.length : Int) := of_decide_eq_true (by first | (with_reducible assumption) | assumption)
                obtain ⟨ad171, e171, hx171_0, hx171_1, hx171_2, hx171_3, hx171_4, hx171_5, hx171_6, hx171_7, hx171_8⟩ := at_T42 HR0.out x5_1 p171 q171
                cases e171
                replace p171 := eq_true p171
                replace q171 := eq_true q171
                have p172 : 0 ≤ (x5_1 : Int) := of_decide_eq_true (by first | (with_reducible assumption) | assumption)
                have q172 : x5_1 < (l1.length : Int) := of_decide_eq_true (by first | (with_reducible assumption) | assumption)
                obtain ⟨ad172, e172, hx172_0, hx172_1, hx172_2, hx172_3, hx172_4, hx172_5, hx172_6, hx172_7, hx172_8⟩ := at_T42 HR1.out x5_1 p172 q172
                cases e172
                replace p172 := eq_true p172
                replace q172 := eq_true q172
                go_wp2
                repeat (go_quiet (fail); try go_wp2)
                go_ret
                exact ⟨by first | rfl | (simp; done) | (simp [*]; done), by repeat (first | exact Drawn0.refl _ | apply Drawn0.step)⟩
              · rw [if_neg c7] at H
                have c7b0 : (!(((rd_T42 l0 x5_1).f0) == ((rd_T42 l1 x5_1).f0)) || (!(((rd_T42 l0 x5_1).f1) == ((rd_T42 l1 x5_1).f1)) || (!(((rd_T42 l0 x5_1).f2) == ((rd_T42 l1 x5_1).f2)) || (!(((rd_T42 l0 x5_1).f3) == ((rd_T42 l1 x5_1).f3)) || (!(((rd_T42 l0 x5_1).f4) == ((rd_T42 l1 x5_1).f4)) || (!(((rd_T42 l0 x5_1).f5) == ((rd_T42 l1 x5_1).f5)) || (!(((rd_T42 l0 x5_1).f6) == ((rd_T42 l1 x5_1).f6)) || (!(((rd_T42 l0 x5_1).f7) == ((rd_T42 l1 x5_1).f7)) || (!(((rd_T42 l0 x5_1).f8) == ((rd_T42 l1 x5_1).f8))))))))))) = false := by simpa using c7
                clear c7
                have H' := Aside0.mk H
                clear H
                have p171 : 0 ≤ (x5_1 : Int) := of_decide_eq_true (by first | (with_reducible assumption) | assumption)
                have q171 : x5_1 < (l0.length : Int) := of_decide_eq_true (by first | (with_reducible assumption) | assumption)
                obtain ⟨ad171, e171, hx171_0, hx171_1, hx171_2, hx171_3, hx171_4, hx171_5, hx171_6, hx171_7, hx171_8⟩ := at_T42 HR0.out x5_1 p171 q171
                cases e171
                replace p171 := eq_true p171
                replace q171 := eq_true q171
                have p172 : 0 ≤ (x5_1 : Int) := of_decide_eq_true (by first | (with_reducible assumption) | assumption)
                have q172 : x5_1 < (l1.length : Int) := of_decide_eq_true (by first | (with_reducible assumption) | assumption)
                obtain ⟨ad172, e172, hx172_0, hx172_1, hx172_2, hx172_3, hx172_4, hx172_5, hx172_6, hx172_7, hx172_8⟩ := at_T42 HR1.out x5_1 p172 q172
                cases e172
                replace p172 := eq_true p172
                replace q172 := eq_true q172
                go_wp2
                repeat (go_quiet (fail); try go_wp2)
                go_roundg k1
                case measure => have := HK1.out; omega
                case rel => exact ⟨(wrap64 (x5_1 + 1)), (by first | rfl | (simp; done) | (simp [*]; done)), H', ⟨by have := HK1.out; omega⟩, by repeat (first | exact Drawn0.refl _ | apply Drawn0.step)⟩
            · rw [if_neg c6] at H
              exact absurd H (by simp)
          · rw [if_neg c5] at H
            exact absurd H (by simp)
        · rw [if_neg c4] at H
          have c4b0 : decide (x5_1 < (l0.length : Int)) = false := decide_eq_false c4
          clear c4
          obtain rfl := Option.some.inj H
          go_wp2
          repeat (go_quiet (fail); try go_wp2)
          go_ret
          exact ⟨by first | rfl | (simp; done) | (simp [*]; done), by repeat (first | exact Drawn0.refl _ | apply Drawn0.step)⟩
  · rw [if_neg c3] at H
    have c3b0 : ((l0.length : Int) == (l1.length : Int)) = false := beq_eq_false_iff_ne.mpr c3
    have c3b1 : ((l0.length : Int) != (l1.length : Int)) = true := bne_iff_ne.mpr c3
    have c3b2 : (l0.length == l1.length) = false := by first | simpa using c3 | (simp at c3 ⊢; omega)
    obtain rfl := Option.some.inj H
    go_enter Try.func27, Try.ntmps27
    go_wp2
    repeat (go_quiet (fail); try go_wp2)
    go_ret
    exact ⟨by first | rfl | (simp; done) | (simp [*]; done), by repeat (first | exact Drawn0.refl _ | apply Drawn0.step)⟩
end Go.Proofs.Ytmkhphkkpdiliaa.All
end
section
namespace Go.Proofs.Ytmkhphkkpdiliaa.All
open Go.RowKit Go.Proofs.YtmkhphkkpdiliaaW.PrintWords Go.Proofs.YtmkhphkkpdiliaaW.PrintLast Go.Proofs.YtmkhphkkpdiliaaW.PrintMore
attribute [local go_sem] max2_int min2_int max_two min_two max_three min_three max_four min_four
set_option linter.unusedVariables false
set_option linter.unusedSimpArgs false
def compositorref30_Pending.f (a0_0 : Bool) (a0_1 : Int) (a0_2 : Int) (l0_3 : List (S78)) : Option (Int) := some (l0_3.length : Int)
set_option maxHeartbeats 8000000 in
set_option maxRecDepth 100000 in
theorem compositorref30_Pending.calls (a0_0 : Bool) (a0_1 : Int) (a0_2 : Int) (A0_3 : Option Addr) (c0_3 : Nat) (l0_3 : List (S78)) (r : Int) (w : World) (hr0_3 : Kd.C k78 w A0_3 l0_3.length l0_3) (hc0_3 : l0_3.length ≤ c0_3) (h : compositorref30_Pending.f a0_0 a0_1 a0_2 l0_3 = some r) :
    Calls Try.prog 28 #[.agg #[.bool a0_0, .int .i64 a0_1, .int .i64 a0_2, .slice A0_3 l0_3.length c0_3]] w fun e w' => e = .returned (.int .i64 r) ∧ Below w.heap.size w w' := by
  have hu51 := Try.underlying51
  have HR0_3 := Aside0.mk hr0_3
  have HC0_3 := Aside0.mk hc0_3
  clear hr0_3 hc0_3
  have HB := Aside0.mk (Below.refl w.heap.size w)
  have H : (some (l0_3.length : Int)) = some r := h
  clear h
  obtain rfl := Option.some.inj H
  go_enter Try.func28, Try.ntmps28
  go_wp2_with (first | ((with_reducible refine gate_dst (N := 1) rfl ?_); refine box_event ?hg (N := 1) ?hd (cs := #[.bool a0_0, .int .i64 a0_1, .int .i64 a0_2, .slice A0_3 l0_3.length c0_3]) (t := 51) ?hr ?_; (case hd => rfl); (case hg => rfl); (case hr => first | (go_simp; done) | (go_simp; rfl)); intro gb173 hg w2 hbox hb; have n0_ := Aside0.mk (below_step (by repeat (first | (with_reducible first | exact HB.out | apply below_alloc | apply pw_below_drewN | apply below_drew1) | exact HB.out)) hb); have n1_ := Aside0.mk (hbox); have n2_ := Aside0.mk ((by rw [hg]; exact (below_size (by repeat (first | (with_reducible first | exact HB.out | apply below_alloc | apply pw_below_drewN | apply below_drew1) | exact HB.out))) : w.heap.size ≤ gb173)); have n3_ := Aside0.mk ((by rw [hg]; exact (below_size (by repeat (first | (with_reducible first | exact HB.out | apply below_alloc | apply pw_below_drewN | apply below_drew1) | exact HB.out))) : w.heap.size ≤ gb173)); clear HB; have HB := n0_; have BK173 := n1_; have GW173 := n2_; have GE173 := n3_; clear n0_ n1_ n2_ n3_; clear hb hbox hg; have hcz3_0 : w2.cell? ⟨gb173, 0, none⟩ = some (.bool a0_0) := (blk_cell BK173.out 0).trans rfl; have hcz3_1 : w2.cell? ⟨gb173, 1, none⟩ = some (.int .i64 a0_1) := (blk_cell BK173.out 1).trans rfl; have hcz3_2 : w2.cell? ⟨gb173, 2, none⟩ = some (.int .i64 a0_2) := (blk_cell BK173.out 2).trans rfl; have hcz3_3 : w2.cell? ⟨gb173, 3, none⟩ = some (.slice A0_3 l0_3.length c0_3) := (blk_cell BK173.out 3).trans rfl; have hfz3_0 := blk_frozen BK173.out 0; have hfz3_1 := blk_frozen BK173.out 1; have hfz3_2 := blk_frozen BK173.out 2; have hfz3_3 := blk_frozen BK173.out 3))
  go_ret
  exact ⟨by first | rfl | (simp [errW_none, errW_some] <;> rfl) | (simp [*, errW_none, errW_some] <;> rfl), by repeat (first | (with_reducible first | exact HB.out | apply below_alloc | apply pw_below_drewN | apply below_drew1 | refine below_set ?_ GE173.out) | exact HB.out)⟩
def compositorref30_Sequence.f (a0_0 : Bool) (a0_1 : Int) (a0_2 : Int) (l0_3 : List (S78)) : Option (Int) := if a0_0 = true then (if a0_1 = 0 then (none) else (some (wrap64 (Int.tdiv a0_2 a0_1)))) else (some 0)
set_option maxHeartbeats 8000000 in
set_option maxRecDepth 100000 in
theorem compositorref30_Sequence.calls (a0_0 : Bool) (a0_1 : Int) (a0_2 : Int) (A0_3 : Option Addr) (c0_3 : Nat) (l0_3 : List (S78)) (r : Int) (w : World) (hr0_3 : Kd.C k78 w A0_3 l0_3.length l0_3) (hc0_3 : l0_3.length ≤ c0_3) (h : compositorref30_Sequence.f a0_0 a0_1 a0_2 l0_3 = some r) :
    Calls Try.prog 29 #[.agg #[.bool a0_0, .int .i64 a0_1, .int .i64 a0_2, .slice A0_3 l0_3.length c0_3]] w fun e w' => e = .returned (.int .i64 r) ∧ Below w.heap.size w w' := by
  have hu51 := Try.underlying51
  have HR0_3 := Aside0.mk hr0_3
  have HC0_3 := Aside0.mk hc0_3
  clear hr0_3 hc0_3
  have HB := Aside0.mk (Below.refl w.heap.size w)
  have H : (if a0_0 = true then (if a0_1 = 0 then (none) else (some (wrap64 (Int.tdiv a0_2 a0_1)))) else (some 0)) = some r := h
  clear h
  by_cases c2 : a0_0 = true
  · subst c2
    have H1 : (if a0_1 = 0 then (none) else (some (wrap64 (Int.tdiv a0_2 a0_1)))) = some r := by rw [if_pos rfl] at H; exact H
    clear H
    have H := H1
    clear H1
    by_cases c3 : a0_1 = 0
    · rw [if_pos c3] at H
      exact absurd H (by simp)
    · rw [if_neg c3] at H
      have c3b0 : (a0_1 == 0) = false := beq_eq_false_iff_ne.mpr c3
      have c3b1 : (a0_1 != 0) = true := bne_iff_ne.mpr c3
      obtain rfl := Option.some.inj H
      go_enter Try.func29, Try.ntmps29
      go_wp2_with (first | ((with_reducible refine gate_dst (N := 1) rfl ?_); refine box_event ?hg (N := 1) ?hd (cs := #[.bool true, .int .i64 a0_1, .int .i64 a0_2, .slice A0_3 l0_3.length c0_3]) (t := 51) ?hr ?_; (case hd => rfl); (case hg => rfl); (case hr => first | (go_simp; done) | (go_simp; rfl)); intro gb174 hg w4 hbox hb; have n0_ := Aside0.mk (below_step (by repeat (first | (with_reducible first | exact HB.out | apply below_alloc | apply pw_below_drewN | apply below_drew1) | exact HB.out)) hb); have n1_ := Aside0.mk (hbox); have n2_ := Aside0.mk ((by rw [hg]; exact (below_size (by repeat (first | (with_reducible first | exact HB.out | apply below_alloc | apply pw_below_drewN | apply below_drew1) | exact HB.out))) : w.heap.size ≤ gb174)); have n3_ := Aside0.mk ((by rw [hg]; exact (below_size (by repeat (first | (with_reducible first | exact HB.out | apply below_alloc | apply pw_below_drewN | apply below_drew1) | exact HB.out))) : w.heap.size ≤ gb174)); clear HB; have HB := n0_; have BK174 := n1_; have GW174 := n2_; have GE174 := n3_; clear n0_ n1_ n2_ n3_; clear hb hbox hg; have hcz5_0 : w4.cell? ⟨gb174, 0, none⟩ = some (.bool true) := (blk_cell BK174.out 0).trans rfl; have hcz5_1 : w4.cell? ⟨gb174, 1, none⟩ = some (.int .i64 a0_1) := (blk_cell BK174.out 1).trans rfl; have hcz5_2 : w4.cell? ⟨gb174, 2, none⟩ = some (.int .i64 a0_2) := (blk_cell BK174.out 2).trans rfl; have hcz5_3 : w4.cell? ⟨gb174, 3, none⟩ = some (.slice A0_3 l0_3.length c0_3) := (blk_cell BK174.out 3).trans rfl; have hfz5_0 := blk_frozen BK174.out 0; have hfz5_1 := blk_frozen BK174.out 1; have hfz5_2 := blk_frozen BK174.out 2; have hfz5_3 := blk_frozen BK174.out 3))
      go_ret
      exact ⟨by first | rfl | (simp [errW_none, errW_some] <;> rfl) | (simp [*, errW_none, errW_some] <;> rfl), by repeat (first | (with_reducible first | exact HB.out | apply below_alloc | apply pw_below_drewN | apply below_drew1 | refine below_set ?_ GE174.out) | exact HB.out)⟩
  · replace c2 := Bool.eq_false_iff.mpr c2
    subst c2
    have H1 : (some 0) = some r := by rw [if_neg (show ¬ (false = true) by decide)] at H; exact H
    clear H
    have H := H1
    clear H1
    obtain rfl := Option.some.inj H
    go_enter Try.func29, Try.ntmps29
    go_wp2_with (first | ((with_reducible refine gate_dst (N := 1) rfl ?_); refine box_event ?hg (N := 1) ?hd (cs := #[.bool false, .int .i64 a0_1, .int .i64 a0_2, .slice A0_3 l0_3.length c0_3]) (t := 51) ?hr ?_; (case hd => rfl); (case hg => rfl); (case hr => first | (go_simp; done) | (go_simp; rfl)); intro gb174 hg w6 hbox hb; have n0_ := Aside0.mk (below_step (by repeat (first | (with_reducible first | exact HB.out | apply below_alloc | apply pw_below_drewN | apply below_drew1) | exact HB.out)) hb); have n1_ := Aside0.mk (hbox); have n2_ := Aside0.mk ((by rw [hg]; exact (below_size (by repeat (first | (with_reducible first | exact HB.out | apply below_alloc | apply pw_below_drewN | apply below_drew1) | exact HB.out))) : w.heap.size ≤ gb174)); have n3_ := Aside0.mk ((by rw [hg]; exact (below_size (by repeat (first | (with_reducible first | exact HB.out | apply below_alloc | apply pw_below_drewN | apply below_drew1) | exact HB.out))) : w.heap.size ≤ gb174)); clear HB; have HB := n0_; have BK174 := n1_; have GW174 := n2_; have GE174 := n3_; clear n0_ n1_ n2_ n3_; clear hb hbox hg; have hcz7_0 : w6.cell? ⟨gb174, 0, none⟩ = some (.bool false) := (blk_cell BK174.out 0).trans rfl; have hcz7_1 : w6.cell? ⟨gb174, 1, none⟩ = some (.int .i64 a0_1) := (blk_cell BK174.out 1).trans rfl; have hcz7_2 : w6.cell? ⟨gb174, 2, none⟩ = some (.int .i64 a0_2) := (blk_cell BK174.out 2).trans rfl; have hcz7_3 : w6.cell? ⟨gb174, 3, none⟩ = some (.slice A0_3 l0_3.length c0_3) := (blk_cell BK174.out 3).trans rfl; have hfz7_0 := blk_frozen BK174.out 0; have hfz7_1 := blk_frozen BK174.out 1; have hfz7_2 := blk_frozen BK174.out 2; have hfz7_3 := blk_frozen BK174.out 3))
    go_ret
    exact ⟨by first | rfl | (simp [errW_none, errW_some] <;> rfl) | (simp [*, errW_none, errW_some] <;> rfl), by repeat (first | (with_reducible first | exact HB.out | apply below_alloc | apply pw_below_drewN | apply below_drew1 | refine below_set ?_ GE174.out) | exact HB.out)⟩
end Go.Proofs.Ytmkhphkkpdiliaa.All
end
section
namespace Go.Proofs.Ytmkhphkkpdiliaa.All
open Go.RowKit Go.Proofs.YtmkhphkkpdiliaaW.PrintWords Go.Proofs.YtmkhphkkpdiliaaW.PrintLast Go.Proofs.YtmkhphkkpdiliaaW.PrintMore
attribute [local go_sem] max2_int min2_int max_two min_two max_three min_three max_four min_four
set_option linter.unusedVariables false
set_option linter.unusedSimpArgs false
section
open Go.Proofs.YtmkhphkkpdiliaaHand Go.Proofs.YtmkhphkkpdiliaaSq
theorem pp_w {k : Nat} (h : k ≤ 1000000) : wrap64 ((k : Int) + 1) = ((k + 1 : Nat) : Int) := by unfold wrap64; omega
theorem pp_rd (q : List S78) (i : Nat) (h : i < q.length) : rd_T78 q (i : Int) ∈ q ∧ q.drop i = rd_T78 q (i : Int) :: q.drop (i + 1) := by
  have e : rd_T78 q (i : Int) = q[i] := by
    unfold rd_T78
    rw [Int.toNat_natCast, List.getD_eq_getElem?_getD, List.getElem?_eq_getElem h]
    rfl
  rw [e]
  exact ⟨List.getElem_mem h, List.drop_eq_getElem_cons h⟩
def cErr (md : Bool) (s : Int) (n m : Nat) : Int := if md = true then (if s < 1 then 6 else if 256 ≤ n then 5 else if 256 < m then 5 else 0) else 1
def cQ (md : Bool) (s : Int) (q : List S78) (l : List Int) : List S78 := if cErr md s q.length l.length = 0 then q ++ [⟨s, l⟩] else q
theorem rcommit_val (md : Bool) (iv now : Int) (q : List S78) (s : Int) (l : List Int) : compositorref30_Commit.f md iv now q s l = some (md, iv, now, cQ md s q l, cErr md s q.length l.length) := by
  unfold compositorref30_Commit.f cQ cErr
  cases md with
  | false => rfl
  | true =>
    by_cases h1 : s < 1
    · simp [h1]
    · by_cases h2 : 256 ≤ q.length
      · have h2' : (q.length : Int) ≥ 256 := by omega
        simp [h1, h2, h2']
      · have h2' : ¬ (q.length : Int) ≥ 256 := by omega
        by_cases h3 : 256 < l.length
        · have h3' : (l.length : Int) > 256 := by omega
          simp [h1, h2, h2', h3, h3']
        · have h3' : ¬ (l.length : Int) > 256 := by omega
          have e1 : q.length < 4398046511104 := by omega
          have e2 : l.length < 35184372088832 := by omega
          simp [h1, h2, h2', h3, h3', e1, e2]
theorem rdisc_loop (md : Bool) (iv now s : Int) (q : List S78) (hq : q.length ≤ 256) (hcb : ∀ x ∈ q, x.f1.length ≤ 256) : ∀ (d k i : Nat) (o : List Int) (r : List S78), i + d = q.length → d < k → o.length ≤ 256 * i → r.length ≤ i → compositorref30_Discard.l0 k s o (i : Int) md iv now q md iv now r = some (md, iv, now, r ++ restOf s (q.drop i), o ++ outOf s (q.drop i))
  | _, 0, _, _, _, _, h, _, _ => by omega
  | d, k + 1, i, o, r, h1, h2, h3, h4 => by
    unfold compositorref30_Discard.l0
    by_cases hi : i < q.length
    · obtain ⟨hm, hd⟩ := pp_rd q i hi
      have hl := hcb _ hm
      rw [if_pos (by omega), if_pos (by omega), pp_w (by omega), hd]
      unfold restOf outOf
      rw [List.flatMap_cons, List.flatMap_cons]
      by_cases hs : (rd_T78 q (i : Int)).f0 = s
      · rw [if_pos hs, if_pos hs, if_pos hs, if_pos (by omega), rdisc_loop md iv now s q hq hcb (d - 1) k (i + 1) _ r (by omega) (by omega) (by rw [List.length_append]; omega) (by omega), List.nil_append, List.append_assoc]
        rfl
      · rw [if_neg hs, if_neg hs, if_neg hs, if_pos (by omega), rdisc_loop md iv now s q hq hcb (d - 1) k (i + 1) o _ (by omega) (by omega) (by omega) (by rw [List.length_append, List.length_singleton]; omega), List.nil_append, List.append_assoc]
        rfl
    · rw [if_neg (by omega), List.drop_eq_nil_of_le (by omega)]
      simp [restOf, outOf]
theorem rdisc_val (md : Bool) (iv now s : Int) (q : List S78) (hq : q.length ≤ 256) (hcb : ∀ x ∈ q, x.f1.length ≤ 256) : compositorref30_Discard.f 1000 md iv now q s = some (md, iv, now, restOf s q, outOf s q) := by
  have h := rdisc_loop md iv now s q hq hcb q.length 1000 0 [] [] (by omega) (by omega) (by simp) (by simp)
  exact h
theorem rsup_loop (md : Bool) (iv now : Int) (q : List S78) (hq : q.length ≤ 256) (i : Nat) (hi : i < q.length) : ∀ (d k j : Nat), i + 1 + j + d = q.length → d < k → compositorref30_superseded.l0 k (i : Int) ((i + 1 + j : Nat) : Int) md iv now q = some ((q.drop (i + 1 + j)).any fun x => x.f0 == (rd_T78 q (i : Int)).f0)
  | _, 0, _, _, h => by omega
  | d, k + 1, j, h1, h2 => by
    unfold compositorref30_superseded.l0
    by_cases hj : i + 1 + j < q.length
    · rw [if_pos (by omega), if_pos (by omega), if_pos (by omega), if_pos (by omega), pp_w (by omega), sup_step q i j hj]
      by_cases he : (rd_T78 q ((i + 1 + j : Nat) : Int)).f0 = (rd_T78 q (i : Int)).f0
      · rw [if_pos he, he, beq_self_eq_true, Bool.true_or]
      · rw [if_neg he, beq_false_of_ne he, Bool.false_or]
        exact rsup_loop md iv now q hq i hi (d - 1) k (j + 1) (by omega) (by omega)
    · rw [if_neg (by omega), List.drop_eq_nil_of_le (by omega)]
      rfl
theorem rsup_val (md : Bool) (iv now : Int) (q : List S78) (hq : q.length ≤ 256) (i : Nat) (hi : i < q.length) (k : Nat) (hk : 257 ≤ k) : compositorref30_superseded.f k md iv now q (i : Int) = some (sup q i) := by
  unfold compositorref30_superseded.f
  rw [pp_w (by omega)]
  exact rsup_loop md iv now q hq i hi (q.length - (i + 1)) k 0 (by omega) (by omega)
theorem rlim_val (n : Int) : compositorref30_limit.f n = some (clampOf n) := by
  unfold compositorref30_limit.f clampOf mx mn
  congr 1
  repeat' split
  all_goals omega
theorem rnext_val (iv now n : Int) (q : List S78) (hiv : 1 ≤ iv) : compositorref30_Next.f true iv now q n = some (nextOf iv n) := by
  unfold compositorref30_Next.f
  rw [if_pos rfl, rlim_val, Option.bind_some, if_neg (by omega)]
  rfl
theorem clamp_rng (n : Int) : 0 ≤ clampOf n ∧ clampOf n ≤ 4611686018427387904 := by
  unfold clampOf mx mn
  repeat' split
  all_goals omega
theorem clamp_id {n : Int} (h0 : 0 ≤ n) (h1 : n ≤ 4611686018427387904) : clampOf n = n := by
  unfold clampOf mx mn
  repeat' split
  all_goals omega
theorem next_gt (iv a : Int) (h1 : 1 ≤ iv) (h2 : iv ≤ 1000000001) (ha : 0 ≤ a) (hb : a ≤ 4611686018427387904) : a < nextOf iv a := by
  have q1 : a / iv * iv ≤ a := Int.ediv_mul_le a (by omega)
  have q2 : a < (a / iv + 1) * iv := Int.lt_ediv_add_one_mul_self a (by omega)
  have q3 : (a / iv + 1) * iv = a / iv * iv + iv := by rw [Int.add_mul, Int.one_mul]
  have q4 : 0 ≤ a / iv := Int.ediv_nonneg ha (by omega)
  have q5 : a / iv ≤ a := Int.ediv_le_self _ ha
  unfold nextOf
  rw [show mn (mx a 0) 4611686018427387904 = a from clamp_id ha hb, Int.tdiv_eq_ediv_of_nonneg ha]
  have w1 : wrap64 (a / iv) = a / iv := by unfold wrap64; omega
  have w2 : wrap64 (a / iv + 1) = a / iv + 1 := by unfold wrap64; omega
  rw [w1, w2]
  clear w1 w2
  generalize (a / iv + 1) * iv = p at q2 q3 ⊢
  unfold wrap64
  omega
def tNow (md : Bool) (now n : Int) : Int := if md = true then mx now (clampOf n) else now
def tQ (md : Bool) (iv now n : Int) (q : List S78) : List S78 := if md = true then (if mx now (clampOf n) < nextOf iv now then q else []) else q
def tDl (md : Bool) (iv now n : Int) (q : List S78) : List S42 := if md = true then (if mx now (clampOf n) < nextOf iv now then [] else dlAll (nextOf iv now) iv q q.length) else []
theorem pp_num (l : List Int) (hl : l.length ≤ 100000) : ∀ (d i : Nat), i + d = l.length → compositorlaw30_numbers.l0 (d + 1) l l (i : Int) = some true := by
  intro d
  induction d with
  | zero =>
    intro i hi
    rw [compositorlaw30_numbers.l0, if_neg (by omega)]
  | succ d ih =>
    intro i hi
    rw [compositorlaw30_numbers.l0, if_pos (by omega), if_pos (by omega), if_pos (by omega), if_pos rfl, pp_w (by omega)]
    exact ih (i + 1) (by omega)
theorem pp_numbers (l : List Int) (hl : l.length ≤ 100000) : compositorlaw30_numbers.f (l.length + 1) l l = some true := by
  unfold compositorlaw30_numbers.f
  rw [if_pos rfl]
  exact pp_num l hl l.length 0 (by omega)
theorem pp_del (l : List S42) (hl : l.length ≤ 100000) : ∀ (d i : Nat), i + d = l.length → compositorlaw30_deliveries.l0 (d + 1) l l (i : Int) = some true := by
  intro d
  induction d with
  | zero =>
    intro i hi
    rw [compositorlaw30_deliveries.l0, if_neg (by omega)]
  | succ d ih =>
    intro i hi
    rw [compositorlaw30_deliveries.l0, if_pos (by omega), if_pos (by omega), if_pos (by omega), if_neg (by simp), pp_w (by omega)]
    exact ih (i + 1) (by omega)
theorem pp_deliveries (l : List S42) (hl : l.length ≤ 100000) : compositorlaw30_deliveries.f (l.length + 1) l l = some true := by
  unfold compositorlaw30_deliveries.f
  rw [if_pos rfl]
  exact pp_del l hl l.length 0 (by omega)
theorem pp_hv (l : List S55) (hl : l.length ≤ 400) : ∀ (d i : Nat), i + d = l.length → ∃ b, compositorlaw30_heavy.l0 (d + 1) l (i : Int) = some b := by
  intro d
  induction d with
  | zero =>
    intro i hi
    rw [compositorlaw30_heavy.l0, if_neg (by omega)]
    exact ⟨_, rfl⟩
  | succ d ih =>
    intro i hi
    rw [compositorlaw30_heavy.l0, if_pos (by omega), if_pos (by omega), pp_w (by omega)]
    repeat' split
    all_goals first | exact ⟨_, rfl⟩ | exact ih (i + 1) (by omega)
theorem pp_heavy (l : List S55) : ∃ b, compositorlaw30_heavy.f (l.length + 1) l = some b ∧ (b = false → l.length ≤ 400) := by
  unfold compositorlaw30_heavy.f
  by_cases h : (l.length : Int) > 400
  · rw [if_pos h]
    exact ⟨true, rfl, fun h => by cases h⟩
  · rw [if_neg h]
    obtain ⟨b, hb⟩ := pp_hv l (by omega) l.length 0 (by omega)
    exact ⟨b, hb, fun _ => by omega⟩
theorem tDl_len (md : Bool) (iv now n : Int) (q : List S78) (hq : q.length ≤ 256) (hcb : ∀ x ∈ q, x.f1.length ≤ 256) : (tDl md iv now n q).length ≤ 100000 := by
  unfold tDl
  have := dl_len (nextOf iv now) iv q hcb q.length (by omega)
  repeat' split
  all_goals first | (rw [List.length_nil]; omega) | omega
theorem outOf_len (s : Int) (q : List S78) (hq : q.length ≤ 256) (hcb : ∀ x ∈ q, x.f1.length ≤ 256) : (outOf s q).length ≤ 100000 ∧ (restOf s q).length ≤ 256 ∧ ∀ x ∈ restOf s q, x.f1.length ≤ 256 := by
  have h := out_len s q hcb q.length (by omega)
  rw [List.take_length] at h
  refine ⟨by omega, by omega, fun x hx => ?_⟩
  unfold restOf at hx
  obtain ⟨y, hy, hxy⟩ := List.mem_flatMap.1 hx
  by_cases he : y.f0 = s
  · rw [if_pos he] at hxy
    cases hxy
  · rw [if_neg he, List.mem_singleton] at hxy
    rw [hxy]
    exact hcb y hy
set_option maxHeartbeats 8000000 in
set_option maxRecDepth 100000 in
theorem discard_okP (Q : Nat → Prop) (w0 w : World) (g : Nat) (iv now s : Int) (vq : Value) (q : List S78) (hK : Clk w0 w g iv now vq q) (hNQ : Kd.N k78 75 w w0.heap.size Q vq q) (hQ1 : ∀ k, Q k → w0.heap.size ≤ k ∧ k ≠ g) (hQ2 : ∀ k, w.heap.size ≤ k → Q k) (hiv : 1 ≤ iv) (hq : q.length ≤ 256) (hcb : ∀ x ∈ q, x.f1.length ≤ 256) :
    Calls Try.prog 25 #[.pointer (some ⟨g, 0, none⟩), .int .i64 s] w fun e w' => ∃ v vq', e = .returned v ∧ Kd.R (Kd.int .u32) 36 w' w.heap.size (fun k => w.heap.size ≤ k) v (outOf s q) ∧ Clk w0 w' g iv now vq' (restOf s q) ∧ Kd.N k78 75 w' w0.heap.size Q vq' (restOf s q) ∧ (∀ k, vq'.ownBlock = some k → w.heap.size ≤ k) ∧ Kept w w' (fun k => k = g) := by
  have HNQ := Aside0.mk (And.intro hNQ (And.intro hQ1 hQ2))
  clear hNQ hQ1 hQ2
  have hu69 := Try.underlying69
  have hu67 := Try.underlying67
  have hu75 := Try.underlying75
  obtain ⟨Aq, cq, rfl⟩ := Kd.N_slice hK.own
  have hh := Aside0.mk hK.cells
  have c2_ := hh.out.2.2.1
  have f2_ := hh.out.2.2.2
  have HK := Aside0.mk hK
  have hiv' := Aside0.mk hiv
  have HQ := Aside0.mk (And.intro hq hcb)
  clear hK hq hcb hiv
  go_enter Try.func25, Try.ntmps25
  go_wp2_with (first | (go_at_call 36; (with_reducible refine (usable_ok _ g iv (by exact hh.out.1.1) (by exact hh.out.1.2) hiv'.out).mono ?_); rintro e w' ⟨rfl, ⟨nd, rfl⟩⟩))
  clear c2_ f2_
  go_loopw [5, 6, 17] (fun v5 v6 v17 w' => ∃ k : Nat, k ≤ q.length ∧ v17 = .int .i64 k ∧ Aside0 (Kd.R (Kd.int .u32) 36 w' w.heap.size (fun j => w.heap.size ≤ j) v5 (outOf s (q.take k))) ∧ Aside0 (Kd.N k78 75 w' w.heap.size (fun j => Q j ∧ some j ≠ v5.ownBlock) v6 (restOf s (q.take k))) ∧ Aside0 (Below w.heap.size w w')) (fun _ _ v _ => q.length - (intOf v).toNat)
  case atStart => exact ⟨0, Nat.zero_le _, rfl, ⟨Kd.R_nil _ _ _ _ _⟩, ⟨Kd.N_nil _ _ _ _ _⟩, ⟨pw_below_drewN (Below.refl _ _) _⟩⟩
  case round =>
    obtain ⟨k, hk, rfl, hO, hN, hB⟩ := hrel
    by_cases hlt : k < q.length
    · obtain ⟨ad, A1, c1, e0, x0, x1, l1, g1⟩ := elem78 HNQ.out.1 k hlt
      subst e0
      have hX : Aside0 (rd_T78 q (k : Int) ∈ q) := ⟨by unfold rd_T78; rw [Int.toNat_natCast, List.getD_eq_getElem?_getD, List.getElem?_eq_getElem hlt]; exact List.getElem_mem hlt⟩
      have htk := Aside0.mk (take78 q k hlt)
      have hol := Aside0.mk (out_len s q HQ.out.2 k (Nat.le_of_lt hlt))
      generalize rd_T78 q (k : Int) = x at x0 x1 l1 g1 hX htk
      replace x0 := (hB.out.cell (World.block_lt_of_cell? w _ x0)).trans x0
      replace x1 := (hB.out.cell (World.block_lt_of_cell? w _ x1)).trans x1
      have hG := Aside0.mk (And.intro l1 g1)
      have hlt' : (k : Int) < (q.length : Int) := by omega
      have kw : Aside0 (wrap64 ((k : Int) + 1) = ((k + 1 : Nat) : Int)) := ⟨w1_ (by have := HQ.out.1; omega)⟩
      clear l1 g1
      have hgw : Aside0 (g < w.heap.size) := ⟨blk_lt HK.out.blk⟩
      by_cases hs : x.f0 = s
      · have q1 : (x.f0 == s) = true := by rw [hs]; exact beq_self_eq_true _
        have q2 : decide (x.f0 = s) = true := decide_eq_true hs
        have hs' := Aside0.mk hs
        clear hs
        go_wp2_with (first | ((with_reducible refine gate_builtin (b := .append) (xs := #[.tmp 25, .tmp 27]) rfl ?_); at_builtin; refine Kd.R_append_rows (Kd.int .u32) (w0 := w) w.heap.size rfl (.tmp 25) (.tmp 27) 37 36 (.int .u32 0) 4 rfl Try.underlying37 info36 rfl (by decide) (by omega) u5 (outOf s (q.take k)) x.f1 A1 x.f1.length c1 (fun j => w.heap.size ≤ j) (fun _ => False) rfl rfl ?aO ?aR (fun _ _ h => h) (fun _ h => h.elim) ?aF ?aB ?aS ?aL ?_; (case aO => exact Kd.R_alloc hO.out _); (case aR => exact Kd.C_below (Kd.F_now hG.out.2) (below_alloc hB.out _)); (case aF => exact (fun j hj => Nat.le_trans (below_alloc hB.out _).size hj)); (case aB => exact below_alloc hB.out _); (case aS => exact (below_alloc hB.out _).size); (case aL => have h1 := hol.out.1; have h2 := HQ.out.2 x hX.out; have h3 := HQ.out.1; omega); intro v1 w1 ho hb hg hat; have ho' := Aside0.mk ho; have hb' := Aside0.mk hb; have hN' := Aside0.mk (Kd.N_afterv (Kd.N_alloc hN.out _) hg hat); clear ho hb hg hat))
        exact ⟨⟨k + 1, hlt, by rw [kw.out], ⟨by rw [htk.out, outOf, List.flatMap_append, List.flatMap_cons, List.flatMap_nil, List.append_nil, if_pos hs'.out]; exact ho'.out⟩, ⟨by rw [htk.out, restOf, List.flatMap_append, List.flatMap_cons, List.flatMap_nil, List.append_nil, if_pos hs'.out, List.append_nil]; exact hN'.out⟩, hb'⟩, by rw [kw.out]; exact meas_ hlt⟩
      · have q1 : (x.f0 == s) = false := beq_false_of_ne hs
        have q2 : decide (x.f0 = s) = false := decide_eq_false hs
        have hs' := Aside0.mk hs
        clear hs
        go_wp2_with (first | ((with_reducible refine gate_builtin (b := .append) (xs := #[.tmp 29, .tmp 31]) rfl ?_); at_builtin; refine Kd.N_append k78 (w0 := w) w.heap.size rfl (.tmp 29) (.tmp 31) 67 75 (.agg #[(.int .i64 0), (.slice none 0 0)]) 32 rfl Try.underlying67 info75 rfl (by decide) (by omega) u6 (restOf s (q.take k)) x [.int .i64 x.f0, .slice A1 x.f1.length c1] (fun j => Q j ∧ some j ≠ u5.ownBlock) (fun j => Q j ∧ j < w.heap.size) rfl (congrArg (fun n => Value.slice (some ⟨n, 0, none⟩) 1 1) (size_al wr _).symm) ?aP ?aK ?aF ?aO ?aB ?aS ?aL ?_; (case aP => exact k78_mkF _ _ x hG.out.1 (Kd.F_below hG.out.2 (below_alloc hB.out _))); (case aK => exact (fun j hj => ⟨⟨hj.1, fun e => Nat.lt_irrefl _ (Nat.lt_of_lt_of_le hj.2 (Kd.R_base hO.out j e.symm))⟩, fun e => Nat.lt_irrefl _ (Nat.lt_of_lt_of_le hj.2 (Kd.N_base hN.out j e.symm))⟩)); (case aF => exact (fun j hj => ⟨HNQ.out.2.2 j (Nat.le_trans (below_alloc hB.out _).size hj), fun e => Nat.lt_irrefl _ (Nat.lt_of_lt_of_le (Kd.R_lt (Kd.R_alloc hO.out _) j e.symm) hj)⟩)); (case aO => exact Kd.N_alloc hN.out _); (case aB => exact below_alloc hB.out _); (case aS => exact (below_alloc hB.out _).size); (case aL => have h1 := hol.out.2; have h3 := HQ.out.1; omega); intro v1 w1 ho hb hg hat; have ho' := Aside0.mk ho; have hb' := Aside0.mk hb; have hO' := Aside0.mk (Kd.R_grown2 (Kd.R_alloc hO.out _) rfl hg (fun j hj => (hN.out.1 j hj).2)); clear ho hb hg hat))
        exact ⟨⟨k + 1, hlt, by rw [kw.out], ⟨by rw [htk.out, outOf, List.flatMap_append, List.flatMap_cons, List.flatMap_nil, List.append_nil, if_neg hs'.out, List.append_nil]; exact hO'.out⟩, ⟨by rw [htk.out, restOf, List.flatMap_append, List.flatMap_cons, List.flatMap_nil, List.append_nil, if_neg hs'.out]; exact ho'.out⟩, hb'⟩, by rw [kw.out]; exact meas_ hlt⟩
    · obtain rfl : k = q.length := by omega
      rw [List.take_length] at hO hN
      have HKr := Aside0.mk (HK.out.after hB.out)
      have z0 := HKr.out.cells.2.2.1
      have z1 := HKr.out.cells.2.2.2
      obtain ⟨A6, c6, e6⟩ := Kd.N_slice hN.out
      subst e6
      obtain ⟨A5, c5, e5⟩ := Kd.R_slice hO.out
      subst e5
      have hlow := HK.out.low
      have hgw : Aside0 (g < w.heap.size) := ⟨blk_lt HK.out.blk⟩
      go_wp2_with fail
      go_ret
      exact ⟨_, _, rfl, Kd.R_far (p := ⟨g, 2, none⟩) hO.out (fun j hj e => Nat.lt_irrefl _ (Nat.lt_of_lt_of_le hgw.out (by have h : w.heap.size ≤ j := hj; rw [show j = g from e] at h; exact h))) _, ⟨blk_put (cs := #[.int .i64 iv, .int .i64 now, .slice Aq q.length cq]) HKr.out.blk 2 _ rfl, HK.out.low, Kd.N_mono (Kd.N_lower (Kd.N_far (p := ⟨g, 2, none⟩) (Kd.N_mono hN.out (fun j hj => hj.1)) (fun j hj => (HNQ.out.2.1 j hj).2) _) HK.out.below.size) HNQ.out.2.1, below_set HKr.out.below HK.out.low⟩, Kd.N_lower (Kd.N_far (p := ⟨g, 2, none⟩) (Kd.N_mono hN.out (fun j hj => hj.1)) (fun j hj => (HNQ.out.2.1 j hj).2) _) HK.out.below.size, fun k e => Kd.N_base hN.out k e, Kept.setCell (S := fun k => k = g) (p := ⟨g, 2, none⟩) (Kept.of_below hB.out _) (Or.inl rfl) _⟩
def Xs (p vq : Value) (k : Nat) : Prop := p = .pointer (some ⟨k, 0, none⟩) ∨ some k = vq.ownBlock
structure Pl (w0 w : World) (p : Value) (gm : Nat) (md : Bool) (iv now : Int) (vq : Value) (q : List S78) (now2 : Int) (vr : Value) (q2 : List S78) : Prop where
  m0 : md = false → p = .pointer none ∧ vq = .slice none 0 0 ∧ iv = 0 ∧ now = 0 ∧ q = []
  m1 : md = true → ∃ g, p = .pointer (some ⟨g, 0, none⟩) ∧ Clk w0 w g iv now vq q ∧ Kd.N k78 75 w w0.heap.size (fun k => (w0.heap.size ≤ k ∧ k ≠ g) ∧ k ≠ gm) vq q ∧ g ≠ gm ∧ 1 ≤ iv ∧ iv ≤ 1000000001
  bl : Below w0.heap.size w0 w
  rg : (0 ≤ now ∧ now ≤ 4611686018427387904) ∧ q.length ≤ 256 ∧ ∀ x ∈ q, x.f1.length ≤ 256
  cell : w.heap[gm]? = some (.cells #[.bool md, .int .i64 iv, .int .i64 now2, vr] 51 (0, 0))
  low : w0.heap.size ≤ gm
  own : Kd.V k78 78 w w0.heap.size (fun k => ¬ Xs p vq k ∧ k ≠ gm) vr q2
section
variable {w0 w w1 : World} {p : Value} {gm : Nat} {md : Bool} {iv now now2 : Int} {vq vr : Value} {q q2 : List S78}
theorem Pl.xlt (h : Pl w0 w p gm md iv now vq q now2 vr q2) : ∀ k, Xs p vq k → k < w.heap.size := by
  intro k hk
  cases md with
  | false =>
    obtain ⟨rfl, rfl, _⟩ := h.m0 rfl
    rcases hk with hk | hk
    · cases hk
    · cases hk
  | true =>
    obtain ⟨g, rfl, hK, hN, _⟩ := h.m1 rfl
    rcases hk with hk | hk
    · cases hk
      exact blk_lt hK.blk
    · exact Kd.N_lt hN k hk.symm
theorem Pl.xoff (h : Pl w0 w p gm md iv now vq q now2 vr q2) : ¬ Xs p vq gm := by
  intro hk
  cases md with
  | false =>
    obtain ⟨rfl, rfl, _⟩ := h.m0 rfl
    rcases hk with hk | hk
    · cases hk
    · cases hk
  | true =>
    obtain ⟨g, rfl, hK, hN, hg, _⟩ := h.m1 rfl
    rcases hk with hk | hk
    · cases hk
      exact hg rfl
    · exact (hN.1 gm hk.symm).2 rfl
theorem Pl.after (h : Pl w0 w p gm md iv now vq q now2 vr q2) (hb : Below w.heap.size w w1) : Pl w0 w1 p gm md iv now vq q now2 vr q2 := by
  refine ⟨h.m0, fun e => ?_, below_step h.bl hb, h.rg, blk_below h.cell hb, h.low, Kd.V_below h.own hb⟩
  obtain ⟨g, e1, hK, hN, r⟩ := h.m1 e
  exact ⟨g, e1, hK.after hb, Kd.N_below hN hb, r⟩
theorem Pl.step {now' : Int} {vq' : Value} {q' : List S78} (h : Pl w0 w p gm md iv now vq q now2 vr q2) (hk : Kept w w1 (Xs p vq)) (hx : ∀ k, k < w.heap.size → Xs p vq' k → Xs p vq k)
    (n0 : md = false → p = .pointer none ∧ vq' = .slice none 0 0 ∧ iv = 0 ∧ now' = 0 ∧ q' = [])
    (n1 : md = true → ∃ g, p = .pointer (some ⟨g, 0, none⟩) ∧ Clk w0 w1 g iv now' vq' q' ∧ Kd.N k78 75 w1 w0.heap.size (fun k => (w0.heap.size ≤ k ∧ k ≠ g) ∧ k ≠ gm) vq' q' ∧ g ≠ gm ∧ 1 ≤ iv ∧ iv ≤ 1000000001)
    (bl : Below w0.heap.size w0 w1) (rg : (0 ≤ now' ∧ now' ≤ 4611686018427387904) ∧ q'.length ≤ 256 ∧ ∀ x ∈ q', x.f1.length ≤ 256) : Pl w0 w1 p gm md iv now' vq' q' now2 vr q2 :=
  ⟨n0, n1, bl, rg, blk_kept h.cell hk h.xoff, h.low, Kd.V_mono (Kd.V_keptB h.own hk (fun k hk => hk.1)) (fun k hk => ⟨fun hx' => hk.2.1 (hx k hk.2.2 hx'), hk.1.2⟩)⟩
theorem xs_g {g k : Nat} {vq : Value} : Xs (.pointer (some ⟨g, 0, none⟩)) vq k ↔ k = g ∨ some k = vq.ownBlock := by
  constructor
  · rintro (h | h)
    · cases h; exact .inl rfl
    · exact .inr h
  · rintro (rfl | h)
    · exact .inl rfl
    · exact .inr h
theorem pl_commit (h : Pl w0 w p gm md iv now vq q now2 vr q2) (s : Int) (A2 : Option Addr) (c2 : Nat) (l2 : List Int) (hr2 : Kd.C (Kd.int .u32) w A2 l2.length l2) (hc2 : l2.length ≤ c2) :
    Calls Try.prog 16 #[p, .int .i64 s, .slice A2 l2.length c2] w fun e w' => e = .returned (.int .i64 (cErr md s q.length l2.length)) ∧ ∃ vq', Pl w0 w' p gm md iv now vq' (cQ md s q l2) now2 vr q2 := by
  cases md with
  | false =>
    obtain ⟨rfl, _⟩ := h.m0 rfl
    refine (commit_nil w s _).mono ?_
    rintro e w' ⟨rfl, nd, rfl⟩
    exact ⟨rfl, vq, h.after (pw_below_drewN (Below.refl _ _) nd)⟩
  | true =>
    obtain ⟨g, rfl, hK, hN, hg, hi⟩ := h.m1 rfl
    unfold cQ cErr
    rw [if_pos rfl]
    by_cases h1 : s < 1
    · rw [if_pos h1]
      refine (commit_range w0 w g iv now s vq _ q hK hi.1 h1).mono ?_
      rintro e w' ⟨rfl, nd, rfl⟩
      exact ⟨rfl, vq, h.after (pw_below_drewN (Below.refl _ _) nd)⟩
    · rw [if_neg h1]
      by_cases h2 : 256 ≤ q.length
      · rw [if_pos h2]
        refine (commit_limit w0 w g iv now s vq q A2 l2.length c2 hK hi.1 (by omega) (.inl h2)).mono ?_
        rintro e w' ⟨rfl, nd, rfl⟩
        exact ⟨rfl, vq, h.after (pw_below_drewN (Below.refl _ _) nd)⟩
      · rw [if_neg h2]
        by_cases h3 : 256 < l2.length
        · rw [if_pos h3]
          refine (commit_limit w0 w g iv now s vq q A2 l2.length c2 hK hi.1 (by omega) (.inr h3)).mono ?_
          rintro e w' ⟨rfl, nd, rfl⟩
          exact ⟨rfl, vq, h.after (pw_below_drewN (Below.refl _ _) nd)⟩
        · rw [if_neg h3, if_pos rfl]
          refine (commit_okP w0 w g iv now s vq q A2 c2 l2 (fun k => k ≠ gm) hK hN (fun k hk e => by have := blk_lt h.cell; omega) hi.1 (by omega) (by omega) (by omega) hr2 hc2).mono ?_
          rintro e w' ⟨rfl, vq', hK', hN', hS⟩
          refine ⟨rfl, vq', h.step (hS.1.mono (fun k hk => xs_g.2 hk)) (fun k hk hx => ?_) (fun e => by cases e) (fun _ => ⟨g, rfl, hK', hN', hg, hi⟩) hK'.below ⟨h.rg.1, by rw [List.length_append, List.length_singleton]; omega, fun x hx => ?_⟩⟩
          · rcases xs_g.1 hx with hx | hx
            · exact xs_g.2 (.inl hx)
            · rcases hS.2 with e | e | ⟨b, e, hb⟩
              · exact xs_g.2 (.inr (hx.trans e))
              · rw [e] at hx; cases hx
              · rw [e] at hx; cases hx; omega
          · rcases List.mem_append.1 hx with hx | hx
            · exact h.rg.2.2 x hx
            · rw [List.mem_singleton.1 hx]
              show l2.length ≤ 256
              omega
theorem pl_discard (h : Pl w0 w p gm md iv now vq q now2 vr q2) (s : Int) :
    Calls Try.prog 25 #[p, .int .i64 s] w fun e w' => ∃ v vq', e = .returned v ∧ Kd.R (Kd.int .u32) 36 w' w.heap.size (fun k => w.heap.size ≤ k) v (outOf s q) ∧ Pl w0 w' p gm md iv now vq' (restOf s q) now2 vr q2 ∧ Kept w w' (Xs p vq) := by
  cases md with
  | false =>
    obtain ⟨rfl, _, _, _, rfl⟩ := h.m0 rfl
    refine (discard_nil w s).mono ?_
    rintro e w' ⟨rfl, nd, rfl⟩
    exact ⟨_, vq, rfl, Kd.R_nil _ _ _ _ _, h.after (pw_below_drewN (Below.refl _ _) nd), Kept.of_below (pw_below_drewN (Below.refl _ _) nd) _⟩
  | true =>
    obtain ⟨g, rfl, hK, hN, hg, hi⟩ := h.m1 rfl
    have hl := outOf_len s q h.rg.2.1 h.rg.2.2
    refine (discard_okP (fun k => (w0.heap.size ≤ k ∧ k ≠ g) ∧ k ≠ gm) w0 w g iv now s vq q hK hN (fun k hk => hk.1) (fun k hk => ⟨⟨Nat.le_trans h.bl.size hk, fun e => ?_⟩, fun e => ?_⟩) hi.1 h.rg.2.1 h.rg.2.2).mono ?_
    · have := blk_lt hK.blk
      omega
    · have := blk_lt h.cell
      omega
    rintro e w' ⟨v, vq', rfl, hR, hK', hN', hx, hk⟩
    have hk' : Kept w w' (Xs (.pointer (some ⟨g, 0, none⟩)) vq) := hk.mono (fun k hk => xs_g.2 (.inl hk))
    refine ⟨v, vq', rfl, hR, h.step hk' (fun k hkk hxx => ?_) (fun e => by cases e) (fun _ => ⟨g, rfl, hK', hN', hg, hi⟩) hK'.below ⟨h.rg.1, hl.2.1, hl.2.2⟩, hk'⟩
    rcases xs_g.1 hxx with e | e
    · exact xs_g.2 (.inl e)
    · have := hx k e.symm
      omega
theorem pl_tick (h : Pl w0 w p gm md iv now vq q now2 vr q2) (n : Int) :
    Calls Try.prog 18 #[p, .int .i64 n] w fun e w' => ∃ v vq', e = .returned v ∧ Kd.R k42 42 w' w.heap.size (fun k => w.heap.size ≤ k) v (tDl md iv now n q) ∧ Pl w0 w' p gm md iv (tNow md now n) vq' (tQ md iv now n q) now2 vr q2 ∧ Kept w w' (Xs p vq) := by
  cases md with
  | false =>
    obtain ⟨rfl, _, _, _, rfl⟩ := h.m0 rfl
    refine (tick_nil w n).mono ?_
    rintro e w' ⟨rfl, nd, rfl⟩
    exact ⟨_, vq, rfl, Kd.R_nil _ _ _ _ _, h.after (pw_below_drewN (Below.refl _ _) nd), Kept.of_below (pw_below_drewN (Below.refl _ _) nd) _⟩
  | true =>
    obtain ⟨g, rfl, hK, hN, hg, hi⟩ := h.m1 rfl
    have hc := clamp_rng n
    have hr := h.rg.1
    have hm : 0 ≤ mx now (clampOf n) ∧ mx now (clampOf n) ≤ 4611686018427387904 := by
      unfold mx
      split <;> omega
    unfold tDl tNow tQ
    rw [if_pos rfl, if_pos rfl, if_pos rfl]
    by_cases hb : mx now (clampOf n) < nextOf iv now
    · rw [if_pos hb, if_pos hb]
      refine (tick_early w0 w g iv now n vq q hK hi.1 hb).mono ?_
      rintro e w' ⟨rfl, hK', hk⟩
      have hk' : Kept w w' (Xs (.pointer (some ⟨g, 0, none⟩)) vq) := hk.mono (fun k hk => xs_g.2 (.inl hk))
      exact ⟨_, vq, rfl, Kd.R_nil _ _ _ _ _, h.step hk' (fun _ _ hx => hx) (fun e => by cases e) (fun _ => ⟨g, rfl, hK', Kd.N_kept hN hk (fun k hk => hk.1.2), hg, hi⟩) hK'.below ⟨hm, h.rg.2⟩, hk'⟩
    · rw [if_neg hb, if_neg hb]
      refine (tick_full w0 w g iv now n vq q hK hi.1 h.rg.2.1 h.rg.2.2 hb).mono ?_
      rintro e w' ⟨v, rfl, hR, hK', hk⟩
      have hk' : Kept w w' (Xs (.pointer (some ⟨g, 0, none⟩)) vq) := hk.mono (fun k hk => xs_g.2 (.inl hk))
      refine ⟨v, .slice none 0 0, rfl, hR, h.step hk' (fun k _ hx => ?_) (fun e => by cases e) (fun _ => ⟨g, rfl, hK', Kd.N_nil _ _ _ _ _, hg, hi⟩) hK'.below ⟨hm, by simp, by simp⟩, hk'⟩
      rcases xs_g.1 hx with e | e
      · exact xs_g.2 (.inl e)
      · cases e
def sqOf (md : Bool) (iv now : Int) : Int := if md = true then wrap64 (Int.tdiv now iv) else 0
def nxOf (md : Bool) (iv n : Int) : Int := if md = true then nextOf iv n else 0
theorem pl_pending (h : Pl w0 w p gm md iv now vq q now2 vr q2) : Calls Try.prog 17 #[p] w fun e w' => e = .returned (.int .i64 (q.length : Int)) ∧ Below w.heap.size w w' := by
  cases md with
  | false =>
    obtain ⟨rfl, _, _, _, rfl⟩ := h.m0 rfl
    refine (pending_nil w).mono ?_
    rintro e w' ⟨rfl, nd, rfl⟩
    exact ⟨rfl, pw_below_drewN (Below.refl _ _) nd⟩
  | true =>
    obtain ⟨g, rfl, hK, hN, hg, hi⟩ := h.m1 rfl
    obtain ⟨Aq, cq, rfl⟩ := Kd.N_slice hN
    refine (pending_ok w g iv Aq q.length cq hK.cells.1.1 hK.cells.1.2 hK.cells.2.2.1 hK.cells.2.2.2 hi.1).mono ?_
    rintro e w' ⟨rfl, nd, rfl⟩
    exact ⟨rfl, pw_below_drewN (Below.refl _ _) nd⟩
theorem pl_sequence (h : Pl w0 w p gm md iv now vq q now2 vr q2) : Calls Try.prog 19 #[p] w fun e w' => e = .returned (.int .i64 (sqOf md iv now)) ∧ Below w.heap.size w w' := by
  cases md with
  | false =>
    obtain ⟨rfl, _, _, _, rfl⟩ := h.m0 rfl
    refine (sequence_nil w).mono ?_
    rintro e w' ⟨rfl, nd, rfl⟩
    exact ⟨rfl, pw_below_drewN (Below.refl _ _) nd⟩
  | true =>
    obtain ⟨g, rfl, hK, hN, hg, hi⟩ := h.m1 rfl
    refine (sequence_ok w g iv now hK.cells.1.1 hK.cells.1.2 hK.cells.2.1.1 hK.cells.2.1.2 hi.1).mono ?_
    rintro e w' ⟨rfl, nd, rfl⟩
    exact ⟨rfl, pw_below_drewN (Below.refl _ _) nd⟩
theorem pl_next (h : Pl w0 w p gm md iv now vq q now2 vr q2) (n : Int) : Calls Try.prog 13 #[p, .int .i64 n] w fun e w' => e = .returned (.int .i64 (nxOf md iv n)) ∧ Below w.heap.size w w' := by
  cases md with
  | false =>
    obtain ⟨rfl, _, _, _, rfl⟩ := h.m0 rfl
    refine (next_nil w n).mono ?_
    rintro e w' ⟨rfl, nd, rfl⟩
    exact ⟨rfl, pw_below_drewN (Below.refl _ _) nd⟩
  | true =>
    obtain ⟨g, rfl, hK, hN, hg, hi⟩ := h.m1 rfl
    refine (next_ok w g iv n hK.cells.1.1 hK.cells.1.2 hi.1).mono ?_
    rintro e w' ⟨rfl, nd, rfl⟩
    exact ⟨rfl, pw_below_drewN (Below.refl _ _) nd⟩
end
theorem rseq_val (md : Bool) (iv now : Int) (q : List S78) (hiv : md = true → 1 ≤ iv) : compositorref30_Sequence.f md iv now q = some (sqOf md iv now) := by
  unfold compositorref30_Sequence.f sqOf
  cases md with
  | false => rfl
  | true => rw [if_pos rfl, if_pos rfl, if_neg (by have := hiv rfl; omega)]
theorem rnx_val (md : Bool) (iv now n : Int) (q : List S78) (hiv : md = true → 1 ≤ iv) : compositorref30_Next.f md iv now q n = some (nxOf md iv n) := by
  cases md with
  | false => rfl
  | true => exact rnext_val iv now n q (hiv rfl)
theorem blk_put4 {w : World} {g t : Nat} {a0 a1 a2 a3 : Value} (h : w.heap[g]? = some (.cells #[a0, a1, a2, a3] t (0, 0))) (b0 b1 b2 b3 : Value) : ((((w.setCell ⟨g, 0, none⟩ b0).setCell ⟨g, 1, none⟩ b1).setCell ⟨g, 2, none⟩ b2).setCell ⟨g, 3, none⟩ b3).heap[g]? = some (.cells #[b0, b1, b2, b3] t (0, 0)) :=
  blk_put (cs := #[b0, b1, b2, a3]) (blk_put (cs := #[b0, b1, a2, a3]) (blk_put (cs := #[b0, a1, a2, a3]) (blk_put (cs := #[a0, a1, a2, a3]) h 0 _ rfl) 1 _ rfl) 2 _ rfl) 3 _ rfl
theorem kept_put4 (w : World) (g : Nat) (b0 b1 b2 b3 : Value) : Kept w ((((w.setCell ⟨g, 0, none⟩ b0).setCell ⟨g, 1, none⟩ b1).setCell ⟨g, 2, none⟩ b2).setCell ⟨g, 3, none⟩ b3) (fun k => k = g) :=
  Kept.setCell (S := fun k => k = g) (Kept.setCell (S := fun k => k = g) (Kept.setCell (S := fun k => k = g) (Kept.setCell (S := fun k => k = g) (Kept.refl _ _) (p := ⟨g, 0, none⟩) (.inl rfl) _) (p := ⟨g, 1, none⟩) (.inl rfl) _) (p := ⟨g, 2, none⟩) (.inl rfl) _) (p := ⟨g, 3, none⟩) (.inl rfl) _
theorem below_put4 {w w1 : World} {g : Nat} (h : Below w.heap.size w w1) (hg : w.heap.size ≤ g) (b0 b1 b2 b3 : Value) : Below w.heap.size w ((((w1.setCell ⟨g, 0, none⟩ b0).setCell ⟨g, 1, none⟩ b1).setCell ⟨g, 2, none⟩ b2).setCell ⟨g, 3, none⟩ b3) :=
  below_set (below_set (below_set (below_set h hg) hg) hg) hg
theorem lit42 {w : World} {g : Nat} (P : S42) (h : w.heap[g]? = some (.cells #[.int .i64 P.f0, .int .i64 P.f1, .int .i64 P.f2, .int .i64 P.f3, .int .i64 P.f4, .int .i64 P.f5, .int .i64 P.f6, .int .i64 P.f7, .int .u32 P.f8] 42 (0, 0))) : Kd.C k42 w (some ⟨g, 0, none⟩) 1 [P] := by
  refine ⟨rfl, by decide, fun _ => ⟨_, rfl, fun j p hj => ?_⟩⟩
  cases j with
  | zero =>
    obtain rfl : P = p := by simpa using hj
    refine ⟨[.int .i64 P.f0, .int .i64 P.f1, .int .i64 P.f2, .int .i64 P.f3, .int .i64 P.f4, .int .i64 P.f5, .int .i64 P.f6, .int .i64 P.f7, .int .u32 P.f8], rfl, k42_mk _ _, fun i u hu => ?_⟩
    rw [Addr.add_lit]
    have e : (0 : Nat) + (0 * 9 + i) = i := by omega
    show w.cell? ⟨g, 0 + (0 * 9 + i), none⟩ = some u
    rw [e]
    exact (blk_cell h i).trans (by simpa using hu)
  | succ j => simp at hj
theorem tick_keep {w W w1 : World} {base : Nat} {ok : Nat → Prop} {v : Value} {L : List S42} (hO : Kd.R k42 42 w base ok v L) (hb : Below w.heap.size w W) (hg : W.grownBy w1 v.ownBlock) : ∀ (g t : Nat) (cs : Array Value), t ≠ 42 → w.heap[g]? = some (.cells cs t (0, 0)) → w1.heap[g]? = some (.cells cs t (0, 0)) :=
  fun g t cs ht h => blk_grown (blk_below h hb) hg (Kd.R_ne (Kd.R_below hO hb) (blk_below h hb) (fun e => ht e.symm))
theorem pp_take (l : List Int) (k : Nat) (h : k < l.length) : l.take (k + 1) = l.take k ++ [l.getD k 0] := by
  rw [List.take_add_one, List.getElem?_eq_getElem h, List.getD_eq_getElem?_getD, List.getElem?_eq_getElem h]
  rfl
set_option maxHeartbeats 8000000 in
set_option maxRecDepth 100000 in
theorem rtick_ok (md : Bool) (iv now n : Int) (q : List S78) (A : Option Addr) (c : Nat) (P : Nat → Prop) (w : World) (hV : Kd.V k78 78 w w.heap.size P (.slice A q.length c) q) (hq : q.length ≤ 256) (hcb : ∀ x ∈ q, x.f1.length ≤ 256) (hiv : md = true → 1 ≤ iv ∧ iv ≤ 1000000001) (h0 : 0 ≤ now) (h1 : now ≤ 4611686018427387904) :
    Calls Try.prog 26 #[.agg #[.bool md, .int .i64 iv, .int .i64 now, .slice A q.length c], .int .i64 n] w fun e w' => ∃ v3 v4, e = .returned (.tuple #[.agg #[.bool md, .int .i64 iv, .int .i64 (tNow md now n), v3], v4]) ∧ Kd.V k78 78 w' w.heap.size P v3 (tQ md iv now n q) ∧ Kd.R k42 42 w' w.heap.size (fun k => w.heap.size ≤ k) v4 (tDl md iv now n q) ∧ Below w.heap.size w w' := by
  have hu51 := Try.underlying51
  have hu78 := Try.underlying78
  have HV := Aside0.mk hV
  have HQ := Aside0.mk (And.intro hq hcb)
  have HI := Aside0.mk (And.intro hiv (And.intro h0 h1))
  clear hV hq hcb hiv h0 h1
  go_enter Try.func26, Try.ntmps26
  go_wp2_with fail
  obtain ⟨hL1, hb1⟩ := allocs1 w (Obj.cells #[.bool md, .int .i64 iv, .int .i64 now, .slice A q.length c] 51)
  obtain ⟨hL2, hb2⟩ := allocs1 (w.alloc (Obj.cells #[.bool md, .int .i64 iv, .int .i64 now, .slice A q.length c] 51)) (Obj.cells #[.bool false, .int .i64 0, .int .i64 0, .slice none 0 0] 51)
  have hb12 := below_step hb1 hb2
  have hL1' := blk_below hL1 hb2
  rw [size_al] at hL2
  refine (compositorref30_limit.calls n (clampOf n) _ (rlim_val n)).mono ?_
  rintro e w2 ⟨rfl, hb⟩
  have H2 := Aside0.mk (blk_below hL1' hb)
  have H4 := Aside0.mk (blk_below hL2 hb)
  have HB := Aside0.mk (below_step hb12 hb)
  clear hL1 hb1 hL2 hb2 hb12 hL1' hb
  have hcr := Aside0.mk (clamp_rng n)
  have z0 : w2.cell? ⟨w.heap.size, 0, none⟩ = some (.bool md) := (blk_cell H2.out 0).trans rfl
  have z1 : w2.cell? ⟨w.heap.size, 1, none⟩ = some (.int .i64 iv) := (blk_cell H2.out 1).trans rfl
  have z2 : w2.cell? ⟨w.heap.size, 2, none⟩ = some (.int .i64 now) := (blk_cell H2.out 2).trans rfl
  have z3 : w2.cell? ⟨w.heap.size, 3, none⟩ = some (.slice A q.length c) := (blk_cell H2.out 3).trans rfl
  have f0 := blk_frozen H2.out 0
  have f1 := blk_frozen H2.out 1
  have f2 := blk_frozen H2.out 2
  have f3 := blk_frozen H2.out 3
  have y0 : w2.cell? ⟨w.heap.size + 1, 0, none⟩ = some (.bool false) := (blk_cell H4.out 0).trans rfl
  have y1 : w2.cell? ⟨w.heap.size + 1, 1, none⟩ = some (.int .i64 0) := (blk_cell H4.out 1).trans rfl
  have y2 : w2.cell? ⟨w.heap.size + 1, 2, none⟩ = some (.int .i64 0) := (blk_cell H4.out 2).trans rfl
  have y3 : w2.cell? ⟨w.heap.size + 1, 3, none⟩ = some (.slice none 0 0) := (blk_cell H4.out 3).trans rfl
  have k0 := blk_frozen H4.out 0
  have k1 := blk_frozen H4.out 1
  have k2 := blk_frozen H4.out 2
  have k3 := blk_frozen H4.out 3
  cases md with
  | false =>
    go_wp2_with fail
    refine bodyPost_ret (results_ct rfl _ _ (w.heap.size + 1) 51 #[.bool false, .int .i64 iv, .int .i64 now, .slice A q.length c] (0, 0) _ rfl (blk_put4 H4.out _ _ _ _) Try.underlying51 rfl (by kernel_rfl)) rfl ?_
    exact ⟨_, _, rfl, Kd.V_below HV.out (below_put4 HB.out (Nat.le_succ _) _ _ _ _), Kd.R_nil _ _ _ _ _, below_put4 HB.out (Nat.le_succ _) _ _ _ _⟩
  | true =>
    obtain ⟨i1, i2⟩ := HI.out.1 rfl
    have hg := next_gt iv now i1 i2 HI.out.2.1 HI.out.2.2
    have i1' := Aside0.mk i1
    have hT : Aside0 (tNow true now n = mx now (clampOf n) ∧ tQ true iv now n q = (if mx now (clampOf n) < nextOf iv now then q else []) ∧ tDl true iv now n q = if mx now (clampOf n) < nextOf iv now then [] else dlAll (nextOf iv now) iv q q.length) := ⟨rfl, rfl, rfl⟩
    by_cases hc : clampOf n ≤ now
    · have e : mx now (clampOf n) = now := by unfold mx; rw [if_neg (by omega)]
      rw [e, if_pos hg, if_pos hg] at hT
      have d0 : decide (clampOf n ≤ now) = true := decide_eq_true hc
      clear hg e i1 i2
      go_wp2_with fail
      refine bodyPost_ret (results_ct rfl _ _ (w.heap.size + 1) 51 #[.bool true, .int .i64 iv, .int .i64 now, .slice A q.length c] (0, 0) _ rfl (blk_put4 H4.out _ _ _ _) Try.underlying51 rfl (by kernel_rfl)) rfl ?_
      rw [hT.out.1, hT.out.2.1, hT.out.2.2]
      exact ⟨_, _, rfl, Kd.V_below HV.out (below_put4 HB.out (Nat.le_succ _) _ _ _ _), Kd.R_nil _ _ _ _ _, below_put4 HB.out (Nat.le_succ _) _ _ _ _⟩
    · have e : mx now (clampOf n) = clampOf n := by unfold mx; rw [if_pos (by omega)]
      rw [e] at hT
      have d0 : decide (clampOf n ≤ now) = false := decide_eq_false hc
      clear hg e i2
      have hL6 := (allocs1 w2 (Obj.cells #[.bool true, .int .i64 iv, .int .i64 (clampOf n), .slice A q.length c] 51))
      have H2a := Aside0.mk (blk_below H2.out hL6.2)
      have H4a := Aside0.mk (blk_below H4.out hL6.2)
      have HBa := Aside0.mk (below_step HB.out hL6.2)
      have H6a := Aside0.mk hL6.1
      have x0 := (blk_cell H2a.out 0).trans rfl
      have x1 := (blk_cell H2a.out 1).trans rfl
      have x2 := (blk_cell H2a.out 2).trans rfl
      have x3 := (blk_cell H2a.out 3).trans rfl
      clear hL6
      go_wp2_with fail
      have hVr := Kd.V_reads' (Kd.V_below HV.out HBa.out)
      refine (compositorref30_Next.calls true iv now A c q now (nextOf iv now) _ hVr.2.2 hVr.2.1 (rnext_val iv now now q i1'.out)).mono ?_
      rintro e w3 ⟨rfl, hb⟩
      have H2b := Aside0.mk (blk_below H2a.out hb)
      have H4b := Aside0.mk (blk_below H4a.out hb)
      have H6b := Aside0.mk (blk_below H6a.out hb)
      have HBb := Aside0.mk (below_step HBa.out hb)
      have hne : Aside0 (w.heap.size + 2 ≤ w2.heap.size) := ⟨by have := blk_lt H4.out; omega⟩
      clear hb hVr x0 x1 x2 x3 z0 z1 z2 z3 f0 f1 f2 f3 y0 y1 y2 y3 k0 k1 k2 k3 H2a H4a H6a HBa HB H2 H4
      generalize w2.heap.size = g6 at H6b hne ⊢
      have y0 : w3.cell? ⟨g6, 0, none⟩ = some (.bool true) := (blk_cell H6b.out 0).trans rfl
      have y1 : w3.cell? ⟨g6, 1, none⟩ = some (.int .i64 iv) := (blk_cell H6b.out 1).trans rfl
      have y2 : w3.cell? ⟨g6, 2, none⟩ = some (.int .i64 (clampOf n)) := (blk_cell H6b.out 2).trans rfl
      have y3 : w3.cell? ⟨g6, 3, none⟩ = some (.slice A q.length c) := (blk_cell H6b.out 3).trans rfl
      have k0 := blk_frozen H6b.out 0
      have k1 := blk_frozen H6b.out 1
      have k2 := blk_frozen H6b.out 2
      have k3 := blk_frozen H6b.out 3
      have m0 := blk_frozen H4b.out 0
      have m1 := blk_frozen H4b.out 1
      have m2 := blk_frozen H4b.out 2
      have m3 := blk_frozen H4b.out 3
      have n0 := (blk_cell H4b.out 0).trans rfl
      have n1 := (blk_cell H4b.out 1).trans rfl
      have n2 := (blk_cell H4b.out 2).trans rfl
      have n3 := (blk_cell H4b.out 3).trans rfl
      by_cases hb : clampOf n < nextOf iv now
      · have d1 : decide (clampOf n < nextOf iv now) = true := decide_eq_true hb
        rw [if_pos hb, if_pos hb] at hT
        clear hb hc
        go_wp2_with fail
        refine bodyPost_ret (results_ct rfl _ _ (w.heap.size + 1) 51 #[.bool true, .int .i64 iv, .int .i64 (clampOf n), .slice A q.length c] (0, 0) _ rfl (blk_put4 H4b.out _ _ _ _) Try.underlying51 rfl (by kernel_rfl)) rfl ?_
        rw [hT.out.1, hT.out.2.1, hT.out.2.2]
        exact ⟨_, _, rfl, Kd.V_below HV.out (below_put4 HBb.out (Nat.le_succ _) _ _ _ _), Kd.R_nil _ _ _ _ _, below_put4 HBb.out (Nat.le_succ _) _ _ _ _⟩
      · have d1 : decide (clampOf n < nextOf iv now) = false := decide_eq_false hb
        rw [if_neg hb, if_neg hb] at hT
        clear hb hc
        go_wp2_with fail
        have H6c := Aside0.mk (blk_put (cs := #[.bool true, .int .i64 iv, .int .i64 (clampOf n), .slice A q.length c]) H6b.out 3 (.slice none 0 0) rfl)
        have H2c := Aside0.mk (blk_far (p := ⟨g6, 3, none⟩) H2b.out (fun e => by have := hne.out; simp only at e; omega) (u := .slice none 0 0))
        have H4c := Aside0.mk (blk_far (p := ⟨g6, 3, none⟩) H4b.out (fun e => by have := hne.out; simp only at e; omega) (u := .slice none 0 0))
        have HBc := Aside0.mk (below_set (g := g6) (j := 3) (v := .slice none 0 0) HBb.out (by have := hne.out; omega))
        clear y0 y1 y2 y3 k0 k1 k2 k3 m0 m1 m2 m3 n0 n1 n2 n3 d0 d1 H2b H4b H6b HBb
        generalize w3.setCell ⟨g6, 3, none⟩ (.slice none 0 0) = w4 at H6c H2c H4c HBc ⊢
        generalize nextOf iv now = b at hT ⊢
        go_loopw [8, 9] (fun v8 v9 w' => ∃ i : Nat, i ≤ q.length ∧ v9 = .int .i64 i ∧ Aside0 (Kd.R k42 42 w' w.heap.size (fun j => w.heap.size ≤ j) v8 (dlAll b iv q i)) ∧ Aside0 (Below w.heap.size w w') ∧ Aside0 (w'.heap[w.heap.size]? = some (.cells #[.bool true, .int .i64 iv, .int .i64 now, .slice A q.length c] 51 (0, 0)) ∧ (∃ u0 u1 u2 u3, w'.heap[w.heap.size + 1]? = some (.cells #[u0, u1, u2, u3] 51 (0, 0))) ∧ w'.heap[g6]? = some (.cells #[.bool true, .int .i64 iv, .int .i64 (clampOf n), .slice none 0 0] 51 (0, 0)))) (fun _ v _ => q.length - (intOf v).toNat)
        case atStart => exact ⟨0, Nat.zero_le _, rfl, ⟨Kd.R_nil _ _ _ _ _⟩, HBc, ⟨H2c.out, ⟨_, _, _, _, H4c.out⟩, H6c.out⟩⟩
        case round =>
          obtain ⟨i, hi, rfl, hO, hB, hH⟩ := hrel
          clear H2c H4c H6c HBc
          by_cases hlt : i < q.length
          · have hlt' : (i : Int) < (q.length : Int) := by omega
            have h0i : 0 ≤ (i : Int) := by omega
            obtain ⟨ad, A1, c1, e0, x0, x1, l1, hC1⟩ := at_T78 (Kd.V_reads' HV.out).2.2 (i : Int) h0i hlt'
            subst e0
            simp only [Int.toNat_natCast] at x0 x1
            have hX : Aside0 (rd_T78 q (i : Int) ∈ q) := ⟨(pp_rd q i hlt).1⟩
            obtain ⟨x, hx⟩ : ∃ x, rd_T78 q (i : Int) = x := ⟨_, rfl⟩
            rw [hx] at x0 x1 l1 hC1 hX
            replace x0 := (hB.out.cell (World.block_lt_of_cell? w _ x0)).trans x0
            replace x1 := (hB.out.cell (World.block_lt_of_cell? w _ x1)).trans x1
            have hG := Aside0.mk (And.intro l1 hC1)
            have hx' := Aside0.mk hx
            have z3 := (blk_cell hH.out.1 3).trans rfl
            have f3 := blk_frozen hH.out.1 3
            clear l1 hC1 hx
            go_wp2_with fail
            have hLa := allocs1 wr (Obj.cells #[.int .i64 x.f0, .slice A1 x.f1.length c1] 78)
            obtain ⟨hHa, ⟨u0, u1, u2, u3, hHb⟩, hHc⟩ := hH.out
            have hO5 := Aside0.mk (Kd.R_below hO.out hLa.2)
            have hB5 := Aside0.mk (below_step hB.out hLa.2)
            have hH5 : Aside0 ((wr.alloc (Obj.cells #[.int .i64 x.f0, .slice A1 x.f1.length c1] 78)).heap[w.heap.size]? = some (.cells #[.bool true, .int .i64 iv, .int .i64 now, .slice (some ad) q.length c] 51 (0, 0)) ∧ (∃ u0 u1 u2 u3, (wr.alloc (Obj.cells #[.int .i64 x.f0, .slice A1 x.f1.length c1] 78)).heap[w.heap.size + 1]? = some (.cells #[u0, u1, u2, u3] 51 (0, 0))) ∧ (wr.alloc (Obj.cells #[.int .i64 x.f0, .slice A1 x.f1.length c1] 78)).heap[g6]? = some (.cells #[.bool true, .int .i64 iv, .int .i64 (clampOf n), .slice none 0 0] 51 (0, 0)) ∧ (wr.alloc (Obj.cells #[.int .i64 x.f0, .slice A1 x.f1.length c1] 78)).heap[wr.heap.size]? = some (.cells #[.int .i64 x.f0, .slice A1 x.f1.length c1] 78 (0, 0))) := ⟨blk_below hHa hLa.2, ⟨_, _, _, _, blk_below hHb hLa.2⟩, blk_below hHc hLa.2, hLa.1⟩
            clear hLa hHa hHb hHc x0 x1 z3 f3 hO hB hH
            have hxl := Aside0.mk (HQ.out.2 x hX.out)
            generalize wr.alloc (Obj.cells #[.int .i64 x.f0, .slice A1 x.f1.length c1] 78) = w5 at hO5 hB5 hH5 ⊢
            generalize wr.heap.size = g10 at hH5 ⊢
            have hib : Aside0 ((dlAll b iv q i).length ≤ i * 257 ∧ i ≤ 256) := ⟨dl_len b iv q HQ.out.2 i hi, by have := HQ.out.1; omega⟩
            go_loopw [8, 11] (fun v8 v11 w' => ∃ j : Nat, j ≤ x.f1.length ∧ v11 = .int .i64 j ∧ Aside0 (Kd.R k42 42 w' w.heap.size (fun j => w.heap.size ≤ j) v8 (dlAll b iv q i ++ (x.f1.take j).map (fun n => (⟨0, x.f0, 19, wrap64 (Int.tdiv b 1000000), 0, 0, wrap64 n, 0, 0⟩ : S42)))) ∧ Aside0 (Below w.heap.size w w') ∧ Aside0 (w'.heap[w.heap.size]? = some (.cells #[.bool true, .int .i64 iv, .int .i64 now, .slice (some ad) q.length c] 51 (0, 0)) ∧ (∃ u0 u1 u2 u3, w'.heap[w.heap.size + 1]? = some (.cells #[u0, u1, u2, u3] 51 (0, 0))) ∧ w'.heap[g6]? = some (.cells #[.bool true, .int .i64 iv, .int .i64 (clampOf n), .slice none 0 0] 51 (0, 0)) ∧ w'.heap[g10]? = some (.cells #[.int .i64 x.f0, .slice A1 x.f1.length c1] 78 (0, 0)))) (fun _ v _ => x.f1.length - (intOf v).toNat)
            case atStart => exact ⟨0, Nat.zero_le _, rfl, ⟨by rw [List.take_zero, List.map_nil, List.append_nil]; exact hO5.out⟩, hB5, hH5⟩
            case round =>
              obtain ⟨j, hj, rfl, hO, hB, hH⟩ := hrel
              clear hO5 hB5 hH5
              obtain ⟨L, hL⟩ : ∃ L, (dlAll b iv q i ++ (x.f1.take j).map (fun n => (⟨0, x.f0, 19, wrap64 (Int.tdiv b 1000000), 0, 0, wrap64 n, 0, 0⟩ : S42))) = L := ⟨_, rfl⟩
              rw [hL] at hO
              have HL := Aside0.mk hL
              clear hL
              obtain ⟨Ao, co, eo⟩ := Kd.R_slice hO.out
              subst eo
              have z0 := (blk_cell hH.out.2.2.2 0).trans rfl
              have z1 := (blk_cell hH.out.2.2.2 1).trans rfl
              have f0 := blk_frozen hH.out.2.2.2 0
              have f1 := blk_frozen hH.out.2.2.2 1
              by_cases hjl : j < x.f1.length
              · have hjl' : (j : Int) < (x.f1.length : Int) := by omega
                have h0j : 0 ≤ (j : Int) := by omega
                obtain ⟨ad2, e2, y0⟩ := at_u32 hG.out.2 (j : Int) h0j hjl'
                subst e2
                simp only [Int.toNat_natCast] at y0
                obtain ⟨nv, hnv⟩ : ∃ nv, x.f1.getD j 0 = nv := ⟨_, rfl⟩
                rw [hnv] at y0
                have HNV := Aside0.mk hnv
                clear hnv
                have HY := Aside0.mk y0
                replace y0 := (hB.out.cell (World.block_lt_of_cell? w _ y0)).trans y0
                have HLN : Aside0 ((L.length + 1) * 72 ≤ 140737488355328) := ⟨by rw [← HL.out, List.length_append, List.length_map, List.length_take]; have := hib.out; have := hxl.out; omega⟩
                have HKW := Aside0.mk (pp_w (k := j) (by have := hxl.out; omega))
                have HKM := Aside0.mk (meas_ hjl)
                have HL2 : Aside0 (L ++ [(⟨0, x.f0, 19, wrap64 (Int.tdiv b 1000000), 0, 0, wrap64 nv, 0, 0⟩ : S42)] = dlAll b iv q i ++ (x.f1.take (j + 1)).map (fun n => (⟨0, x.f0, 19, wrap64 (Int.tdiv b 1000000), 0, 0, wrap64 n, 0, 0⟩ : S42))) := ⟨by rw [← HL.out, pp_take x.f1 j hjl, HNV.out, List.map_append, List.append_assoc]; rfl⟩
                go_wp2_with fail
                go_region_held3 (fun w' => w'.cell? ⟨g10, 0, none⟩ = some (.int .i64 x.f0) ∧ w'.cell? ⟨g10, 1, none⟩ = some (.slice (some ad2) x.f1.length c1) ∧ w'.cell? (ad2.add j) = some (.int .u32 nv)) (first | (refine ⟨(blk_cell (blk_below (HK1.out _ _ _ (by decide) hH.out.2.2.2) ?bq) 0).trans rfl, (blk_cell (blk_below (HK1.out _ _ _ (by decide) hH.out.2.2.2) ?bq) 1).trans rfl, ((below_step HB1.out ?bq).cell (World.block_lt_of_cell? w _ HY.out)).trans HY.out⟩; case bq => (repeat (first | (with_reducible exact Below.refl _ _) | (with_reducible apply below_drew1) | (with_reducible apply below_alloc)))) | (refine ⟨(blk_cell (blk_below hH.out.2.2.2 ?bq) 0).trans rfl, (blk_cell (blk_below hH.out.2.2.2 ?bq) 1).trans rfl, ((below_step hB.out ?bq).cell (World.block_lt_of_cell? w _ HY.out)).trans HY.out⟩; case bq => (repeat (first | (with_reducible exact Below.refl _ _) | (with_reducible apply below_drew1) | (with_reducible apply below_alloc)))) | fail) (first | (refine Kd.R_append_rows_step k42 (w0 := w) w.heap.size (by rfl) (.tmp 55) (.tmp 67) 39 42 (.agg #[(.int .i64 0), (.int .i64 0), (.int .i64 0), (.int .i64 0), (.int .i64 0), (.int .i64 0), (.int .i64 0), (.int .i64 0), (.int .u32 0)]) 72 (by rfl) Try.underlying39 info42 rfl (by decide) (by omega) (.slice Ao L.length co) L [(⟨0, x.f0, 19, wrap64 (Int.tdiv b 1000000), 0, 0, wrap64 nv, 0, 0⟩ : S42)] (some ⟨_, 0, none⟩) 1 1 (fun k => w.heap.size ≤ k) (fun _ => False) rfl rfl (Kd.R_below hO.out (by repeat (first | (with_reducible exact Below.refl _ _) | (with_reducible apply below_drew1) | (with_reducible apply below_alloc)))) (lit42 (⟨0, x.f0, 19, wrap64 (Int.tdiv b 1000000), 0, 0, wrap64 nv, 0, 0⟩ : S42) (by (repeat (first | (with_reducible refine blk_drew ?_) | (refine (heap_alloc_new _ _).trans ?_; simp only [i64_w]))))) (fun _ _ h => h) (fun _ hk => hk.elim) (fun k hk => Nat.le_trans (below_step hB.out (by repeat (first | (with_reducible exact Below.refl _ _) | (with_reducible apply below_drew1) | (with_reducible apply below_alloc)))).size hk) (below_step hB.out (by repeat (first | (with_reducible exact Below.refl _ _) | (with_reducible apply below_drew1) | (with_reducible apply below_alloc)))) (below_step hB.out (by repeat (first | (with_reducible exact Below.refl _ _) | (with_reducible apply below_drew1) | (with_reducible apply below_alloc)))).size HLN.out ?_; intro v1 w1 ho hb hg hat; have HO1 := Aside0.mk ho; have HB1 := Aside0.mk hb; have HK1 := Aside0.mk (tick_keep hO.out (by repeat (first | (with_reducible exact Below.refl _ _) | (with_reducible apply below_drew1) | (with_reducible apply below_alloc))) hg); clear ho hb hg hat))
                all_goals (
                  go_wp2_with fail
                  rw [HKW.out]
                  exact ⟨⟨j + 1, hjl, rfl, ⟨by rw [← HL2.out]; exact HO1.out⟩, HB1, ⟨HK1.out _ _ _ (by decide) hH.out.1, hH.out.2.1.elim (fun u0 h => h.elim (fun u1 h => h.elim (fun u2 h => h.elim (fun u3 h => ⟨u0, u1, u2, u3, HK1.out _ _ _ (by decide) h⟩)))), HK1.out _ _ _ (by decide) hH.out.2.2.1, HK1.out _ _ _ (by decide) hH.out.2.2.2⟩⟩, HKM.out⟩)
              · obtain rfl : j = x.f1.length := by omega
                rw [List.take_length] at HL
                have a0 := (blk_cell hH.out.1 0).trans rfl
                have a1 := (blk_cell hH.out.1 1).trans rfl
                have a2 := (blk_cell hH.out.1 2).trans rfl
                have a3 := (blk_cell hH.out.1 3).trans rfl
                go_wp2_with fail
                have hVr := Kd.V_reads' (Kd.V_below HV.out hB.out)
                refine (compositorref30_superseded.calls 1000 true iv now (some ad) c q (i : Int) (sup q i) _ hVr.2.2 hVr.2.1 (rsup_val true iv now q HQ.out.1 i hlt 1000 (by omega))).mono ?_
                rintro e w7 ⟨rfl, hb7⟩
                have hO7 := Aside0.mk (Kd.R_below hO.out hb7)
                have hB7 := Aside0.mk (below_step hB.out hb7)
                have hH7 : Aside0 (w7.heap[w.heap.size]? = some (.cells #[.bool true, .int .i64 iv, .int .i64 now, .slice (some ad) q.length c] 51 (0, 0)) ∧ (∃ u0 u1 u2 u3, w7.heap[w.heap.size + 1]? = some (.cells #[u0, u1, u2, u3] 51 (0, 0))) ∧ w7.heap[g6]? = some (.cells #[.bool true, .int .i64 iv, .int .i64 (clampOf n), .slice none 0 0] 51 (0, 0)) ∧ w7.heap[g10]? = some (.cells #[.int .i64 x.f0, .slice A1 x.f1.length c1] 78 (0, 0))) := ⟨blk_below hH.out.1 hb7, hH.out.2.1.elim (fun u0 h => h.elim (fun u1 h => h.elim (fun u2 h => h.elim (fun u3 h => ⟨u0, u1, u2, u3, blk_below h hb7⟩)))), blk_below hH.out.2.2.1 hb7, blk_below hH.out.2.2.2 hb7⟩
                clear hO hB hH hb7 hVr a0 a1 a2 a3 z0 z1 f0 f1
                have z0 := (blk_cell hH7.out.2.2.2 0).trans rfl
                have f0 := blk_frozen hH7.out.2.2.2 0
                have a1 := (blk_cell hH7.out.1 1).trans rfl
                have g1 := blk_frozen hH7.out.1 1
                have hi0 : ¬ iv = 0 := by omega
                have HLN : Aside0 ((L.length + 1) * 72 ≤ 140737488355328) := ⟨by rw [← HL.out, List.length_append, List.length_map]; have := hib.out; have := hxl.out; omega⟩
                have HKW := Aside0.mk (pp_w (k := i) (by have := HQ.out.1; omega))
                have HKM := Aside0.mk (meas_ hlt)
                cases hs : sup q i with
                | true =>
                  have HL2 : Aside0 (L ++ [(⟨0, x.f0, 23, 0, 0, 0, 0, 0, 0⟩ : S42)] = dlAll b iv q (i + 1)) := ⟨by rw [← HL.out, dl_succ, List.append_assoc]; unfold dlOf; rw [hx'.out, if_pos hs]⟩
                  go_wp2_with ((with_reducible refine gate_builtin (b := .append) (xs := #[.tmp 72, .tmp 76]) rfl ?_); at_builtin; refine Kd.R_append k42 (w0 := w) w.heap.size rfl (.tmp 72) (.tmp 76) 39 42 (.agg #[(.int .i64 0), (.int .i64 0), (.int .i64 0), (.int .i64 0), (.int .i64 0), (.int .i64 0), (.int .i64 0), (.int .i64 0), (.int .u32 0)]) 72 rfl Try.underlying39 info42 rfl (by decide) (by omega) (.slice Ao L.length co) L (⟨0, x.f0, 23, 0, 0, 0, 0, 0, 0⟩ : S42) [.int .i64 0, .int .i64 x.f0, .int .i64 23, .int .i64 0, .int .i64 0, .int .i64 0, .int .i64 0, .int .i64 0, .int .u32 0] (fun k => w.heap.size ≤ k) (fun _ => False) rfl rfl ?aP (fun _ hk => hk.elim) ?aF ?aO ?aB ?aS ?aL ?_; (case aP => exact k42_mkM _ _ _ (⟨0, x.f0, 23, 0, 0, 0, 0, 0, 0⟩ : S42)); (case aB => exact hB7.out); (case aF => exact (fun k hk => Nat.le_trans hB7.out.size hk)); (case aO => exact hO7.out); (case aS => exact hB7.out.size); (case aL => exact HLN.out); intro v1 w1 ho hb hg hat; have HO1 := Aside0.mk ho; have HB1 := Aside0.mk hb; have HK1 := Aside0.mk (tick_keep hO7.out (Below.refl _ _) hg); clear ho hb hg hat)
                  rw [HKW.out]
                  exact ⟨⟨i + 1, hlt, rfl, ⟨by rw [← HL2.out]; exact HO1.out⟩, HB1, ⟨HK1.out _ _ _ (by decide) hH7.out.1, hH7.out.2.1.elim (fun u0 h => h.elim (fun u1 h => h.elim (fun u2 h => h.elim (fun u3 h => ⟨u0, u1, u2, u3, HK1.out _ _ _ (by decide) h⟩)))), HK1.out _ _ _ (by decide) hH7.out.2.2.1⟩⟩, HKM.out⟩
                | false =>
                  have HL2 : Aside0 (L ++ [(⟨0, x.f0, 22, wrap64 (Int.tdiv b 1000), 0, 0, wrap64 (Int.tdiv b iv), 0, 0⟩ : S42)] = dlAll b iv q (i + 1)) := ⟨by rw [← HL.out, dl_succ, List.append_assoc]; unfold dlOf; rw [hx'.out, if_neg (by rw [hs]; decide)]⟩
                  go_wp2_with fail
                  go_region_held3 (fun w' => w'.cell? ⟨g10, 0, none⟩ = some (.int .i64 x.f0) ∧ w'.cell? ⟨w.heap.size, 1, none⟩ = some (.int .i64 iv)) (first | (refine ⟨(blk_cell (blk_below (HK1.out _ _ _ (by decide) hH7.out.2.2.2) ?bq) 0).trans rfl, (blk_cell (blk_below (HK1.out _ _ _ (by decide) hH7.out.1) ?bq) 1).trans rfl⟩; case bq => (repeat (first | (with_reducible exact Below.refl _ _) | (with_reducible apply below_drew1) | (with_reducible apply below_alloc)))) | (refine ⟨(blk_cell (blk_below hH7.out.2.2.2 ?bq) 0).trans rfl, (blk_cell (blk_below hH7.out.1 ?bq) 1).trans rfl⟩; case bq => (repeat (first | (with_reducible exact Below.refl _ _) | (with_reducible apply below_drew1) | (with_reducible apply below_alloc)))) | fail) (first | (refine Kd.R_append_rows_step k42 (w0 := w) w.heap.size (by rfl) (.tmp 78) (.tmp 88) 39 42 (.agg #[(.int .i64 0), (.int .i64 0), (.int .i64 0), (.int .i64 0), (.int .i64 0), (.int .i64 0), (.int .i64 0), (.int .i64 0), (.int .u32 0)]) 72 (by rfl) Try.underlying39 info42 rfl (by decide) (by omega) (.slice Ao L.length co) L [(⟨0, x.f0, 22, wrap64 (Int.tdiv b 1000), 0, 0, wrap64 (Int.tdiv b iv), 0, 0⟩ : S42)] (some ⟨_, 0, none⟩) 1 1 (fun k => w.heap.size ≤ k) (fun _ => False) rfl rfl (Kd.R_below hO7.out (by repeat (first | (with_reducible exact Below.refl _ _) | (with_reducible apply below_drew1) | (with_reducible apply below_alloc)))) (lit42 (⟨0, x.f0, 22, wrap64 (Int.tdiv b 1000), 0, 0, wrap64 (Int.tdiv b iv), 0, 0⟩ : S42) (by (repeat (first | (with_reducible refine blk_drew ?_) | (refine (heap_alloc_new _ _).trans ?_; simp only [i64_w]))))) (fun _ _ h => h) (fun _ hk => hk.elim) (fun k hk => Nat.le_trans (below_step hB7.out (by repeat (first | (with_reducible exact Below.refl _ _) | (with_reducible apply below_drew1) | (with_reducible apply below_alloc)))).size hk) (below_step hB7.out (by repeat (first | (with_reducible exact Below.refl _ _) | (with_reducible apply below_drew1) | (with_reducible apply below_alloc)))) (below_step hB7.out (by repeat (first | (with_reducible exact Below.refl _ _) | (with_reducible apply below_drew1) | (with_reducible apply below_alloc)))).size HLN.out ?_; intro v1 w1 ho hb hg hat; have HO1 := Aside0.mk ho; have HB1 := Aside0.mk hb; have HK1 := Aside0.mk (tick_keep hO7.out (by repeat (first | (with_reducible exact Below.refl _ _) | (with_reducible apply below_drew1) | (with_reducible apply below_alloc))) hg); clear ho hb hg hat))
                  all_goals (
                    go_wp2_with fail
                    rw [HKW.out]
                    exact ⟨⟨i + 1, hlt, rfl, ⟨by rw [← HL2.out]; exact HO1.out⟩, HB1, ⟨HK1.out _ _ _ (by decide) hH7.out.1, hH7.out.2.1.elim (fun u0 h => h.elim (fun u1 h => h.elim (fun u2 h => h.elim (fun u3 h => ⟨u0, u1, u2, u3, HK1.out _ _ _ (by decide) h⟩)))), HK1.out _ _ _ (by decide) hH7.out.2.2.1⟩⟩, HKM.out⟩)
          · obtain rfl : i = q.length := by omega
            obtain ⟨Ao, co, eo⟩ := Kd.R_slice hO.out
            subst eo
            obtain ⟨hHa, ⟨u0, u1, u2, u3, hHb⟩, hHc⟩ := hH.out
            have HHb := Aside0.mk hHb
            have a3 := (blk_cell hHa 3).trans rfl
            have b0 := (blk_cell hHc 0).trans rfl
            have b1 := (blk_cell hHc 1).trans rfl
            have b2 := (blk_cell hHc 2).trans rfl
            have b3 := (blk_cell hHc 3).trans rfl
            have m0 := blk_frozen hHb 0
            have m1 := blk_frozen hHb 1
            have m2 := blk_frozen hHb 2
            have m3 := blk_frozen hHb 3
            have n0 := (blk_cell hHb 0).trans rfl
            have n1 := (blk_cell hHb 1).trans rfl
            have n2 := (blk_cell hHb 2).trans rfl
            have n3 := (blk_cell hHb 3).trans rfl
            clear hHa hHb hHc
            go_wp2_with fail
            refine bodyPost_ret (results_ct rfl _ _ (w.heap.size + 1) 51 #[.bool true, .int .i64 iv, .int .i64 (clampOf n), .slice none 0 0] (0, 0) _ rfl (blk_put4 HHb.out _ _ _ _) Try.underlying51 rfl (by kernel_rfl)) rfl ?_
            rw [hT.out.1, hT.out.2.1, hT.out.2.2]
            have hR9 := Kd.R_types hO.out HHb.out (by decide)
            exact ⟨_, _, rfl, Kd.V_nil _ _ _ _ _, Kd.R_mono (Kd.R_far (p := ⟨w.heap.size + 1, 3, none⟩) (Kd.R_far (p := ⟨w.heap.size + 1, 2, none⟩) (Kd.R_far (p := ⟨w.heap.size + 1, 1, none⟩) (Kd.R_far (p := ⟨w.heap.size + 1, 0, none⟩) hR9 (fun _ hk => hk.2) _) (fun _ hk => hk.2) _) (fun _ hk => hk.2) _) (fun _ hk => hk.2) _) (fun _ hk => hk.1), below_put4 hB.out (Nat.le_succ _) _ _ _ _⟩
theorem new_any (a0_0 : ByteArray) (a0_1 a0_2 a0_3 a0_4 a0_5 a0_6 a0_7 : Int) (md : Bool) (iv r : Int) (w : World) (h : output_Check.f a0_0 a0_1 a0_2 a0_3 a0_4 a0_5 a0_6 a0_7 = some r) (hmd : if md = true then r = 0 ∧ output_Interval.f a0_0 a0_1 a0_2 a0_3 a0_4 a0_5 a0_6 a0_7 = some iv ∧ 1 ≤ iv ∧ iv ≤ 1000000001 else r ≠ 0 ∧ iv = 0) :
    Calls Try.prog 10 #[.agg #[.string a0_0, .int .i64 a0_1, .int .i64 a0_2, .int .i64 a0_3, .int .i64 a0_4, .int .i64 a0_5, .int .i64 a0_6, .int .i64 a0_7]] w fun e w' => ∃ p, e = .returned (.tuple #[p, .int .i64 r]) ∧ Below w.heap.size w w' ∧ (md = false → p = .pointer none ∧ iv = 0) ∧ (md = true → ∃ g, p = .pointer (some ⟨g, 0, none⟩) ∧ Clk w w' g iv 0 (.slice none 0 0) [] ∧ 1 ≤ iv ∧ iv ≤ 1000000001) := by
  cases md with
  | false =>
    rw [if_neg (by decide)] at hmd
    refine (new_bad a0_0 a0_1 a0_2 a0_3 a0_4 a0_5 a0_6 a0_7 r w h hmd.1).mono ?_
    rintro e w' ⟨rfl, hb⟩
    exact ⟨_, rfl, hb, fun _ => ⟨rfl, hmd.2⟩, (fun e => by cases e)⟩
  | true =>
    rw [if_pos rfl] at hmd
    obtain ⟨rfl, hi, h1, h2⟩ := hmd
    refine (new_ok a0_0 a0_1 a0_2 a0_3 a0_4 a0_5 a0_6 a0_7 iv w h hi).mono ?_
    rintro e w' ⟨g, rfl, hg, hl, hb⟩
    exact ⟨_, rfl, hb, (fun e => by cases e), fun _ => ⟨g, rfl, ⟨hg, hl, Kd.N_nil _ _ _ _ _, hb⟩, h1, h2⟩⟩
theorem Pl.start {w w1 w2 w3 : World} {p v : Value} {gm : Nat} {md : Bool} {iv : Int} (hb1 : Below w.heap.size w w1) (h0 : md = false → p = .pointer none ∧ iv = 0) (h1 : md = true → ∃ g, p = .pointer (some ⟨g, 0, none⟩) ∧ Clk w w1 g iv 0 (.slice none 0 0) [] ∧ 1 ≤ iv ∧ iv ≤ 1000000001) (hb2 : Below w1.heap.size w1 w2) (hS : Kd.S k78 78 w2 w1.heap.size (fun _ => True) v []) (hb3 : Below w2.heap.size w2 w3) (hg : w2.heap.size ≤ gm) (hc : w3.heap[gm]? = some (.cells #[.bool md, .int .i64 iv, .int .i64 0, v] 51 (0, 0))) :
    Pl w w3 p gm md iv 0 (.slice none 0 0) [] 0 v [] := by
  have hb13 := below_step hb2 hb3
  refine ⟨fun e => ⟨(h0 e).1, rfl, (h0 e).2, rfl, rfl⟩, fun e => ?_, below_step hb1 hb13, ⟨⟨by decide, by decide⟩, by simp, by simp⟩, hc, ?_, ?_⟩
  · obtain ⟨g, e1, hK, hi⟩ := h1 e
    refine ⟨g, e1, hK.after hb13, Kd.N_nil _ _ _ _ _, fun e => ?_, hi⟩
    have := blk_lt hK.blk
    have := hb2.size
    omega
  · have := hb1.size
    have := hb2.size
    omega
  · obtain ⟨A, c, rfl, hl, hf⟩ := Kd.S_V (base' := w.heap.size) hS
    exact ⟨A, c, rfl, hl, fun W _ => ⟨rfl, by simp, fun h => absurd h (Nat.lt_irrefl 0)⟩⟩
section
variable {w0 w w1 : World} {p : Value} {gm : Nat} {md : Bool} {iv now now2 : Int} {vq vr : Value} {q q2 : List S78}
theorem Pl.hiv (h : Pl w0 w p gm md iv now vq q now2 vr q2) : md = true → 1 ≤ iv ∧ iv ≤ 1000000001 := fun e => by
  obtain ⟨g, _, _, _, _, hi⟩ := h.m1 e
  exact hi
theorem Pl.hiv1 (h : Pl w0 w p gm md iv now vq q now2 vr q2) : md = true → 1 ≤ iv := fun e => (h.hiv e).1
theorem Pl.put {now2' : Int} {vr' : Value} {q2' : List S78} (h : Pl w0 w p gm md iv now vq q now2 vr q2) (hV : Kd.V k78 78 w w0.heap.size (fun k => ¬ Xs p vq k ∧ k ≠ gm) vr' q2') :
    Pl w0 ((((w.setCell ⟨gm, 0, none⟩ (.bool md)).setCell ⟨gm, 1, none⟩ (.int .i64 iv)).setCell ⟨gm, 2, none⟩ (.int .i64 now2')).setCell ⟨gm, 3, none⟩ vr') p gm md iv now vq q now2' vr' q2' := by
  have hk := kept_put4 w gm (.bool md) (.int .i64 iv) (.int .i64 now2') vr'
  refine ⟨h.m0, fun e => ?_, below_put4 h.bl h.low _ _ _ _, h.rg, blk_put4 h.cell _ _ _ _, h.low, Kd.V_kept hV hk (fun k hk => hk.2)⟩
  obtain ⟨g, e1, hK, hN, hg, hi⟩ := h.m1 e
  have hN' := Kd.N_kept hN hk (fun k hk => hk.2)
  exact ⟨g, e1, ⟨blk_kept hK.blk hk hg, hK.low, Kd.N_mono hN' (fun k hk => hk.1), below_put4 h.bl h.low _ _ _ _⟩, hN', hg, hi⟩
end
section
variable {w0 w wc wa : World} {p : Value} {gm : Nat} {md : Bool} {iv now now2 now3 : Int} {vq vr v : Value} {q q2 Q : List S78}
theorem Pl.ownB (h : Pl w0 w p gm md iv now vq q now2 vr q2) (hb : Below w.heap.size w wa) : Kd.V k78 78 wa wa.heap.size (fun k => (¬ Xs p vq k ∧ k ≠ gm) ∧ k < w.heap.size) vr q2 := Kd.V_below (base := wa.heap.size) (Kd.V_bound (base := wa.heap.size) h.own) hb
theorem pl_w1 {z0 z1 z2 z3 : Value} {b : Nat} (h : Pl w0 w p gm md iv now vq q now2 vr q2) (hc : w.heap.size + 1 ≤ wc.heap.size) (hba : Below w.heap.size w wa) (hV : Kd.V k78 78 wa b (fun k => ((¬ Xs p vq k ∧ k ≠ gm) ∧ k < w.heap.size) ∨ wc.heap.size ≤ k) v Q) (hZ : wa.heap[w.heap.size]? = some (.cells #[z0, z1, z2, z3] 51 (0, 0))) :
    ((((wa.setCell ⟨w.heap.size, 0, none⟩ (.bool md)).setCell ⟨w.heap.size, 1, none⟩ (.int .i64 iv)).setCell ⟨w.heap.size, 2, none⟩ (.int .i64 now3)).setCell ⟨w.heap.size, 3, none⟩ v).heap[w.heap.size]? = some (.cells #[.bool md, .int .i64 iv, .int .i64 now3, v] 51 (0, 0)) ∧
    Pl w0 ((((wa.setCell ⟨w.heap.size, 0, none⟩ (.bool md)).setCell ⟨w.heap.size, 1, none⟩ (.int .i64 iv)).setCell ⟨w.heap.size, 2, none⟩ (.int .i64 now3)).setCell ⟨w.heap.size, 3, none⟩ v) p gm md iv now vq q now2 vr q2 ∧
    Kd.V k78 78 ((((wa.setCell ⟨w.heap.size, 0, none⟩ (.bool md)).setCell ⟨w.heap.size, 1, none⟩ (.int .i64 iv)).setCell ⟨w.heap.size, 2, none⟩ (.int .i64 now3)).setCell ⟨w.heap.size, 3, none⟩ v) w0.heap.size (fun k => ¬ Xs p vq k ∧ k ≠ gm) v Q ∧
    Below w.heap.size w ((((wa.setCell ⟨w.heap.size, 0, none⟩ (.bool md)).setCell ⟨w.heap.size, 1, none⟩ (.int .i64 iv)).setCell ⟨w.heap.size, 2, none⟩ (.int .i64 now3)).setCell ⟨w.heap.size, 3, none⟩ v) ∧ Kept wa ((((wa.setCell ⟨w.heap.size, 0, none⟩ (.bool md)).setCell ⟨w.heap.size, 1, none⟩ (.int .i64 iv)).setCell ⟨w.heap.size, 2, none⟩ (.int .i64 now3)).setCell ⟨w.heap.size, 3, none⟩ v) (fun k => k < wc.heap.size) ∧ w.heap.size ≤ wc.heap.size := by
  have hk := kept_put4 wa w.heap.size (.bool md) (.int .i64 iv) (.int .i64 now3) v
  have hB := below_put4 hba (Nat.le_refl w.heap.size) (.bool md) (.int .i64 iv) (.int .i64 now3) v
  refine ⟨blk_put4 hZ _ _ _ _, h.after hB, Kd.V_mono (base := w0.heap.size) (Kd.V_kept (base := w0.heap.size) hV hk (fun k hk => ?_)) (fun k hk => ?_), hB, hk.mono (fun k hk => by omega), by omega⟩
  · rcases hk with hk | hk <;> omega
  · rcases hk with hk | hk
    · exact hk.1
    · exact ⟨fun hx => by have := h.xlt k hx; omega, fun e => by have := blk_lt h.cell; omega⟩
theorem pl_w2 {b : Nat} (h : Pl w0 w p gm md iv now vq q now2 vr q2) (hc : w.heap.size ≤ wc.heap.size) (hba : Below w.heap.size w wa) (hV : Kd.V k78 78 wa b (fun k => ((¬ Xs p vq k ∧ k ≠ gm) ∧ k < w.heap.size) ∨ wc.heap.size ≤ k) v Q) :
    (wa.alloc (Obj.cells #[.bool md, .int .i64 iv, .int .i64 now3, v] 51)).heap[wa.heap.size]? = some (.cells #[.bool md, .int .i64 iv, .int .i64 now3, v] 51 (0, 0)) ∧
    Pl w0 (wa.alloc (Obj.cells #[.bool md, .int .i64 iv, .int .i64 now3, v] 51)) p gm md iv now vq q now2 vr q2 ∧
    Kd.V k78 78 (wa.alloc (Obj.cells #[.bool md, .int .i64 iv, .int .i64 now3, v] 51)) w0.heap.size (fun k => ¬ Xs p vq k ∧ k ≠ gm) v Q ∧
    Below w.heap.size w (wa.alloc (Obj.cells #[.bool md, .int .i64 iv, .int .i64 now3, v] 51)) ∧ Kept wa (wa.alloc (Obj.cells #[.bool md, .int .i64 iv, .int .i64 now3, v] 51)) (fun k => k < wc.heap.size) ∧ w.heap.size ≤ wc.heap.size := by
  have hA : Below wa.heap.size wa (wa.alloc (Obj.cells #[.bool md, .int .i64 iv, .int .i64 now3, v] 51)) := below_alloc (Below.refl _ _) _
  have hB := below_step hba hA
  refine ⟨heap_alloc_new _ _, h.after hB, Kd.V_mono (base := w0.heap.size) (Kd.V_below (base := w0.heap.size) hV hA) (fun k hk => ?_), hB, Kept.of_below hA _, hc⟩
  rcases hk with hk | hk
  · exact hk.1
  · exact ⟨fun hx => by have := h.xlt k hx; omega, fun e => by have := blk_lt h.cell; omega⟩
end
theorem pp_inl {W : World} {n : Nat} {ok : Nat → Prop} {v : Value} {l : List S78} (h : Kd.V k78 78 W n ok v l) : Kd.V k78 78 W n (fun k => ok k ∨ n ≤ k) v l := Kd.V_mono h (fun _ hk => Or.inl hk)
set_option maxHeartbeats 16000000 in
set_option maxRecDepth 100000 in
theorem playslaw_ok (k : Nat) (a0_0 : ByteArray) (a0_1 a0_2 a0_3 a0_4 a0_5 a0_6 a0_7 : Int) (md : Bool) (iv r : Int) (A1 : Option Addr) (c1 : Nat) (l1 : List S55) (w : World) (hr1 : Kd.C k55 w A1 l1.length l1) (hc1 : l1.length ≤ c1) (h : output_Check.f a0_0 a0_1 a0_2 a0_3 a0_4 a0_5 a0_6 a0_7 = some r) (hN : compositorref30_New.f k a0_0 a0_1 a0_2 a0_3 a0_4 a0_5 a0_6 a0_7 = some (md, iv, 0, [], r)) (hmd : if md = true then r = 0 ∧ output_Interval.f a0_0 a0_1 a0_2 a0_3 a0_4 a0_5 a0_6 a0_7 = some iv ∧ 1 ≤ iv ∧ iv ≤ 1000000001 else r ≠ 0 ∧ iv = 0) :
    Calls Try.prog 7 #[.agg #[.string a0_0, .int .i64 a0_1, .int .i64 a0_2, .int .i64 a0_3, .int .i64 a0_4, .int .i64 a0_5, .int .i64 a0_6, .int .i64 a0_7], .slice A1 l1.length c1] w fun e w' => e = .returned (.bool true) ∧ Below w.heap.size w w' := by
  have hu23 := Try.underlying23
  have hu51 := Try.underlying51
  have hu55 := Try.underlying55
  have hu69 := Try.underlying69
  have HR1 := Aside0.mk hr1
  have HC1 := Aside0.mk hc1
  have H := Aside0.mk (And.intro h hmd)
  have HN := Aside0.mk hN
  have HB := Aside0.mk (Below.refl w.heap.size w)
  clear hr1 hc1 h hN hmd
  obtain ⟨b, hb1, hb2⟩ := pp_heavy l1
  have HV := Aside0.mk (And.intro hb1 hb2)
  clear hb1 hb2
  go_enter Try.func7, Try.ntmps7
  go_wp2_with ((with_reducible refine gate_dst (N := 2) rfl ?_); refine box_event ?hg (N := 2) ?hd (cs := #[.string a0_0, .int .i64 a0_1, .int .i64 a0_2, .int .i64 a0_3, .int .i64 a0_4, .int .i64 a0_5, .int .i64 a0_6, .int .i64 a0_7]) (t := 23) ?hr ?_; (case hd => rfl); (case hg => rfl); (case hr => first | (go_simp; done) | (go_simp; rfl)); intro gB hg w9 hbox hb; have n0_ := Aside0.mk (below_step (by repeat (first | (with_reducible first | exact HB.out | apply below_alloc | apply pw_below_drewN | apply below_drew1) | exact HB.out)) hb); clear HB; have HB := n0_; clear n0_; have BK := Aside0.mk hbox; clear hb hbox hg)
  refine (compositorlaw30_heavy.calls (l1.length + 1) A1 c1 l1 b _ (Kd.C_below HR1.out HB.out) HC1.out HV.out.1).mono ?_
  rintro e w10 ⟨rfl, nd, rfl⟩
  cases b with
  | true =>
    go_wp2_with fail
    refine (example30 _).mono ?_
    rintro e w2 ⟨rfl, hb⟩
    have HB2 := Aside0.mk (below_step (pw_below_drewN HB.out _) hb)
    clear hb
    go_wp2_with fail
    go_ret
    exact ⟨rfl, HB2.out⟩
  | false =>
    have HL := Aside0.mk (HV.out.2 rfl)
    have HBd := Aside0.mk (pw_below_drewN HB.out nd)
    have BKd := Aside0.mk (blk_drewN BK.out nd)
    generalize w9.drewN nd = w11 at HBd BKd ⊢
    clear HB BK HV
    have hca_0 : w11.cell? ⟨gB, 0, none⟩ = some (.string a0_0) := (blk_cell BKd.out 0).trans rfl
    have hca_1 : w11.cell? ⟨gB, 1, none⟩ = some (.int .i64 a0_1) := (blk_cell BKd.out 1).trans rfl
    have hca_2 : w11.cell? ⟨gB, 2, none⟩ = some (.int .i64 a0_2) := (blk_cell BKd.out 2).trans rfl
    have hca_3 : w11.cell? ⟨gB, 3, none⟩ = some (.int .i64 a0_3) := (blk_cell BKd.out 3).trans rfl
    have hca_4 : w11.cell? ⟨gB, 4, none⟩ = some (.int .i64 a0_4) := (blk_cell BKd.out 4).trans rfl
    have hca_5 : w11.cell? ⟨gB, 5, none⟩ = some (.int .i64 a0_5) := (blk_cell BKd.out 5).trans rfl
    have hca_6 : w11.cell? ⟨gB, 6, none⟩ = some (.int .i64 a0_6) := (blk_cell BKd.out 6).trans rfl
    have hca_7 : w11.cell? ⟨gB, 7, none⟩ = some (.int .i64 a0_7) := (blk_cell BKd.out 7).trans rfl
    have fca_0 := blk_frozen BKd.out 0
    have fca_1 := blk_frozen BKd.out 1
    have fca_2 := blk_frozen BKd.out 2
    have fca_3 := blk_frozen BKd.out 3
    have fca_4 := blk_frozen BKd.out 4
    have fca_5 := blk_frozen BKd.out 5
    have fca_6 := blk_frozen BKd.out 6
    have fca_7 := blk_frozen BKd.out 7
    go_wp2_with fail
    refine (new_any a0_0 a0_1 a0_2 a0_3 a0_4 a0_5 a0_6 a0_7 md iv r _ H.out.1 H.out.2).mono ?_
    rintro e w12 ⟨p, rfl, hbN, hN0, hN1⟩
    have HP := Aside0.mk (And.intro hN0 hN1)
    have BKe := Aside0.mk (blk_below BKd.out hbN)
    have HBe := Aside0.mk hbN
    clear hbN hN0 hN1 hca_0 hca_1 hca_2 hca_3 hca_4 hca_5 hca_6 hca_7 fca_0 fca_1 fca_2 fca_3 fca_4 fca_5 fca_6 fca_7
    have hca_0 : w12.cell? ⟨gB, 0, none⟩ = some (.string a0_0) := (blk_cell BKe.out 0).trans rfl
    have hca_1 : w12.cell? ⟨gB, 1, none⟩ = some (.int .i64 a0_1) := (blk_cell BKe.out 1).trans rfl
    have hca_2 : w12.cell? ⟨gB, 2, none⟩ = some (.int .i64 a0_2) := (blk_cell BKe.out 2).trans rfl
    have hca_3 : w12.cell? ⟨gB, 3, none⟩ = some (.int .i64 a0_3) := (blk_cell BKe.out 3).trans rfl
    have hca_4 : w12.cell? ⟨gB, 4, none⟩ = some (.int .i64 a0_4) := (blk_cell BKe.out 4).trans rfl
    have hca_5 : w12.cell? ⟨gB, 5, none⟩ = some (.int .i64 a0_5) := (blk_cell BKe.out 5).trans rfl
    have hca_6 : w12.cell? ⟨gB, 6, none⟩ = some (.int .i64 a0_6) := (blk_cell BKe.out 6).trans rfl
    have hca_7 : w12.cell? ⟨gB, 7, none⟩ = some (.int .i64 a0_7) := (blk_cell BKe.out 7).trans rfl
    have fca_0 := blk_frozen BKe.out 0
    have fca_1 := blk_frozen BKe.out 1
    have fca_2 := blk_frozen BKe.out 2
    have fca_3 := blk_frozen BKe.out 3
    have fca_4 := blk_frozen BKe.out 4
    have fca_5 := blk_frozen BKe.out 5
    have fca_6 := blk_frozen BKe.out 6
    have fca_7 := blk_frozen BKe.out 7
    go_wp2_with fail
    refine (compositorref30_New.calls k a0_0 a0_1 a0_2 a0_3 a0_4 a0_5 a0_6 a0_7 _ _ _ _ _ _ HN.out).mono ?_
    rintro e w13 ⟨v0, rfl, hS, hbM⟩
    obtain ⟨Aw, cw, ew⟩ := Kd.V_slice (Kd.S_V (base' := 0) hS)
    subst ew
    have HS := Aside0.mk (And.intro hS hbM)
    clear hS hbM hca_0 hca_1 hca_2 hca_3 hca_4 hca_5 hca_6 hca_7 fca_0 fca_1 fca_2 fca_3 fca_4 fca_5 fca_6 fca_7 BKd BKe
    have hbA : Below w13.heap.size w13 (w13.alloc (Obj.cells #[.bool md, .int .i64 iv, .int .i64 0, .slice Aw 0 cw] 51)) := below_alloc (Below.refl _ _) _
    have HO := Aside0.mk (Pl.start (below_step HBd.out HBe.out) (fun e => HP.out.1 e) (fun e => by
      obtain ⟨g, e1, hK, hi⟩ := HP.out.2 e
      exact ⟨g, e1, ⟨hK.blk, Nat.le_trans HBd.out.size hK.low, Kd.N_mono (Kd.N_nil _ _ _ _ _) (fun _ h => h), below_step HBd.out HBe.out⟩, hi⟩) HS.out.2 HS.out.1 hbA (Nat.le_refl _) (heap_alloc_new w13 _))
    clear hbA HS HBe HBd HN H
    rw [List.length_nil]
    have hcase : (md = false ∧ p = .pointer none) ∨ (md = true ∧ ∃ g, p = .pointer (some ⟨g, 0, none⟩)) := by
      cases md with
      | false => exact .inl ⟨rfl, (HP.out.1 rfl).1⟩
      | true =>
        obtain ⟨g, e, _⟩ := HP.out.2 rfl
        exact .inr ⟨rfl, g, e⟩
    clear HP
    go_upto_region 5 with fail
    generalize w13.alloc (Obj.cells #[.bool md, .int .i64 iv, .int .i64 0, .slice Aw 0 cw] 51) = w14 at HO ⊢
    generalize w13.heap.size = gm at HO ⊢
    go_cut [38] (fun v38 w' => v38 = .bool false ∧ w' = w14)
    case first =>
      rcases hcase with ⟨rfl, rfl⟩ | ⟨rfl, g, rfl⟩
      · have z0 := (blk_cell HO.out.cell 0).trans rfl
        go_wp2_with fail
        go_meet
        case rel => exact ⟨rfl, rfl⟩
      · have z0 := (blk_cell HO.out.cell 0).trans rfl
        go_wp2_with fail
        go_meet
        case rel => exact ⟨rfl, rfl⟩
    case rest =>
      obtain ⟨rfl, rfl⟩ := hcut
      clear hcase
      go_wp2_with fail
      go_loopw [9] (fun v9 w' => ∃ (i : Nat) (now : Int) (vq vr : Value) (q : List S78), i ≤ l1.length ∧ v9 = .int .i64 i ∧ Aside0 (Pl w w' p gm md iv now vq q now vr q)) (fun v _ => l1.length - (intOf v).toNat)
      case atStart => exact ⟨0, 0, _, _, [], Nat.zero_le _, rfl, HO⟩
      case round =>
        obtain ⟨i, now, vq, vr, q, hi, rfl, hP⟩ := hrel
        clear HO
        by_cases hlt : i < l1.length
        · have hlt' : (i : Int) < (l1.length : Int) := by omega
          have h0i : 0 ≤ (i : Int) := by omega
          have HKW := Aside0.mk (pp_w (k := i) (by have := HL.out; omega))
          have HKM := Aside0.mk (meas_ hlt)
          obtain ⟨ad, A2, c2, e2, x0, x1, x2, l2, hC2⟩ := at_T55 HR1.out (i : Int) h0i hlt'
          subst e2
          simp only [Int.toNat_natCast] at x0 x1 x2
          obtain ⟨o, ho⟩ : ∃ o, rd_T55 l1 (i : Int) = o := ⟨_, rfl⟩
          rw [ho] at x0 x1 x2 l2 hC2
          have X1 := Aside0.mk x1
          have X2 := Aside0.mk x2
          have XC := Aside0.mk (And.intro l2 hC2)
          obtain ⟨Ar, cr, er⟩ := Kd.V_slice hP.out.own
          subst er
          replace x0 := (hP.out.bl.cell (World.block_lt_of_cell? w _ x0)).trans x0
          clear x1 x2 l2 hC2 ho
          go_upto_block 2 with fail
          go_cut [9] (fun v9 w' => v9 = .int .i64 i ∧ ∃ (now : Int) (vq : Value) (Az : Option Addr) (cz : Nat) (q : List S78), Aside0 (Pl w w' p gm md iv now vq q now (.slice Az q.length cz) q))
          case first =>
            clear x0
            by_cases k1 : o.f0 = 1
            · skip
              have d0 : (o.f0 == 1) = true := by rw [k1]; rfl
              clear k1
              obtain ⟨er, her⟩ : ∃ er, cErr md o.f1 q.length o.f2.length = er := ⟨_, rfl⟩
              obtain ⟨Q, hQ⟩ : ∃ Q, cQ md o.f1 q o.f2 = Q := ⟨_, rfl⟩
              have HRV : Aside0 (compositorref30_Commit.f md iv now q o.f1 o.f2 = some (md, iv, now, Q, er)) := ⟨by rw [rcommit_val, her, hQ]⟩
              have HPC := Aside0.mk (And.intro her hQ)
              clear her hQ
              go_wp2_with fail
              go_region_held3 (fun w' => w'.cell? ⟨gm, 0, none⟩ = some (.bool md) ∧ w'.cell? ⟨gm, 1, none⟩ = some (.int .i64 iv) ∧ w'.cell? ⟨gm, 2, none⟩ = some (.int .i64 now) ∧ w'.cell? ⟨gm, 3, none⟩ = some (.slice Ar q.length cr) ∧ w'.cell? ⟨(ad.add (i * 3)).block, (ad.add (i * 3)).off + 1, none⟩ = some (.int .i64 o.f1) ∧ w'.cell? ⟨(ad.add (i * 3)).block, (ad.add (i * 3)).off + 2, none⟩ = some (.slice A2 o.f2.length c2)) (first | (refine ⟨(blk_cell (hP.out.after ?bq).cell 0).trans rfl, (blk_cell (hP.out.after ?bq).cell 1).trans rfl, (blk_cell (hP.out.after ?bq).cell 2).trans rfl, (blk_cell (hP.out.after ?bq).cell 3).trans rfl, ((hP.out.after ?bq).bl.cell (World.block_lt_of_cell? w _ X1.out)).trans X1.out, ((hP.out.after ?bq).bl.cell (World.block_lt_of_cell? w _ X2.out)).trans X2.out⟩; case bq => (repeat (first | (with_reducible exact Below.refl _ _) | (with_reducible apply below_drew1) | (with_reducible apply below_alloc) | (with_reducible exact HBa.out) | (with_reducible refine below_set ?_ (Nat.le_refl _))))) | fail) (first | (go_at_call 22; refine (compositorref30_Commit.calls md iv now (fun k => (¬ Xs p vq k ∧ k ≠ gm) ∧ k < wr.heap.size) Ar cr q o.f1 A2 c2 o.f2 _ _ _ _ _ _ (hP.out.ownB (by repeat (first | (with_reducible exact Below.refl _ _) | (with_reducible apply below_drew1) | (with_reducible apply below_alloc)))) (Kd.C_below XC.out.2 (hP.out.after (by repeat (first | (with_reducible exact Below.refl _ _) | (with_reducible apply below_drew1) | (with_reducible apply below_alloc)))).bl) XC.out.1 HRV.out).mono ?_; rintro e wa ⟨v3, rfl, hVa, hba⟩; obtain ⟨Aa, ca, ea⟩ := Kd.V_slice hVa; subst ea; have HVa := Aside0.mk hVa; have HBa := Aside0.mk (below_step (show Below wr.heap.size wr _ from (by repeat (first | (with_reducible exact Below.refl _ _) | (with_reducible apply below_drew1) | (with_reducible apply below_alloc)))) hba); (first | (have hZ := Aside0.mk (blk_below (blk_drew (heap_alloc_new wr (Obj.cells #[.bool false, .int .i64 0, .int .i64 0, .slice none 0 0] 51))) hba); have q0 := (blk_cell hZ.out 0).trans rfl; have r0 := blk_frozen hZ.out 0; have q1 := (blk_cell hZ.out 1).trans rfl; have r1 := blk_frozen hZ.out 1; have q2 := (blk_cell hZ.out 2).trans rfl; have r2 := blk_frozen hZ.out 2; have q3 := (blk_cell hZ.out 3).trans rfl; have r3 := blk_frozen hZ.out 3) | (have hZ := Aside0.mk (blk_below (heap_alloc_new wr (Obj.cells #[.bool false, .int .i64 0, .int .i64 0, .slice none 0 0] 51)) hba); have q0 := (blk_cell hZ.out 0).trans rfl; have r0 := blk_frozen hZ.out 0; have q1 := (blk_cell hZ.out 1).trans rfl; have r1 := blk_frozen hZ.out 1; have q2 := (blk_cell hZ.out 2).trans rfl; have r2 := blk_frozen hZ.out 2; have q3 := (blk_cell hZ.out 3).trans rfl; have r3 := blk_frozen hZ.out 3) | skip); clear hVa hba))
              all_goals (
                first
                | (have HW := Aside0.mk (pl_w1 (now3 := now) hP.out (Nat.le_of_eq (size_al _ _).symm) HBa.out HVa.out hZ.out); clear hZ q0 q1 q2 q3 r0 r1 r2 r3; generalize World.setCell (World.setCell (World.setCell (World.setCell wa ⟨wr.heap.size, 0, none⟩ (.bool md)) ⟨wr.heap.size, 1, none⟩ (.int .i64 iv)) ⟨wr.heap.size, 2, none⟩ (.int .i64 now)) ⟨wr.heap.size, 3, none⟩ (.slice Aa Q.length ca) = wb at HW ⊢; generalize hgt : wr.heap.size = gt at HW ⊢)
                | (have HW := Aside0.mk (pl_w2 (now3 := now) hP.out (Nat.le_refl _) HBa.out HVa.out); generalize wa.alloc (Obj.cells #[.bool md, .int .i64 iv, .int .i64 now, .slice Aa Q.length ca] 51) = wb at HW ⊢; generalize hgt : wa.heap.size = gt at HW ⊢)
                have u0 := (blk_cell HW.out.1 0).trans rfl
                have u1 := (blk_cell HW.out.1 1).trans rfl
                have u2 := (blk_cell HW.out.1 2).trans rfl
                have u3 := (blk_cell HW.out.1 3).trans rfl
                have m0 := blk_frozen HW.out.2.1.cell 0
                have m1 := blk_frozen HW.out.2.1.cell 1
                have m2 := blk_frozen HW.out.2.1.cell 2
                have m3 := blk_frozen HW.out.2.1.cell 3
                have n0 := (blk_cell HW.out.2.1.cell 0).trans rfl
                have n1 := (blk_cell HW.out.2.1.cell 1).trans rfl
                have n2 := (blk_cell HW.out.2.1.cell 2).trans rfl
                have n3 := (blk_cell HW.out.2.1.cell 3).trans rfl
                have HPb := Aside0.mk (HW.out.2.1.put (now2' := now) HW.out.2.2.1)
                go_wp2_with fail
                generalize World.setCell (World.setCell (World.setCell (World.setCell wb ⟨gm, 0, none⟩ (.bool md)) ⟨gm, 1, none⟩ (.int .i64 iv)) ⟨gm, 2, none⟩ (.int .i64 now)) ⟨gm, 3, none⟩ (.slice Aa Q.length ca) = wd at HPb ⊢
                clear u0 u1 u2 u3 m0 m1 m2 m3 n0 n1 n2 n3 hgt
                go_region_held3 (fun w' => w'.cell? ⟨(ad.add (i * 3)).block, (ad.add (i * 3)).off + 1, none⟩ = some (.int .i64 o.f1) ∧ w'.cell? ⟨(ad.add (i * 3)).block, (ad.add (i * 3)).off + 2, none⟩ = some (.slice A2 o.f2.length c2)) (first | (refine ⟨((HPe.out.after ?bq).bl.cell (World.block_lt_of_cell? w _ X1.out)).trans X1.out, ((HPe.out.after ?bq).bl.cell (World.block_lt_of_cell? w _ X2.out)).trans X2.out⟩; case bq => (repeat (first | (with_reducible exact Below.refl _ _) | (with_reducible apply below_drew1) | (with_reducible apply below_alloc)))) | (refine ⟨((HPb.out.after ?bq).bl.cell (World.block_lt_of_cell? w _ X1.out)).trans X1.out, ((HPb.out.after ?bq).bl.cell (World.block_lt_of_cell? w _ X2.out)).trans X2.out⟩; case bq => (repeat (first | (with_reducible exact Below.refl _ _) | (with_reducible apply below_drew1) | (with_reducible apply below_alloc)))) | fail) (first | (go_at_call 16; refine (pl_commit (HPb.out.after (by repeat (first | (with_reducible exact Below.refl _ _) | (with_reducible apply below_drew1) | (with_reducible apply below_alloc)))) o.f1 A2 c2 o.f2 (Kd.C_below XC.out.2 (HPb.out.after (by repeat (first | (with_reducible exact Below.refl _ _) | (with_reducible apply below_drew1) | (with_reducible apply below_alloc)))).bl) XC.out.1).mono ?_; intro e we hpc; rw [HPC.out.1, HPC.out.2] at hpc; obtain ⟨rfl, vq', hPe⟩ := hpc; have HPe := Aside0.mk hPe; clear hPe))
                all_goals (
                  go_wp2_with fail
                  go_meet
                  case rel => exact ⟨rfl, _, _, _, _, _, HPe⟩))
            · by_cases k2 : o.f0 = 2
              · skip
                have d0 : (o.f0 == 1) = false := by simpa using k1
                have d1 : (o.f0 == 2) = true := by rw [k2]; rfl
                clear k1 k2
                obtain ⟨U, hU⟩ : ∃ U, outOf o.f1 q = U := ⟨_, rfl⟩
                obtain ⟨Q, hQ⟩ : ∃ Q, restOf o.f1 q = Q := ⟨_, rfl⟩
                have HRV : Aside0 (compositorref30_Discard.f 1000 md iv now q o.f1 = some (md, iv, now, Q, U)) := ⟨by rw [rdisc_val _ _ _ _ _ hP.out.rg.2.1 hP.out.rg.2.2, hU, hQ]⟩
                have HLN := Aside0.mk (outOf_len o.f1 q hP.out.rg.2.1 hP.out.rg.2.2).1
                rw [hU] at HLN
                have HPC := Aside0.mk (And.intro hU hQ)
                clear hU hQ
                go_wp2_with fail
                go_region_held3 (fun w' => w'.cell? ⟨gm, 0, none⟩ = some (.bool md) ∧ w'.cell? ⟨gm, 1, none⟩ = some (.int .i64 iv) ∧ w'.cell? ⟨gm, 2, none⟩ = some (.int .i64 now) ∧ w'.cell? ⟨gm, 3, none⟩ = some (.slice Ar q.length cr) ∧ w'.cell? ⟨(ad.add (i * 3)).block, (ad.add (i * 3)).off + 1, none⟩ = some (.int .i64 o.f1)) (first | (refine ⟨(blk_cell (hP.out.after ?bq).cell 0).trans rfl, (blk_cell (hP.out.after ?bq).cell 1).trans rfl, (blk_cell (hP.out.after ?bq).cell 2).trans rfl, (blk_cell (hP.out.after ?bq).cell 3).trans rfl, ((hP.out.after ?bq).bl.cell (World.block_lt_of_cell? w _ X1.out)).trans X1.out⟩; case bq => (repeat (first | (with_reducible exact Below.refl _ _) | (with_reducible apply below_drew1) | (with_reducible apply below_alloc) | (with_reducible exact HBa.out) | (with_reducible refine below_set ?_ (Nat.le_refl _))))) | fail) (first | (go_at_call 23; refine (compositorref30_Discard.calls 1000 md iv now (fun k => (¬ Xs p vq k ∧ k ≠ gm) ∧ k < wr.heap.size) Ar cr q o.f1 _ _ _ _ _ _ (hP.out.ownB (by repeat (first | (with_reducible exact Below.refl _ _) | (with_reducible apply below_drew1) | (with_reducible apply below_alloc)))) HRV.out).mono ?_; rintro e wa ⟨v3, v4, rfl, hNa, hRa, hba⟩; obtain ⟨Aa, ca, ea⟩ := Kd.N_slice hNa; subst ea; obtain ⟨Ab, cb, eb⟩ := Kd.R_slice hRa; subst eb; have HVa := Aside0.mk (Kd.V_mono (Kd.N_V (base' := 0) hNa) (fun k hk => hk.1)); have HRa := Aside0.mk hRa; have HBa := Aside0.mk (below_step (show Below wr.heap.size wr _ from (by repeat (first | (with_reducible exact Below.refl _ _) | (with_reducible apply below_drew1) | (with_reducible apply below_alloc)))) hba); (first | (have hZ := Aside0.mk (blk_below (blk_drew (heap_alloc_new wr (Obj.cells #[.bool false, .int .i64 0, .int .i64 0, .slice none 0 0] 51))) hba); have q0 := (blk_cell hZ.out 0).trans rfl; have r0 := blk_frozen hZ.out 0; have q1 := (blk_cell hZ.out 1).trans rfl; have r1 := blk_frozen hZ.out 1; have q2 := (blk_cell hZ.out 2).trans rfl; have r2 := blk_frozen hZ.out 2; have q3 := (blk_cell hZ.out 3).trans rfl; have r3 := blk_frozen hZ.out 3) | (have hZ := Aside0.mk (blk_below (heap_alloc_new wr (Obj.cells #[.bool false, .int .i64 0, .int .i64 0, .slice none 0 0] 51)) hba); have q0 := (blk_cell hZ.out 0).trans rfl; have r0 := blk_frozen hZ.out 0; have q1 := (blk_cell hZ.out 1).trans rfl; have r1 := blk_frozen hZ.out 1; have q2 := (blk_cell hZ.out 2).trans rfl; have r2 := blk_frozen hZ.out 2; have q3 := (blk_cell hZ.out 3).trans rfl; have r3 := blk_frozen hZ.out 3) | skip); clear hNa hRa hba))
                all_goals (
                  first
                  | (have HW := Aside0.mk (pl_w1 (now3 := now) hP.out (Nat.le_of_eq (size_al _ _).symm) HBa.out HVa.out hZ.out); have HRb := Aside0.mk (Kd.R_mono (Kd.R_kept HRa.out HW.out.2.2.2.2.1 (fun k hk h => Nat.lt_irrefl _ (Nat.lt_of_lt_of_le h hk))) (fun k hk => Nat.le_trans HW.out.2.2.2.2.2 hk)); clear hZ q0 q1 q2 q3 r0 r1 r2 r3; generalize World.setCell (World.setCell (World.setCell (World.setCell wa ⟨wr.heap.size, 0, none⟩ (.bool md)) ⟨wr.heap.size, 1, none⟩ (.int .i64 iv)) ⟨wr.heap.size, 2, none⟩ (.int .i64 now)) ⟨wr.heap.size, 3, none⟩ (.slice Aa Q.length ca) = wb at HW HRb ⊢; generalize hgt : wr.heap.size = gt at HW ⊢)
                  | (have HW := Aside0.mk (pl_w2 (now3 := now) hP.out (Nat.le_refl _) HBa.out HVa.out); have HRb := Aside0.mk (Kd.R_mono (Kd.R_kept HRa.out HW.out.2.2.2.2.1 (fun k hk h => Nat.lt_irrefl _ (Nat.lt_of_lt_of_le h hk))) (fun k hk => Nat.le_trans HW.out.2.2.2.2.2 hk)); generalize wa.alloc (Obj.cells #[.bool md, .int .i64 iv, .int .i64 now, .slice Aa Q.length ca] 51) = wb at HW HRb ⊢; generalize hgt : wa.heap.size = gt at HW ⊢)
                  have u0 := (blk_cell HW.out.1 0).trans rfl
                  have u1 := (blk_cell HW.out.1 1).trans rfl
                  have u2 := (blk_cell HW.out.1 2).trans rfl
                  have u3 := (blk_cell HW.out.1 3).trans rfl
                  have m0 := blk_frozen HW.out.2.1.cell 0
                  have m1 := blk_frozen HW.out.2.1.cell 1
                  have m2 := blk_frozen HW.out.2.1.cell 2
                  have m3 := blk_frozen HW.out.2.1.cell 3
                  have n0 := (blk_cell HW.out.2.1.cell 0).trans rfl
                  have n1 := (blk_cell HW.out.2.1.cell 1).trans rfl
                  have n2 := (blk_cell HW.out.2.1.cell 2).trans rfl
                  have n3 := (blk_cell HW.out.2.1.cell 3).trans rfl
                  have HPb := Aside0.mk (HW.out.2.1.put (now2' := now) HW.out.2.2.1)
                  have HRd := Aside0.mk (Kd.R_kept HRb.out (kept_put4 wb gm (.bool md) (.int .i64 iv) (.int .i64 now) (.slice Aa Q.length ca)) (fun k hk e => Nat.lt_irrefl _ (Nat.lt_of_lt_of_le (blk_lt hP.out.cell) (e ▸ hk))))
                  have y1 := (HPb.out.bl.cell (World.block_lt_of_cell? w _ X1.out)).trans X1.out
                  go_wp2_with fail
                  generalize World.setCell (World.setCell (World.setCell (World.setCell wb ⟨gm, 0, none⟩ (.bool md)) ⟨gm, 1, none⟩ (.int .i64 iv)) ⟨gm, 2, none⟩ (.int .i64 now)) ⟨gm, 3, none⟩ (.slice Aa Q.length ca) = wd at HPb HRd y1 ⊢
                  clear u0 u1 u2 u3 m0 m1 m2 m3 n0 n1 n2 n3 hgt
                  refine (pl_discard HPb.out o.f1).mono ?_
                  rintro e we ⟨v, vq', rfl, hRe, hPe, hKe⟩
                  rw [HPC.out.1] at hRe
                  rw [HPC.out.2] at hPe
                  obtain ⟨Av, cv, ev⟩ := Kd.R_slice hRe
                  subst ev
                  have HRe := Aside0.mk (And.intro (Kd.R_reads' hRe) (Kd.R_reads' (Kd.R_kept HRd.out hKe (fun k hk hx => Nat.lt_irrefl _ (Nat.lt_of_lt_of_le (hP.out.xlt k hx) hk)))))
                  have HPe := Aside0.mk hPe
                  clear hRe hPe hKe y1
                  go_wp2_with fail
                  refine (compositorlaw30_numbers.calls (U.length + 1) Av cv U Ab cb U true _ HRe.out.1.2.2 HRe.out.1.2.1 HRe.out.2.2.2 HRe.out.2.2.1 (pp_numbers U HLN.out)).mono ?_
                  rintro e wf ⟨rfl, nd, rfl⟩
                  have HPf := Aside0.mk (HPe.out.after (pw_below_drewN (Below.refl _ _) nd))
                  go_wp2_with fail
                  go_meet
                  case rel => exact ⟨rfl, _, _, _, _, _, HPf⟩)
              · skip
                have d0 : (o.f0 == 1) = false := by simpa using k1
                have d1 : (o.f0 == 2) = false := by simpa using k2
                clear k1 k2
                obtain ⟨U, hU⟩ : ∃ U, tDl md iv now o.f1 q = U := ⟨_, rfl⟩
                obtain ⟨Q, hQ⟩ : ∃ Q, tQ md iv now o.f1 q = Q := ⟨_, rfl⟩
                obtain ⟨nw, hnw⟩ : ∃ nw, tNow md now o.f1 = nw := ⟨_, rfl⟩
                have HLN := Aside0.mk (tDl_len md iv now o.f1 q hP.out.rg.2.1 hP.out.rg.2.2)
                rw [hU] at HLN
                have HPC := Aside0.mk (And.intro hU (And.intro hQ hnw))
                clear hU hQ hnw
                go_wp2_with fail
                go_region_held3 (fun w' => w'.cell? ⟨gm, 0, none⟩ = some (.bool md) ∧ w'.cell? ⟨gm, 1, none⟩ = some (.int .i64 iv) ∧ w'.cell? ⟨gm, 2, none⟩ = some (.int .i64 now) ∧ w'.cell? ⟨gm, 3, none⟩ = some (.slice Ar q.length cr) ∧ w'.cell? ⟨(ad.add (i * 3)).block, (ad.add (i * 3)).off + 1, none⟩ = some (.int .i64 o.f1)) (first | (refine ⟨(blk_cell (hP.out.after ?bq).cell 0).trans rfl, (blk_cell (hP.out.after ?bq).cell 1).trans rfl, (blk_cell (hP.out.after ?bq).cell 2).trans rfl, (blk_cell (hP.out.after ?bq).cell 3).trans rfl, ((hP.out.after ?bq).bl.cell (World.block_lt_of_cell? w _ X1.out)).trans X1.out⟩; case bq => (repeat (first | (with_reducible exact Below.refl _ _) | (with_reducible apply below_drew1) | (with_reducible apply below_alloc) | (with_reducible exact HBa.out) | (with_reducible refine below_set ?_ (Nat.le_refl _))))) | fail) (first | (go_at_call 26; refine (rtick_ok md iv now o.f1 q Ar cr (fun k => (¬ Xs p vq k ∧ k ≠ gm) ∧ k < wr.heap.size) _ (hP.out.ownB (by repeat (first | (with_reducible exact Below.refl _ _) | (with_reducible apply below_drew1) | (with_reducible apply below_alloc)))) hP.out.rg.2.1 hP.out.rg.2.2 hP.out.hiv hP.out.rg.1.1 hP.out.rg.1.2).mono ?_; rw [HPC.out.1, HPC.out.2.1, HPC.out.2.2]; rintro e wa ⟨v3, v4, rfl, hVa, hRa, hba⟩; obtain ⟨Aa, ca, ea⟩ := Kd.V_slice hVa; subst ea; obtain ⟨Ab, cb, eb⟩ := Kd.R_slice hRa; subst eb; have HVa := Aside0.mk (pp_inl hVa); have HRa := Aside0.mk hRa; have HBa := Aside0.mk (below_step (show Below wr.heap.size wr _ from (by repeat (first | (with_reducible exact Below.refl _ _) | (with_reducible apply below_drew1) | (with_reducible apply below_alloc)))) hba); (first | (have hZ := Aside0.mk (blk_below (blk_drew (heap_alloc_new wr (Obj.cells #[.bool false, .int .i64 0, .int .i64 0, .slice none 0 0] 51))) hba); have q0 := (blk_cell hZ.out 0).trans rfl; have r0 := blk_frozen hZ.out 0; have q1 := (blk_cell hZ.out 1).trans rfl; have r1 := blk_frozen hZ.out 1; have q2 := (blk_cell hZ.out 2).trans rfl; have r2 := blk_frozen hZ.out 2; have q3 := (blk_cell hZ.out 3).trans rfl; have r3 := blk_frozen hZ.out 3) | (have hZ := Aside0.mk (blk_below (heap_alloc_new wr (Obj.cells #[.bool false, .int .i64 0, .int .i64 0, .slice none 0 0] 51)) hba); have q0 := (blk_cell hZ.out 0).trans rfl; have r0 := blk_frozen hZ.out 0; have q1 := (blk_cell hZ.out 1).trans rfl; have r1 := blk_frozen hZ.out 1; have q2 := (blk_cell hZ.out 2).trans rfl; have r2 := blk_frozen hZ.out 2; have q3 := (blk_cell hZ.out 3).trans rfl; have r3 := blk_frozen hZ.out 3) | skip); clear hVa hRa hba))
                all_goals (
                  first
                  | (have HW := Aside0.mk (pl_w1 (now3 := nw) hP.out (Nat.le_of_eq (size_al _ _).symm) HBa.out HVa.out hZ.out); have HRb := Aside0.mk (Kd.R_mono (Kd.R_kept HRa.out HW.out.2.2.2.2.1 (fun k hk h => Nat.lt_irrefl _ (Nat.lt_of_lt_of_le h hk))) (fun k hk => Nat.le_trans HW.out.2.2.2.2.2 hk)); clear hZ q0 q1 q2 q3 r0 r1 r2 r3; generalize World.setCell (World.setCell (World.setCell (World.setCell wa ⟨wr.heap.size, 0, none⟩ (.bool md)) ⟨wr.heap.size, 1, none⟩ (.int .i64 iv)) ⟨wr.heap.size, 2, none⟩ (.int .i64 nw)) ⟨wr.heap.size, 3, none⟩ (.slice Aa Q.length ca) = wb at HW HRb ⊢; generalize hgt : wr.heap.size = gt at HW ⊢)
                  | (have HW := Aside0.mk (pl_w2 (now3 := nw) hP.out (Nat.le_refl _) HBa.out HVa.out); have HRb := Aside0.mk (Kd.R_mono (Kd.R_kept HRa.out HW.out.2.2.2.2.1 (fun k hk h => Nat.lt_irrefl _ (Nat.lt_of_lt_of_le h hk))) (fun k hk => Nat.le_trans HW.out.2.2.2.2.2 hk)); generalize wa.alloc (Obj.cells #[.bool md, .int .i64 iv, .int .i64 nw, .slice Aa Q.length ca] 51) = wb at HW HRb ⊢; generalize hgt : wa.heap.size = gt at HW ⊢)
                  have u0 := (blk_cell HW.out.1 0).trans rfl
                  have u1 := (blk_cell HW.out.1 1).trans rfl
                  have u2 := (blk_cell HW.out.1 2).trans rfl
                  have u3 := (blk_cell HW.out.1 3).trans rfl
                  have m0 := blk_frozen HW.out.2.1.cell 0
                  have m1 := blk_frozen HW.out.2.1.cell 1
                  have m2 := blk_frozen HW.out.2.1.cell 2
                  have m3 := blk_frozen HW.out.2.1.cell 3
                  have n0 := (blk_cell HW.out.2.1.cell 0).trans rfl
                  have n1 := (blk_cell HW.out.2.1.cell 1).trans rfl
                  have n2 := (blk_cell HW.out.2.1.cell 2).trans rfl
                  have n3 := (blk_cell HW.out.2.1.cell 3).trans rfl
                  have HPb := Aside0.mk (HW.out.2.1.put (now2' := nw) HW.out.2.2.1)
                  have HRd := Aside0.mk (Kd.R_kept HRb.out (kept_put4 wb gm (.bool md) (.int .i64 iv) (.int .i64 nw) (.slice Aa Q.length ca)) (fun k hk e => Nat.lt_irrefl _ (Nat.lt_of_lt_of_le (blk_lt hP.out.cell) (e ▸ hk))))
                  have y1 := (HPb.out.bl.cell (World.block_lt_of_cell? w _ X1.out)).trans X1.out
                  go_wp2_with fail
                  generalize World.setCell (World.setCell (World.setCell (World.setCell wb ⟨gm, 0, none⟩ (.bool md)) ⟨gm, 1, none⟩ (.int .i64 iv)) ⟨gm, 2, none⟩ (.int .i64 nw)) ⟨gm, 3, none⟩ (.slice Aa Q.length ca) = wd at HPb HRd y1 ⊢
                  clear u0 u1 u2 u3 m0 m1 m2 m3 n0 n1 n2 n3 hgt
                  refine (pl_tick HPb.out o.f1).mono ?_
                  rw [HPC.out.1, HPC.out.2.1, HPC.out.2.2]
                  rintro e we ⟨v, vq', rfl, hRe, hPe, hKe⟩
                  obtain ⟨Av, cv, ev⟩ := Kd.R_slice hRe
                  subst ev
                  have HRe := Aside0.mk (And.intro (Kd.R_reads' hRe) (Kd.R_reads' (Kd.R_kept HRd.out hKe (fun k hk hx => Nat.lt_irrefl _ (Nat.lt_of_lt_of_le (hP.out.xlt k hx) hk)))))
                  have HPe := Aside0.mk hPe
                  clear hRe hPe hKe y1
                  go_wp2_with fail
                  refine (compositorlaw30_deliveries.calls (U.length + 1) Av cv U Ab cb U true _ HRe.out.1.2.2 HRe.out.1.2.1 HRe.out.2.2.2 HRe.out.2.2.1 (pp_deliveries U HLN.out)).mono ?_
                  rintro e wf ⟨rfl, nd, rfl⟩
                  have HPf := Aside0.mk (HPe.out.after (pw_below_drewN (Below.refl _ _) nd))
                  go_wp2_with fail
                  go_meet
                  case rel => exact ⟨rfl, _, _, _, _, _, HPf⟩)
          case rest =>
            clear hP x0
            obtain ⟨rfl, now, vq, Aa, ca, q, HPe⟩ := hcut
            go_wp2_with fail
            go_region_held3 (fun w' => w'.cell? ⟨gm, 0, none⟩ = some (.bool md) ∧ w'.cell? ⟨gm, 1, none⟩ = some (.int .i64 iv) ∧ w'.cell? ⟨gm, 2, none⟩ = some (.int .i64 now) ∧ w'.cell? ⟨gm, 3, none⟩ = some (.slice Aa q.length ca) ∧ w'.cell? ⟨(ad.add (i * 3)).block, (ad.add (i * 3)).off + 1, none⟩ = some (.int .i64 o.f1)) (first | (refine ⟨(blk_cell (HP30.out.after ?bq).cell 0).trans rfl, (blk_cell (HP30.out.after ?bq).cell 1).trans rfl, (blk_cell (HP30.out.after ?bq).cell 2).trans rfl, (blk_cell (HP30.out.after ?bq).cell 3).trans rfl, ((HP30.out.after ?bq).bl.cell (World.block_lt_of_cell? w _ X1.out)).trans X1.out⟩; case bq => (repeat (first | (with_reducible exact Below.refl _ _) | (with_reducible apply below_drew1) | (with_reducible apply below_alloc)))) | (refine ⟨(blk_cell (HP13.out.after ?bq).cell 0).trans rfl, (blk_cell (HP13.out.after ?bq).cell 1).trans rfl, (blk_cell (HP13.out.after ?bq).cell 2).trans rfl, (blk_cell (HP13.out.after ?bq).cell 3).trans rfl, ((HP13.out.after ?bq).bl.cell (World.block_lt_of_cell? w _ X1.out)).trans X1.out⟩; case bq => (repeat (first | (with_reducible exact Below.refl _ _) | (with_reducible apply below_drew1) | (with_reducible apply below_alloc)))) | (refine ⟨(blk_cell (HP29.out.after ?bq).cell 0).trans rfl, (blk_cell (HP29.out.after ?bq).cell 1).trans rfl, (blk_cell (HP29.out.after ?bq).cell 2).trans rfl, (blk_cell (HP29.out.after ?bq).cell 3).trans rfl, ((HP29.out.after ?bq).bl.cell (World.block_lt_of_cell? w _ X1.out)).trans X1.out⟩; case bq => (repeat (first | (with_reducible exact Below.refl _ _) | (with_reducible apply below_drew1) | (with_reducible apply below_alloc)))) | (refine ⟨(blk_cell (HP19.out.after ?bq).cell 0).trans rfl, (blk_cell (HP19.out.after ?bq).cell 1).trans rfl, (blk_cell (HP19.out.after ?bq).cell 2).trans rfl, (blk_cell (HP19.out.after ?bq).cell 3).trans rfl, ((HP19.out.after ?bq).bl.cell (World.block_lt_of_cell? w _ X1.out)).trans X1.out⟩; case bq => (repeat (first | (with_reducible exact Below.refl _ _) | (with_reducible apply below_drew1) | (with_reducible apply below_alloc)))) | (refine ⟨(blk_cell (HP28.out.after ?bq).cell 0).trans rfl, (blk_cell (HP28.out.after ?bq).cell 1).trans rfl, (blk_cell (HP28.out.after ?bq).cell 2).trans rfl, (blk_cell (HP28.out.after ?bq).cell 3).trans rfl, ((HP28.out.after ?bq).bl.cell (World.block_lt_of_cell? w _ X1.out)).trans X1.out⟩; case bq => (repeat (first | (with_reducible exact Below.refl _ _) | (with_reducible apply below_drew1) | (with_reducible apply below_alloc)))) | (refine ⟨(blk_cell (HP17.out.after ?bq).cell 0).trans rfl, (blk_cell (HP17.out.after ?bq).cell 1).trans rfl, (blk_cell (HP17.out.after ?bq).cell 2).trans rfl, (blk_cell (HP17.out.after ?bq).cell 3).trans rfl, ((HP17.out.after ?bq).bl.cell (World.block_lt_of_cell? w _ X1.out)).trans X1.out⟩; case bq => (repeat (first | (with_reducible exact Below.refl _ _) | (with_reducible apply below_drew1) | (with_reducible apply below_alloc)))) | (refine ⟨(blk_cell (HPe.out.after ?bq).cell 0).trans rfl, (blk_cell (HPe.out.after ?bq).cell 1).trans rfl, (blk_cell (HPe.out.after ?bq).cell 2).trans rfl, (blk_cell (HPe.out.after ?bq).cell 3).trans rfl, ((HPe.out.after ?bq).bl.cell (World.block_lt_of_cell? w _ X1.out)).trans X1.out⟩; case bq => (repeat (first | (with_reducible exact Below.refl _ _) | (with_reducible apply below_drew1) | (with_reducible apply below_alloc)))) | fail) (first | (go_at_call 17; refine (pl_pending (HPe.out.after (by repeat (first | (with_reducible exact Below.refl _ _) | (with_reducible apply below_drew1) | (with_reducible apply below_alloc))))).mono ?_; rintro e wa ⟨rfl, hba⟩; have HP17 := Aside0.mk ((HPe.out.after (by repeat (first | (with_reducible exact Below.refl _ _) | (with_reducible apply below_drew1) | (with_reducible apply below_alloc)))).after hba); clear hba) | (go_at_call 28; refine (compositorref30_Pending.calls md iv now Aa ca q (q.length : Int) _ (Kd.V_reads' (HP17.out.after (by repeat (first | (with_reducible exact Below.refl _ _) | (with_reducible apply below_drew1) | (with_reducible apply below_alloc)))).own).2.2 (Kd.V_reads' (HP17.out.after (by repeat (first | (with_reducible exact Below.refl _ _) | (with_reducible apply below_drew1) | (with_reducible apply below_alloc)))).own).2.1 rfl).mono ?_; rintro e wa ⟨rfl, hba⟩; have HP28 := Aside0.mk ((HP17.out.after (by repeat (first | (with_reducible exact Below.refl _ _) | (with_reducible apply below_drew1) | (with_reducible apply below_alloc)))).after hba); clear hba) | (go_at_call 19; refine (pl_sequence (HP28.out.after (by repeat (first | (with_reducible exact Below.refl _ _) | (with_reducible apply below_drew1) | (with_reducible apply below_alloc))))).mono ?_; rintro e wa ⟨rfl, hba⟩; have HP19 := Aside0.mk ((HP28.out.after (by repeat (first | (with_reducible exact Below.refl _ _) | (with_reducible apply below_drew1) | (with_reducible apply below_alloc)))).after hba); clear hba) | (go_at_call 29; refine (compositorref30_Sequence.calls md iv now Aa ca q (sqOf md iv now) _ (Kd.V_reads' (HP19.out.after (by repeat (first | (with_reducible exact Below.refl _ _) | (with_reducible apply below_drew1) | (with_reducible apply below_alloc)))).own).2.2 (Kd.V_reads' (HP19.out.after (by repeat (first | (with_reducible exact Below.refl _ _) | (with_reducible apply below_drew1) | (with_reducible apply below_alloc)))).own).2.1 (rseq_val md iv now q (HP19.out.after (by repeat (first | (with_reducible exact Below.refl _ _) | (with_reducible apply below_drew1) | (with_reducible apply below_alloc)))).hiv1)).mono ?_; rintro e wa ⟨rfl, hba⟩; have HP29 := Aside0.mk ((HP19.out.after (by repeat (first | (with_reducible exact Below.refl _ _) | (with_reducible apply below_drew1) | (with_reducible apply below_alloc)))).after hba); clear hba) | (go_at_call 13; refine (pl_next (HP29.out.after (by repeat (first | (with_reducible exact Below.refl _ _) | (with_reducible apply below_drew1) | (with_reducible apply below_alloc)))) o.f1).mono ?_; rintro e wa ⟨rfl, hba⟩; have HP13 := Aside0.mk ((HP29.out.after (by repeat (first | (with_reducible exact Below.refl _ _) | (with_reducible apply below_drew1) | (with_reducible apply below_alloc)))).after hba); clear hba) | (go_at_call 30; refine (compositorref30_Next.calls md iv now Aa ca q o.f1 (nxOf md iv o.f1) _ (Kd.V_reads' (HP13.out.after (by repeat (first | (with_reducible exact Below.refl _ _) | (with_reducible apply below_drew1) | (with_reducible apply below_alloc)))).own).2.2 (Kd.V_reads' (HP13.out.after (by repeat (first | (with_reducible exact Below.refl _ _) | (with_reducible apply below_drew1) | (with_reducible apply below_alloc)))).own).2.1 (rnx_val md iv now o.f1 q (HP13.out.after (by repeat (first | (with_reducible exact Below.refl _ _) | (with_reducible apply below_drew1) | (with_reducible apply below_alloc)))).hiv1)).mono ?_; rintro e wa ⟨rfl, hba⟩; have HP30 := Aside0.mk ((HP13.out.after (by repeat (first | (with_reducible exact Below.refl _ _) | (with_reducible apply below_drew1) | (with_reducible apply below_alloc)))).after hba); clear hba))
            all_goals (
              go_wp2_with fail
              rw [HKW.out]
              exact ⟨⟨i + 1, _, _, _, _, hlt, rfl, HP30⟩, HKM.out⟩)
        · obtain rfl : i = l1.length := by omega
          go_wp2_with fail
          refine (example30 _).mono ?_
          rintro e w2 ⟨rfl, hb⟩
          have HB2 := Aside0.mk (below_step hP.out.bl hb)
          clear hb
          go_wp2_with fail
          go_ret
          exact ⟨rfl, HB2.out⟩
def compositorlaw30_PresentPlays.f (k : Nat) (a0_0 : ByteArray) (a0_1 a0_2 a0_3 a0_4 a0_5 a0_6 a0_7 : Int) (l1 : List (S55)) : Option Bool := (output_Check.f a0_0 a0_1 a0_2 a0_3 a0_4 a0_5 a0_6 a0_7).bind fun e => (compositorref23_Check.f k a0_0 a0_1 a0_2 a0_3 a0_4 a0_5 a0_6 a0_7).bind fun c => if e = c then (if e = 0 then (output_Interval.f a0_0 a0_1 a0_2 a0_3 a0_4 a0_5 a0_6 a0_7).bind fun iv => (compositorref23_Interval.f k a0_0 a0_1 a0_2 a0_3 a0_4 a0_5 a0_6 a0_7).bind fun d => if iv = d ∧ 1 ≤ iv ∧ iv ≤ 1000000001 then some true else none else some true) else none
theorem compositorlaw30_PresentPlays.calls (k : Nat) (a0_0 : ByteArray) (a0_1 : Int) (a0_2 : Int) (a0_3 : Int) (a0_4 : Int) (a0_5 : Int) (a0_6 : Int) (a0_7 : Int) (A1 : Option Addr) (c1 : Nat) (l1 : List (S55)) (w : World) (hr1 : Kd.C k55 w A1 l1.length l1) (hc1 : l1.length ≤ c1) (h : compositorlaw30_PresentPlays.f k a0_0 a0_1 a0_2 a0_3 a0_4 a0_5 a0_6 a0_7 l1 = some true) :
    Calls Try.prog 7 #[.agg #[.string a0_0, .int .i64 a0_1, .int .i64 a0_2, .int .i64 a0_3, .int .i64 a0_4, .int .i64 a0_5, .int .i64 a0_6, .int .i64 a0_7], .slice A1 l1.length c1] w fun e w' => e = .returned (.bool true) ∧ Below w.heap.size w w' := by
  unfold compositorlaw30_PresentPlays.f at h
  obtain ⟨e, hE, h⟩ := Option.bind_eq_some_iff.1 h
  obtain ⟨c, hC, h⟩ := Option.bind_eq_some_iff.1 h
  by_cases hec : e = c
  · rw [if_pos hec] at h
    subst hec
    by_cases h0 : e = 0
    · rw [if_pos h0] at h
      obtain ⟨iv, hI, h⟩ := Option.bind_eq_some_iff.1 h
      obtain ⟨d, hD, h⟩ := Option.bind_eq_some_iff.1 h
      by_cases hh : iv = d ∧ 1 ≤ iv ∧ iv ≤ 1000000001
      · exact playslaw_ok k a0_0 a0_1 a0_2 a0_3 a0_4 a0_5 a0_6 a0_7 true iv e A1 c1 l1 w hr1 hc1 hE (by unfold compositorref30_New.f; rw [hC, Option.bind_some, if_pos h0, hD, Option.bind_some, hh.1, h0]) (by rw [if_pos rfl]; exact ⟨h0, hI, hh.2⟩)
      · rw [if_neg hh] at h
        cases h
    · exact playslaw_ok k a0_0 a0_1 a0_2 a0_3 a0_4 a0_5 a0_6 a0_7 false 0 e A1 c1 l1 w hr1 hc1 hE (by unfold compositorref30_New.f; rw [hC, Option.bind_some, if_neg h0]) (by rw [if_neg (by decide)]; exact ⟨h0, rfl⟩)
  · rw [if_neg hec] at h
    cases h
end
end Go.Proofs.Ytmkhphkkpdiliaa.All
end
section
namespace Go.Proofs.Ytmkhphkkpdiliaa.All
open Go.RowKit Go.Proofs.YtmkhphkkpdiliaaW.PrintWords Go.Proofs.YtmkhphkkpdiliaaW.PrintLast Go.Proofs.YtmkhphkkpdiliaaW.PrintMore
set_option linter.unusedVariables false
structure S23 where
  f0 : ByteArray
  f1 : Int
  f2 : Int
  f3 : Int
  f4 : Int
  f5 : Int
  f6 : Int
  f7 : Int
def k23 : Kd S23 := Kd.iso (Kd.pair Kd.string (Kd.pair (Kd.int .i64) (Kd.pair (Kd.int .i64) (Kd.pair (Kd.int .i64) (Kd.pair (Kd.int .i64) (Kd.pair (Kd.int .i64) (Kd.pair (Kd.int .i64) (Kd.int .i64)))))))) (fun x : S23 => (x.f0, x.f1, x.f2, x.f3, x.f4, x.f5, x.f6, x.f7))
theorem k23_open {w : World} {x : S23} {cs : List Value} (h : k23.K w x cs) : cs = [.string x.f0, .int .i64 x.f1, .int .i64 x.f2, .int .i64 x.f3, .int .i64 x.f4, .int .i64 x.f5, .int .i64 x.f6, .int .i64 x.f7] := by
  obtain ⟨_, _, rfl, rfl, ⟨_, _, rfl, rfl, ⟨_, _, rfl, rfl, ⟨_, _, rfl, rfl, ⟨_, _, rfl, rfl, ⟨_, _, rfl, rfl, ⟨_, _, rfl, rfl, rfl⟩⟩⟩⟩⟩⟩⟩ := h
  exact rfl
end Go.Proofs.Ytmkhphkkpdiliaa.All
end
section
namespace Go.Proofs.Ytmkhphkkpdiliaa.Pure
open Go.RowKit Go.Proofs.YtmkhphkkpdiliaaW.PrintWords Go.Proofs.YtmkhphkkpdiliaaW.PrintMore Go.Proofs.Ytmkhphkkpdiliaa.All
set_option linter.unusedVariables false
set_option linter.unusedSimpArgs false
theorem valid_eq (a : Int) : compositorref07_Valid.f a = transform_Valid.f a := by
  unfold compositorref07_Valid.f transform_Valid.f
  split
  · refine congrArg some (Bool.eq_iff_iff.mpr ?_)
    rw [decide_eq_true_eq, decide_eq_true_eq]
    omega
  · rfl
theorem mode_eq (n s : Int) : compositorref23_mode.f n s = output_Check.sz n s := rfl
theorem size7_eq (a b c : Int) : compositorref07_Size.f a b c = transform_Size.f a b c := by
  unfold compositorref07_Size.f transform_Size.f compositorref07_clean.f transform_normal.f
  rw [valid_eq]
theorem tsize (a b c : Int) (hb : 1 ≤ b ∧ b ≤ 256) (hc : 1 ≤ c ∧ c ≤ 256) : ∃ p q, transform_Size.f a b c = some (p, q) ∧ (1 ≤ p ∧ p ≤ 256) ∧ (1 ≤ q ∧ q ≤ 256) := by
  unfold transform_Size.f transform_normal.f transform_Valid.f
  split <;> simp only [Option.bind_some]
  · split <;> simp only [Option.bind_some]
    · split
      · exact ⟨_, _, rfl, hc, hb⟩
      · exact ⟨_, _, rfl, hb, hc⟩
    · split
      · exact ⟨_, _, rfl, hc, hb⟩
      · exact ⟨_, _, rfl, hb, hc⟩
  · split <;> simp only [Option.bind_some]
    · split
      · exact ⟨_, _, rfl, hc, hb⟩
      · exact ⟨_, _, rfl, hb, hc⟩
    · split
      · exact ⟨_, _, rfl, hc, hb⟩
      · exact ⟨_, _, rfl, hb, hc⟩
theorem sz_true {n s : Int} (h : output_Check.sz n s = some true) : 1 ≤ n ∧ n ≤ 256 := by
  unfold output_Check.sz at h
  split at h
  · split at h
    · exact ⟨by omega, by omega⟩
    · cases h
  · cases h
theorem sz_some (n s : Int) (hs : 1 ≤ s) : ∃ r, output_Check.sz n s = some r := by
  unfold output_Check.sz
  split
  · split
    · rw [if_neg (by omega)]; exact ⟨_, rfl⟩
    · exact ⟨_, rfl⟩
  · exact ⟨_, rfl⟩
theorem rv1 (a : Int) : rect_valid.f a = some (decide (-16384 ≤ a ∧ a ≤ 16384)) := by
  unfold rect_valid.f
  by_cases h1 : a ≥ -16384
  · rw [if_pos h1]
    refine congrArg some (Bool.eq_iff_iff.mpr ?_)
    rw [decide_eq_true_eq, decide_eq_true_eq]
    omega
  · rw [if_neg h1, decide_eq_false (by omega)]
theorem rv4 (a b c d : Int) : rect_Valid.f a b c d = some (decide ((-16384 ≤ a ∧ a ≤ 16384) ∧ (-16384 ≤ b ∧ b ≤ 16384) ∧ (-16384 ≤ c ∧ c ≤ 16384) ∧ (-16384 ≤ d ∧ d ≤ 16384))) := by
  unfold rect_Valid.f
  rw [rv1, rv1, rv1, rv1]
  by_cases h1 : -16384 ≤ a ∧ a ≤ 16384 <;> by_cases h2 : -16384 ≤ b ∧ b ≤ 16384 <;> by_cases h3 : -16384 ≤ c ∧ c ≤ 16384 <;> by_cases h4 : -16384 ≤ d ∧ d ≤ 16384 <;> simp [h1, h2, h3, h4]
theorem pl_eq (a : Int) : output_Check.pl a = some (decide (-16384 ≤ a ∧ a ≤ 16384)) := rv1 a
theorem last_eq (X Y p q s : Int) (hs : 1 ≤ s ∧ s ≤ 4) (hp : 1 ≤ p ∧ p ≤ 256) (hq : 1 ≤ q ∧ q ≤ 256) :
    (if X < (-16384) then (some 6) else (if X > (wrap64 (16384 - (wrap64 (Int.tdiv p s)))) then (some 6) else (if Y < (-16384) then (some 6) else (if Y > (wrap64 (16384 - (wrap64 (Int.tdiv q s)))) then (some 6) else (some (0 : Int)))))) =
    ((output_Check.pl X).bind fun p1 => if p1 = true then (output_Check.pl Y).bind fun p2 => if p2 = true then (rect_Valid.f X Y (wrap64 (X + (wrap64 (Int.tdiv p s)))) (wrap64 (Y + (wrap64 (Int.tdiv q s))))).bind fun b => if b = true then some 0 else some 6 else some 6 else some 6) := by
  have e1 : Int.tdiv p s = p / s := Int.tdiv_eq_ediv_of_nonneg (by omega)
  have e2 : Int.tdiv q s = q / s := Int.tdiv_eq_ediv_of_nonneg (by omega)
  have h1 : 0 ≤ p / s := Int.ediv_nonneg (by omega) (by omega)
  have h2 : p / s ≤ p := Int.ediv_le_self _ (by omega)
  have h3 : 0 ≤ q / s := Int.ediv_nonneg (by omega) (by omega)
  have h4 : q / s ≤ q := Int.ediv_le_self _ (by omega)
  rw [e1, e2]
  generalize p / s = P at *
  generalize q / s = Q at *
  have w1 : wrap64 P = P := by unfold wrap64; omega
  have w2 : wrap64 Q = Q := by unfold wrap64; omega
  have w3 : wrap64 (16384 - P) = 16384 - P := by unfold wrap64; omega
  have w4 : wrap64 (16384 - Q) = 16384 - Q := by unfold wrap64; omega
  rw [w1, w2, w3, w4, pl_eq, pl_eq, rv4, Option.bind_some, Option.bind_some, Option.bind_some]
  clear w1 w2 w3 w4 e1 e2
  by_cases a1 : X < -16384
  · rw [if_pos a1, if_neg (by rw [decide_eq_false (by omega)]; decide)]
  rw [if_neg a1]
  by_cases a2 : X > 16384 - P
  · rw [if_pos a2]
    by_cases a3 : X ≤ 16384
    · have w5 : wrap64 (X + P) = X + P := by unfold wrap64; omega
      rw [w5, if_pos (decide_eq_true ⟨by omega, a3⟩)]
      by_cases a4 : -16384 ≤ Y ∧ Y ≤ 16384
      · rw [if_pos (decide_eq_true a4), if_neg (by rw [decide_eq_false (by omega)]; decide)]
      · rw [if_neg (by rw [decide_eq_false a4]; decide)]
    · rw [if_neg (by rw [decide_eq_false (by omega)]; decide)]
  rw [if_neg a2, if_pos (decide_eq_true (show -16384 ≤ X ∧ X ≤ 16384 by omega))]
  by_cases b1 : Y < -16384
  · rw [if_pos b1, if_neg (by rw [decide_eq_false (by omega)]; decide)]
  rw [if_neg b1]
  by_cases b3 : Y ≤ 16384
  · have w5 : wrap64 (X + P) = X + P := by unfold wrap64; omega
    have w6 : wrap64 (Y + Q) = Y + Q := by unfold wrap64; omega
    rw [w5, w6, if_pos (decide_eq_true (show -16384 ≤ Y ∧ Y ≤ 16384 by omega))]
    clear w5 w6
    by_cases b2 : Y > 16384 - Q
    · rw [if_pos b2, if_neg (by rw [decide_eq_false (by omega)]; decide)]
    · rw [if_neg b2, if_pos (decide_eq_true (by omega))]
  · rw [if_pos (by omega), if_neg (by rw [decide_eq_false (by omega)]; decide)]
theorem check_eq (o : ByteArray) (W H R s t X Y : Int) (k : Nat) (hk : 2 ≤ k) : compositorref23_Check.f k o W H R s t X Y = output_Check.f o W H R s t X Y := by
  obtain ⟨k, rfl⟩ : ∃ j, k = j + 1 + 1 := ⟨k - 2, by omega⟩
  have j0t : compositorref23_Check.j0 (k + 1 + 1) true o W H R s t X Y = some 2 := by rw [compositorref23_Check.j0, if_pos rfl]
  have j1t : compositorref23_Check.j1 (k + 1) true o W H R s t X Y = some 6 := by rw [compositorref23_Check.j1, if_pos rfl]
  unfold compositorref23_Check.f output_Check.f
  by_cases h0 : (o.size : Int) = 0
  · rw [if_pos h0, if_pos (by omega), j0t]
  rw [if_neg h0, if_neg (by omega)]
  by_cases h1 : (o.size : Int) > 32
  · rw [if_pos h1, if_pos h1, j0t]
  rw [if_neg h1, if_neg h1, valid_eq]
  obtain ⟨v, hv⟩ : ∃ v, transform_Valid.f t = some v := by unfold transform_Valid.f; split <;> exact ⟨_, rfl⟩
  rw [hv, Option.bind_some, Option.bind_some]
  cases v with
  | false => rw [if_neg Bool.false_ne_true, if_neg Bool.false_ne_true, j0t]
  | true =>
    rw [if_pos rfl, if_pos rfl]
    by_cases h2 : s < 1
    · rw [if_pos h2, if_pos h2, j0t]
    rw [if_neg h2, if_neg h2]
    by_cases h3 : s > 4
    · rw [if_pos h3, decide_eq_true h3, j0t]
    rw [if_neg h3, decide_eq_false h3, compositorref23_Check.j0, if_neg Bool.false_ne_true, mode_eq, mode_eq]
    obtain ⟨a, ha⟩ := sz_some W s (by omega)
    obtain ⟨b, hb⟩ := sz_some H s (by omega)
    rw [ha, hb, Option.bind_some, Option.bind_some, Option.bind_some, Option.bind_some]
    cases a with
    | false => rw [if_neg Bool.false_ne_true, if_neg Bool.false_ne_true, j1t]
    | true =>
      rw [if_pos rfl, if_pos rfl]
      cases b with
      | false => rw [if_neg Bool.false_ne_true, if_neg Bool.false_ne_true, j1t]
      | true =>
        rw [if_pos rfl, if_pos rfl]
        by_cases h4 : R < 1000
        · rw [if_pos h4, if_pos h4, j1t]
        rw [if_neg h4, if_neg h4]
        by_cases h5 : R > 240000
        · rw [if_pos h5, decide_eq_true h5, j1t]
        rw [if_neg h5, decide_eq_false h5, compositorref23_Check.j1, if_neg Bool.false_ne_true]
        obtain ⟨p, q, hpq, hp, hq⟩ := tsize t W H (sz_true ha) (sz_true hb)
        unfold compositorref23_size.f output_logical.f
        rw [size7_eq, hpq, Option.bind_some, Option.bind_some, if_neg (show ¬ s = 0 by omega), if_neg (show ¬ s = 0 by omega)]
        simp only [Option.bind_some]
        exact last_eq X Y p q s (by omega) hp hq
theorem check_some (o : ByteArray) (W H R s t X Y : Int) : ∃ r, output_Check.f o W H R s t X Y = some r ∧ (r = 0 → 1000 ≤ R ∧ R ≤ 240000) := by
  unfold output_Check.f
  by_cases h0 : (o.size : Int) = 0
  · rw [if_pos h0]; exact ⟨_, rfl, fun h => absurd h (by decide)⟩
  rw [if_neg h0]
  by_cases h1 : (o.size : Int) > 32
  · rw [if_pos h1]; exact ⟨_, rfl, fun h => absurd h (by decide)⟩
  rw [if_neg h1]
  obtain ⟨v, hv⟩ : ∃ v, transform_Valid.f t = some v := by unfold transform_Valid.f; split <;> exact ⟨_, rfl⟩
  rw [hv, Option.bind_some]
  cases v with
  | false => rw [if_neg Bool.false_ne_true]; exact ⟨_, rfl, fun h => absurd h (by decide)⟩
  | true =>
    rw [if_pos rfl]
    by_cases h2 : s < 1
    · rw [if_pos h2]; exact ⟨_, rfl, fun h => absurd h (by decide)⟩
    rw [if_neg h2]
    by_cases h3 : s > 4
    · rw [if_pos h3]; exact ⟨_, rfl, fun h => absurd h (by decide)⟩
    rw [if_neg h3]
    obtain ⟨a, ha⟩ := sz_some W s (by omega)
    obtain ⟨b, hb⟩ := sz_some H s (by omega)
    rw [ha, hb, Option.bind_some, Option.bind_some]
    cases a with
    | false => rw [if_neg Bool.false_ne_true]; exact ⟨_, rfl, fun h => absurd h (by decide)⟩
    | true =>
      rw [if_pos rfl]
      cases b with
      | false => rw [if_neg Bool.false_ne_true]; exact ⟨_, rfl, fun h => absurd h (by decide)⟩
      | true =>
        rw [if_pos rfl]
        by_cases h4 : R < 1000
        · rw [if_pos h4]; exact ⟨_, rfl, fun h => absurd h (by decide)⟩
        rw [if_neg h4]
        by_cases h5 : R > 240000
        · rw [if_pos h5]; exact ⟨_, rfl, fun h => absurd h (by decide)⟩
        rw [if_neg h5]
        obtain ⟨p, q, hpq, hp, hq⟩ := tsize t W H (sz_true ha) (sz_true hb)
        unfold output_logical.f
        rw [hpq, Option.bind_some, if_neg (show ¬ s = 0 by omega)]
        simp only [Option.bind_some]
        rw [← last_eq X Y p q s (by omega) hp hq]
        repeat' split
        all_goals exact ⟨_, rfl, fun _ => ⟨by omega, by omega⟩⟩
theorem interval_some (o : ByteArray) (W H R s t X Y : Int) (h : output_Check.f o W H R s t X Y = some 0) : output_Interval.f o W H R s t X Y = some (wrap64 (Int.tdiv (wrap64 (2000000000000 + R)) (wrap64 (2 * R)))) := by
  obtain ⟨r, h1, h2⟩ := check_some o W H R s t X Y
  rw [h] at h1
  obtain ⟨hr1, hr2⟩ := h2 (Option.some.inj h1).symm
  unfold output_Interval.f
  rw [h, Option.bind_some, if_pos rfl, if_neg]
  unfold wrap64
  omega
theorem interval_ref (o : ByteArray) (W H R s t X Y : Int) (k : Nat) (hk : 2 ≤ k) : compositorref23_Interval.f k o W H R s t X Y = output_Interval.f o W H R s t X Y := by
  unfold compositorref23_Interval.f output_Interval.f
  rw [check_eq _ _ _ _ _ _ _ _ k hk]
theorem iv_range (R : Int) (h1 : 1000 ≤ R) (h2 : R ≤ 240000) : 1 ≤ wrap64 (Int.tdiv (wrap64 (2000000000000 + R)) (wrap64 (2 * R))) ∧ wrap64 (Int.tdiv (wrap64 (2000000000000 + R)) (wrap64 (2 * R))) ≤ 1000000001 := by
  have e1 : wrap64 (2000000000000 + R) = 2000000000000 + R := by unfold wrap64; omega
  have e2 : wrap64 (2 * R) = 2 * R := by unfold wrap64; omega
  rw [e1, e2, Int.tdiv_eq_ediv_of_nonneg (by omega)]
  clear e1 e2
  have p1 : 1 ≤ (2000000000000 + R) / (2 * R) := Int.le_ediv_of_mul_le (by omega) (by omega)
  have p2 : (2000000000000 + R) / (2 * R) ≤ 1000000001 := Int.ediv_le_of_le_mul (by omega) (by omega)
  generalize (2000000000000 + R) / (2 * R) = q at p1 p2 ⊢
  have e3 : wrap64 q = q := by unfold wrap64; omega
  rw [e3]
  exact ⟨p1, p2⟩
theorem interval_pos (o : ByteArray) (W H R s t X Y : Int) (h : output_Check.f o W H R s t X Y = some 0) : ∃ iv, output_Interval.f o W H R s t X Y = some iv ∧ 1 ≤ iv ∧ iv ≤ 1000000001 := by
  obtain ⟨r, h1, h2⟩ := check_some o W H R s t X Y
  rw [h] at h1
  obtain ⟨hr1, hr2⟩ := h2 (Option.some.inj h1).symm
  exact ⟨_, interval_some o W H R s t X Y h, iv_range R hr1 hr2⟩
theorem playslaw (o : ByteArray) (W H R s t X Y : Int) (l : List S55) : compositorlaw30_PresentPlays.f 2 o W H R s t X Y l = some true := by
  obtain ⟨r, h1, h2⟩ := check_some o W H R s t X Y
  unfold compositorlaw30_PresentPlays.f
  rw [check_eq o W H R s t X Y 2 (Nat.le_refl _), interval_ref o W H R s t X Y 2 (Nat.le_refl _), h1, Option.bind_some, Option.bind_some, if_pos rfl]
  by_cases h0 : r = 0
  · subst h0
    obtain ⟨iv, hi, p1, p2⟩ := interval_pos o W H R s t X Y h1
    rw [if_pos rfl, hi, Option.bind_some, Option.bind_some, if_pos ⟨rfl, p1, p2⟩]
  · rw [if_neg h0]
theorem PresentPlays (x0 : S23) (x1 : List S55) (ok0 : (x0.f0.size ≤ 140737488351232) ∧ ((Lit.int .i64 x0.f1).wf = true) ∧ ((Lit.int .i64 x0.f2).wf = true) ∧ ((Lit.int .i64 x0.f3).wf = true) ∧ ((Lit.int .i64 x0.f4).wf = true) ∧ ((Lit.int .i64 x0.f5).wf = true) ∧ ((Lit.int .i64 x0.f6).wf = true) ∧ ((Lit.int .i64 x0.f7).wf = true)) (ok1 : x1.length * 40 ≤ 140737488351232 ∧ x1.length ≤ 9223372036854775807 ∧ ∀ y47 ∈ x1, ((Lit.int .i64 y47.f0).wf = true) ∧ ((Lit.int .i64 y47.f1).wf = true) ∧ (y47.f2.length * 4 ≤ 140737488351232 ∧ y47.f2.length ≤ 9223372036854775807 ∧ ∀ y37 ∈ y47.f2, (Lit.int .u32 y37).wf = true)) :
    ∃ k, compositorlaw30_PresentPlays.f k x0.f0 x0.f1 x0.f2 x0.f3 x0.f4 x0.f5 x0.f6 x0.f7 x1 = some true := by
  exact ⟨2, playslaw _ _ _ _ _ _ _ _ _⟩
end Go.Proofs.Ytmkhphkkpdiliaa.Pure
end
section
namespace Go.Proofs.YtmkhphkkpdiliaaOpens
open Go.ChangeShapes Go.WideShapes Go.RowKit Go.Proofs.YtmkhphkkpdiliaaW.PrintWords
section
variable {H : Type} {enc : TypeId × Value → H} {P : Program} {W : World}
def Opens {α : Type} (enc : TypeId × Value → H) (P : Program) (W : World) (t : TypeId) (d : Kd α) (ok : α → Prop) : Prop :=
  ∀ fuel cs y, DataW.trod enc P W 0 (fun _ => true) true fuel t cs = some y → (∀ n ∈ y.1.weights P t, n ≤ reachBytes) → ∃ x, d.K W x cs ∧ ok x
theorem opens_int {t : TypeId} {k : IntKind} (ht : P.underlying t = some (.int k)) : Opens enc P W t (Kd.int k) (fun x => (Lit.int k x).wf = true) := by
  intro fuel cs y h _
  obtain ⟨n, rfl, _, hw⟩ := DataW.trod_int ht h
  exact ⟨n, rfl, hw⟩
theorem opens_string {t : TypeId} (ht : P.underlying t = some .string) : Opens enc P W t Kd.string (fun s => s.size ≤ 140737488351232) := by
  intro fuel cs y h hz
  obtain ⟨s, rfl, rfl, _⟩ := DataW.trod_string ht h
  refine ⟨s, rfl, ?_⟩
  have := hz s.data.toList.length (by simp [DataW.weights])
  rw [Array.length_toList] at this
  exact this
theorem weightsAll_mem {e : TypeId} : ∀ {l : List (DataW H)} {d : DataW H}, d ∈ l → ∀ n ∈ d.weights P e, n ∈ DataW.weightsAll P e l
  | d0 :: r, d, hd, n, hn => by
    simp only [DataW.weightsAll, List.mem_append]
    rcases List.mem_cons.1 hd with rfl | hd
    · exact .inl hn
    · exact .inr (weightsAll_mem hd n hn)
theorem choose_list {α : Type} (n : Nat) (R : Nat → α → Prop) (h : ∀ i, i < n → ∃ x, R i x) : ∃ l : List α, l.length = n ∧ ∀ i x, l[i]? = some x → R i x := by
  induction n with
  | zero => exact ⟨[], rfl, fun i x hx => by simp at hx⟩
  | succ n ih =>
    obtain ⟨l, hl, hr⟩ := ih (fun i hi => h i (by omega))
    obtain ⟨x, hx⟩ := h n (by omega)
    refine ⟨l ++ [x], by simp [hl], fun i y hy => ?_⟩
    rcases Nat.lt_or_ge i l.length with hi | hi
    · rw [List.getElem?_append_left hi] at hy
      exact hr i y hy
    · rw [List.getElem?_append_right hi] at hy
      obtain ⟨hi2, rfl⟩ : i - l.length = 0 ∧ x = y := by
        rcases Nat.eq_zero_or_pos (i - l.length) with h0 | h0
        · rw [h0] at hy; simp at hy; exact ⟨h0, hy⟩
        · rw [List.getElem?_eq_none (by simp; omega)] at hy; cases hy
      have : i = n := by omega
      subst this
      exact hx
theorem opens_slice {α : Type} {t e : TypeId} {d : Kd α} {ok : α → Prop} {B : Nat} (ht : P.underlying t = some (.slice e)) (hc : P.cellsOf e = d.sz) (hB : P.bytesOf e = B) (he : Opens enc P W e d ok) :
    Opens enc P W t (Kd.slice e d) (fun l => l.length * B ≤ 140737488351232 ∧ l.length ≤ 9223372036854775807 ∧ ∀ x ∈ l, ok x) := by
  intro fuel cs y h hz
  rcases DataW.trod_slice ht h with ⟨rfl, _⟩ | ⟨a, len, cap, elems, rest, n, _, rfl, rfl, _, hl, hm, hlen, hel, _, _⟩
  · exact ⟨[], ⟨none, 0, rfl, by simp, rfl, by simp, fun h0 => absurd h0 (by simp)⟩, by simp, by simp, by simp⟩
  · have hw : ∀ n ∈ (((elems.map (·.1)).length + (rest.map (·.1)).length) * P.bytesOf e) :: (DataW.weightsAll P e (elems.map (·.1)) ++ DataW.weightsAll P e (rest.map (·.1))), n ≤ reachBytes := by
      intro m hm'
      refine hz m ?_
      simp only [DataW.weights, ht]
      exact hm'
    obtain ⟨l, hll, hlr⟩ := choose_list (α := α) len (fun i x => ok x ∧ ∃ c, c.length = d.sz ∧ d.K W x c ∧ ∀ j u, c[j]? = some u → W.cell? (a.add (i * d.sz + j)) = some u) (by
      intro i hi
      have h1 := hel i hi
      rw [List.getElem?_eq_getElem (by omega)] at h1
      obtain ⟨c, hcs, htr⟩ := Option.bind_eq_some_iff.1 h1
      have hmem : (elems[i]'(by omega)).1 ∈ elems.map (·.1) := List.mem_map.2 ⟨_, List.getElem_mem _, rfl⟩
      obtain ⟨x, hK, hok⟩ := he n c _ htr (fun m hm' => hw m (by
        refine List.mem_cons_of_mem _ (List.mem_append_left _ ?_)
        exact weightsAll_mem hmem m hm'))
      refine ⟨x, hok, c, d.K_len hK, hK, fun j u hu => ?_⟩
      rw [hc] at hcs
      unfold World.cells? at hcs
      split at hcs
      · have hj : j < d.sz := by
          have := (List.getElem?_eq_some_iff.1 hu).1
          rw [d.K_len hK] at this
          exact this
        have h2 := mapM_some_get hcs j j (by simp [hj])
        rw [hu] at h2
        rw [← h2]
        congr 1
        have : ∀ (a : Addr) (p q : Nat), (a.add p).add q = a.add (p + q) := by
          intro a p q
          unfold Addr.add
          split
          · split <;> simp_all
          · split <;> simp_all [Nat.add_assoc]
        exact (this a _ _).symm
      · cases hcs)
    refine ⟨l, ⟨some a, cap, by rw [hll], by omega, rfl, by unfold maxLen at hm; omega, fun _ => ⟨a, rfl, fun j p hp => ?_⟩⟩, ?_, by unfold maxLen at hm; omega, fun x hx => ?_⟩
    · obtain ⟨_, c, h1, h2, h3⟩ := hlr j p hp
      exact ⟨c, h1, h2, h3⟩
    · have := hw _ List.mem_cons_self
      rw [hB] at this
      simp only [List.length_map, hlen] at this
      rw [hll]
      unfold reachBytes at this
      exact Nat.le_trans (Nat.mul_le_mul_right _ (Nat.le_add_right _ _)) this
    · obtain ⟨i, hi, rfl⟩ := List.getElem_of_mem hx
      exact (hlr i _ (List.getElem?_eq_getElem hi)).1
def OpensFs {α : Type} (enc : TypeId × Value → H) (P : Program) (W : World) (fs : List Field) (off : Nat) (d : Kd α) (ok : α → Prop) : Prop :=
  ∀ (n : Nat) (cs : List Value) (xs : List (DataW H × List MemPlace)), cs.length = off + d.sz →
    xs.length = fs.length → (∀ (i : Nat) (f : Field), fs[i]? = some f → DataW.trod enc P W 0 (fun _ => true) true n f.type ((cs.drop f.offset).take (P.cellsOf f.type)) = xs[i]?) →
    (∀ m ∈ DataW.weightsEach P (fs.map (·.type)) (xs.map (·.1)), m ≤ reachBytes) → ∃ x, d.K W x (cs.drop off) ∧ ok x
theorem opensFs_last {α : Type} {f : Field} {off : Nat} {d : Kd α} {ok : α → Prop} (ho : f.offset = off) (hc : P.cellsOf f.type = d.sz) (h : Opens enc P W f.type d ok) : OpensFs enc P W [f] off d ok := by
  intro n cs xs hcs hx ht hz
  match xs, hx with
  | [x0], _ =>
    have h0 := ht 0 f rfl
    rw [ho, hc, List.take_of_length_le (by rw [List.length_drop]; omega)] at h0
    exact h n _ x0 (by simpa using h0) (fun m hm => hz m (by simp [DataW.weightsEach, hm]))
theorem opensFs_cons {α β : Type} {f : Field} {fs : List Field} {off : Nat} {d : Kd α} {d' : Kd β} {ok : α → Prop} {ok' : β → Prop} (ho : f.offset = off) (hc : P.cellsOf f.type = d.sz) (h : Opens enc P W f.type d ok)
    (hr : OpensFs enc P W fs (off + d.sz) d' ok') : OpensFs enc P W (f :: fs) off (Kd.pair d d') (fun x => ok x.1 ∧ ok' x.2) := by
  intro n cs xs hcs hx ht hz
  have hcs' : cs.length = off + (d.sz + d'.sz) := hcs
  match xs, hx with
  | x0 :: xs, hx =>
    have h0 := ht 0 f rfl
    rw [ho, hc] at h0
    obtain ⟨x, hK, hok⟩ := h n _ x0 (by simpa using h0) (fun m hm => hz m (by simp [DataW.weightsEach, hm]))
    obtain ⟨x', hK', hok'⟩ := hr n cs xs (by omega) (by simpa using hx) (fun i g hg => by simpa using ht (i + 1) g (by simpa using hg)) (fun m hm => hz m (by simp only [List.map_cons, DataW.weightsEach, List.mem_append]; exact .inr hm))
    refine ⟨(x, x'), ⟨_, _, ?_, hK, hK'⟩, hok, hok'⟩
    rw [← List.drop_drop, List.take_append_drop]
theorem opens_struct {α : Type} {t : TypeId} {fs : Array Field} {d : Kd α} {ok : α → Prop} (ht : P.underlying t = some (.struct fs)) (hc : P.cellsOf t = d.sz) (h : OpensFs enc P W fs.toList 0 d ok) : Opens enc P W t d ok := by
  intro fuel cs y hy hz
  obtain ⟨xs, n, _, rfl, hl, hlen, hf⟩ := DataW.trod_struct ht hy
  obtain ⟨x, hK, hok⟩ := h n cs xs (by omega) (by simpa using hlen) (fun i f hi => hf i f (by simpa using hi)) (fun m hm => hz m (by simp only [DataW.weights, ht]; exact hm))
  exact ⟨x, by simpa using hK, hok⟩
theorem opens_iso {α β : Type} {t : TypeId} {d : Kd α} {ok : α → Prop} (f : β → α) (g : α → β) (hfg : ∀ x, f (g x) = x) (h : Opens enc P W t d ok) : Opens enc P W t (Kd.iso d f) (fun y => ok (f y)) := by
  intro fuel cs y hy hz
  obtain ⟨x, hK, hok⟩ := h fuel cs y hy hz
  exact ⟨g x, by show d.K W (f (g x)) cs; rw [hfg]; exact hK, by show ok (f (g x)); rw [hfg]; exact hok⟩
theorem opens_imp {α : Type} {t : TypeId} {d : Kd α} {ok ok' : α → Prop} (h : Opens enc P W t d ok) (hi : ∀ x, ok x → ok' x) : Opens enc P W t d ok' := by
  intro fuel cs y hy hz
  obtain ⟨x, hK, hok⟩ := h fuel cs y hy hz
  exact ⟨x, hK, hi x hok⟩
theorem opens_arg {α : Type} {ts : List TypeId} {ds : List (DataW H)} {j : Nat} {t : TypeId} {v : Value} {dt : DataW H} {ps : List MemPlace} {d : Kd α} {ok : α → Prop} (h : Opens enc P W t d ok)
    (hsz : (DataW.weightsEach P ts ds).all (· ≤ reachBytes) = true) (ht : ts[j]? = some t) (hd : ds[j]? = some dt) (hr : DataW.Trod enc P W 0 (fun _ => true) true t v dt ps) : ∃ x, d.K W x v.cells.toList ∧ ok x := by
  obtain ⟨fuel, hf⟩ := hr
  exact h fuel _ _ hf (fun n hn => by simpa using List.all_eq_true.1 hsz n (DataW.weights_mem_each ht hd n hn))
end
theorem arr_of {cs : Array Value} {l : List Value} (h : (Value.agg cs).cells.toList = l) : cs = l.toArray := by
  have h' : cs.toList = l := h
  rw [← h', Array.toArray_toList]
theorem slice_of {a A : Option Addr} {len cap n c : Nat} (h : (Value.slice a len cap).cells.toList = [.slice A n c]) : A = a ∧ len = n ∧ c = cap := by
  simp [Value.cells] at h
  exact ⟨h.1.symm, h.2.1, h.2.2.symm⟩
end Go.Proofs.YtmkhphkkpdiliaaOpens
end
