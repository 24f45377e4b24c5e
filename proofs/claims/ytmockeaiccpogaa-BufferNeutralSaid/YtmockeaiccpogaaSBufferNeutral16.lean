-- The texts behind this claim's law, put together by a program of this session (shake.py): what no text uses is left out. Its words are print.sh's.
import Derived.Test.YtmockeaiccpogaaSBufferNeutral15
section
namespace Go.Proofs.Ytmockeaiccpogaa.All
open Go.RowKit Go.Proofs.YtmockeaiccpogaaW.PrintWords Go.Proofs.YtmockeaiccpogaaW.PrintLast Go.Proofs.YtmockeaiccpogaaW.PrintMore
attribute [local go_sem] max2_int min2_int max_two min_two max_three min_three max_four min_four
set_option linter.unusedVariables false
set_option linter.unusedSimpArgs false
mutual
def compositorref09_Valid.j0 : Nat → Bool → Int → Int → List (S43) → Option (Bool)
  | 0, _, _, _, _ => none
  | k + 1, x20, x259000, x259001, x259002 => if x20 = true then (some false) else (compositorref09_Valid.l0 k 0 x259000 x259001 x259002)
def compositorref09_Valid.l0 : Nat → Int → Int → Int → List (S43) → Option (Bool)
  | 0, _, _, _, _ => none
  | k + 1, x3, x259000, x259001, x259002 => if x3 < (x259002.length : Int) then (if 0 ≤ x3 then ((compositorref08_Valid.f ((rd_T43 x259002 x3).f0) ((rd_T43 x259002 x3).f1) ((rd_T43 x259002 x3).f2) ((rd_T43 x259002 x3).f3)).bind fun t261 => (if t261 = true then (compositorref09_Valid.l0 k (wrap64 (x3 + 1)) x259000 x259001 x259002) else (some false))) else (none)) else (some true)
end
def compositorref09_Valid.f (k : Nat) (a0_0 : Int) (a0_1 : Int) (l0_2 : List (S43)) : Option (Bool) := (compositorref09_size.f a0_0 a0_1).bind fun t259 => (if t259 = true then (compositorref09_Valid.j0 k ((l0_2.length : Int) != (wrap64 (a0_0 * a0_1))) a0_0 a0_1 l0_2) else (compositorref09_Valid.j0 k true a0_0 a0_1 l0_2))
set_option maxHeartbeats 8000000 in
set_option maxRecDepth 100000 in
theorem compositorref09_Valid.calls (k : Nat) (a0_0 : Int) (a0_1 : Int) (A0_2 : Option Addr) (c0_2 : Nat) (l0_2 : List (S43)) (r : Bool) (w : World) (hr0_2 : Kd.C k43 w A0_2 l0_2.length l0_2) (hc0_2 : l0_2.length ≤ c0_2) (h : compositorref09_Valid.f k a0_0 a0_1 l0_2 = some r) :
    Calls Try.prog 25 #[.agg #[.int .i64 a0_0, .int .i64 a0_1, .slice A0_2 l0_2.length c0_2]] w fun e w' => e = .returned (.bool r) ∧ Below w.heap.size w w' := by
  have hu27 := Try.underlying27
  have hu43 := Try.underlying43
  have HR0_2 := Aside0.mk hr0_2
  have HC0_2 := Aside0.mk hc0_2
  clear hr0_2 hc0_2
  have HB := Aside0.mk (Below.refl w.heap.size w)
  have H : ((compositorref09_size.f a0_0 a0_1).bind fun t259 => (if t259 = true then (compositorref09_Valid.j0 k ((l0_2.length : Int) != (wrap64 (a0_0 * a0_1))) a0_0 a0_1 l0_2) else (compositorref09_Valid.j0 k true a0_0 a0_1 l0_2))) = some r := h
  clear h
  have HC2 := Aside0.mk H
  clear H
  go_enter Try.func25, Try.ntmps25
  go_upto_region 1 with (first | ((with_reducible refine gate_dst (N := 1) rfl ?_); (try (refine gate_guard (by rfl) ?_; dsimp only)); refine box_event ?hg (N := 1) ?hd (cs := #[.int .i64 a0_0, .int .i64 a0_1, .slice A0_2 l0_2.length c0_2]) (t := 27) ?hr ?_; (case hd => rfl); (case hg => rfl); (case hr => first | (go_simp; done) | (go_simp; rfl)); intro gb258 hg w3 hbox hb; have n0_ := Aside0.mk (below_step (by repeat (first | (with_reducible first | exact HB.out | apply below_alloc | apply pw_below_drewN | apply below_drew1) | exact HB.out)) hb); have n1_ := Aside0.mk (hbox); have n2_ := Aside0.mk ((by rw [hg]; exact (below_size (by repeat (first | (with_reducible first | exact HB.out | apply below_alloc | apply pw_below_drewN | apply below_drew1) | exact HB.out))) : w.heap.size ≤ gb258)); have n3_ := Aside0.mk ((by rw [hg]; exact (below_size (by repeat (first | (with_reducible first | exact HB.out | apply below_alloc | apply pw_below_drewN | apply below_drew1) | exact HB.out))) : w.heap.size ≤ gb258)); clear HB; have HB := n0_; have BK258 := n1_; have GW258 := n2_; have GE258 := n3_; clear n0_ n1_ n2_ n3_; clear hb hbox hg))
  (try simp only [Act.put, List.setIfInBounds_toArray, List.set_cons_zero, List.set_cons_succ])
  go_cut [20] (fun v20 wc => ∃ (kq : Nat) (x20_1 : Bool), v20 = .bool x20_1 ∧ Aside0 (compositorref09_Valid.j0 kq x20_1 a0_0 a0_1 l0_2 = some r) ∧ Aside0 (kq ≤ k) ∧ Aside0 (wc.heap[gb258]? = some (.cells #[.int .i64 a0_0, .int .i64 a0_1, (.slice A0_2 l0_2.length c0_2)] 27 (0, 0))) ∧ Aside0 (Below w.heap.size w wc))
  case first =>
    have H := HC2.out
    clear HC2
    replace H := Option.bind_eq_some_iff.mp H
    obtain ⟨t259, A40, H⟩ := H
    replace H : (if t259 = true then (compositorref09_Valid.j0 k ((l0_2.length : Int) != (wrap64 (a0_0 * a0_1))) a0_0 a0_1 l0_2) else (compositorref09_Valid.j0 k true a0_0 a0_1 l0_2)) = some r := H
    have A4 := Aside0.mk A40
    clear A40
    by_cases c5 : t259 = true
    · subst c5
      have H1 : (compositorref09_Valid.j0 k ((l0_2.length : Int) != (wrap64 (a0_0 * a0_1))) a0_0 a0_1 l0_2) = some r := by rw [if_pos rfl] at H; exact H
      clear H
      have H := H1
      clear H1
      have H' := Aside0.mk H
      clear H
      have hcz6_0 : w3.cell? ⟨gb258, 0, none⟩ = some (.int .i64 a0_0) := (blk_cell BK258.out 0).trans rfl
      have hcz6_1 : w3.cell? ⟨gb258, 1, none⟩ = some (.int .i64 a0_1) := (blk_cell BK258.out 1).trans rfl
      have hcz6_2 : w3.cell? ⟨gb258, 2, none⟩ = some (.slice A0_2 l0_2.length c0_2) := (blk_cell BK258.out 2).trans rfl
      have hfz6_0 := blk_frozen BK258.out 0
      have hfz6_1 := blk_frozen BK258.out 1
      have hfz6_2 := blk_frozen BK258.out 2
      go_wp2_with (first | ((with_reducible refine gate_callee (f := 41) rfl ?_); refine goesL_ (some 8) rfl rfl Try.func41 (by kernel_rfl) rfl #[.int .i64 a0_0, .int .i64 a0_1] rfl (by (try simp only [List.map_toArray, List.map_cons, List.map_nil]); first | done | rfl | (simp only [List.length_drop, List.length_take]; rfl)) ?_; (with_reducible refine (compositorref09_size.calls a0_0 a0_1 true _ A4.out).mono ?_); rintro e w' ⟨rfl, ⟨nd, rfl⟩⟩; refine ⟨_, rfl, ?_⟩))
      go_meet
      case rel => exact ⟨_, (((l0_2.length : Int) != (wrap64 (a0_0 * a0_1)))), (by first | rfl | (simp; done) | (simp [*]; done)), H', ⟨by first | omega | exact Nat.le_refl _⟩, ⟨by (with_reducible repeat (first | refine blk_drewN ?_ _ | refine blk_drew ?_ | refine blk_alloc ?_ _)); exact BK258.out⟩, ⟨by repeat (first | (with_reducible first | exact HB.out | apply below_alloc | apply pw_below_drewN | apply below_drew1 | refine below_set ?_ GE258.out) | exact HB.out)⟩⟩
    · replace c5 := Bool.eq_false_iff.mpr c5
      subst c5
      have H1 : (compositorref09_Valid.j0 k true a0_0 a0_1 l0_2) = some r := by rw [if_neg (show ¬ (false = true) by decide)] at H; exact H
      clear H
      have H := H1
      clear H1
      have H' := Aside0.mk H
      clear H
      have hcz7_0 : w3.cell? ⟨gb258, 0, none⟩ = some (.int .i64 a0_0) := (blk_cell BK258.out 0).trans rfl
      have hcz7_1 : w3.cell? ⟨gb258, 1, none⟩ = some (.int .i64 a0_1) := (blk_cell BK258.out 1).trans rfl
      have hcz7_2 : w3.cell? ⟨gb258, 2, none⟩ = some (.slice A0_2 l0_2.length c0_2) := (blk_cell BK258.out 2).trans rfl
      have hfz7_0 := blk_frozen BK258.out 0
      have hfz7_1 := blk_frozen BK258.out 1
      have hfz7_2 := blk_frozen BK258.out 2
      go_wp2_with (first | ((with_reducible refine gate_callee (f := 41) rfl ?_); refine goesL_ (some 8) rfl rfl Try.func41 (by kernel_rfl) rfl #[.int .i64 a0_0, .int .i64 a0_1] rfl (by (try simp only [List.map_toArray, List.map_cons, List.map_nil]); first | done | rfl | (simp only [List.length_drop, List.length_take]; rfl)) ?_; (with_reducible refine (compositorref09_size.calls a0_0 a0_1 false _ A4.out).mono ?_); rintro e w' ⟨rfl, ⟨nd, rfl⟩⟩; refine ⟨_, rfl, ?_⟩))
      go_meet
      case rel => exact ⟨_, (true), (by first | rfl | (simp; done) | (simp [*]; done)), H', ⟨by first | omega | exact Nat.le_refl _⟩, ⟨by (with_reducible repeat (first | refine blk_drewN ?_ _ | refine blk_drew ?_ | refine blk_alloc ?_ _)); exact BK258.out⟩, ⟨by repeat (first | (with_reducible first | exact HB.out | apply below_alloc | apply pw_below_drewN | apply below_drew1 | refine below_set ?_ GE258.out) | exact HB.out)⟩⟩
  case rest =>
    clear HC2
    try clear c2
    try clear p2
    try clear c4
    try clear c5
    try clear p6
    try clear hcz6_0
    try clear hcz6_1
    try clear hcz6_2
    try clear hcz7_0
    try clear hcz7_1
    try clear hcz7_2
    try clear hfz6_0
    try clear hfz6_1
    try clear hfz6_2
    try clear hfz7_0
    try clear hfz7_1
    try clear hfz7_2
    obtain ⟨kq, x20_1, rfl, HA, HJ1, BK258, HB⟩ := hcut
    cases kq with
    | zero => exact absurd HA.out (by simp [compositorref09_Valid.j0])
    | succ kj1 =>
      have H := HA.out
      clear HA
      simp only [compositorref09_Valid.j0] at H
      by_cases c8 : x20_1 = true
      · subst c8
        have H1 : (some false) = some r := by rw [if_pos rfl] at H; exact H
        clear H
        have H := H1
        clear H1
        obtain rfl := Option.some.inj H
        go_wp2
        go_ret
        exact ⟨by first | rfl | (simp [errW_none, errW_some] <;> rfl) | (simp [*, errW_none, errW_some] <;> rfl), by repeat (first | (with_reducible first | exact HB.out | apply below_alloc | apply pw_below_drewN | apply below_drew1 | refine below_set ?_ GE258.out) | exact HB.out)⟩
      · replace c8 := Bool.eq_false_iff.mpr c8
        subst c8
        have H1 : (compositorref09_Valid.l0 kj1 0 a0_0 a0_1 l0_2) = some r := by rw [if_neg (show ¬ (false = true) by decide)] at H; exact H
        clear H
        have H := H1
        clear H1
        have H' := Aside0.mk H
        clear H
        go_wp2
        go_loopg [3] kj1 (fun kq v3 w' => ∃ (x3_2 : Int), v3 = .int .i64 x3_2 ∧ Aside0 (compositorref09_Valid.l0 kq x3_2 a0_0 a0_1 l0_2 = some r) ∧ Aside0 (kq ≤ kj1) ∧ Aside0 (w'.heap[gb258]? = some (.cells #[.int .i64 a0_0, .int .i64 a0_1, (.slice A0_2 l0_2.length c0_2)] 27 (0, 0))) ∧ Aside0 (Below w.heap.size w w'))
        case atStart => exact ⟨(0), (by first | rfl | (simp; done) | (simp [*]; done)), H', ⟨Nat.le_refl _⟩, ⟨by (with_reducible repeat (first | refine blk_drewN ?_ _ | refine blk_drew ?_ | refine blk_alloc ?_ _)); exact BK258.out⟩, ⟨by repeat (first | (with_reducible first | exact HB.out | apply below_alloc | apply pw_below_drewN | apply below_drew1 | refine below_set ?_ GE258.out) | exact HB.out)⟩⟩
        case round =>
          clear H'
          try clear c2
          try clear p2
          try clear c4
          try clear c5
          try clear p6
          try clear c8
          try clear hcz6_0
          try clear hcz6_1
          try clear hcz6_2
          try clear hcz7_0
          try clear hcz7_1
          try clear hcz7_2
          try clear hfz6_0
          try clear hfz6_1
          try clear hfz6_2
          try clear hfz7_0
          try clear hfz7_1
          try clear hfz7_2
          try clear p2
          try clear p6
          obtain ⟨x3_2, rfl, HA, HK2, BK258, HB⟩ := hrel
          cases gk with
          | zero => exact absurd HA.out (by simp [compositorref09_Valid.l0])
          | succ k2 =>
            have H := HA.out
            clear HA
            simp only [compositorref09_Valid.l0] at H
            by_cases c9 : x3_2 < (l0_2.length : Int)
            · rw [if_pos c9] at H
              have c9b0 : decide (x3_2 < (l0_2.length : Int)) = true := decide_eq_true c9
              clear c9
              by_cases c10 : 0 ≤ x3_2
              · rw [if_pos c10] at H
                have c10b0 : decide (0 ≤ x3_2) = true := decide_eq_true c10
                clear c10
                replace H := Option.bind_eq_some_iff.mp H
                obtain ⟨t261, A110, H⟩ := H
                replace H : (if t261 = true then (compositorref09_Valid.l0 k2 (wrap64 (x3_2 + 1)) a0_0 a0_1 l0_2) else (some false)) = some r := H
                have A11 := Aside0.mk A110
                clear A110
                by_cases c12 : t261 = true
                · subst c12
                  have H1 : (compositorref09_Valid.l0 k2 (wrap64 (x3_2 + 1)) a0_0 a0_1 l0_2) = some r := by rw [if_pos rfl] at H; exact H
                  clear H
                  have H := H1
                  clear H1
                  have H' := Aside0.mk H
                  clear H
                  have hcz13_0 : wr.cell? ⟨gb258, 0, none⟩ = some (.int .i64 a0_0) := (blk_cell BK258.out 0).trans rfl
                  have hcz13_1 : wr.cell? ⟨gb258, 1, none⟩ = some (.int .i64 a0_1) := (blk_cell BK258.out 1).trans rfl
                  have hcz13_2 : wr.cell? ⟨gb258, 2, none⟩ = some (.slice A0_2 l0_2.length c0_2) := (blk_cell BK258.out 2).trans rfl
                  have hfz13_0 := blk_frozen BK258.out 0
                  have hfz13_1 := blk_frozen BK258.out 1
                  have hfz13_2 := blk_frozen BK258.out 2
                  have p260 : 0 ≤ (x3_2 : Int) := of_decide_eq_true (by first | (with_reducible assumption) | assumption)
                  have q260 : x3_2 < (l0_2.length : Int) := of_decide_eq_true (by first | (with_reducible assumption) | assumption)
                  obtain ⟨ad260, e260, hx260_0, hx260_1, hx260_2, hx260_3⟩ := at_T43 HR0_2.out x3_2 p260 q260
                  cases e260
                  replace hx260_0 := (HB.out.cell (World.block_lt_of_cell? w _ hx260_0)).trans hx260_0
                  replace hx260_1 := (HB.out.cell (World.block_lt_of_cell? w _ hx260_1)).trans hx260_1
                  replace hx260_2 := (HB.out.cell (World.block_lt_of_cell? w _ hx260_2)).trans hx260_2
                  replace hx260_3 := (HB.out.cell (World.block_lt_of_cell? w _ hx260_3)).trans hx260_3
                  replace p260 := eq_true p260
                  replace q260 := eq_true q260
                  go_wp2_with (first | ((with_reducible refine gate_callee (f := 50) rfl ?_); refine goesL_ (some 33) rfl rfl Try.func50 (by kernel_rfl) rfl #[.agg #[.int .u8 ((rd_T43 l0_2 x3_2).f0), .int .u8 ((rd_T43 l0_2 x3_2).f1), .int .u8 ((rd_T43 l0_2 x3_2).f2), .int .u8 ((rd_T43 l0_2 x3_2).f3)]] rfl (by (try simp only [List.map_toArray, List.map_cons, List.map_nil]); first | done | rfl | (simp only [List.length_drop, List.length_take]; rfl)) ?_; (with_reducible refine (compositorref08_Valid.calls ((rd_T43 l0_2 x3_2).f0) ((rd_T43 l0_2 x3_2).f1) ((rd_T43 l0_2 x3_2).f2) ((rd_T43 l0_2 x3_2).f3) true _ A11.out).mono ?_); rintro e w14 ⟨rfl, hb⟩; refine ⟨_, rfl, ?_⟩; have n0_ := Aside0.mk (blk_below (g := gb258) (o := .cells #[.int .i64 a0_0, .int .i64 a0_1, .slice (some ad260) l0_2.length c0_2] 27 (0, 0)) (by (with_reducible repeat (first | refine blk_drewN ?_ _ | refine blk_drew ?_ | refine blk_alloc ?_ _)); exact BK258.out) hb); have n1_ := Aside0.mk (below_step (by repeat (first | (with_reducible first | exact HB.out | apply below_alloc | apply pw_below_drewN | apply below_drew1 | refine below_set ?_ GE258.out) | exact HB.out)) hb); clear BK258; clear HB; have BK258 := n0_; have HB := n1_; clear n0_ n1_; (try clear hb); (try clear hb2); (try clear hk); (try clear hi)))
                  go_roundg k2
                  case measure => have := HJ1.out; have := HK2.out; omega
                  case rel => exact ⟨(wrap64 (x3_2 + 1)), (by first | rfl | (simp; done) | (simp [*]; done)), H', ⟨by have := HJ1.out; have := HK2.out; omega⟩, ⟨by (with_reducible repeat (first | refine blk_drewN ?_ _ | refine blk_drew ?_ | refine blk_alloc ?_ _)); exact BK258.out⟩, ⟨by repeat (first | (with_reducible first | exact HB.out | apply below_alloc | apply pw_below_drewN | apply below_drew1 | refine below_set ?_ GE258.out) | exact HB.out)⟩⟩
                · replace c12 := Bool.eq_false_iff.mpr c12
                  subst c12
                  have H1 : (some false) = some r := by rw [if_neg (show ¬ (false = true) by decide)] at H; exact H
                  clear H
                  have H := H1
                  clear H1
                  obtain rfl := Option.some.inj H
                  have hcz15_0 : wr.cell? ⟨gb258, 0, none⟩ = some (.int .i64 a0_0) := (blk_cell BK258.out 0).trans rfl
                  have hcz15_1 : wr.cell? ⟨gb258, 1, none⟩ = some (.int .i64 a0_1) := (blk_cell BK258.out 1).trans rfl
                  have hcz15_2 : wr.cell? ⟨gb258, 2, none⟩ = some (.slice A0_2 l0_2.length c0_2) := (blk_cell BK258.out 2).trans rfl
                  have hfz15_0 := blk_frozen BK258.out 0
                  have hfz15_1 := blk_frozen BK258.out 1
                  have hfz15_2 := blk_frozen BK258.out 2
                  have p260 : 0 ≤ (x3_2 : Int) := of_decide_eq_true (by first | (with_reducible assumption) | assumption)
                  have q260 : x3_2 < (l0_2.length : Int) := of_decide_eq_true (by first | (with_reducible assumption) | assumption)
                  obtain ⟨ad260, e260, hx260_0, hx260_1, hx260_2, hx260_3⟩ := at_T43 HR0_2.out x3_2 p260 q260
                  cases e260
                  replace hx260_0 := (HB.out.cell (World.block_lt_of_cell? w _ hx260_0)).trans hx260_0
                  replace hx260_1 := (HB.out.cell (World.block_lt_of_cell? w _ hx260_1)).trans hx260_1
                  replace hx260_2 := (HB.out.cell (World.block_lt_of_cell? w _ hx260_2)).trans hx260_2
                  replace hx260_3 := (HB.out.cell (World.block_lt_of_cell? w _ hx260_3)).trans hx260_3
                  replace p260 := eq_true p260
                  replace q260 := eq_true q260
                  go_wp2_with (first | ((with_reducible refine gate_callee (f := 50) rfl ?_); refine goesL_ (some 33) rfl rfl Try.func50 (by kernel_rfl) rfl #[.agg #[.int .u8 ((rd_T43 l0_2 x3_2).f0), .int .u8 ((rd_T43 l0_2 x3_2).f1), .int .u8 ((rd_T43 l0_2 x3_2).f2), .int .u8 ((rd_T43 l0_2 x3_2).f3)]] rfl (by (try simp only [List.map_toArray, List.map_cons, List.map_nil]); first | done | rfl | (simp only [List.length_drop, List.length_take]; rfl)) ?_; (with_reducible refine (compositorref08_Valid.calls ((rd_T43 l0_2 x3_2).f0) ((rd_T43 l0_2 x3_2).f1) ((rd_T43 l0_2 x3_2).f2) ((rd_T43 l0_2 x3_2).f3) false _ A11.out).mono ?_); rintro e w16 ⟨rfl, hb⟩; refine ⟨_, rfl, ?_⟩; have n0_ := Aside0.mk (blk_below (g := gb258) (o := .cells #[.int .i64 a0_0, .int .i64 a0_1, .slice (some ad260) l0_2.length c0_2] 27 (0, 0)) (by (with_reducible repeat (first | refine blk_drewN ?_ _ | refine blk_drew ?_ | refine blk_alloc ?_ _)); exact BK258.out) hb); have n1_ := Aside0.mk (below_step (by repeat (first | (with_reducible first | exact HB.out | apply below_alloc | apply pw_below_drewN | apply below_drew1 | refine below_set ?_ GE258.out) | exact HB.out)) hb); clear BK258; clear HB; have BK258 := n0_; have HB := n1_; clear n0_ n1_; (try clear hb); (try clear hb2); (try clear hk); (try clear hi)))
                  go_ret
                  exact ⟨by first | rfl | (simp [errW_none, errW_some] <;> rfl) | (simp [*, errW_none, errW_some] <;> rfl), by repeat (first | (with_reducible first | exact HB.out | apply below_alloc | apply pw_below_drewN | apply below_drew1 | refine below_set ?_ GE258.out) | exact HB.out)⟩
              · rw [if_neg c10] at H
                exact absurd H (by simp)
            · rw [if_neg c9] at H
              have c9b0 : decide (x3_2 < (l0_2.length : Int)) = false := decide_eq_false c9
              clear c9
              obtain rfl := Option.some.inj H
              have hcz17_0 : wr.cell? ⟨gb258, 0, none⟩ = some (.int .i64 a0_0) := (blk_cell BK258.out 0).trans rfl
              have hcz17_1 : wr.cell? ⟨gb258, 1, none⟩ = some (.int .i64 a0_1) := (blk_cell BK258.out 1).trans rfl
              have hcz17_2 : wr.cell? ⟨gb258, 2, none⟩ = some (.slice A0_2 l0_2.length c0_2) := (blk_cell BK258.out 2).trans rfl
              have hfz17_0 := blk_frozen BK258.out 0
              have hfz17_1 := blk_frozen BK258.out 1
              have hfz17_2 := blk_frozen BK258.out 2
              go_wp2
              go_ret
              exact ⟨by first | rfl | (simp [errW_none, errW_some] <;> rfl) | (simp [*, errW_none, errW_some] <;> rfl), by repeat (first | (with_reducible first | exact HB.out | apply below_alloc | apply pw_below_drewN | apply below_drew1 | refine below_set ?_ GE258.out) | exact HB.out)⟩
end Go.Proofs.Ytmockeaiccpogaa.All
end
section
namespace Go.Proofs.Ytmockeaiccpogaa.All
open Go.RowKit Go.Proofs.YtmockeaiccpogaaW.PrintWords Go.Proofs.YtmockeaiccpogaaW.PrintLast Go.Proofs.YtmockeaiccpogaaW.PrintMore
attribute [local go_sem] max2_int min2_int max_two min_two max_three min_three max_four min_four
set_option linter.unusedVariables false
set_option linter.unusedSimpArgs false
def compositorlaw09_small.f (a0_0 : Int) (a0_1 : Int) (l0_2 : List (S43)) : Option (Bool) := some (decide ((l0_2.length : Int) ≤ 400))
set_option maxHeartbeats 8000000 in
set_option maxRecDepth 100000 in
theorem compositorlaw09_small.calls (a0_0 : Int) (a0_1 : Int) (A0_2 : Option Addr) (c0_2 : Nat) (l0_2 : List (S43)) (r : Bool) (w : World) (hr0_2 : Kd.C k43 w A0_2 l0_2.length l0_2) (hc0_2 : l0_2.length ≤ c0_2) (h : compositorlaw09_small.f a0_0 a0_1 l0_2 = some r) :
    Calls Try.prog 22 #[.agg #[.int .i64 a0_0, .int .i64 a0_1, .slice A0_2 l0_2.length c0_2]] w fun e w' => e = .returned (.bool r) ∧ Below w.heap.size w w' := by
  have hu27 := Try.underlying27
  have HR0_2 := Aside0.mk hr0_2
  have HC0_2 := Aside0.mk hc0_2
  clear hr0_2 hc0_2
  have HB := Aside0.mk (Below.refl w.heap.size w)
  have H : (some (decide ((l0_2.length : Int) ≤ 400))) = some r := h
  clear h
  obtain rfl := Option.some.inj H
  go_enter Try.func22, Try.ntmps22
  go_wp2_with (first | ((with_reducible refine gate_dst (N := 1) rfl ?_); refine box_event ?hg (N := 1) ?hd (cs := #[.int .i64 a0_0, .int .i64 a0_1, .slice A0_2 l0_2.length c0_2]) (t := 27) ?hr ?_; (case hd => rfl); (case hg => rfl); (case hr => first | (go_simp; done) | (go_simp; rfl)); intro gb318 hg w2 hbox hb; have n0_ := Aside0.mk (below_step (by repeat (first | (with_reducible first | exact HB.out | apply below_alloc | apply pw_below_drewN | apply below_drew1) | exact HB.out)) hb); have n1_ := Aside0.mk (hbox); have n2_ := Aside0.mk ((by rw [hg]; exact (below_size (by repeat (first | (with_reducible first | exact HB.out | apply below_alloc | apply pw_below_drewN | apply below_drew1) | exact HB.out))) : w.heap.size ≤ gb318)); have n3_ := Aside0.mk ((by rw [hg]; exact (below_size (by repeat (first | (with_reducible first | exact HB.out | apply below_alloc | apply pw_below_drewN | apply below_drew1) | exact HB.out))) : w.heap.size ≤ gb318)); clear HB; have HB := n0_; have BK318 := n1_; have GW318 := n2_; have GE318 := n3_; clear n0_ n1_ n2_ n3_; clear hb hbox hg; have hcz3_0 : w2.cell? ⟨gb318, 0, none⟩ = some (.int .i64 a0_0) := (blk_cell BK318.out 0).trans rfl; have hcz3_1 : w2.cell? ⟨gb318, 1, none⟩ = some (.int .i64 a0_1) := (blk_cell BK318.out 1).trans rfl; have hcz3_2 : w2.cell? ⟨gb318, 2, none⟩ = some (.slice A0_2 l0_2.length c0_2) := (blk_cell BK318.out 2).trans rfl; have hfz3_0 := blk_frozen BK318.out 0; have hfz3_1 := blk_frozen BK318.out 1; have hfz3_2 := blk_frozen BK318.out 2))
  go_ret
  exact ⟨by first | rfl | (simp [errW_none, errW_some] <;> rfl) | (simp [*, errW_none, errW_some] <;> rfl), by repeat (first | (with_reducible first | exact HB.out | apply below_alloc | apply pw_below_drewN | apply below_drew1 | refine below_set ?_ GE318.out) | exact HB.out)⟩
end Go.Proofs.Ytmockeaiccpogaa.All
end
section
namespace Go.Proofs.Ytmockeaiccpogaa.All
open Go.RowKit Go.Proofs.YtmockeaiccpogaaW.PrintWords Go.Proofs.YtmockeaiccpogaaW.PrintLast Go.Proofs.YtmockeaiccpogaaW.PrintMore
attribute [local go_sem] max2_int min2_int max_two min_two max_three min_three max_four min_four
set_option linter.unusedVariables false
set_option linter.unusedSimpArgs false
section
open Go.Proofs.YtmockeaiccpogaaHand Go.Proofs.YtmockeaiccpogaaSq
def slices_Clone.f (l : List S43) : Option (List S43) := if l.length < 35184372088832 then some l else none
theorem slices_Clone.calls (A0 : Option Addr) (c0 : Nat) (l0 : List S43) (r : List S43) (w : World) (hr0 : Kd.C k43 w A0 l0.length l0) (hc0 : l0.length ≤ c0) (h : slices_Clone.f l0 = some r) :
    Calls Try.prog 70 #[.slice A0 l0.length c0] w fun e w' => ∃ v, e = .returned v ∧ Kd.R k43 43 w' w.heap.size (fun _ => True) v r ∧ Below w.heap.size w w' := by
  unfold slices_Clone.f at h
  split at h
  · obtain rfl := Option.some.inj h
    rename_i hl
    have e0 := fun (w : World) (n c : Nat) => Go.Lib.run_eql_slice_nil (P := Try.prog) w 25 43 none n c 0 0 Try.underlying25
    have e1 := fun (w : World) (ad : Addr) (n c : Nat) => Go.Lib.run_eql_slice_nil (P := Try.prog) w 25 43 (some ad) n c 0 0 Try.underlying25
    cases A0 with
    | none =>
      obtain rfl : l0 = [] := by
        rcases Nat.eq_zero_or_pos l0.length with h0 | h0
        · exact List.eq_nil_of_length_eq_zero h0
        · obtain ⟨ad, h, _⟩ := hr0.2.2 h0
          cases h
      clear hr0 hc0 hl h
      go_enter Try.func70, Try.ntmps70
      go_wp2
      go_ret
      exact ⟨_, rfl, Kd.R_nil _ _ _ _ _, Below.refl _ _⟩
    | some ad =>
      have hl2 := Aside0.mk hl
      have hR := Aside0.mk hr0
      clear hr0 hl h
      go_enter Try.func70, Try.ntmps70
      have hO : Aside0 (Kd.R k43 43 (w.alloc (.cells #[] 43)) w.heap.size (fun _ => True) (.slice (some ⟨w.heap.size, 0, none⟩) 0 0) []) := ⟨⟨fun _ _ => trivial, OwnRow.lit (ps := []) w w.heap.size (Reps.none _ _) (Nat.le_refl _) (by simp)⟩⟩
      have hC := Aside0.mk (Kd.C_alloc hR.out (.cells #[] 43))
      have hB := Aside0.mk (below_alloc (Below.refl w.heap.size w) (.cells #[] 43))
      go_wp2_with (first | ((with_reducible refine gate_builtin (b := .append) (xs := #[.tmp 5, .tmp 6]) rfl ?_); at_builtin; refine Kd.R_append_rows k43 (w0 := w) w.heap.size rfl (.tmp 5) (.tmp 6) 25 43 (.agg #[(.int .u8 0), (.int .u8 0), (.int .u8 0), (.int .u8 0)]) 4 rfl Try.underlying25 info43 rfl (by decide) (by decide) (.slice (some ⟨w.heap.size, 0, none⟩) 0 0) [] l0 (some ad) l0.length c0 (fun _ => True) (fun _ => False) rfl rfl ?aO ?aR (fun _ _ h => h) (fun _ h => h.elim) ?aF ?aB ?aS ?aL ?_; (case aO => exact hO.out); (case aR => exact hC.out); (case aF => exact fun _ _ => trivial); (case aB => exact hB.out); (case aS => exact hB.out.size); (case aL => have := hl2.out; simp; omega); intro v1 w1 ho hb hg hat; have hF := Aside0.mk ho; have hB1 := Aside0.mk hb; clear ho hb hg hat))
      go_ret
      exact ⟨v1, rfl, hF.out, hB1.out⟩
  · cases h
end
end Go.Proofs.Ytmockeaiccpogaa.All
end
section
namespace Go.Proofs.Ytmockeaiccpogaa.All
open Go.Proofs.YtmockeaiccpogaaSq
open Go.RowKit Go.Proofs.YtmockeaiccpogaaW.PrintWords Go.Proofs.YtmockeaiccpogaaW.PrintLast Go.Proofs.YtmockeaiccpogaaW.PrintMore
attribute [local go_sem] max2_int min2_int max_two min_two max_three min_three max_four min_four
set_option linter.unusedVariables false
set_option linter.unusedSimpArgs false
section
open Go.Proofs.YtmockeaiccpogaaHand Go.Proofs.YtmockeaiccpogaaSq
def buffer_combine.St (w : World) (a0_0 a0_1 : Int) (A0_2 : Option Addr) (c0_2 : Nat) (l0_2 : List S43) (a1_0 a1_1 : Int) (A1_2 : Option Addr) (c1_2 : Nat) (l1_2 : List S43) (W : World) : Prop :=
  W.heap[w.heap.size]? = some (.cells #[.int .i64 a0_0, .int .i64 a0_1, .slice A0_2 l0_2.length c0_2] 27 (0, 0)) ∧ W.heap[w.heap.size + 1]? = some (.cells #[.int .i64 a1_0, .int .i64 a1_1, .slice A1_2 l1_2.length c1_2] 27 (0, 0)) ∧ W.heap[w.heap.size + 1 + 1]? = some (.cells #[.int .i64 0, .int .i64 0, .slice none 0 0] 27 (0, 0)) ∧ Below w.heap.size w W
theorem buffer_combine.St.below {w : World} {a0_0 a0_1 : Int} {A0_2 : Option Addr} {c0_2 : Nat} {l0_2 : List S43} {a1_0 a1_1 : Int} {A1_2 : Option Addr} {c1_2 : Nat} {l1_2 : List S43} {W W2 : World} (h : Aside0 (buffer_combine.St w a0_0 a0_1 A0_2 c0_2 l0_2 a1_0 a1_1 A1_2 c1_2 l1_2 W)) (hb : Below W.heap.size W W2) : Aside0 (buffer_combine.St w a0_0 a0_1 A0_2 c0_2 l0_2 a1_0 a1_1 A1_2 c1_2 l1_2 W2) :=
  ⟨blk_below h.out.1 hb, blk_below h.out.2.1 hb, blk_below h.out.2.2.1 hb, below_step h.out.2.2.2 hb⟩
theorem buffer_combine.St.cells {w : World} {a0_0 a0_1 : Int} {A0_2 : Option Addr} {c0_2 : Nat} {l0_2 : List S43} {a1_0 a1_1 : Int} {A1_2 : Option Addr} {c1_2 : Nat} {l1_2 : List S43} {W : World} (h : Aside0 (buffer_combine.St w a0_0 a0_1 A0_2 c0_2 l0_2 a1_0 a1_1 A1_2 c1_2 l1_2 W)) :
    W.cell? ⟨w.heap.size, 0, none⟩ = some (.int .i64 a0_0) ∧ W.cell? ⟨w.heap.size, 1, none⟩ = some (.int .i64 a0_1) ∧ W.cell? ⟨w.heap.size, 2, none⟩ = some (.slice A0_2 l0_2.length c0_2) ∧ W.cell? ⟨w.heap.size + 1, 0, none⟩ = some (.int .i64 a1_0) ∧ W.cell? ⟨w.heap.size + 1, 1, none⟩ = some (.int .i64 a1_1) ∧ W.cell? ⟨w.heap.size + 1, 2, none⟩ = some (.slice A1_2 l1_2.length c1_2) :=
  ⟨(blk_cell h.out.1 0).trans rfl, (blk_cell h.out.1 1).trans rfl, (blk_cell h.out.1 2).trans rfl, (blk_cell h.out.2.1 0).trans rfl, (blk_cell h.out.2.1 1).trans rfl, (blk_cell h.out.2.1 2).trans rfl⟩
theorem buffer_combine.St.zero {w : World} {a0_0 a0_1 : Int} {A0_2 : Option Addr} {c0_2 : Nat} {l0_2 : List S43} {a1_0 a1_1 : Int} {A1_2 : Option Addr} {c1_2 : Nat} {l1_2 : List S43} {W : World} (h : Aside0 (buffer_combine.St w a0_0 a0_1 A0_2 c0_2 l0_2 a1_0 a1_1 A1_2 c1_2 l1_2 W)) :
    (W.cell? ⟨w.heap.size + 1 + 1, 0, none⟩ = some (.int .i64 0) ∧ W.cell? ⟨w.heap.size + 1 + 1, 1, none⟩ = some (.int .i64 0) ∧ W.cell? ⟨w.heap.size + 1 + 1, 2, none⟩ = some (.slice none 0 0)) ∧ W.frozen? ⟨w.heap.size + 1 + 1, 0, none⟩ = false ∧ W.frozen? ⟨w.heap.size + 1 + 1, 1, none⟩ = false ∧ W.frozen? ⟨w.heap.size + 1 + 1, 2, none⟩ = false :=
  ⟨⟨(blk_cell h.out.2.2.1 0).trans rfl, (blk_cell h.out.2.2.1 1).trans rfl, (blk_cell h.out.2.2.1 2).trans rfl⟩, blk_frozen h.out.2.2.1 0, blk_frozen h.out.2.2.1 1, blk_frozen h.out.2.2.1 2⟩
theorem buffer_combine.St.row {w : World} {a0_0 a0_1 : Int} {A0_2 : Option Addr} {c0_2 : Nat} {l0_2 : List S43} {a1_0 a1_1 : Int} {A1_2 : Option Addr} {c1_2 : Nat} {l1_2 : List S43} {W W2 : World} (h : Aside0 (buffer_combine.St w a0_0 a0_1 A0_2 c0_2 l0_2 a1_0 a1_1 A1_2 c1_2 l1_2 W)) {g : Nat} (hg : W.grownBy W2 (some g)) (hG : w.heap.size + 1 + 1 < g) : Aside0 (buffer_combine.St w a0_0 a0_1 A0_2 c0_2 l0_2 a1_0 a1_1 A1_2 c1_2 l1_2 W2) :=
  ⟨blk_grown h.out.1 hg (by simp; omega), blk_grown h.out.2.1 hg (by simp; omega), blk_grown h.out.2.2.1 hg (by simp; omega), pw_below_grown h.out.2.2.2 (some g) h.out.2.2.2.size hg (fun _ e => by cases e; omega)⟩
theorem buffer_combine.St.set {w : World} {a0_0 a0_1 : Int} {A0_2 : Option Addr} {c0_2 : Nat} {l0_2 : List S43} {a1_0 a1_1 : Int} {A1_2 : Option Addr} {c1_2 : Nat} {l1_2 : List S43} {W : World} (h : Aside0 (buffer_combine.St w a0_0 a0_1 A0_2 c0_2 l0_2 a1_0 a1_1 A1_2 c1_2 l1_2 W)) {g : Nat} (hg : w.heap.size + 1 + 1 < g) (j : Nat) (v : Value) : Aside0 (buffer_combine.St w a0_0 a0_1 A0_2 c0_2 l0_2 a1_0 a1_1 A1_2 c1_2 l1_2 (W.setCell ⟨g, j, none⟩ v)) :=
  ⟨blk_far h.out.1 (p := ⟨g, j, none⟩) (by simp only; omega) _, blk_far h.out.2.1 (p := ⟨g, j, none⟩) (by simp only; omega) _, blk_far h.out.2.2.1 (p := ⟨g, j, none⟩) (by simp only; omega) _, below_set h.out.2.2.2 (by omega)⟩
def buffer_combine.rows (q : List S43 → List S43 → List S43) (s : List S43) (W SW t0 fr v0 u0 n : Nat) : Nat → List S43 → List S43
  | 0, l => l
  | k + 1, l => over (buffer_combine.rows q s W SW t0 fr v0 u0 n k l) ((t0 + k) * W + fr) (q (((buffer_combine.rows q s W SW t0 fr v0 u0 n k l).drop ((t0 + k) * W + fr)).take n) ((s.drop ((v0 + k) * SW + u0)).take n))
def buffer_combine.out (a0_0 a0_1 a1_0 a1_1 x y : Int) : Prop := x ≤ -a1_0 ∨ y ≤ -a1_1 ∨ x ≥ a0_0 ∨ y ≥ a0_1
instance (a0_0 a0_1 a1_0 a1_1 x y : Int) : Decidable (buffer_combine.out a0_0 a0_1 a1_0 a1_1 x y) := by unfold buffer_combine.out; infer_instance
def buffer_combine.all (q : List S43 → List S43 → List S43) (a0_0 a0_1 : Int) (l : List S43) (a1_0 a1_1 : Int) (s : List S43) (x y : Int) : List S43 :=
  buffer_combine.rows q s a0_0.toNat a1_0.toNat (mx y 0).toNat (mx x 0).toNat (mx y 0 - y).toNat (mx x 0 - x).toNat (mn (x + a1_0) a0_0 - mx x 0).toNat (mn (y + a1_1) a0_1 - mx y 0).toNat l
def buffer_combine.g (q : List S43 → List S43 → List S43) (a0_0 a0_1 : Int) (l : List S43) (a1_0 a1_1 : Int) (s : List S43) (x y : Int) : Option (Int × Int × List S43 × Int) :=
  (buffer_Valid.f a0_0 a0_1 l).bind fun s1 => if s1 = true then (buffer_Valid.f a1_0 a1_1 s).bind fun s2 => if s2 = true then (if buffer_combine.out a0_0 a0_1 a1_0 a1_1 x y then some (a0_0, a0_1, l, 0) else some (a0_0, a0_1, buffer_combine.all q a0_0 a0_1 l a1_0 a1_1 s x y, 0)) else some (0, 0, [], 15) else some (0, 0, [], 15)
theorem buffer_combine.oc {w : World} {a0_0 a0_1 : Int} {A0_2 : Option Addr} {c0_2 : Nat} {l0_2 : List S43} {a1_0 a1_1 : Int} {A1_2 : Option Addr} {c1_2 : Nat} {l1_2 : List S43} {W : World} (h : Aside0 (buffer_combine.St w a0_0 a0_1 A0_2 c0_2 l0_2 a1_0 a1_1 A1_2 c1_2 l1_2 W)) {g6 : Nat} {n m : Int} {u : Value} (hO : Aside0 (W.heap[g6]? = some (.cells #[.int .i64 n, .int .i64 m, u] 27 (0, 0)))) :
    W.cell? ⟨w.heap.size + 1, 0, none⟩ = some (.int .i64 a1_0) ∧ W.cell? ⟨w.heap.size + 1, 1, none⟩ = some (.int .i64 a1_1) ∧ W.cell? ⟨w.heap.size + 1, 2, none⟩ = some (.slice A1_2 l1_2.length c1_2) ∧ W.cell? ⟨g6, 0, none⟩ = some (.int .i64 n) ∧ W.cell? ⟨g6, 1, none⟩ = some (.int .i64 m) ∧ W.cell? ⟨g6, 2, none⟩ = some u :=
  ⟨(blk_cell h.out.2.1 0).trans rfl, (blk_cell h.out.2.1 1).trans rfl, (blk_cell h.out.2.1 2).trans rfl, (blk_cell hO.out 0).trans rfl, (blk_cell hO.out 1).trans rfl, (blk_cell hO.out 2).trans rfl⟩
theorem w64k {x : Int} (h : -9223372036854775808 ≤ x) (h' : x ≤ 9223372036854775807) : wrap64 x = x := by unfold wrap64; omega
theorem rowIdx2 {p x0 n : Nat} (b1 : p + x0 + n ≤ 65536) : wrap64 (wrap64 (p : Int) + x0) = ((p + x0 : Nat) : Int) ∧ wrap64 (wrap64 (p : Int) + (x0 + n)) = ((p + x0 + n : Nat) : Int) := by
  have e1 : wrap64 (p : Int) = p := w64k (by omega) (by omega)
  have e2 : wrap64 ((p : Int) + x0) = p + x0 := w64k (by omega) (by omega)
  have e3 : wrap64 ((p : Int) + (x0 + n)) = p + (x0 + n) := w64k (by omega) (by omega)
  rw [e1, e2, e3]
  constructor <;> omega
theorem rowIdx {W H y x n L : Nat} (hy : y < H) (hx : x + n ≤ W) (hL : L = W * H) (hW : W ≤ 256) (hH : H ≤ 256) :
    wrap64 (wrap64 ((y : Int) * W) + x) = ((y * W + x : Nat) : Int) ∧ wrap64 (wrap64 ((y : Int) * W) + (x + n)) = ((y * W + x + n : Nat) : Int) ∧ y * W + x + n ≤ L ∧ L ≤ 65536 := by
  have m1 : (y + 1) * W ≤ H * W := Nat.mul_le_mul_right W hy
  have m2 : W * H ≤ 256 * 256 := Nat.mul_le_mul hW hH
  rw [Nat.mul_comm H W, Nat.succ_mul] at m1
  rw [← Int.natCast_mul]
  generalize y * W = p at *
  generalize W * H = q at *
  obtain ⟨g1, g2⟩ := rowIdx2 (p := p) (x0 := x) (n := n) (by omega)
  exact ⟨g1, g2, by omega, by omega⟩
theorem buffer_combine.idx {a0_0 a0_1 a1_0 a1_1 x y X M T B : Int} {L L1 : Nat} (ha : (1 ≤ a0_0 ∧ a0_0 ≤ 256) ∧ (1 ≤ a0_1 ∧ a0_1 ≤ 256) ∧ (L : Int) = a0_0 * a0_1 ∧ (1 ≤ a1_0 ∧ a1_0 ≤ 256) ∧ (1 ≤ a1_1 ∧ a1_1 ≤ 256) ∧ (L1 : Int) = a1_0 * a1_1)
    (hN : mx x 0 = X ∧ mn (x + a1_0) a0_0 = M ∧ mx y 0 = T ∧ mn (y + a1_1) a0_1 = B) (hc : -a1_0 < x ∧ -a1_1 < y ∧ x < a0_0 ∧ y < a0_1) {W SW t0 fr v0 u0 n m k : Nat}
    (hD : W = a0_0.toNat ∧ SW = a1_0.toNat ∧ t0 = T.toNat ∧ fr = X.toNat ∧ v0 = (T - y).toNat ∧ u0 = (X - x).toNat ∧ n = (M - X).toNat ∧ m = (B - T).toNat) (hk : k < m) :
    (wrap64 (wrap64 ((T + k) * a0_0) + X) = (((t0 + k) * W + fr : Nat) : Int) ∧ wrap64 (wrap64 ((T + k) * a0_0) + M) = (((t0 + k) * W + fr + n : Nat) : Int) ∧ (t0 + k) * W + fr + n ≤ L ∧ L ≤ 65536) ∧
    (wrap64 (wrap64 ((T + k - y) * a1_0) + (X - x)) = (((v0 + k) * SW + u0 : Nat) : Int) ∧ wrap64 (wrap64 ((T + k - y) * a1_0) + (M - x)) = (((v0 + k) * SW + u0 + n : Nat) : Int) ∧ (v0 + k) * SW + u0 + n ≤ L1 ∧ L1 ≤ 65536) ∧
    (wrap64 (T + k - y) = T + k - y ∧ wrap64 (X - x) = X - x ∧ wrap64 (M - x) = M - x ∧ wrap64 (T + k + 1) = T + k + 1) ∧ 0 < n := by
  obtain ⟨⟨a1, a2⟩, ⟨a3, a4⟩, hL, ⟨a5, a6⟩, ⟨a7, a8⟩, hL1⟩ := ha
  obtain ⟨n1, n2, n3, n4⟩ := hN
  obtain ⟨c1, c2, c3, c4⟩ := hc
  obtain ⟨d1, d2, d3, d4, d5, d6, d7, d8⟩ := hD
  have X1 : 0 ≤ X ∧ x ≤ X ∧ (X = 0 ∨ X = x) := by unfold mx at n1; split at n1 <;> omega
  have T1 : 0 ≤ T ∧ y ≤ T ∧ (T = 0 ∨ T = y) := by unfold mx at n3; split at n3 <;> omega
  have M1 : M ≤ a0_0 ∧ M ≤ x + a1_0 ∧ (M = a0_0 ∨ M = x + a1_0) := by unfold mn at n2; split at n2 <;> omega
  have B1 : B ≤ a0_1 ∧ B ≤ y + a1_1 ∧ (B = a0_1 ∨ B = y + a1_1) := by unfold mn at n4; split at n4 <;> omega
  obtain ⟨H, eH⟩ : ∃ H : Nat, a0_1 = H := ⟨a0_1.toNat, by omega⟩
  obtain ⟨SH, eSH⟩ : ∃ H : Nat, a1_1 = H := ⟨a1_1.toNat, by omega⟩
  have eW : a0_0 = W := by omega
  have eSW : a1_0 = SW := by omega
  have hL2 : L = W * H := by rw [eW, eH, ← Int.natCast_mul] at hL; exact Int.ofNat.inj hL
  have hL3 : L1 = SW * SH := by rw [eSW, eSH, ← Int.natCast_mul] at hL1; exact Int.ofNat.inj hL1
  clear hL hL1 n1 n2 n3 n4
  replace hL2 := Aside0.mk hL2
  replace hL3 := Aside0.mk hL3
  have f1 : T + k = ((t0 + k : Nat) : Int) := by omega
  have f2 : T + k - y = ((v0 + k : Nat) : Int) := by omega
  have f3 : X = (fr : Int) := by omega
  have f4 : M = (fr : Int) + n := by omega
  have f5 : X - x = (u0 : Int) := by omega
  have f6 : M - x = (u0 : Int) + n := by omega
  have g0 : 0 < n := by omega
  have g1 : wrap64 (T + k - y) = T + k - y := w64k (by omega) (by omega)
  have g2 : wrap64 (X - x) = X - x := w64k (by omega) (by omega)
  have g3 : wrap64 (M - x) = M - x := w64k (by omega) (by omega)
  have g4 : wrap64 (T + k + 1) = T + k + 1 := w64k (by omega) (by omega)
  have gg := Aside0.mk (And.intro g1 (And.intro g2 (And.intro g3 g4)))
  clear g1 g2 g3 g4
  have q1 : t0 + k < H := by omega
  have q2 : fr + n ≤ W := by omega
  have q3 : v0 + k < SH := by omega
  have q4 : u0 + n ≤ SW := by omega
  have r1 := rowIdx (W := W) (H := H) (y := t0 + k) (x := fr) (n := n) (L := L) q1 q2 hL2.out (by omega) (by omega)
  have r2 := rowIdx (W := SW) (H := SH) (y := v0 + k) (x := u0) (n := n) (L := L1) q3 q4 hL3.out (by clear r1; omega) (by clear r1; omega)
  refine ⟨?_, ?_, gg.out, g0⟩
  · rw [f1, eW, f4, f3]; exact r1
  · rw [f2, eSW, f6, f5]; exact r2
theorem buffer_combine.some_rows {a0_1 a1_1 y T B : Int} {m : Nat} (h1 : 1 ≤ a0_1) (h2 : 1 ≤ a1_1) (n3 : mx y 0 = T) (n4 : mn (y + a1_1) a0_1 = B) (c2 : -a1_1 < y) (c4 : y < a0_1) (hm : m = (B - T).toNat) : B = T + m ∧ 0 < m := by
  unfold mx at n3
  unfold mn at n4
  split at n3 <;> split at n4 <;> omega
set_option maxHeartbeats 4000000 in
theorem buffer_combine.calls (q : List S43 → List S43 → List S43) (hq : ∀ d s, s.length = d.length → (q d s).length = d.length) (f : FuncId) (fn : Func) (caps : Array Value) (hf : Try.prog.funcs[f]? = some fn) (hname : (fn.name == "runtime.NumGoroutine") = false) (hbody : fn.body.isSome = true)
    (a0_0 a0_1 : Int) (A0_2 : Option Addr) (c0_2 : Nat) (l0_2 : List S43) (a1_0 a1_1 : Int) (A1_2 : Option Addr) (c1_2 : Nat) (l1_2 : List S43) (x y : Int) (r1 r2 : Int) (r3 : List S43) (r4 : Int) (w : World) (hr0_2 : Kd.C k43 w A0_2 l0_2.length l0_2) (hc0_2 : l0_2.length ≤ c0_2) (hr1_2 : Kd.C k43 w A1_2 l1_2.length l1_2) (hc1_2 : l1_2.length ≤ c1_2)
    (hcl : ∀ (W : World) (g lo n cap : Nat) (sa : Addr) (l sr : List S43), Below w.heap.size w W → w.heap.size ≤ g → Kd.R k43 43 W w.heap.size (fun _ => True) (.slice (some ⟨g, 0, none⟩) l.length cap) l → Kd.C k43 w (some sa) n sr → 0 < n → lo + n ≤ l.length → Calls Try.prog f (#[.slice (some ⟨g, lo * 4, none⟩) n n, .slice (some sa) n n] ++ caps) W fun e w' => e = .returned (.tuple #[]) ∧ Kd.R k43 43 w' w.heap.size (fun _ => True) (.slice (some ⟨g, 0, none⟩) l.length cap) (over l lo (q ((l.drop lo).take n) sr)) ∧ W.grownBy w' (some g))
    (h : buffer_combine.g q a0_0 a0_1 l0_2 a1_0 a1_1 l1_2 x y = some (r1, r2, r3, r4)) :
    Calls Try.prog 59 #[.agg #[.int .i64 a0_0, .int .i64 a0_1, .slice A0_2 l0_2.length c0_2], .agg #[.int .i64 a1_0, .int .i64 a1_1, .slice A1_2 l1_2.length c1_2], .int .i64 x, .int .i64 y, .func (.func f) #[] caps] w fun e w' => ∃ v2_ : Value, e = .returned (.tuple #[.agg #[.int .i64 r1, .int .i64 r2, v2_], .int .i64 r4]) ∧ Kd.R k43 43 w' w.heap.size (fun _ => True) v2_ r3 ∧ Below w.heap.size w w' := by
  replace h := Option.bind_eq_some_iff.mp h
  obtain ⟨s1, hs1, h⟩ := h
  have hs := Aside0.mk hs1
  have hCl := Aside0.mk hcl
  have hQ := Aside0.mk hq
  clear hs1 hcl hq
  go_enter Try.func59, Try.ntmps59
  go_wp2_with fail
  obtain ⟨hA0, hB0, hC0, hD0⟩ := allocs3 w (Obj.cells #[.int .i64 a0_0, .int .i64 a0_1, .slice A0_2 l0_2.length c0_2] 27) (Obj.cells #[.int .i64 a1_0, .int .i64 a1_1, .slice A1_2 l1_2.length c1_2] 27) (Obj.cells #[.int .i64 0, .int .i64 0, .slice none 0 0] 27)
  generalize ((w.alloc (Obj.cells #[.int .i64 a0_0, .int .i64 a0_1, .slice A0_2 l0_2.length c0_2] 27)).alloc (Obj.cells #[.int .i64 a1_0, .int .i64 a1_1, .slice A1_2 l1_2.length c1_2] 27)).alloc (Obj.cells #[.int .i64 0, .int .i64 0, .slice none 0 0] 27) = V at hA0 hB0 hC0 hD0 ⊢
  have hS : Aside0 (buffer_combine.St w a0_0 a0_1 A0_2 c0_2 l0_2 a1_0 a1_1 A1_2 c1_2 l1_2 V) := ⟨hA0, hB0, hC0, hD0⟩
  have hR0 := Aside0.mk hr0_2
  have hR1 := Aside0.mk hr1_2
  clear hA0 hB0 hC0 hD0 hr0_2 hr1_2
  refine (buffer_Valid.calls a0_0 a0_1 A0_2 c0_2 l0_2 s1 V (Kd.C_below hR0.out hS.out.2.2.2) hc0_2 hs.out).mono ?_
  rintro e w1 ⟨rfl, hb1⟩
  replace hS := buffer_combine.St.below hS hb1
  clear hb1
  cases s1 with
  | false =>
    obtain ⟨rfl, rfl, rfl, rfl⟩ : 0 = r1 ∧ 0 = r2 ∧ [] = r3 ∧ 15 = r4 := by simpa using h
    clear h
    obtain ⟨⟨z0, z1, z2⟩, f0, f1, f2⟩ := buffer_combine.St.zero hS
    go_wp2
    refine bodyPost_ret (results_ct rfl _ _ (w.heap.size + 1 + 1) 27 #[.int .i64 0, .int .i64 0, .slice none 0 0] (0, 0) _ rfl (retBuf hS.out.2.2.1 0 0 _) Try.underlying27 rfl (by kernel_rfl)) rfl ⟨_, rfl, Kd.R_nil _ _ _ _ _, below_set (below_set (below_set hS.out.2.2.2 (by omega)) (by omega)) (by omega)⟩
  | true =>
    rw [if_pos rfl] at h
    replace h := Option.bind_eq_some_iff.mp h
    obtain ⟨s2, hs2, h⟩ := h
    have hs' := Aside0.mk hs2
    clear hs2
    obtain ⟨b0, b1, b2, d0, d1, d2⟩ := buffer_combine.St.cells hS
    go_wp2_with fail
    clear b0 b1 b2 d0 d1 d2
    refine (buffer_Valid.calls a1_0 a1_1 A1_2 c1_2 l1_2 s2 w1 (Kd.C_below hR1.out hS.out.2.2.2) hc1_2 hs'.out).mono ?_
    rintro e w2 ⟨rfl, hb1⟩
    replace hS := buffer_combine.St.below hS hb1
    clear hb1
    cases s2 with
    | false =>
      obtain ⟨rfl, rfl, rfl, rfl⟩ : 0 = r1 ∧ 0 = r2 ∧ [] = r3 ∧ 15 = r4 := by simpa using h
      clear h
      obtain ⟨⟨z0, z1, z2⟩, f0, f1, f2⟩ := buffer_combine.St.zero hS
      go_wp2
      refine bodyPost_ret (results_ct rfl _ _ (w.heap.size + 1 + 1) 27 #[.int .i64 0, .int .i64 0, .slice none 0 0] (0, 0) _ rfl (retBuf hS.out.2.2.1 0 0 _) Try.underlying27 rfl (by kernel_rfl)) rfl ⟨_, rfl, Kd.R_nil _ _ _ _ _, below_set (below_set (below_set hS.out.2.2.2 (by omega)) (by omega)) (by omega)⟩
    | true =>
      rw [if_pos rfl] at h
      go_wp2_with fail
      obtain ⟨hW, hH, hl⟩ := buffer_Valid.of_valid hs.out
      obtain ⟨hW1, hH1, hl1⟩ := buffer_Valid.of_valid hs'.out
      have hlc : l0_2.length < 35184372088832 := by
        have := Int.mul_le_mul hW.2 hH.2 (by omega) (by omega : (0 : Int) ≤ 256)
        omega
      have hcl : slices_Clone.f l0_2 = some l0_2 := by unfold slices_Clone.f; rw [if_pos hlc]
      have hcl' := Aside0.mk hcl
      clear hlc hcl
      replace hS := buffer_combine.St.below hS (below_drew (Below.refl _ _))
      refine start_ (n := 10) (S := fun w' => w'.cell? ⟨w.heap.size, 0, none⟩ = some (.int .i64 a0_0) ∧ w'.cell? ⟨w.heap.size, 1, none⟩ = some (.int .i64 a0_1) ∧ w'.cell? ⟨w.heap.size, 2, none⟩ = some (.slice A0_2 l0_2.length c0_2) ∧ w'.cell? ⟨w.heap.size + 1, 0, none⟩ = some (.int .i64 a1_0) ∧ w'.cell? ⟨w.heap.size + 1, 1, none⟩ = some (.int .i64 a1_1) ∧ w'.cell? ⟨w.heap.size + 1, 2, none⟩ = some (.slice A1_2 l1_2.length c1_2)) (ds := []) #[false, false, false, false, false, false, false, false, false, false] (by kernel_rfl) rfl rfl (buffer_combine.St.cells hS) (fun hHeld => ?_)
      have HT_ : Aside0 (rtab .any (opsOf Try.f59 3) = rtab .any (opsOf Try.f59 3)) := ⟨rfl⟩
      generalize w2.drew = w3 at hS hHeld ⊢
      refine pv_ 0 25 #[true, false, false, false, false, false, false, false, false, false] HT_ ?_
      refine pv_ 2 27 #[true, false, true, false, false, false, false, false, false, false] HT_ ?_
      refine pv_ 4 29 #[true, false, true, false, true, false, false, false, false, false] HT_ ?_
      refine take_ (i := 1) (N := some 26) (v := ?_) (a' := ?_) #[true, true, true, false, true, false, false, false, false, false] rfl rfl (take_of HT_.out (by kernel_rfl)) (fun _ _ _ h => h) (Or.inl ⟨by rfl, ?_⟩) hHeld ?_ ?_
      rotate_left
      · rintro w' ⟨s0, s1, s2, s3, s4, s5⟩
        go_simp
        with_reducible rfl
      rotate_left
      · simp only [Act.put, List.setIfInBounds_toArray, List.set_cons_zero, List.set_cons_succ, i64_w, i32_w]
        rfl
      refine take_ (i := 3) (N := some 28) (v := ?_) (a' := ?_) #[true, true, true, true, true, false, false, false, false, false] rfl rfl (take_of HT_.out (by kernel_rfl)) (fun _ _ _ h => h) (Or.inl ⟨by rfl, ?_⟩) hHeld ?_ ?_
      rotate_left
      · rintro w' ⟨s0, s1, s2, s3, s4, s5⟩
        go_simp
        with_reducible rfl
      rotate_left
      · simp only [Act.put, List.setIfInBounds_toArray, List.set_cons_zero, List.set_cons_succ, i64_w, i32_w]
        rfl
      refine take_ (i := 5) (N := some 30) (v := ?_) (a' := ?_) #[true, true, true, true, true, true, false, false, false, false] rfl rfl (take_of HT_.out (by kernel_rfl)) (fun _ _ _ h => h) (Or.inl ⟨by rfl, ?_⟩) hHeld ?_ ?_
      rotate_left
      · rintro w' ⟨s0, s1, s2, s3, s4, s5⟩
        go_simp
        with_reducible rfl
      rotate_left
      · simp only [Act.put, List.setIfInBounds_toArray, List.set_cons_zero, List.set_cons_succ, i64_w, i32_w]
        rfl
      refine join_ (σ := Option Addr × Nat × Nat) 1 #[true, true, true, true, true, true, true, true, true, false] (fun s_ => [(31, .slice s_.1 l0_2.length s_.2.1), (12, .pointer (some ⟨s_.2.2, 0, none⟩)), (32, .agg #[.int .i64 a0_0, .int .i64 a0_1, .slice s_.1 l0_2.length s_.2.1])]) (fun s_ w' => buffer_combine.St w a0_0 a0_1 A0_2 c0_2 l0_2 a1_0 a1_1 A1_2 c1_2 l1_2 w' ∧ Kd.R k43 43 w' w.heap.size (fun _ => True) (.slice s_.1 l0_2.length s_.2.1) l0_2 ∧ w'.heap[s_.2.2]? = some (.cells #[.int .i64 0, .int .i64 0, .slice none 0 0] 27 (0, 0)) ∧ w.heap.size + 1 + 1 < s_.2.2) ?_ ?_
      rotate_left
      · intro hCont
        refine two_ (i := 6) (j := 8) (Ni := some 31) (Nj := some 12) #[true, true, true, true, true, true, true, false, false, false] #[true, true, true, true, true, true, false, false, true, false] rfl rfl rfl rfl (two_of HT_.out (by kernel_rfl)) (by decide) (by decide) (fun K hK => ?_) (fun K hK => ?_)
        ·
          refine goes_ Try.func70 (by kernel_rfl) rfl #[.slice A0_2 l0_2.length c0_2] (by rfl) rfl rfl (by (try simp only [List.map_toArray, List.map_cons, List.map_nil]); first | done | rfl) ?_
          refine (slices_Clone.calls A0_2 c0_2 l0_2 l0_2 _ (Kd.C_below hR0.out hS.out.2.2.2) hc0_2 hcl'.out).mono ?_
          rintro e w4 ⟨v, rfl, hv, hb1⟩
          obtain ⟨Ao, co, eo⟩ := Kd.R_slice hv
          subst eo
          refine ⟨_, rfl, ?_⟩
          have hu := Aside0.mk (Kd.R_lower hv hS.out.2.2.2.size)
          replace hS := buffer_combine.St.below hS hb1
          clear hb1 hv
          refine hK.out _ _ (buffer_combine.St.cells hS) (fun hHeld => ?_)
          clear hK K
          refine norm_ (a' := ?_) ?_ ?_
          rotate_left
          · show Act.put _ (some 31) _ = _
            simp only [Act.put, List.setIfInBounds_toArray, List.set_cons_zero, List.set_cons_succ, i64_w, i32_w]
            rfl
          refine pv_ 7 32 #[true, true, true, true, true, true, true, true, false, false] HT_ ?_
          refine one_ (i := 8) (N := some 12) #[true, true, true, true, true, true, true, true, true, false] rfl rfl (one_of HT_.out (by kernel_rfl)) (by decide) (fun K hK => ?_)
          refine box_step ?hg (N := 12) ?hd (cs := #[.int .i64 0, .int .i64 0, .slice none 0 0]) (t := 27) ?hr ?_; (case hd => rfl); (case hg => rfl); (case hr => first | (go_simp; done) | (go_simp; rfl))
          intro g6 hg w5 hbox hb1
          have hG : Aside0 (w.heap.size + 1 + 1 < g6) := ⟨by rw [hg]; exact blk_lt hS.out.2.2.1⟩
          have hO := Aside0.mk hbox
          replace hS := buffer_combine.St.below hS hb1
          replace hu := Aside0.mk (Kd.R_below hu.out hb1)
          clear hb1 hbox hg
          refine hK.out _ _ (buffer_combine.St.cells hS) (fun hHeld => ?_)
          clear hK K
          refine norm_ (a' := ?_) ?_ ?_
          rotate_left
          · show Act.put _ (some 12) _ = _
            simp only [Act.put, List.setIfInBounds_toArray, List.set_cons_zero, List.set_cons_succ, i64_w, i32_w]
            rfl
          exact norm_ (by simp only [putAll, Act.put, List.setIfInBounds_toArray, List.set_cons_zero, List.set_cons_succ]) (hCont (Ao, co, g6) _ ⟨hS.out, hu.out, hO.out, hG.out⟩)
        ·
          refine box_step ?hg (N := 12) ?hd (cs := #[.int .i64 0, .int .i64 0, .slice none 0 0]) (t := 27) ?hr ?_; (case hd => rfl); (case hg => rfl); (case hr => first | (go_simp; done) | (go_simp; rfl))
          intro g6 hg w4 hbox hb1
          have hG : Aside0 (w.heap.size + 1 + 1 < g6) := ⟨by rw [hg]; exact blk_lt hS.out.2.2.1⟩
          have hO := Aside0.mk hbox
          replace hS := buffer_combine.St.below hS hb1
          clear hb1 hbox hg
          refine hK.out _ _ (buffer_combine.St.cells hS) (fun hHeld => ?_)
          clear hK K
          refine norm_ (a' := ?_) ?_ ?_
          rotate_left
          · show Act.put _ (some 12) _ = _
            simp only [Act.put, List.setIfInBounds_toArray, List.set_cons_zero, List.set_cons_succ, i64_w, i32_w]
            rfl
          refine one_ (i := 6) (N := some 31) #[true, true, true, true, true, true, true, false, true, false] rfl rfl (one_of HT_.out (by kernel_rfl)) (by decide) (fun K hK => ?_)
          refine goes_ Try.func70 (by kernel_rfl) rfl #[.slice A0_2 l0_2.length c0_2] (by rfl) rfl rfl (by (try simp only [List.map_toArray, List.map_cons, List.map_nil]); first | done | rfl) ?_
          refine (slices_Clone.calls A0_2 c0_2 l0_2 l0_2 _ (Kd.C_below hR0.out hS.out.2.2.2) hc0_2 hcl'.out).mono ?_
          rintro e w5 ⟨v, rfl, hv, hb1⟩
          obtain ⟨Ao, co, eo⟩ := Kd.R_slice hv
          subst eo
          refine ⟨_, rfl, ?_⟩
          have hu := Aside0.mk (Kd.R_lower hv hS.out.2.2.2.size)
          replace hS := buffer_combine.St.below hS hb1
          replace hO := Aside0.mk (blk_below hO.out hb1)
          clear hb1 hv
          refine hK.out _ _ (buffer_combine.St.cells hS) (fun hHeld => ?_)
          clear hK K
          refine norm_ (a' := ?_) ?_ ?_
          rotate_left
          · show Act.put _ (some 31) _ = _
            simp only [Act.put, List.setIfInBounds_toArray, List.set_cons_zero, List.set_cons_succ, i64_w, i32_w]
            rfl
          refine pv_ 7 32 #[true, true, true, true, true, true, true, true, true, false] HT_ ?_
          exact norm_ (by simp only [putAll, Act.put, List.setIfInBounds_toArray, List.set_cons_zero, List.set_cons_succ]) (hCont (Ao, co, g6) _ ⟨hS.out, hu.out, hO.out, hG.out⟩)
      rintro ⟨Ao, co, g6⟩ w6 ⟨hS', hu', hO', hG'⟩
      replace hS := Aside0.mk hS'
      have hu := Aside0.mk hu'
      have hO := Aside0.mk hO'
      have hG := Aside0.mk hG'
      clear hS' hu' hO' hG' hHeld
      refine norm_ (a' := ?_) ?_ ?_
      rotate_left
      · simp only [putAll, Act.put, List.setIfInBounds_toArray, List.set_cons_zero, List.set_cons_succ]
        rfl
      refine one_ (i := 9) (N := none) #[true, true, true, true, true, true, true, true, true, true] rfl rfl (one_of HT_.out (by kernel_rfl)) (by decide) (fun K hK => ?_)
      have o0 : w6.cell? ⟨g6, 0, none⟩ = some (.int .i64 0) := (blk_cell hO.out 0).trans rfl
      have o1 : w6.cell? ⟨g6, 1, none⟩ = some (.int .i64 0) := (blk_cell hO.out 1).trans rfl
      have o2 : w6.cell? ⟨g6, 2, none⟩ = some (.slice none 0 0) := (blk_cell hO.out 2).trans rfl
      have f0 := blk_frozen hO.out 0
      have f1 := blk_frozen hO.out 1
      have f2 := blk_frozen hO.out 2
      refine skip_ (w1 := ?_) (by rfl) rfl ?_ ?_
      rotate_left
      · go_simp
        rfl
      clear o0 o1 o2 f0 f1 f2
      have hu2 := Aside0.mk (retBufR (n := a0_0) (m := a0_1) (v := .slice Ao l0_2.length co) hO.out hu.out)
      have hO2 := Aside0.mk (retBuf hO.out a0_0 a0_1 (.slice Ao l0_2.length co))
      have hS2 := buffer_combine.St.set (buffer_combine.St.set (buffer_combine.St.set hS hG.out 0 (.int .i64 a0_0)) hG.out 1 (.int .i64 a0_1)) hG.out 2 (.slice Ao l0_2.length co)
      clear hS hu hO
      generalize ((w6.setCell ⟨g6, 0, none⟩ (.int .i64 a0_0)).setCell ⟨g6, 1, none⟩ (.int .i64 a0_1)).setCell ⟨g6, 2, none⟩ (.slice Ao l0_2.length co) = w7 at hu2 hO2 hS2 ⊢
      refine hK.out _ _ (buffer_combine.St.cells hS2) (fun hHeld => ?_)
      clear hK K
      refine done_ (done_of HT_.out (by kernel_rfl)) ?_
      clear hHeld
      have ha := Aside0.mk (And.intro hW (And.intro hH (And.intro hl (And.intro hW1 (And.intro hH1 hl1)))))
      have en1 : wrap64 (-a1_0) = -a1_0 := by unfold wrap64; omega
      have en2 : wrap64 (-a1_1) = -a1_1 := by unfold wrap64; omega
      obtain ⟨b0, b1, b2, d0, d1, d2⟩ := buffer_combine.St.cells hS2
      have o0 : w7.cell? ⟨g6, 0, none⟩ = some (.int .i64 a0_0) := (blk_cell hO2.out 0).trans rfl
      have o1 : w7.cell? ⟨g6, 1, none⟩ = some (.int .i64 a0_1) := (blk_cell hO2.out 1).trans rfl
      have o2 : w7.cell? ⟨g6, 2, none⟩ = some (.slice Ao l0_2.length co) := (blk_cell hO2.out 2).trans rfl
      by_cases ho : buffer_combine.out a0_0 a0_1 a1_0 a1_1 x y
      · rw [if_pos ho] at h
        obtain ⟨rfl, rfl, rfl, rfl⟩ : a0_0 = r1 ∧ a0_1 = r2 ∧ l0_2 = r3 ∧ 0 = r4 := by simpa using h
        clear h
        obtain ⟨⟨z0, z1, z2⟩, f0, f1, f2⟩ := buffer_combine.St.zero hS2
        have hcs : x ≤ -a1_0 ∨ (¬ x ≤ -a1_0 ∧ y ≤ -a1_1) ∨ (¬ x ≤ -a1_0 ∧ ¬ y ≤ -a1_1 ∧ a0_0 ≤ x) ∨ (¬ x ≤ -a1_0 ∧ ¬ y ≤ -a1_1 ∧ ¬ a0_0 ≤ x ∧ a0_1 ≤ y) := by unfold buffer_combine.out at ho; omega
        clear ho hW hH hl hW1 hH1 hl1
        rcases hcs with c1 | ⟨c1, c2⟩ | ⟨c1, c2, c3⟩ | ⟨c1, c2, c3, c4⟩
        all_goals
          go_wp2
          refine bodyPost_ret (results_ct rfl _ _ (w.heap.size + 1 + 1) 27 #[.int .i64 a0_0, .int .i64 a0_1, .slice Ao l0_2.length co] (0, 0) _ rfl (retBuf hS2.out.2.2.1 _ _ _) Try.underlying27 rfl (by kernel_rfl)) rfl ⟨_, rfl, retBufR hS2.out.2.2.1 hu2.out, below_set (below_set (below_set hS2.out.2.2.2 (by omega)) (by omega)) (by omega)⟩
      · rw [if_neg ho] at h
        obtain ⟨rfl, rfl, rfl, rfl⟩ : a0_0 = r1 ∧ a0_1 = r2 ∧ buffer_combine.all q a0_0 a0_1 l0_2 a1_0 a1_1 l1_2 x y = r3 ∧ 0 = r4 := by simpa using h
        clear h
        have c1 : ¬ x ≤ -a1_0 := fun c => ho (by unfold buffer_combine.out; omega)
        have c2 : ¬ y ≤ -a1_1 := fun c => ho (by unfold buffer_combine.out; omega)
        have c3 : ¬ a0_0 ≤ x := fun c => ho (by unfold buffer_combine.out; omega)
        have c4 : ¬ a0_1 ≤ y := fun c => ho (by unfold buffer_combine.out; omega)
        clear ho
        have e1 : wrap64 (x + a1_0) = x + a1_0 := by unfold wrap64; omega
        have e2 : wrap64 (y + a1_1) = y + a1_1 := by unfold wrap64; omega
        clear hW hH hl hW1 hH1 hl1
        obtain ⟨X, hX⟩ : ∃ X, mx x 0 = X := ⟨_, rfl⟩
        obtain ⟨M, hM⟩ : ∃ M, mn (x + a1_0) a0_0 = M := ⟨_, rfl⟩
        obtain ⟨T, hT⟩ : ∃ T, mx y 0 = T := ⟨_, rfl⟩
        obtain ⟨B, hB⟩ : ∃ B, mn (y + a1_1) a0_1 = B := ⟨_, rfl⟩
        have hX' : (if x < 0 then 0 else x) = X := hX
        have hM' : (if a0_0 < x + a1_0 then a0_0 else x + a1_0) = M := hM
        have hT' : (if y < 0 then 0 else y) = T := hT
        have hB' : (if a0_1 < y + a1_1 then a0_1 else y + a1_1) = B := hB
        have hN := Aside0.mk (And.intro hX (And.intro hM (And.intro hT hB)))
        clear hX hM hT hB
        go_wp2
        go_quiet (fail)
        go_wp2_with fail
        clear b0 b1 b2 d0 d1 d2 o0 o1 o2 hX' hM' hT' hB' en1 en2
        replace hS2 := buffer_combine.St.below hS2 (pw_below_drewN (Below.refl _ _) nq)
        replace hO2 := Aside0.mk (blk_drewN hO2.out nq)
        replace hu2 := Aside0.mk (Kd.R_drewN hu2.out nq)
        generalize w7.drewN nq = w8 at hS2 hO2 hu2 ⊢
        have hpos : 0 < l0_2.length := by
          obtain ⟨q1, q2, q3, _⟩ := ha.out
          have := Int.mul_pos (show 0 < a0_0 by omega) (show 0 < a0_1 by omega)
          omega
        have hpos1 : 0 < l1_2.length := by
          obtain ⟨_, _, _, q1, q2, q3⟩ := ha.out
          have := Int.mul_pos (show 0 < a1_0 by omega) (show 0 < a1_1 by omega)
          omega
        obtain ⟨ad, eA, _⟩ := hR1.out.2.2 hpos1
        subst eA
        obtain ⟨g7, co', eo, gb, gl, cl, HG⟩ := Kd.R_form hu2.out hpos
        injection eo with ea en ec
        subst ea ec
        have hn1 := Kd.R_ne hu2.out hS2.out.1 (by decide)
        have hn2 := Kd.R_ne hu2.out hS2.out.2.1 (by decide)
        have hn3 := Kd.R_ne hu2.out hS2.out.2.2.1 (by decide)
        have hn6 := Kd.R_ne hu2.out hO2.out (by decide)
        simp only [Value.ownBlock, ne_eq, Option.some.injEq] at hn1 hn2 hn3 hn6
        have hG7 : Aside0 (w.heap.size + 1 + 1 < g7 ∧ g6 ≠ g7) := ⟨by refine ⟨?_, hn6⟩; omega⟩
        clear hn1 hn2 hn3 hn6 HG gl cl hpos hpos1 gb
        obtain ⟨W, hWn⟩ : ∃ W, W = a0_0.toNat := ⟨_, rfl⟩
        obtain ⟨SW, hSWn⟩ : ∃ SW, SW = a1_0.toNat := ⟨_, rfl⟩
        obtain ⟨t0, ht0⟩ : ∃ t0, t0 = T.toNat := ⟨_, rfl⟩
        obtain ⟨fr, hfr⟩ : ∃ fr, fr = X.toNat := ⟨_, rfl⟩
        obtain ⟨v0, hv0⟩ : ∃ v0, v0 = (T - y).toNat := ⟨_, rfl⟩
        obtain ⟨u0, hu0⟩ : ∃ u0, u0 = (X - x).toNat := ⟨_, rfl⟩
        obtain ⟨n, hn⟩ : ∃ n, n = (M - X).toNat := ⟨_, rfl⟩
        obtain ⟨m, hm⟩ : ∃ m, m = (B - T).toNat := ⟨_, rfl⟩
        have hD := Aside0.mk (And.intro hWn (And.intro hSWn (And.intro ht0 (And.intro hfr (And.intro hv0 (And.intro hu0 (And.intro hn hm)))))))
        have hc := Aside0.mk (And.intro c1 (And.intro c2 (And.intro c3 c4)))
        clear hWn hSWn ht0 hfr hv0 hu0 hn hm c1 c2 c3 c4
        have hB0 : Aside0 (B = T + m ∧ 0 < m) := ⟨buffer_combine.some_rows ha.out.2.1.1 ha.out.2.2.2.2.1.1 hN.out.2.2.1 hN.out.2.2.2 hc.out.2.1 hc.out.2.2.2 hD.out.2.2.2.2.2.2.2⟩
        go_loopw [15] (fun v w' => ∃ (k : Nat), k ≤ m ∧ v = .int .i64 (T + k) ∧ Aside0 (Kd.R k43 43 w' w.heap.size (fun _ => True) (.slice (some ⟨g7, 0, none⟩) l0_2.length co) (buffer_combine.rows q l1_2 W SW t0 fr v0 u0 n k l0_2)) ∧ Aside0 (w'.heap[g6]? = some (.cells #[.int .i64 a0_0, .int .i64 a0_1, .slice (some ⟨g7, 0, none⟩) l0_2.length co] 27 (0, 0))) ∧ Aside0 (buffer_combine.St w a0_0 a0_1 A0_2 c0_2 l0_2 a1_0 a1_1 (some ad) c1_2 l1_2 w')) (fun v _ => (B - intOf v).toNat)
        case atStart => exact ⟨0, Nat.zero_le _, by simp, hu2, hO2, hS2⟩
        case round =>
          clear hu2 hO2 hS2
          obtain ⟨k, hk, rfl, hu, hO, hS⟩ := hrel
          obtain ⟨b0, b1, b2, d0, d1, d2⟩ := buffer_combine.St.cells hS
          have hB' : (if a0_1 < y + a1_1 then a0_1 else y + a1_1) = B := hN.out.2.2.2
          by_cases hlt : k < m
          · have hlt' : T + (k : Int) < B := by have := hB0.out; omega
            obtain ⟨⟨i1, i2, i3, i4⟩, ⟨i5, i6, i7, i8⟩, ⟨i9, i10, i11, i12⟩, i13⟩ := buffer_combine.idx ha.out hN.out hc.out hD.out hlt
            obtain ⟨lo, elo⟩ : ∃ lo, lo = (t0 + k) * W + fr := ⟨_, rfl⟩
            obtain ⟨so, eso⟩ : ∃ so, so = (v0 + k) * SW + u0 := ⟨_, rfl⟩
            rw [← elo] at i1 i2 i3
            rw [← eso] at i5 i6 i7
            have hlo := Aside0.mk i1
            have hhi := Aside0.mk i2
            have hll := Aside0.mk i3
            have hso := Aside0.mk i5
            have hsi := Aside0.mk i6
            have hsl := Aside0.mk i7
            have hn0 := Aside0.mk i13
            have hk1 := Aside0.mk i12
            have j9 := Aside0.mk i9
            have j10 := Aside0.mk i10
            have j11 := Aside0.mk i11
            obtain ⟨lr, elr⟩ : ∃ lr, buffer_combine.rows q l1_2 W SW t0 fr v0 u0 n k l0_2 = lr := ⟨_, rfl⟩
            have hrs : Aside0 (buffer_combine.rows q l1_2 W SW t0 fr v0 u0 n (k + 1) l0_2 = over lr lo (q ((lr.drop lo).take n) ((l1_2.drop so).take n))) := ⟨by rw [elo, eso, ← elr]; rfl⟩
            rw [elr] at hu
            have hlen : Aside0 (lr.length = l0_2.length) := ⟨by have := (Kd.R_reads' hu.out).1; omega⟩
            have hhc : Aside0 (lo + n ≤ co) := ⟨Nat.le_trans i3 (Kd.R_reads' hu.out).2.1⟩
            have hsc : Aside0 (so + n ≤ c1_2) := ⟨Nat.le_trans i7 hc1_2⟩
            have hkm := Aside0.mk hlt
            clear i1 i2 i3 i4 i5 i6 i7 i8 i9 i10 i11 i12 i13 elo eso elr hlt
            go_wp2_with fail
            refine start_ (n := 18) (S := fun w' => w'.cell? ⟨w.heap.size + 1, 0, none⟩ = some (.int .i64 a1_0) ∧ w'.cell? ⟨w.heap.size + 1, 1, none⟩ = some (.int .i64 a1_1) ∧ w'.cell? ⟨w.heap.size + 1, 2, none⟩ = some (.slice (some ad) l1_2.length c1_2) ∧ w'.cell? ⟨g6, 0, none⟩ = some (.int .i64 a0_0) ∧ w'.cell? ⟨g6, 1, none⟩ = some (.int .i64 a0_1) ∧ w'.cell? ⟨g6, 2, none⟩ = some (.slice (some ⟨g7, 0, none⟩) l0_2.length co)) (ds := []) #[false, false, false, false, false, false, false, false, false, false, false, false, false, false, false, false, false, false] (by kernel_rfl) rfl rfl (buffer_combine.oc hS hO) (fun hHeld => ?_)
            have HT_ : Aside0 (rtab .any (opsOf Try.f59 10) = rtab .any (opsOf Try.f59 10)) := ⟨rfl⟩
            replace hu := Aside0.mk (Kd.R_drew hu.out)
            replace hO := Aside0.mk (blk_drew hO.out)
            replace hS := buffer_combine.St.below hS (below_drew (Below.refl _ _))
            generalize wr.drew = w9 at hu hO hS hHeld ⊢
            refine pv_ 0 80 #[true, false, false, false, false, false, false, false, false, false, false, false, false, false, false, false, false, false] HT_ ?_
            refine pv_ 2 82 #[true, false, true, false, false, false, false, false, false, false, false, false, false, false, false, false, false, false] HT_ ?_
            refine pv_ 3 83 #[true, false, true, true, false, false, false, false, false, false, false, false, false, false, false, false, false, false] HT_ ?_
            refine pv_ 4 84 #[true, false, true, true, true, false, false, false, false, false, false, false, false, false, false, false, false, false] HT_ ?_
            refine pv_ 7 87 #[true, false, true, true, true, false, false, true, false, false, false, false, false, false, false, false, false, false] HT_ ?_
            refine pv_ 8 88 #[true, false, true, true, true, false, false, true, true, false, false, false, false, false, false, false, false, false] HT_ ?_
            refine pv_ 9 89 #[true, false, true, true, true, false, false, true, true, true, false, false, false, false, false, false, false, false] HT_ ?_
            refine pv_ 10 90 #[true, false, true, true, true, false, false, true, true, true, true, false, false, false, false, false, false, false] HT_ ?_
            refine pv_ 11 91 #[true, false, true, true, true, false, false, true, true, true, true, true, false, false, false, false, false, false] HT_ ?_
            refine pv_ 12 92 #[true, false, true, true, true, false, false, true, true, true, true, true, true, false, false, false, false, false] HT_ ?_
            refine pv_ 13 93 #[true, false, true, true, true, false, false, true, true, true, true, true, true, true, false, false, false, false] HT_ ?_
            refine pv_ 14 94 #[true, false, true, true, true, false, false, true, true, true, true, true, true, true, true, false, false, false] HT_ ?_
            refine pv_ 15 95 #[true, false, true, true, true, false, false, true, true, true, true, true, true, true, true, true, false, false] HT_ ?_
            refine take_ (i := 1) (N := some 81) (v := ?_) (a' := ?_) #[true, true, true, true, true, false, false, true, true, true, true, true, true, true, true, true, false, false] rfl rfl (take_of HT_.out (by kernel_rfl)) (fun _ _ _ h => h) (Or.inl ⟨by rfl, ?_⟩) hHeld ?_ ?_
            rotate_left
            · rintro w' ⟨s0, s1, s2, s3, s4, s5⟩
              go_simp
              with_reducible rfl
            rotate_left
            · simp only [Act.put, List.setIfInBounds_toArray, List.set_cons_zero, List.set_cons_succ, i64_w, i32_w]
              rfl
            refine take_ (i := 6) (N := some 86) (v := ?_) (a' := ?_) #[true, true, true, true, true, false, true, true, true, true, true, true, true, true, true, true, false, false] rfl rfl (take_of HT_.out (by kernel_rfl)) (fun _ _ _ h => h) (Or.inl ⟨by rfl, ?_⟩) hHeld ?_ ?_
            rotate_left
            · rintro w' ⟨s0, s1, s2, s3, s4, s5⟩
              go_simp
              with_reducible rfl
            rotate_left
            · simp only [Act.put, List.setIfInBounds_toArray, List.set_cons_zero, List.set_cons_succ, i64_w, i32_w]
              rfl
            refine one_ (i := 5) (N := some 85) #[true, true, true, true, true, true, true, true, true, true, true, true, true, true, true, true, false, false] rfl rfl (one_of HT_.out (by kernel_rfl)) (by decide) (fun K hK => ?_)
            refine goes_ Try.func57 (by kernel_rfl) rfl #[.agg #[.int .i64 a0_0, .int .i64 a0_1, .slice (some ⟨g7, 0, none⟩) l0_2.length co], .int .i64 (T + k), .int .i64 X, .int .i64 M] (by rfl) rfl rfl (by (try simp only [List.map_toArray, List.map_cons, List.map_nil]); first | done | rfl) ?_
            refine (buffer_row.calls a0_0 a0_1 (T + k) X M ⟨g7, 0, none⟩ l0_2.length co lo (lo + n) _ hlo.out hhi.out (Nat.lt_add_of_pos_right hn0.out) hhc.out).mono ?_
            rintro e w10 ⟨rfl, hb1⟩
            refine ⟨_, rfl, ?_⟩
            rw [add_plain, Nat.add_sub_cancel_left]
            replace hS := buffer_combine.St.below hS hb1
            replace hO := Aside0.mk (blk_below hO.out hb1)
            replace hu := Aside0.mk (Kd.R_below hu.out hb1)
            clear hb1
            refine hK.out _ _ (buffer_combine.oc hS hO) (fun hHeld => ?_)
            clear hK K
            refine norm_ (a' := ?_) ?_ ?_
            rotate_left
            · show Act.put _ (some 85) _ = _
              simp only [Act.put, List.setIfInBounds_toArray, List.set_cons_zero, List.set_cons_succ, i64_w, i32_w]
              rfl
            refine one_ (i := 16) (N := some 96) #[true, true, true, true, true, true, true, true, true, true, true, true, true, true, true, true, true, false] rfl rfl (one_of HT_.out (by kernel_rfl)) (by decide) (fun K hK => ?_)
            refine goes_ Try.func57 (by kernel_rfl) rfl #[.agg #[.int .i64 a1_0, .int .i64 a1_1, .slice (some ad) l1_2.length c1_2], .int .i64 (wrap64 (T + k - y)), .int .i64 (wrap64 (X - x)), .int .i64 (wrap64 (M - x))] (by rfl) rfl rfl (by (try simp only [List.map_toArray, List.map_cons, List.map_nil]); first | done | rfl) ?_
            rw [j9.out, j10.out, j11.out]
            refine (buffer_row.calls a1_0 a1_1 (T + k - y) (X - x) (M - x) ad l1_2.length c1_2 so (so + n) _ hso.out hsi.out (Nat.lt_add_of_pos_right hn0.out) hsc.out).mono ?_
            rintro e w11 ⟨rfl, hb1⟩
            refine ⟨_, rfl, ?_⟩
            rw [Nat.add_sub_cancel_left]
            replace hS := buffer_combine.St.below hS hb1
            replace hO := Aside0.mk (blk_below hO.out hb1)
            replace hu := Aside0.mk (Kd.R_below hu.out hb1)
            clear hb1
            refine hK.out _ _ (buffer_combine.oc hS hO) (fun hHeld => ?_)
            clear hK K
            refine norm_ (a' := ?_) ?_ ?_
            rotate_left
            · show Act.put _ (some 96) _ = _
              simp only [Act.put, List.setIfInBounds_toArray, List.set_cons_zero, List.set_cons_succ, i64_w, i32_w]
              rfl
            refine one_ (i := 17) (N := some 97) #[true, true, true, true, true, true, true, true, true, true, true, true, true, true, true, true, true, true] rfl rfl (one_of HT_.out (by kernel_rfl)) (by decide) (fun K hK => ?_)
            refine goesV_ hf hname hbody (#[.slice (some ⟨g7, lo * 4, none⟩) n n, .slice (some (ad.add (so * 4))) n n] ++ caps) (by rfl) rfl rfl rfl (by (try simp only [List.map_toArray, List.map_cons, List.map_nil]); rfl) ?_
            have hLr := hlen.out
            have hcall := hCl.out w11 g7 lo n co (ad.add (so * 4)) lr ((l1_2.drop so).take n) hS.out.2.2.2 (Nat.le_of_lt (Nat.lt_of_le_of_lt (by omega) hG7.out.1)) (by rw [hLr]; exact hu.out) (midC hR1.out hn0.out hsl.out hc1_2) hn0.out (by rw [hLr]; exact hll.out)
            refine hcall.mono ?_
            rintro e w13 ⟨rfl, hu3, hg3⟩
            refine ⟨_, rfl, ?_⟩
            rw [← hrs.out, hLr] at hu3
            replace hS := buffer_combine.St.row hS hg3 hG7.out.1
            replace hO := Aside0.mk (blk_grown hO.out hg3 (by simp only [ne_eq, Option.some.injEq]; exact hG7.out.2))
            replace hu := Aside0.mk hu3
            clear hu3 hg3 hcall
            refine hK.out _ _ (buffer_combine.oc hS hO) (fun hHeld => ?_)
            clear hK K
            refine norm_ (a' := ?_) ?_ ?_
            rotate_left
            · show Act.put _ (some 97) _ = _
              simp only [Act.put, List.setIfInBounds_toArray, List.set_cons_zero, List.set_cons_succ, i64_w, i32_w]
              rfl
            refine done_ (done_of HT_.out (by kernel_rfl)) ?_
            have hk2 := hk1.out
            try go_wp2
            go_roundw
            case measure => simp [intOf, hk2]; omega
            case rel =>
              exact ⟨k + 1, hkm.out, by rw [Int.natCast_add, ← Int.add_assoc]; rfl, hu⟩
          · obtain rfl : k = m := by omega
            have hlt' : ¬ T + (k : Int) < B := by have := hB0.out; omega
            obtain ⟨⟨z0, z1, z2⟩, f0, f1, f2⟩ := buffer_combine.St.zero hS
            have o0 : wr.cell? ⟨g6, 0, none⟩ = some (.int .i64 a0_0) := (blk_cell hO.out 0).trans rfl
            have o1 : wr.cell? ⟨g6, 1, none⟩ = some (.int .i64 a0_1) := (blk_cell hO.out 1).trans rfl
            have o2 : wr.cell? ⟨g6, 2, none⟩ = some (.slice (some ⟨g7, 0, none⟩) l0_2.length co) := (blk_cell hO.out 2).trans rfl
            clear hlt
            go_wp2
            refine bodyPost_ret (results_ct rfl _ _ (w.heap.size + 1 + 1) 27 #[.int .i64 a0_0, .int .i64 a0_1, .slice (some ⟨g7, 0, none⟩) l0_2.length co] (0, 0) _ rfl (retBuf hS.out.2.2.1 _ _ _) Try.underlying27 rfl (by kernel_rfl)) rfl ⟨_, rfl, ?_, below_set (below_set (below_set hS.out.2.2.2 (by omega)) (by omega)) (by omega)⟩
            obtain ⟨e1, e2, e3, e4⟩ := hN.out
            obtain ⟨e5, e6, e7, e8, e9, e10, e11, e12⟩ := hD.out
            unfold buffer_combine.all
            rw [e1, e2, e3, e4, ← e5, ← e6, ← e7, ← e8, ← e9, ← e10, ← e11, ← e12]
            exact retBufR hS.out.2.2.1 hu.out
end
end Go.Proofs.Ytmockeaiccpogaa.All
end
section
namespace Go.Proofs.Ytmockeaiccpogaa.All
open Go.RowKit Go.Proofs.YtmockeaiccpogaaW.PrintWords Go.Proofs.YtmockeaiccpogaaW.PrintLast Go.Proofs.YtmockeaiccpogaaW.PrintMore
attribute [local go_sem] max2_int min2_int max_two min_two max_three min_three max_four min_four
set_option linter.unusedVariables false
set_option linter.unusedSimpArgs false
section
open Go.Proofs.YtmockeaiccpogaaHand Go.Proofs.YtmockeaiccpogaaSq
theorem buffer_Paste.lit_calls (w W : World) (g lo n cap base : Nat) (sa : Addr) (l sr : List S43) (hb : Below w.heap.size w W) (hR : Kd.R k43 43 W base (fun _ => True) (.slice (some ⟨g, 0, none⟩) l.length cap) l) (hC : Kd.C k43 w (some sa) n sr) (hn : 0 < n) (hfit : lo + n ≤ l.length) :
    Calls Try.prog 60 #[.slice (some ⟨g, lo * 4, none⟩) n n, .slice (some sa) n n] W fun e w' => e = .returned (.tuple #[]) ∧ Kd.R k43 43 w' base (fun _ => True) (.slice (some ⟨g, 0, none⟩) l.length cap) (over l lo sr) ∧ W.grownBy w' (some g) := by
  have hC2 := pcells_at (Kd.C_below hC hb)
  have hln := hC.1
  go_enter Try.func60, Try.ntmps60
  go_wp2_with (first | ((with_reducible refine gate_builtin (b := .copy) (xs := #[.tmp 4, .tmp 5]) rfl ?_); refine copyR rfl (.tmp 4) (.tmp 5) rfl rfl rfl hR hC2 ?hn ?hf ?_; (case hn => rw [hln]; exact (Nat.min_self n).symm); (case hf => omega); intro w2 hR2 hg2))
  go_end0
  exact ⟨rfl, hR2, hg2⟩
def buffer_Paste.f (a0_0 a0_1 : Int) (l : List S43) (a1_0 a1_1 : Int) (s : List S43) (x y : Int) : Option (Int × Int × List S43 × Int) := buffer_combine.g (fun _ s => s) a0_0 a0_1 l a1_0 a1_1 s x y
set_option maxHeartbeats 2000000 in
theorem buffer_Paste.calls (a0_0 a0_1 : Int) (A0_2 : Option Addr) (c0_2 : Nat) (l0_2 : List S43) (a1_0 a1_1 : Int) (A1_2 : Option Addr) (c1_2 : Nat) (l1_2 : List S43) (x y : Int) (r1 r2 : Int) (r3 : List S43) (r4 : Int) (w : World) (hr0_2 : Kd.C k43 w A0_2 l0_2.length l0_2) (hc0_2 : l0_2.length ≤ c0_2) (hr1_2 : Kd.C k43 w A1_2 l1_2.length l1_2) (hc1_2 : l1_2.length ≤ c1_2)
    (h : buffer_Paste.f a0_0 a0_1 l0_2 a1_0 a1_1 l1_2 x y = some (r1, r2, r3, r4)) :
    Calls Try.prog 32 #[.agg #[.int .i64 a0_0, .int .i64 a0_1, .slice A0_2 l0_2.length c0_2], .agg #[.int .i64 a1_0, .int .i64 a1_1, .slice A1_2 l1_2.length c1_2], .int .i64 x, .int .i64 y] w fun e w' => ∃ v2_ : Value, e = .returned (.tuple #[.agg #[.int .i64 r1, .int .i64 r2, v2_], .int .i64 r4]) ∧ Kd.R k43 43 w' w.heap.size (fun _ => True) v2_ r3 ∧ Below w.heap.size w w' := by
  have hh := Aside0.mk h
  clear h
  go_enter Try.func32, Try.ntmps32
  go_wp2_with fail
  obtain ⟨hA0, hB0, hC0, hD0⟩ := allocs3 w (Obj.cells #[.int .i64 a0_0, .int .i64 a0_1, .slice A0_2 l0_2.length c0_2] 27) (Obj.cells #[.int .i64 a1_0, .int .i64 a1_1, .slice A1_2 l1_2.length c1_2] 27) (Obj.cells #[.int .i64 0, .int .i64 0, .slice none 0 0] 27)
  generalize ((w.alloc (Obj.cells #[.int .i64 a0_0, .int .i64 a0_1, .slice A0_2 l0_2.length c0_2] 27)).alloc (Obj.cells #[.int .i64 a1_0, .int .i64 a1_1, .slice A1_2 l1_2.length c1_2] 27)).alloc (Obj.cells #[.int .i64 0, .int .i64 0, .slice none 0 0] 27) = V at hA0 hB0 hC0 hD0 ⊢
  have hR0 := Aside0.mk (Kd.C_below hr0_2 hD0)
  have hR1 := Aside0.mk (Kd.C_below hr1_2 hD0)
  have hC := Aside0.mk hC0
  have hD := Aside0.mk hD0
  clear hA0 hB0 hC0 hD0 hr0_2 hr1_2
  refine (buffer_combine.calls (fun _ s => s) (fun d s h => h) 60 Try.f60 #[] Try.func60 (by kernel_rfl) rfl a0_0 a0_1 A0_2 c0_2 l0_2 a1_0 a1_1 A1_2 c1_2 l1_2 x y r1 r2 r3 r4 V hR0.out hc0_2 hR1.out hc1_2 ?hcl hh.out).mono ?_
  case hcl =>
    intro W g lo n cap sa l sr hb hg hR hC hn hl
    exact buffer_Paste.lit_calls V W g lo n cap V.heap.size sa l sr hb hR hC hn hl
  rintro e w1 ⟨v, rfl, hv, hb1⟩
  obtain ⟨Ao, co, eo⟩ := Kd.R_slice hv
  subst eo
  have hu := Aside0.mk (Kd.R_lower hv hD.out.size)
  replace hC := Aside0.mk (blk_below hC.out hb1)
  replace hD := Aside0.mk (below_step hD.out hb1)
  clear hv hb1 hR0 hR1
  have z0 := (blk_cell hC.out 0).trans rfl
  have z1 := (blk_cell hC.out 1).trans rfl
  have z2 := (blk_cell hC.out 2).trans rfl
  have f0 := blk_frozen hC.out 0
  have f1 := blk_frozen hC.out 1
  have f2 := blk_frozen hC.out 2
  go_wp2
  exact bodyPost_ret (results_ct rfl _ _ (w.heap.size + 1 + 1) 27 #[.int .i64 r1, .int .i64 r2, .slice Ao r3.length co] (0, 0) _ rfl (retBuf hC.out _ _ _) Try.underlying27 rfl (by kernel_rfl)) rfl ⟨_, rfl, retBufR hC.out hu.out, below_set (below_set (below_set hD.out (by omega)) (by omega)) (by omega)⟩
end
end Go.Proofs.Ytmockeaiccpogaa.All
end
section
namespace Go.Proofs.Ytmockeaiccpogaa.All
open Go.RowKit Go.Proofs.YtmockeaiccpogaaW.PrintWords Go.Proofs.YtmockeaiccpogaaW.PrintLast Go.Proofs.YtmockeaiccpogaaW.PrintMore
attribute [local go_sem] max2_int min2_int max_two min_two max_three min_three max_four min_four
set_option linter.unusedVariables false
set_option linter.unusedSimpArgs false
section
open Go.Proofs.YtmockeaiccpogaaHand
def pixel_Scale.pr (a b : Int) : Int := (wrap64 (Int.tdiv (wrap64 ((wrap64 ((wrap64 (a)) * (wrap64 (b)))) + 127)) 255)) % 256
theorem pixel_Scale.product_calls (a0 a1 : Int) (w : World) : Calls Try.prog 79 #[.int .u8 a0, .int .u8 a1] w fun e w' => e = .returned (.int .u8 (pixel_Scale.pr a0 a1)) ∧ w' = w := by
  go_enter Try.func79, Try.ntmps79
  go_wp2
  go_ret
  exact ⟨rfl, rfl⟩
theorem pixel_Scale.lit_calls (a0 k : Int) (g : Nat) (w : World) (hk : w.cell? ⟨g, 0, none⟩ = some (.int .u8 k)) : Calls Try.prog 78 #[.int .u8 a0, .pointer (some ⟨g, 0, none⟩)] w fun e w' => e = .returned (.int .u8 (pixel_Scale.pr a0 k)) ∧ w' = w := by
  go_enter Try.func78, Try.ntmps78
  go_wp2_with (go_at_call 79; refine (pixel_Scale.product_calls _ _ _).mono ?_; rintro e w' ⟨rfl, rfl⟩)
  go_ret
  exact ⟨rfl, rfl⟩
set_option maxHeartbeats 2000000 in
theorem pixel_Scale.each_calls (a b c d k : Int) (g : Nat) (w : World) (hk : w.cell? ⟨g, 0, none⟩ = some (.int .u8 k)) : Calls Try.prog 77 #[.agg #[.int .u8 a, .int .u8 b, .int .u8 c, .int .u8 d], .func (Fn.func 78) #[] #[.pointer (some ⟨g, 0, none⟩)]] w fun e w' => e = .returned (.agg #[.int .u8 (pixel_Scale.pr a k), .int .u8 (pixel_Scale.pr b k), .int .u8 (pixel_Scale.pr c k), .int .u8 (pixel_Scale.pr d k)]) ∧ Below w.heap.size w w' := by
  go_enter Try.func77, Try.ntmps77
  go_wp2_with fail
  have hg : g < w.heap.size := World.block_lt_of_cell? w _ hk
  have F : ∀ W : World, W = (w.alloc (Obj.cells #[Value.int IntKind.u8 a, Value.int IntKind.u8 b, Value.int IntKind.u8 c, Value.int IntKind.u8 d] 43)).alloc (Obj.cells #[Value.int IntKind.u8 0, Value.int IntKind.u8 0, Value.int IntKind.u8 0, Value.int IntKind.u8 0] 43) →
     W.cell? ⟨g, 0, none⟩ = some (.int .u8 k) ∧ W.cell? ⟨w.heap.size, 0, none⟩ = some (.int .u8 a) ∧ W.cell? ⟨w.heap.size, 1, none⟩ = some (.int .u8 b) ∧ W.cell? ⟨w.heap.size, 2, none⟩ = some (.int .u8 c) ∧ W.cell? ⟨w.heap.size, 3, none⟩ = some (.int .u8 d) ∧ W.heap[w.heap.size + 1]? = some (.cells #[Value.int IntKind.u8 0, Value.int IntKind.u8 0, Value.int IntKind.u8 0, Value.int IntKind.u8 0] 43 (0, 0)) ∧ Below w.heap.size w W := by
    rintro W rfl
    refine ⟨?_, ?_, ?_, ?_, ?_, ?_, ?_⟩
    · rw [World.cell?_alloc_past _ _ _ (by simp; omega), World.cell?_alloc_past _ _ _ (by omega)]; exact hk
    · rw [World.cell?_alloc_past _ _ _ (by simp)]; exact (blk_cell (blk_new w _) 0).trans rfl
    · rw [World.cell?_alloc_past _ _ _ (by simp)]; exact (blk_cell (blk_new w _) 1).trans rfl
    · rw [World.cell?_alloc_past _ _ _ (by simp)]; exact (blk_cell (blk_new w _) 2).trans rfl
    · rw [World.cell?_alloc_past _ _ _ (by simp)]; exact (blk_cell (blk_new w _) 3).trans rfl
    · have := blk_new (w.alloc (Obj.cells #[Value.int IntKind.u8 a, Value.int IntKind.u8 b, Value.int IntKind.u8 c, Value.int IntKind.u8 d] 43)) (Obj.cells #[Value.int IntKind.u8 0, Value.int IntKind.u8 0, Value.int IntKind.u8 0, Value.int IntKind.u8 0] 43)
      simpa using this
    · exact below_alloc (below_alloc (Below.refl _ _) _) _
  generalize (w.alloc (Obj.cells #[Value.int IntKind.u8 a, Value.int IntKind.u8 b, Value.int IntKind.u8 c, Value.int IntKind.u8 d] 43)).alloc (Obj.cells #[Value.int IntKind.u8 0, Value.int IntKind.u8 0, Value.int IntKind.u8 0, Value.int IntKind.u8 0] 43) = W at *
  obtain ⟨h0, h1, h2, h3, h4, hB, hBel⟩ := F W rfl
  clear F hk
  go_still_tail 17, (by kernel_rfl)
  still_call (pixel_Scale.lit_calls a k g _ (by exact h0))
  repeat still_step
  still_call (pixel_Scale.lit_calls b k g _ (by exact h0))
  repeat still_step
  still_call (pixel_Scale.lit_calls c k g _ (by exact h0))
  repeat still_step
  still_call (pixel_Scale.lit_calls d k g _ (by exact h0))
  repeat still_step
  refine wpStill_nil ?_
  change wpList _ _ _ _ _ W.drew
  have hB2 : W.drew.heap[w.heap.size + 1]? = some (.cells #[Value.int IntKind.u8 0, Value.int IntKind.u8 0, Value.int IntKind.u8 0, Value.int IntKind.u8 0] 43 (0, 0)) := hB
  have hBel2 := below_drew hBel
  clear h0 h1 h2 h3 h4 hBel hB
  generalize W.drew = W2 at hB2 hBel2 ⊢
  have hc0 := (blk_cell hB2 0).trans rfl
  have hc1 := (blk_cell hB2 1).trans rfl
  have hc2 := (blk_cell hB2 2).trans rfl
  have hc3 := (blk_cell hB2 3).trans rfl
  have hf0 := blk_frozen hB2 0
  have hf1 := blk_frozen hB2 1
  have hf2 := blk_frozen hB2 2
  have hf3 := blk_frozen hB2 3
  have hB3 := Aside0.mk hB2
  clear hB2
  go_wp2
  refine bodyPost_ret (results_cell_row rfl _ _ (w.heap.size + 1) 43 #[.int .u8 (pixel_Scale.pr a k), .int .u8 (pixel_Scale.pr b k), .int .u8 (pixel_Scale.pr c k), .int .u8 (pixel_Scale.pr d k)] (0, 0) _ rfl (by
    refine blk_put (cs := #[.int .u8 (pixel_Scale.pr a k), .int .u8 (pixel_Scale.pr b k), .int .u8 (pixel_Scale.pr c k), .int .u8 0]) ?_ 3 _ rfl
    refine blk_put (cs := #[.int .u8 (pixel_Scale.pr a k), .int .u8 (pixel_Scale.pr b k), .int .u8 0, .int .u8 0]) ?_ 2 _ rfl
    refine blk_put (cs := #[.int .u8 (pixel_Scale.pr a k), .int .u8 0, .int .u8 0, .int .u8 0]) ?_ 1 _ rfl
    refine blk_put (cs := #[.int .u8 0, .int .u8 0, .int .u8 0, .int .u8 0]) ?_ 0 _ rfl
    exact hB3.out) Try.underlying43 rfl (by kernel_rfl)) rfl ?_
  refine ⟨rfl, ?_⟩
  repeat (first | exact hBel2 | refine below_set ?_ (by omega))
def pixel_Scale.f (a0_0 a0_1 a0_2 a0_3 a1 : Int) : Option (Int × Int × Int × Int) := (pixel_Clamp.f a0_0 a0_1 a0_2 a0_3).bind fun c => some (pixel_Scale.pr c.1 a1, pixel_Scale.pr c.2.1 a1, pixel_Scale.pr c.2.2.1 a1, pixel_Scale.pr c.2.2.2 a1)
set_option maxHeartbeats 2000000 in
theorem pixel_Scale.calls (a0_0 a0_1 a0_2 a0_3 a1 r1 r2 r3 r4 : Int) (w : World) (h : pixel_Scale.f a0_0 a0_1 a0_2 a0_3 a1 = some (r1, r2, r3, r4)) :
    Calls Try.prog 72 #[.agg #[.int .u8 a0_0, .int .u8 a0_1, .int .u8 a0_2, .int .u8 a0_3], .int .u8 a1] w fun e w' => e = .returned (.agg #[.int .u8 r1, .int .u8 r2, .int .u8 r3, .int .u8 r4]) ∧ Below w.heap.size w w' := by
  obtain ⟨⟨c0, c1, c2, c3⟩, hcl0, h⟩ := Option.bind_eq_some_iff.mp h
  obtain ⟨rfl, rfl, rfl, rfl⟩ : pixel_Scale.pr c0 a1 = r1 ∧ pixel_Scale.pr c1 a1 = r2 ∧ pixel_Scale.pr c2 a1 = r3 ∧ pixel_Scale.pr c3 a1 = r4 := by simpa using h
  have hcl := Aside0.mk hcl0
  clear hcl0 h
  go_enter Try.func72, Try.ntmps72
  go_wp2_with fail
  obtain ⟨-, hK0, hR0, hb0⟩ := allocs3 w (Obj.cells #[Value.int IntKind.u8 a0_0, Value.int IntKind.u8 a0_1, Value.int IntKind.u8 a0_2, Value.int IntKind.u8 a0_3] 43) (Obj.cells #[.int .u8 a1] 5) (Obj.cells #[Value.int IntKind.u8 0, Value.int IntKind.u8 0, Value.int IntKind.u8 0, Value.int IntKind.u8 0] 43)
  generalize ((w.alloc (Obj.cells #[Value.int IntKind.u8 a0_0, Value.int IntKind.u8 a0_1, Value.int IntKind.u8 a0_2, Value.int IntKind.u8 a0_3] 43)).alloc (Obj.cells #[.int .u8 a1] 5)).alloc (Obj.cells #[Value.int IntKind.u8 0, Value.int IntKind.u8 0, Value.int IntKind.u8 0, Value.int IntKind.u8 0] 43) = W at hK0 hR0 hb0 ⊢
  have hK := Aside0.mk hK0
  have hR := Aside0.mk hR0
  have hb := Aside0.mk hb0
  clear hK0 hR0 hb0
  refine (pixel_Clamp.calls _ _ _ _ c0 c1 c2 c3 W hcl.out).mono ?_
  rintro e w1 ⟨rfl, hb1⟩
  have hb2 := Aside0.mk hb1
  clear hb1
  go_wp2_with fail
  refine (pixel_Scale.each_calls c0 c1 c2 c3 a1 (w.heap.size + 1) w1 ((blk_cell (blk_below hK.out hb2.out) 0).trans rfl)).mono ?_
  rintro e w2 ⟨rfl, hb3⟩
  have hB3 := Aside0.mk (blk_below (blk_below hR.out hb2.out) hb3)
  have hBel2 := Aside0.mk (below_then (below_then hb.out (by have := hb.out.size; omega) hb2.out) (by have := hb.out.size; have := hb2.out.size; omega) hb3)
  clear hb3
  have hc0 := (blk_cell hB3.out 0).trans rfl
  have hc1 := (blk_cell hB3.out 1).trans rfl
  have hc2 := (blk_cell hB3.out 2).trans rfl
  have hc3 := (blk_cell hB3.out 3).trans rfl
  have hf0 := blk_frozen hB3.out 0
  have hf1 := blk_frozen hB3.out 1
  have hf2 := blk_frozen hB3.out 2
  have hf3 := blk_frozen hB3.out 3
  go_wp2
  refine bodyPost_ret (results_cell_row rfl _ _ (w.heap.size + 1 + 1) 43 #[.int .u8 (pixel_Scale.pr c0 a1), .int .u8 (pixel_Scale.pr c1 a1), .int .u8 (pixel_Scale.pr c2 a1), .int .u8 (pixel_Scale.pr c3 a1)] (0, 0) _ rfl (by
    refine blk_put (cs := #[.int .u8 (pixel_Scale.pr c0 a1), .int .u8 (pixel_Scale.pr c1 a1), .int .u8 (pixel_Scale.pr c2 a1), .int .u8 0]) ?_ 3 _ rfl
    refine blk_put (cs := #[.int .u8 (pixel_Scale.pr c0 a1), .int .u8 (pixel_Scale.pr c1 a1), .int .u8 0, .int .u8 0]) ?_ 2 _ rfl
    refine blk_put (cs := #[.int .u8 (pixel_Scale.pr c0 a1), .int .u8 0, .int .u8 0, .int .u8 0]) ?_ 1 _ rfl
    refine blk_put (cs := #[.int .u8 0, .int .u8 0, .int .u8 0, .int .u8 0]) ?_ 0 _ rfl
    exact hB3.out) Try.underlying43 rfl (by kernel_rfl)) rfl ?_
  refine ⟨rfl, ?_⟩
  repeat (first | exact hBel2.out | refine below_set ?_ (by omega))
end
def pixel_Over.f (a0_0 : Int) (a0_1 : Int) (a0_2 : Int) (a0_3 : Int) (a1_0 : Int) (a1_1 : Int) (a1_2 : Int) (a1_3 : Int) : Option (Int × Int × Int × Int) := (pixel_Clamp.f a0_0 a0_1 a0_2 a0_3).bind fun bt112 => ((pixel_Scale.f a1_0 a1_1 a1_2 a1_3 ((255 - bt112.2.2.2) % 256)).bind fun bt116 => (some ((bt112.1 + bt116.1) % 256, (bt112.2.1 + bt116.2.1) % 256, (bt112.2.2.1 + bt116.2.2.1) % 256, (bt112.2.2.2 + bt116.2.2.2) % 256)))
set_option maxHeartbeats 8000000 in
set_option maxRecDepth 100000 in
theorem pixel_Over.calls (a0_0 : Int) (a0_1 : Int) (a0_2 : Int) (a0_3 : Int) (a1_0 : Int) (a1_1 : Int) (a1_2 : Int) (a1_3 : Int) (r1 : Int) (r2 : Int) (r3 : Int) (r4 : Int) (w : World) (h : pixel_Over.f a0_0 a0_1 a0_2 a0_3 a1_0 a1_1 a1_2 a1_3 = some (r1, r2, r3, r4)) :
    Calls Try.prog 63 #[.agg #[.int .u8 a0_0, .int .u8 a0_1, .int .u8 a0_2, .int .u8 a0_3], .agg #[.int .u8 a1_0, .int .u8 a1_1, .int .u8 a1_2, .int .u8 a1_3]] w fun e w' => e = .returned (.agg #[.int .u8 r1, .int .u8 r2, .int .u8 r3, .int .u8 r4]) ∧ Below w.heap.size w w' := by
  have hu43 := Try.underlying43
  have HB := Aside0.mk (Below.refl w.heap.size w)
  have H : ((pixel_Clamp.f a0_0 a0_1 a0_2 a0_3).bind fun bt112 => ((pixel_Scale.f a1_0 a1_1 a1_2 a1_3 ((255 - bt112.2.2.2) % 256)).bind fun bt116 => (some ((bt112.1 + bt116.1) % 256, (bt112.2.1 + bt116.2.1) % 256, (bt112.2.2.1 + bt116.2.2.1) % 256, (bt112.2.2.2 + bt116.2.2.2) % 256)))) = some (r1, r2, r3, r4) := h
  clear h
  replace H := Option.bind_eq_some_iff.mp H
  obtain ⟨⟨t112, t113, t114, t115⟩, A30, H⟩ := H
  replace H : ((pixel_Scale.f a1_0 a1_1 a1_2 a1_3 ((255 - t115) % 256)).bind fun bt116 => (some ((t112 + bt116.1) % 256, (t113 + bt116.2.1) % 256, (t114 + bt116.2.2.1) % 256, (t115 + bt116.2.2.2) % 256))) = some (r1, r2, r3, r4) := H
  have A3 := Aside0.mk A30
  clear A30
  replace H := Option.bind_eq_some_iff.mp H
  obtain ⟨⟨t116, t117, t118, t119⟩, A40, H⟩ := H
  replace H : (some ((t112 + t116) % 256, (t113 + t117) % 256, (t114 + t118) % 256, (t115 + t119) % 256)) = some (r1, r2, r3, r4) := H
  have A4 := Aside0.mk A40
  clear A40
  simp only [Option.some.injEq, Prod.mk.injEq] at H
  obtain ⟨rfl, rfl, rfl, rfl⟩ := H
  go_enter Try.func63, Try.ntmps63
  go_wp2_with (first | ((with_reducible refine gate_dst (N := 2) rfl ?_); refine box_event ?hg (N := 2) ?hd (cs := #[.int .u8 a0_0, .int .u8 a0_1, .int .u8 a0_2, .int .u8 a0_3]) (t := 43) ?hr ?_; (case hd => rfl); (case hg => rfl); (case hr => first | (go_simp; done) | (go_simp; rfl)); intro gb109 hg w5 hbox hb; have n0_ := Aside0.mk (below_step (by repeat (first | (with_reducible first | exact HB.out | apply below_alloc | apply pw_below_drewN | apply below_drew1) | exact HB.out)) hb); have n1_ := Aside0.mk (hbox); have n2_ := Aside0.mk ((by rw [hg]; exact (below_size (by repeat (first | (with_reducible first | exact HB.out | apply below_alloc | apply pw_below_drewN | apply below_drew1) | exact HB.out))) : w.heap.size ≤ gb109)); have n3_ := Aside0.mk ((by rw [hg]; exact (below_size (by repeat (first | (with_reducible first | exact HB.out | apply below_alloc | apply pw_below_drewN | apply below_drew1) | exact HB.out))) : w.heap.size ≤ gb109)); clear HB; have HB := n0_; have BK109 := n1_; have GW109 := n2_; have GE109 := n3_; clear n0_ n1_ n2_ n3_; clear hb hbox hg) | ((with_reducible refine gate_dst (N := 3) rfl ?_); refine box_event ?hg (N := 3) ?hd (cs := #[.int .u8 a1_0, .int .u8 a1_1, .int .u8 a1_2, .int .u8 a1_3]) (t := 43) ?hr ?_; (case hd => rfl); (case hg => rfl); (case hr => first | (go_simp; done) | (go_simp; rfl)); intro gb110 hg w6 hbox hb; have n0_ := Aside0.mk (blk_below (g := gb109) (o := .cells #[.int .u8 a0_0, .int .u8 a0_1, .int .u8 a0_2, .int .u8 a0_3] 43 (0, 0)) (by (with_reducible repeat (first | refine blk_drewN ?_ _ | refine blk_drew ?_ | refine blk_alloc ?_ _)); exact BK109.out) hb); have n1_ := Aside0.mk (below_step (by repeat (first | (with_reducible first | exact HB.out | apply below_alloc | apply pw_below_drewN | apply below_drew1 | refine below_set ?_ GE109.out) | exact HB.out)) hb); have n2_ := Aside0.mk (hbox); have n3_ := Aside0.mk ((by rw [hg]; exact (below_size (by repeat (first | (with_reducible first | exact HB.out | apply below_alloc | apply pw_below_drewN | apply below_drew1 | refine below_set ?_ GE109.out) | exact HB.out))) : w.heap.size ≤ gb110)); have n4_ := Aside0.mk ((by rw [hg]; exact (below_size (by repeat (first | (with_reducible first | exact HB.out | apply below_alloc | apply pw_below_drewN | apply below_drew1 | refine below_set ?_ GE109.out) | exact HB.out))) : w.heap.size ≤ gb110)); have n5_ := Aside0.mk ((by rw [hg]; exact Nat.ne_of_lt (blk_lt (g := gb109) (o := .cells #[.int .u8 a0_0, .int .u8 a0_1, .int .u8 a0_2, .int .u8 a0_3] 43 (0, 0)) (by (with_reducible repeat (first | refine blk_drewN ?_ _ | refine blk_drew ?_ | refine blk_alloc ?_ _)); exact BK109.out)) : gb109 ≠ gb110)); have n6_ := Aside0.mk ((by rw [hg]; exact Nat.ne_of_gt (blk_lt (g := gb109) (o := .cells #[.int .u8 a0_0, .int .u8 a0_1, .int .u8 a0_2, .int .u8 a0_3] 43 (0, 0)) (by (with_reducible repeat (first | refine blk_drewN ?_ _ | refine blk_drew ?_ | refine blk_alloc ?_ _)); exact BK109.out)) : gb110 ≠ gb109)); clear BK109; clear HB; have BK109 := n0_; have HB := n1_; have BK110 := n2_; have GW110 := n3_; have GE110 := n4_; have NB109_110 := n5_; have NB110_109 := n6_; clear n0_ n1_ n2_ n3_ n4_ n5_ n6_; clear hb hbox hg) | ((with_reducible refine gate_dst (N := 4) rfl ?_); refine box_event ?hg (N := 4) ?hd (cs := #[.int .u8 0, .int .u8 0, .int .u8 0, .int .u8 0]) (t := 43) ?hr ?_; (case hd => rfl); (case hg => rfl); (case hr => first | (go_simp; done) | (go_simp; rfl)); intro gb111 hg w7 hbox hb; have n0_ := Aside0.mk (blk_below (g := gb109) (o := .cells #[.int .u8 a0_0, .int .u8 a0_1, .int .u8 a0_2, .int .u8 a0_3] 43 (0, 0)) (by (with_reducible repeat (first | refine blk_drewN ?_ _ | refine blk_drew ?_ | refine blk_alloc ?_ _)); exact BK109.out) hb); have n1_ := Aside0.mk (blk_below (g := gb110) (o := .cells #[.int .u8 a1_0, .int .u8 a1_1, .int .u8 a1_2, .int .u8 a1_3] 43 (0, 0)) (by (with_reducible repeat (first | refine blk_drewN ?_ _ | refine blk_drew ?_ | refine blk_alloc ?_ _)); exact BK110.out) hb); have n2_ := Aside0.mk (below_step (by repeat (first | (with_reducible first | exact HB.out | apply below_alloc | apply pw_below_drewN | apply below_drew1 | refine below_set ?_ GE109.out | refine below_set ?_ GE110.out) | exact HB.out)) hb); have n3_ := Aside0.mk (hbox); have n4_ := Aside0.mk ((by rw [hg]; exact (below_size (by repeat (first | (with_reducible first | exact HB.out | apply below_alloc | apply pw_below_drewN | apply below_drew1 | refine below_set ?_ GE109.out | refine below_set ?_ GE110.out) | exact HB.out))) : w.heap.size ≤ gb111)); have n5_ := Aside0.mk ((by rw [hg]; exact (below_size (by repeat (first | (with_reducible first | exact HB.out | apply below_alloc | apply pw_below_drewN | apply below_drew1 | refine below_set ?_ GE109.out | refine below_set ?_ GE110.out) | exact HB.out))) : w.heap.size ≤ gb111)); have n6_ := Aside0.mk ((by rw [hg]; exact Nat.ne_of_lt (blk_lt (g := gb109) (o := .cells #[.int .u8 a0_0, .int .u8 a0_1, .int .u8 a0_2, .int .u8 a0_3] 43 (0, 0)) (by (with_reducible repeat (first | refine blk_drewN ?_ _ | refine blk_drew ?_ | refine blk_alloc ?_ _)); exact BK109.out)) : gb109 ≠ gb111)); have n7_ := Aside0.mk ((by rw [hg]; exact Nat.ne_of_gt (blk_lt (g := gb109) (o := .cells #[.int .u8 a0_0, .int .u8 a0_1, .int .u8 a0_2, .int .u8 a0_3] 43 (0, 0)) (by (with_reducible repeat (first | refine blk_drewN ?_ _ | refine blk_drew ?_ | refine blk_alloc ?_ _)); exact BK109.out)) : gb111 ≠ gb109)); have n8_ := Aside0.mk ((by rw [hg]; exact Nat.ne_of_lt (blk_lt (g := gb110) (o := .cells #[.int .u8 a1_0, .int .u8 a1_1, .int .u8 a1_2, .int .u8 a1_3] 43 (0, 0)) (by (with_reducible repeat (first | refine blk_drewN ?_ _ | refine blk_drew ?_ | refine blk_alloc ?_ _)); exact BK110.out)) : gb110 ≠ gb111)); have n9_ := Aside0.mk ((by rw [hg]; exact Nat.ne_of_gt (blk_lt (g := gb110) (o := .cells #[.int .u8 a1_0, .int .u8 a1_1, .int .u8 a1_2, .int .u8 a1_3] 43 (0, 0)) (by (with_reducible repeat (first | refine blk_drewN ?_ _ | refine blk_drew ?_ | refine blk_alloc ?_ _)); exact BK110.out)) : gb111 ≠ gb110)); clear BK109; clear BK110; clear HB; have BK109 := n0_; have BK110 := n1_; have HB := n2_; have BK111 := n3_; have GW111 := n4_; have GE111 := n5_; have NB109_111 := n6_; have NB111_109 := n7_; have NB110_111 := n8_; have NB111_110 := n9_; clear n0_ n1_ n2_ n3_ n4_ n5_ n6_ n7_ n8_ n9_; clear hb hbox hg; have hnb8 := NB109_110.out; have hnc8 := NB110_109.out; have hnb9 := NB109_111.out; have hnc9 := NB111_109.out; have hcz10_0 : w7.cell? ⟨gb109, 0, none⟩ = some (.int .u8 a0_0) := (blk_cell BK109.out 0).trans rfl; have hcz10_1 : w7.cell? ⟨gb109, 1, none⟩ = some (.int .u8 a0_1) := (blk_cell BK109.out 1).trans rfl; have hcz10_2 : w7.cell? ⟨gb109, 2, none⟩ = some (.int .u8 a0_2) := (blk_cell BK109.out 2).trans rfl; have hcz10_3 : w7.cell? ⟨gb109, 3, none⟩ = some (.int .u8 a0_3) := (blk_cell BK109.out 3).trans rfl; have hfz10_0 := blk_frozen BK109.out 0; have hfz10_1 := blk_frozen BK109.out 1; have hfz10_2 := blk_frozen BK109.out 2; have hfz10_3 := blk_frozen BK109.out 3) | ((with_reducible refine gate_callee (f := 40) rfl ?_); refine goesL_ (some 6) rfl rfl Try.func40 (by kernel_rfl) rfl #[.agg #[.int .u8 a0_0, .int .u8 a0_1, .int .u8 a0_2, .int .u8 a0_3]] rfl (by (try simp only [List.map_toArray, List.map_cons, List.map_nil]); first | done | rfl | (simp only [List.length_drop, List.length_take]; rfl)) ?_; (with_reducible refine (pixel_Clamp.calls a0_0 a0_1 a0_2 a0_3 t112 t113 t114 t115 _ A3.out).mono ?_); rintro e w11 ⟨rfl, hb⟩; refine ⟨_, rfl, ?_⟩; have n0_ := Aside0.mk (blk_below (g := gb109) (o := .cells #[.int .u8 a0_0, .int .u8 a0_1, .int .u8 a0_2, .int .u8 a0_3] 43 (0, 0)) (by (with_reducible repeat (first | refine blk_drewN ?_ _ | refine blk_drew ?_ | refine blk_alloc ?_ _)); exact BK109.out) hb); have n1_ := Aside0.mk (blk_below (g := gb110) (o := .cells #[.int .u8 a1_0, .int .u8 a1_1, .int .u8 a1_2, .int .u8 a1_3] 43 (0, 0)) (by (with_reducible repeat (first | refine blk_drewN ?_ _ | refine blk_drew ?_ | refine blk_alloc ?_ _)); exact BK110.out) hb); have n2_ := Aside0.mk (blk_below (g := gb111) (o := .cells #[.int .u8 0, .int .u8 0, .int .u8 0, .int .u8 0] 43 (0, 0)) (by (with_reducible repeat (first | refine blk_drewN ?_ _ | refine blk_drew ?_ | refine blk_alloc ?_ _)); exact BK111.out) hb); have n3_ := Aside0.mk (below_step (by repeat (first | (with_reducible first | exact HB.out | apply below_alloc | apply pw_below_drewN | apply below_drew1 | refine below_set ?_ GE109.out | refine below_set ?_ GE110.out | refine below_set ?_ GE111.out) | exact HB.out)) hb); clear BK109; clear BK110; clear BK111; clear HB; have BK109 := n0_; have BK110 := n1_; have BK111 := n2_; have HB := n3_; clear n0_ n1_ n2_ n3_; (try clear hb); (try clear hb2); (try clear hk); (try clear hi); have hcz12_0 : w11.cell? ⟨gb109, 0, none⟩ = some (.int .u8 a0_0) := (blk_cell BK109.out 0).trans rfl; have hcz12_1 : w11.cell? ⟨gb109, 1, none⟩ = some (.int .u8 a0_1) := (blk_cell BK109.out 1).trans rfl; have hcz12_2 : w11.cell? ⟨gb109, 2, none⟩ = some (.int .u8 a0_2) := (blk_cell BK109.out 2).trans rfl; have hcz12_3 : w11.cell? ⟨gb109, 3, none⟩ = some (.int .u8 a0_3) := (blk_cell BK109.out 3).trans rfl; have hfz12_0 := blk_frozen BK109.out 0; have hfz12_1 := blk_frozen BK109.out 1; have hfz12_2 := blk_frozen BK109.out 2; have hfz12_3 := blk_frozen BK109.out 3; have hnb13 := NB110_111.out; have hnc13 := NB111_110.out; have hcz14_0 : w11.cell? ⟨gb110, 0, none⟩ = some (.int .u8 a1_0) := (blk_cell BK110.out 0).trans rfl; have hcz14_1 : w11.cell? ⟨gb110, 1, none⟩ = some (.int .u8 a1_1) := (blk_cell BK110.out 1).trans rfl; have hcz14_2 : w11.cell? ⟨gb110, 2, none⟩ = some (.int .u8 a1_2) := (blk_cell BK110.out 2).trans rfl; have hcz14_3 : w11.cell? ⟨gb110, 3, none⟩ = some (.int .u8 a1_3) := (blk_cell BK110.out 3).trans rfl; have hfz14_0 := blk_frozen BK110.out 0; have hfz14_1 := blk_frozen BK110.out 1; have hfz14_2 := blk_frozen BK110.out 2; have hfz14_3 := blk_frozen BK110.out 3) | ((with_reducible refine gate_callee (f := 72) rfl ?_); refine goesL_ (some 11) rfl rfl Try.func72 (by kernel_rfl) rfl #[.agg #[.int .u8 a1_0, .int .u8 a1_1, .int .u8 a1_2, .int .u8 a1_3], .int .u8 ((255 - t115) % 256)] rfl (by (try simp only [List.map_toArray, List.map_cons, List.map_nil]); first | done | rfl | (simp only [List.length_drop, List.length_take]; rfl)) ?_; (with_reducible refine (pixel_Scale.calls a1_0 a1_1 a1_2 a1_3 ((255 - t115) % 256) t116 t117 t118 t119 _ A4.out).mono ?_); rintro e w15 ⟨rfl, hb⟩; refine ⟨_, rfl, ?_⟩; have n0_ := Aside0.mk (blk_below (g := gb109) (o := .cells #[.int .u8 t112, .int .u8 t113, .int .u8 t114, .int .u8 t115] 43 (0, 0)) (by (with_reducible repeat (first | refine blk_drewN ?_ _ | refine blk_drew ?_ | refine blk_alloc ?_ _)); refine blk_put (cs := #[.int .u8 t112, .int .u8 t113, .int .u8 t114, .int .u8 a0_3]) ?_ 3 _ rfl; (with_reducible repeat (first | refine blk_drewN ?_ _ | refine blk_drew ?_ | refine blk_alloc ?_ _)); refine blk_put (cs := #[.int .u8 t112, .int .u8 t113, .int .u8 a0_2, .int .u8 a0_3]) ?_ 2 _ rfl; (with_reducible repeat (first | refine blk_drewN ?_ _ | refine blk_drew ?_ | refine blk_alloc ?_ _)); refine blk_put (cs := #[.int .u8 t112, .int .u8 a0_1, .int .u8 a0_2, .int .u8 a0_3]) ?_ 1 _ rfl; (with_reducible repeat (first | refine blk_drewN ?_ _ | refine blk_drew ?_ | refine blk_alloc ?_ _)); refine blk_put (cs := #[.int .u8 a0_0, .int .u8 a0_1, .int .u8 a0_2, .int .u8 a0_3]) ?_ 0 _ rfl; (with_reducible repeat (first | refine blk_drewN ?_ _ | refine blk_drew ?_ | refine blk_alloc ?_ _)); exact BK109.out) hb); have n1_ := Aside0.mk (blk_below (g := gb110) (o := .cells #[.int .u8 a1_0, .int .u8 a1_1, .int .u8 a1_2, .int .u8 a1_3] 43 (0, 0)) (by (with_reducible repeat (first | refine blk_drewN ?_ _ | refine blk_drew ?_ | refine blk_alloc ?_ _)); refine blk_far ?_ NB110_109.out _; (with_reducible repeat (first | refine blk_drewN ?_ _ | refine blk_drew ?_ | refine blk_alloc ?_ _)); refine blk_far ?_ NB110_109.out _; (with_reducible repeat (first | refine blk_drewN ?_ _ | refine blk_drew ?_ | refine blk_alloc ?_ _)); refine blk_far ?_ NB110_109.out _; (with_reducible repeat (first | refine blk_drewN ?_ _ | refine blk_drew ?_ | refine blk_alloc ?_ _)); refine blk_far ?_ NB110_109.out _; (with_reducible repeat (first | refine blk_drewN ?_ _ | refine blk_drew ?_ | refine blk_alloc ?_ _)); exact BK110.out) hb); have n2_ := Aside0.mk (blk_below (g := gb111) (o := .cells #[.int .u8 0, .int .u8 0, .int .u8 0, .int .u8 0] 43 (0, 0)) (by (with_reducible repeat (first | refine blk_drewN ?_ _ | refine blk_drew ?_ | refine blk_alloc ?_ _)); refine blk_far ?_ NB111_109.out _; (with_reducible repeat (first | refine blk_drewN ?_ _ | refine blk_drew ?_ | refine blk_alloc ?_ _)); refine blk_far ?_ NB111_109.out _; (with_reducible repeat (first | refine blk_drewN ?_ _ | refine blk_drew ?_ | refine blk_alloc ?_ _)); refine blk_far ?_ NB111_109.out _; (with_reducible repeat (first | refine blk_drewN ?_ _ | refine blk_drew ?_ | refine blk_alloc ?_ _)); refine blk_far ?_ NB111_109.out _; (with_reducible repeat (first | refine blk_drewN ?_ _ | refine blk_drew ?_ | refine blk_alloc ?_ _)); exact BK111.out) hb); have n3_ := Aside0.mk (below_step (by repeat (first | (with_reducible first | exact HB.out | apply below_alloc | apply pw_below_drewN | apply below_drew1 | refine below_set ?_ GE109.out | refine below_set ?_ GE110.out | refine below_set ?_ GE111.out) | exact HB.out)) hb); clear BK109; clear BK110; clear BK111; clear HB; have BK109 := n0_; have BK110 := n1_; have BK111 := n2_; have HB := n3_; clear n0_ n1_ n2_ n3_; (try clear hb); (try clear hb2); (try clear hk); (try clear hi); have hcz16_0 : w15.cell? ⟨gb110, 0, none⟩ = some (.int .u8 a1_0) := (blk_cell BK110.out 0).trans rfl; have hcz16_1 : w15.cell? ⟨gb110, 1, none⟩ = some (.int .u8 a1_1) := (blk_cell BK110.out 1).trans rfl; have hcz16_2 : w15.cell? ⟨gb110, 2, none⟩ = some (.int .u8 a1_2) := (blk_cell BK110.out 2).trans rfl; have hcz16_3 : w15.cell? ⟨gb110, 3, none⟩ = some (.int .u8 a1_3) := (blk_cell BK110.out 3).trans rfl; have hfz16_0 := blk_frozen BK110.out 0; have hfz16_1 := blk_frozen BK110.out 1; have hfz16_2 := blk_frozen BK110.out 2; have hfz16_3 := blk_frozen BK110.out 3; have hcz17_0 : w15.cell? ⟨gb109, 0, none⟩ = some (.int .u8 t112) := (blk_cell BK109.out 0).trans rfl; have hcz17_1 : w15.cell? ⟨gb109, 1, none⟩ = some (.int .u8 t113) := (blk_cell BK109.out 1).trans rfl; have hcz17_2 : w15.cell? ⟨gb109, 2, none⟩ = some (.int .u8 t114) := (blk_cell BK109.out 2).trans rfl; have hcz17_3 : w15.cell? ⟨gb109, 3, none⟩ = some (.int .u8 t115) := (blk_cell BK109.out 3).trans rfl; have hfz17_0 := blk_frozen BK109.out 0; have hfz17_1 := blk_frozen BK109.out 1; have hfz17_2 := blk_frozen BK109.out 2; have hfz17_3 := blk_frozen BK109.out 3; have hcz18_0 : w15.cell? ⟨gb111, 0, none⟩ = some (.int .u8 0) := (blk_cell BK111.out 0).trans rfl; have hcz18_1 : w15.cell? ⟨gb111, 1, none⟩ = some (.int .u8 0) := (blk_cell BK111.out 1).trans rfl; have hcz18_2 : w15.cell? ⟨gb111, 2, none⟩ = some (.int .u8 0) := (blk_cell BK111.out 2).trans rfl; have hcz18_3 : w15.cell? ⟨gb111, 3, none⟩ = some (.int .u8 0) := (blk_cell BK111.out 3).trans rfl; have hfz18_0 := blk_frozen BK111.out 0; have hfz18_1 := blk_frozen BK111.out 1; have hfz18_2 := blk_frozen BK111.out 2; have hfz18_3 := blk_frozen BK111.out 3))
  refine bodyPost_ret (results_cell_row rfl _ _ gb111 43 #[.int .u8 ((t112 + t116) % 256), .int .u8 ((t113 + t117) % 256), .int .u8 ((t114 + t118) % 256), .int .u8 ((t115 + t119) % 256)] (0, 0) _ rfl (by (with_reducible repeat (first | refine blk_drewN ?_ _ | refine blk_drew ?_ | refine blk_alloc ?_ _)); refine blk_put (cs := #[.int .u8 ((t112 + t116) % 256), .int .u8 ((t113 + t117) % 256), .int .u8 ((t114 + t118) % 256), .int .u8 0]) ?_ 3 _ rfl; (with_reducible repeat (first | refine blk_drewN ?_ _ | refine blk_drew ?_ | refine blk_alloc ?_ _)); refine blk_put (cs := #[.int .u8 ((t112 + t116) % 256), .int .u8 ((t113 + t117) % 256), .int .u8 0, .int .u8 0]) ?_ 2 _ rfl; (with_reducible repeat (first | refine blk_drewN ?_ _ | refine blk_drew ?_ | refine blk_alloc ?_ _)); refine blk_put (cs := #[.int .u8 ((t112 + t116) % 256), .int .u8 0, .int .u8 0, .int .u8 0]) ?_ 1 _ rfl; (with_reducible repeat (first | refine blk_drewN ?_ _ | refine blk_drew ?_ | refine blk_alloc ?_ _)); refine blk_put (cs := #[.int .u8 0, .int .u8 0, .int .u8 0, .int .u8 0]) ?_ 0 _ rfl; (with_reducible repeat (first | refine blk_drewN ?_ _ | refine blk_drew ?_ | refine blk_alloc ?_ _)); refine blk_far ?_ NB111_110.out _; (with_reducible repeat (first | refine blk_drewN ?_ _ | refine blk_drew ?_ | refine blk_alloc ?_ _)); refine blk_far ?_ NB111_110.out _; (with_reducible repeat (first | refine blk_drewN ?_ _ | refine blk_drew ?_ | refine blk_alloc ?_ _)); refine blk_far ?_ NB111_110.out _; (with_reducible repeat (first | refine blk_drewN ?_ _ | refine blk_drew ?_ | refine blk_alloc ?_ _)); refine blk_far ?_ NB111_110.out _; (with_reducible repeat (first | refine blk_drewN ?_ _ | refine blk_drew ?_ | refine blk_alloc ?_ _)); exact BK111.out) Try.underlying43 rfl (by kernel_rfl)) rfl ?_
  exact ⟨by first | rfl | (simp [errW_none, errW_some] <;> rfl) | (simp [*, errW_none, errW_some] <;> rfl), by repeat (first | (with_reducible first | exact HB.out | apply below_alloc | apply pw_below_drewN | apply below_drew1 | refine below_set ?_ GE109.out | refine below_set ?_ GE110.out | refine below_set ?_ GE111.out) | exact HB.out)⟩
end Go.Proofs.Ytmockeaiccpogaa.All
end
section
namespace Go.Proofs.Ytmockeaiccpogaa.All
open Go.Proofs.YtmockeaiccpogaaSq
open Go.RowKit Go.Proofs.YtmockeaiccpogaaW.PrintWords Go.Proofs.YtmockeaiccpogaaW.PrintLast Go.Proofs.YtmockeaiccpogaaW.PrintMore
attribute [local go_sem] max2_int min2_int max_two min_two max_three min_three max_four min_four
set_option linter.unusedVariables false
set_option linter.unusedSimpArgs false
section
open Go.Proofs.YtmockeaiccpogaaHand Go.Proofs.YtmockeaiccpogaaSq
def ov (s d : S43) : S43 := (pixel_Over.f s.f0 s.f1 s.f2 s.f3 d.f0 d.f1 d.f2 d.f3).elim z43 fun t => ⟨t.1, t.2.1, t.2.2.1, t.2.2.2⟩
theorem ov_some (s d : S43) : pixel_Over.f s.f0 s.f1 s.f2 s.f3 d.f0 d.f1 d.f2 d.f3 = some ((ov s d).f0, (ov s d).f1, (ov s d).f2, (ov s d).f3) := by
  unfold ov pixel_Over.f pixel_Clamp.f pixel_Scale.f pixel_Clamp.f
  rfl
theorem over_get {l s : List S43} {lo : Nat} (h : lo + s.length ≤ l.length) {j : Nat} (hj : lo + s.length ≤ j) : (over l lo s).getD j z43 = l.getD j z43 := by
  unfold over
  rw [List.getD_eq_getElem?_getD, List.getD_eq_getElem?_getD, List.getElem?_append_right (by simp; omega), List.getElem?_drop]
  congr 2
  simp
  omega
theorem over_snoc {l s : List S43} {lo : Nat} (x : S43) (h : lo + s.length < l.length) : (over l lo s).set (lo + s.length) x = over l lo (s ++ [x]) := by
  unfold over
  rw [List.set_append_right _ _ (by simp; exact Nat.min_le_left _ _)]
  have e : lo + s.length - (List.take lo l ++ s).length = 0 := by simp; omega
  rw [e, List.drop_eq_getElem_cons h]
  simp [Nat.add_assoc]
def zip (l sr : List S43) (lo k : Nat) : List S43 := List.zipWith ov (sr.take k) ((l.drop lo).take k)
theorem zip_length {l sr : List S43} {lo k : Nat} (h : lo + sr.length ≤ l.length) (hk : k ≤ sr.length) : (zip l sr lo k).length = k := by
  unfold zip
  simp
  omega
theorem zip_succ {l sr : List S43} {lo k : Nat} (h : lo + sr.length ≤ l.length) (hk : k < sr.length) : zip l sr lo (k + 1) = zip l sr lo k ++ [ov (sr.getD k z43) (l.getD (lo + k) z43)] := by
  unfold zip
  have hk2 : k < (l.drop lo).length := by rw [List.length_drop]; omega
  rw [List.take_succ_eq_append_getElem hk, List.take_succ_eq_append_getElem hk2, List.zipWith_append (by rw [List.length_take, List.length_take]; omega)]
  simp [List.getD_eq_getElem?_getD, List.getElem?_eq_getElem hk, List.getElem?_eq_getElem (show lo + k < l.length by omega)]
set_option maxHeartbeats 4000000 in
theorem buffer_BlendOver.lit_calls (w W : World) (g lo n cap : Nat) (sa : Addr) (l sr : List S43) (hb : Below w.heap.size w W) (hBg : w.heap.size ≤ g) (hR0 : Kd.R k43 43 W w.heap.size (fun _ => True) (.slice (some ⟨g, 0, none⟩) l.length cap) l) (hC : Kd.C k43 w (some sa) n sr) (hn : 0 < n) (hfit : lo + n ≤ l.length) :
    Calls Try.prog 62 #[.slice (some ⟨g, lo * 4, none⟩) n n, .slice (some sa) n n] W fun e w' => e = .returned (.tuple #[]) ∧ Kd.R k43 43 w' w.heap.size (fun _ => True) (.slice (some ⟨g, 0, none⟩) l.length cap) (over l lo (zip l sr lo n)) ∧ W.grownBy w' (some g) := by
  have hln := hC.1
  have hl63 := hC.2.1
  have hR := Aside0.mk hR0
  have hb3 := Aside0.mk hb
  have hC' := Aside0.mk hC
  have hg3 : Aside0 (W.grownBy W (some g)) := ⟨World.grownBy.refl _ _⟩
  have hln' := Aside0.mk hln
  have hfit' := Aside0.mk hfit
  clear hR0 hb hC hln hfit
  go_enter Try.func62, Try.ntmps62
  go_wp2_with fail
  go_loopw [4, 7] (fun _ v w' => ∃ k : Nat, k ≤ n ∧ v = .int .i64 k ∧ Aside0 (Kd.R k43 43 w' w.heap.size (fun _ => True) (.slice (some ⟨g, 0, none⟩) l.length cap) (over l lo (zip l sr lo k))) ∧ Aside0 (Below w.heap.size w w') ∧ Aside0 (W.grownBy w' (some g))) (fun _ v _ => n - (intOf v).toNat)
  case atStart => exact ⟨0, Nat.zero_le _, rfl, ⟨by rw [show over l lo (zip l sr lo 0) = l by simp [over, zip]]; exact hR.out⟩, hb3, hg3⟩
  case round =>
    clear hR hb3 hg3
    obtain ⟨k, hk, rfl, hR, hb3, hg3⟩ := hrel
    by_cases hlt : k < n
    · have hlt' : (k : Int) < (n : Int) := by omega
      have hk0 : (0 : Int) ≤ (k : Int) := by omega
      have ek : wrap64 ((k : Int) + 1) = ((k + 1 : Nat) : Int) := by unfold wrap64; omega
      obtain ⟨p, hp⟩ : ∃ p, sr.getD k z43 = p := ⟨_, rfl⟩
      obtain ⟨r, hr⟩ : ∃ r, l.getD (lo + k) z43 = r := ⟨_, rfl⟩
      have cellsOk : ∀ W' : World, Below w.heap.size w W' → Kd.R k43 43 W' w.heap.size (fun _ => True) (.slice (some ⟨g, 0, none⟩) l.length cap) (over l lo (zip l sr lo k)) → W'.cell? (sa.add (k * 4)) = some (.int .u8 p.f0) ∧ W'.cell? ⟨(sa.add (k * 4)).block, (sa.add (k * 4)).off + 1, none⟩ = some (.int .u8 p.f1) ∧ W'.cell? ⟨(sa.add (k * 4)).block, (sa.add (k * 4)).off + 2, none⟩ = some (.int .u8 p.f2) ∧ W'.cell? ⟨(sa.add (k * 4)).block, (sa.add (k * 4)).off + 3, none⟩ = some (.int .u8 p.f3) ∧ W'.cell? ⟨g, lo * 4 + k * 4, none⟩ = some (.int .u8 r.f0) ∧ W'.cell? ⟨g, lo * 4 + k * 4 + 1, none⟩ = some (.int .u8 r.f1) ∧ W'.cell? ⟨g, lo * 4 + k * 4 + 2, none⟩ = some (.int .u8 r.f2) ∧ W'.cell? ⟨g, lo * 4 + k * 4 + 3, none⟩ = some (.int .u8 r.f3) := by
        intro W' hb' hR'
        have hzl : (zip l sr lo k).length = k := zip_length (by have := hln'.out; have := hfit'.out; omega) (by have := hln'.out; omega)
        obtain ⟨ad, e, a0, a1, a2, a3⟩ := at_T43 (Kd.C_below hC'.out hb') (k : Int) (by omega) (by omega)
        injection e with e
        subst e
        obtain ⟨c, hcl, hM, hcc, hfr⟩ := Kd.R_elem hR' z43 ((lo + k : Nat) : Int) (by omega) (by have := hfit'.out; omega)
        obtain rfl := k43_openM hM
        simp only [Int.toNat_natCast, show k43.sz = 4 from rfl, Nat.add_mul] at a0 a1 a2 a3 hcc
        rw [over_get (by have := hfit'.out; omega) (by omega), hr] at hcc
        rw [show rd_T43 sr (k : Int) = p from hp] at a0 a1 a2 a3
        exact ⟨a0, a1, a2, a3, hcc 0 _ rfl, hcc 1 _ rfl, hcc 2 _ rfl, hcc 3 _ rfl⟩
      have cO := Aside0.mk cellsOk
      clear cellsOk
      go_wp2_with fail
      refine start_ (n := 13) (S := fun w' => w'.cell? (sa.add (k * 4)) = some (.int .u8 p.f0) ∧ w'.cell? ⟨(sa.add (k * 4)).block, (sa.add (k * 4)).off + 1, none⟩ = some (.int .u8 p.f1) ∧ w'.cell? ⟨(sa.add (k * 4)).block, (sa.add (k * 4)).off + 2, none⟩ = some (.int .u8 p.f2) ∧ w'.cell? ⟨(sa.add (k * 4)).block, (sa.add (k * 4)).off + 3, none⟩ = some (.int .u8 p.f3) ∧ w'.cell? ⟨g, lo * 4 + k * 4, none⟩ = some (.int .u8 r.f0) ∧ w'.cell? ⟨g, lo * 4 + k * 4 + 1, none⟩ = some (.int .u8 r.f1) ∧ w'.cell? ⟨g, lo * 4 + k * 4 + 2, none⟩ = some (.int .u8 r.f2) ∧ w'.cell? ⟨g, lo * 4 + k * 4 + 3, none⟩ = some (.int .u8 r.f3)) (ds := [12]) #[false, false, false, false, false, false, false, false, false, false, false, false, false] (by kernel_rfl) rfl rfl (cO.out _ (below_drew1 hb3.out) (Kd.R_drew hR.out)) (fun hHeld => ?_)
      have HT_ : Aside0 (rtab .any (opsOf Try.f62 3) = rtab .any (opsOf Try.f62 3)) := ⟨rfl⟩
      replace hR := Aside0.mk (Kd.R_drew hR.out)
      replace hb3 := Aside0.mk (below_drew1 hb3.out)
      replace hg3 := Aside0.mk (hg3.out.trans (grownBy_of_below (below_drew (Below.refl _ _))))
      generalize wr.drew = w3 at hR hb3 hg3 hHeld ⊢
      refine pv_ 0 10 #[true, false, false, false, false, false, false, false, false, false, false, false, false] HT_ ?_
      refine pv_ 1 11 #[true, true, false, false, false, false, false, false, false, false, false, false, false] HT_ ?_
      refine pv_ 2 12 #[true, true, true, false, false, false, false, false, false, false, false, false, false] HT_ ?_
      refine pv_ 3 13 #[true, true, true, true, false, false, false, false, false, false, false, false, false] HT_ ?_
      refine pv_ 6 16 #[true, true, true, true, false, false, true, false, false, false, false, false, false] HT_ ?_
      refine pv_ 7 17 #[true, true, true, true, false, false, true, true, false, false, false, false, false] HT_ ?_
      refine pv_ 4 14 #[true, true, true, true, true, false, true, true, false, false, false, false, false] HT_ ?_
      refine pv_ 8 18 #[true, true, true, true, true, false, true, true, true, false, false, false, false] HT_ ?_
      refine take_ (i := 5) (N := some 15) (v := ?_) (a' := ?_) #[true, true, true, true, true, true, true, true, true, false, false, false, false] rfl rfl (take_of HT_.out (by kernel_rfl)) (fun _ _ _ h => h) (Or.inl ⟨by rfl, ?_⟩) hHeld ?_ ?_
      rotate_left
      · rintro w' ⟨s0, s1, s2, s3, s4, s5, s6, s7⟩
        go_simp
        with_reducible rfl
      rotate_left
      · simp only [Act.put, List.setIfInBounds_toArray, List.set_cons_zero, List.set_cons_succ, i64_w, i32_w]
        rfl
      refine take_ (i := 9) (N := some 19) (v := ?_) (a' := ?_) #[true, true, true, true, true, true, true, true, true, true, false, false, false] rfl rfl (take_of HT_.out (by kernel_rfl)) (fun _ _ _ h => h) (Or.inl ⟨by rfl, ?_⟩) hHeld ?_ ?_
      rotate_left
      · rintro w' ⟨s0, s1, s2, s3, s4, s5, s6, s7⟩
        go_simp
        with_reducible rfl
      rotate_left
      · simp only [Act.put, List.setIfInBounds_toArray, List.set_cons_zero, List.set_cons_succ, i64_w, i32_w]
        rfl
      refine one_ (i := 10) (N := some 20) #[true, true, true, true, true, true, true, true, true, true, true, false, false] rfl rfl (one_of HT_.out (by kernel_rfl)) (by decide) (fun K hK => ?_)
      refine goes_ Try.func63 (by kernel_rfl) rfl #[.agg #[.int .u8 p.f0, .int .u8 p.f1, .int .u8 p.f2, .int .u8 p.f3], .agg #[.int .u8 r.f0, .int .u8 r.f1, .int .u8 r.f2, .int .u8 r.f3]] (by rfl) rfl rfl (by (try simp only [List.map_toArray, List.map_cons, List.map_nil]); first | done | rfl) ?_
      refine (pixel_Over.calls _ _ _ _ _ _ _ _ _ _ _ _ _ (ov_some p r)).mono ?_
      rintro e w4 ⟨rfl, hb1⟩
      refine ⟨_, rfl, ?_⟩
      replace hR := Aside0.mk (Kd.R_below hR.out hb1)
      replace hb3 := Aside0.mk (below_step hb3.out hb1)
      replace hg3 := Aside0.mk (hg3.out.trans (grownBy_of_below hb1))
      clear hb1
      refine hK.out _ _ (cO.out w4 hb3.out hR.out) (fun hHeld => ?_)
      clear hK K
      refine norm_ (a' := ?_) ?_ ?_
      rotate_left
      · show Act.put _ (some 20) _ = _
        simp only [Act.put, List.setIfInBounds_toArray, List.set_cons_zero, List.set_cons_succ, i64_w, i32_w]
        rfl
      refine pv_ 11 21 #[true, true, true, true, true, true, true, true, true, true, true, true, false] HT_ ?_
      refine last_ (i := 12) (N := none) #[true, true, true, true, true, true, true, true, true, true, true, true, true] rfl rfl (one_of HT_.out (by kernel_rfl)) (by decide) (fun K hK => ?_)
      have hzl : (zip l sr lo k).length = k := zip_length (by have := hln'.out; have := hfit'.out; omega) (by have := hln'.out; omega)
      obtain ⟨s0, s1, s2, s3, d0, d1, d2, d3⟩ := cO.out w4 hb3.out hR.out
      obtain ⟨c, hcl, hM, hcc, hfr⟩ := Kd.R_elem hR.out z43 ((lo + k : Nat) : Int) (by omega) (by have := hfit'.out; omega)
      have hSeg := Aside0.mk (Kd.R_seg hR.out ((lo + k : Nat) : Int) (by omega) (by have := hfit'.out; omega) (seg := [.int .u8 (ov p r).f0, .int .u8 (ov p r).f1, .int .u8 (ov p r).f2, .int .u8 (ov p r).f3]) (j := 0) hcl hcc (show 0 + 4 ≤ 4 from by decide) (x' := ov p r) (okp := fun k => True ∧ k ≠ g) (by rw [List.drop_eq_nil_of_le (by rw [hcl]; exact Nat.le_refl _)]; exact k43_mkM _ _ _ (ov p r)) (fun _ hk => hk))
      simp only [Int.toNat_natCast, show k43.sz = 4 from rfl, Nat.add_mul] at hfr
      have f0 : w4.frozen? ⟨g, lo * 4 + k * 4, none⟩ = false := hfr 0
      have f1 := hfr 1
      have f2 := hfr 2
      have f3 := hfr 3
      clear hcc hM hcl s0 s1 s2 s3 hfr
      have hx := Aside0.mk (And.intro hzl (And.intro hp hr))
      clear hzl hp hr
      refine skip_ (w1 := ?_) (by rfl) rfl ?_ ?_
      rotate_left
      · go_simp
        rfl
      refine hK.out _ _ ?_
      clear hK K
      refine done_ (done_of HT_.out (by kernel_rfl)) ?_
      clear d0 d1 d2 d3 f0 f1 f2 f3
      go_wp2
      go_roundw
      case measure => simp [intOf]; omega
      case rel =>
        have hle := hx.out.1
        have e1 : lo + k = lo + (zip l sr lo k).length := by rw [hle]
        have hS1 := hSeg.out.1
        have hS2 := hSeg.out.2
        have e2 : (over l lo (zip l sr lo k)).set (lo + k) (ov p r) = over l lo (zip l sr lo (k + 1)) := by
          rw [zip_succ (by have := hln'.out; have := hfit'.out; omega) (by have := hln'.out; omega), hx.out.2.1, hx.out.2.2, ← over_snoc _ (by have := hfit'.out; omega), ← e1]
        simp only [Int.toNat_natCast, show k43.sz = 4 from rfl, Nat.add_mul, e2] at hS1 hS2
        exact ⟨k + 1, hlt, by rw [Int.natCast_add]; rfl, ⟨hS1⟩, ⟨pw_below_grown hb3.out (some g) hb3.out.size hS2 (fun _ h => by cases h; exact hBg)⟩, ⟨hg3.out.trans hS2⟩⟩
    · obtain rfl : k = n := by omega
      go_wp2
      go_end0
      exact ⟨rfl, hR.out, hg3.out⟩
def buffer_BlendOver.f (a0_0 a0_1 : Int) (l : List S43) (a1_0 a1_1 : Int) (s : List S43) (x y : Int) : Option (Int × Int × List S43 × Int) := buffer_combine.g (fun d s => List.zipWith ov s d) a0_0 a0_1 l a1_0 a1_1 s x y
set_option maxHeartbeats 2000000 in
theorem buffer_BlendOver.calls (a0_0 a0_1 : Int) (A0_2 : Option Addr) (c0_2 : Nat) (l0_2 : List S43) (a1_0 a1_1 : Int) (A1_2 : Option Addr) (c1_2 : Nat) (l1_2 : List S43) (x y : Int) (r1 r2 : Int) (r3 : List S43) (r4 : Int) (w : World) (hr0_2 : Kd.C k43 w A0_2 l0_2.length l0_2) (hc0_2 : l0_2.length ≤ c0_2) (hr1_2 : Kd.C k43 w A1_2 l1_2.length l1_2) (hc1_2 : l1_2.length ≤ c1_2)
    (h : buffer_BlendOver.f a0_0 a0_1 l0_2 a1_0 a1_1 l1_2 x y = some (r1, r2, r3, r4)) :
    Calls Try.prog 35 #[.agg #[.int .i64 a0_0, .int .i64 a0_1, .slice A0_2 l0_2.length c0_2], .agg #[.int .i64 a1_0, .int .i64 a1_1, .slice A1_2 l1_2.length c1_2], .int .i64 x, .int .i64 y] w fun e w' => ∃ v2_ : Value, e = .returned (.tuple #[.agg #[.int .i64 r1, .int .i64 r2, v2_], .int .i64 r4]) ∧ Kd.R k43 43 w' w.heap.size (fun _ => True) v2_ r3 ∧ Below w.heap.size w w' := by
  have hh := Aside0.mk h
  clear h
  go_enter Try.func35, Try.ntmps35
  go_wp2_with fail
  obtain ⟨hA0, hB0, hC0, hD0⟩ := allocs3 w (Obj.cells #[.int .i64 a0_0, .int .i64 a0_1, .slice A0_2 l0_2.length c0_2] 27) (Obj.cells #[.int .i64 a1_0, .int .i64 a1_1, .slice A1_2 l1_2.length c1_2] 27) (Obj.cells #[.int .i64 0, .int .i64 0, .slice none 0 0] 27)
  generalize ((w.alloc (Obj.cells #[.int .i64 a0_0, .int .i64 a0_1, .slice A0_2 l0_2.length c0_2] 27)).alloc (Obj.cells #[.int .i64 a1_0, .int .i64 a1_1, .slice A1_2 l1_2.length c1_2] 27)).alloc (Obj.cells #[.int .i64 0, .int .i64 0, .slice none 0 0] 27) = V at hA0 hB0 hC0 hD0 ⊢
  have hR0 := Aside0.mk (Kd.C_below hr0_2 hD0)
  have hR1 := Aside0.mk (Kd.C_below hr1_2 hD0)
  have hC := Aside0.mk hC0
  have hD := Aside0.mk hD0
  clear hA0 hB0 hC0 hD0 hr0_2 hr1_2
  refine (buffer_combine.calls (fun d s => List.zipWith ov s d) (fun d s h => by rw [List.length_zipWith, h, Nat.min_self]) 62 Try.f62 #[] Try.func62 (by kernel_rfl) rfl a0_0 a0_1 A0_2 c0_2 l0_2 a1_0 a1_1 A1_2 c1_2 l1_2 x y r1 r2 r3 r4 V hR0.out hc0_2 hR1.out hc1_2 ?hcl hh.out).mono ?_
  case hcl =>
    intro W g lo n cap sa l sr hb hg hR hC hn hl
    have e : zip l sr lo n = List.zipWith ov sr ((l.drop lo).take n) := by
      unfold zip
      rw [List.take_of_length_le (by rw [hC.1]; exact Nat.le_refl _)]
    rw [← e]
    exact buffer_BlendOver.lit_calls V W g lo n cap sa l sr hb hg hR hC hn hl
  rintro e w1 ⟨v, rfl, hv, hb1⟩
  obtain ⟨Ao, co, eo⟩ := Kd.R_slice hv
  subst eo
  have hu := Aside0.mk (Kd.R_lower hv hD.out.size)
  replace hC := Aside0.mk (blk_below hC.out hb1)
  replace hD := Aside0.mk (below_step hD.out hb1)
  clear hv hb1 hR0 hR1
  have z0 := (blk_cell hC.out 0).trans rfl
  have z1 := (blk_cell hC.out 1).trans rfl
  have z2 := (blk_cell hC.out 2).trans rfl
  have f0 := blk_frozen hC.out 0
  have f1 := blk_frozen hC.out 1
  have f2 := blk_frozen hC.out 2
  go_wp2
  exact bodyPost_ret (results_ct rfl _ _ (w.heap.size + 1 + 1) 27 #[.int .i64 r1, .int .i64 r2, .slice Ao r3.length co] (0, 0) _ rfl (retBuf hC.out _ _ _) Try.underlying27 rfl (by kernel_rfl)) rfl ⟨_, rfl, retBufR hC.out hu.out, below_set (below_set (below_set hD.out (by omega)) (by omega)) (by omega)⟩
end
end Go.Proofs.Ytmockeaiccpogaa.All
end
section
namespace Go.Proofs.Ytmockeaiccpogaa.All
open Go.RowKit Go.Proofs.YtmockeaiccpogaaW.PrintWords Go.Proofs.YtmockeaiccpogaaW.PrintLast Go.Proofs.YtmockeaiccpogaaW.PrintMore
attribute [local go_sem] max2_int min2_int max_two min_two max_three min_three max_four min_four
set_option linter.unusedVariables false
set_option linter.unusedSimpArgs false
def bits_Mul64.f (a0 : Int) (a1 : Int) : Option (Int × Int) := some (IntKind.u64.wrap ((IntKind.u64.wrap ((IntKind.u64.wrap ((a0 / 4294967296) * (a1 / 4294967296))) + ((IntKind.u64.wrap ((IntKind.u64.wrap ((a0 / 4294967296) * (Go.bits .and .u64 a1 4294967295))) + ((IntKind.u64.wrap ((Go.bits .and .u64 a0 4294967295) * (Go.bits .and .u64 a1 4294967295))) / 4294967296))) / 4294967296))) + ((IntKind.u64.wrap ((Go.bits .and .u64 (IntKind.u64.wrap ((IntKind.u64.wrap ((a0 / 4294967296) * (Go.bits .and .u64 a1 4294967295))) + ((IntKind.u64.wrap ((Go.bits .and .u64 a0 4294967295) * (Go.bits .and .u64 a1 4294967295))) / 4294967296))) 4294967295) + (IntKind.u64.wrap ((Go.bits .and .u64 a0 4294967295) * (a1 / 4294967296))))) / 4294967296)), IntKind.u64.wrap (a0 * a1))
set_option maxHeartbeats 8000000 in
set_option maxRecDepth 100000 in
theorem bits_Mul64.calls (a0 : Int) (a1 : Int) (r1 : Int) (r2 : Int) (w : World) (h : bits_Mul64.f a0 a1 = some (r1, r2)) :
    Calls Try.prog 81 #[.int .u64 a0, .int .u64 a1] w fun e w' => e = .returned (.tuple #[.int .u64 r1, .int .u64 r2]) ∧ Drawn0 w w' := by
  have H : (some (IntKind.u64.wrap ((IntKind.u64.wrap ((IntKind.u64.wrap ((a0 / 4294967296) * (a1 / 4294967296))) + ((IntKind.u64.wrap ((IntKind.u64.wrap ((a0 / 4294967296) * (Go.bits .and .u64 a1 4294967295))) + ((IntKind.u64.wrap ((Go.bits .and .u64 a0 4294967295) * (Go.bits .and .u64 a1 4294967295))) / 4294967296))) / 4294967296))) + ((IntKind.u64.wrap ((Go.bits .and .u64 (IntKind.u64.wrap ((IntKind.u64.wrap ((a0 / 4294967296) * (Go.bits .and .u64 a1 4294967295))) + ((IntKind.u64.wrap ((Go.bits .and .u64 a0 4294967295) * (Go.bits .and .u64 a1 4294967295))) / 4294967296))) 4294967295) + (IntKind.u64.wrap ((Go.bits .and .u64 a0 4294967295) * (a1 / 4294967296))))) / 4294967296)), IntKind.u64.wrap (a0 * a1))) = some (r1, r2) := h
  clear h
  simp only [Option.some.injEq, Prod.mk.injEq] at H
  obtain ⟨rfl, rfl⟩ := H
  go_enter Try.func81, Try.ntmps81
  go_wp2
  go_ret2
  exact ⟨by first | rfl | (simp; done) | (simp [*]; done), by repeat (first | exact Drawn0.refl _ | apply Drawn0.step)⟩
def bits_Mul.f (a0 : Int) (a1 : Int) : Option (Int × Int) := (bits_Mul64.f a0 a1).bind fun bt635 => (some (bt635.1, bt635.2))
set_option maxHeartbeats 8000000 in
set_option maxRecDepth 100000 in
theorem bits_Mul.calls (a0 : Int) (a1 : Int) (r1 : Int) (r2 : Int) (w : World) (h : bits_Mul.f a0 a1 = some (r1, r2)) :
    Calls Try.prog 73 #[.int .u64 a0, .int .u64 a1] w fun e w' => e = .returned (.tuple #[.int .u64 r1, .int .u64 r2]) ∧ Drawn0 w w' := by
  have H : ((bits_Mul64.f a0 a1).bind fun bt635 => (some (bt635.1, bt635.2))) = some (r1, r2) := h
  clear h
  replace H := Option.bind_eq_some_iff.mp H
  obtain ⟨⟨t635, t636⟩, A30, H⟩ := H
  replace H : (some (t635, t636)) = some (r1, r2) := H
  have A3 := Aside0.mk A30
  clear A30
  simp only [Option.some.injEq, Prod.mk.injEq] at H
  obtain ⟨rfl, rfl⟩ := H
  go_enter Try.func73, Try.ntmps73
  go_wp2_with (first | ((with_reducible refine gate_callee (f := 81) rfl ?_); refine goesL_ (some 25) rfl rfl Try.func81 (by kernel_rfl) rfl #[.int .u64 a0, .int .u64 a1] rfl (by (try simp only [List.map_toArray, List.map_cons, List.map_nil]); first | done | rfl | (simp only [List.length_drop, List.length_take]; rfl)) ?_; (with_reducible refine (bits_Mul64.calls a0 a1 t635 t636 _ A3.out).mono ?_); rintro e w' ⟨rfl, ⟨nd, rfl⟩⟩; refine ⟨_, rfl, ?_⟩))
  go_ret2
  exact ⟨by first | rfl | (simp; done) | (simp [*]; done), by repeat (first | exact Drawn0.refl _ | apply Drawn0.step)⟩
end Go.Proofs.Ytmockeaiccpogaa.All
end
section
namespace Go.Proofs.Ytmockeaiccpogaa.All
open Go.RowKit Go.Proofs.YtmockeaiccpogaaW.PrintWords Go.Proofs.YtmockeaiccpogaaW.PrintLast Go.Proofs.YtmockeaiccpogaaW.PrintMore
attribute [local go_sem] max2_int min2_int max_two min_two max_three min_three max_four min_four
set_option linter.unusedVariables false
set_option linter.unusedSimpArgs false
section
open Go.Proofs.YtmockeaiccpogaaHand Go.Proofs.YtmockeaiccpogaaSq
theorem copyR_step {ops : Array Oper} {o : Oper} {a : Act} {K : Act → World → Prop} {Q : Exit → Act → World → Prop} {E : Prop} {W : World} (hgd : o.guard = none) (d s : Operand) (ho : o.op = .call { callee := .builtin .copy, args := #[d, s], argTypes := #[25, 25] })
    {g lo dLen dCap sLen sCap base n cap : Nat} {sa : Addr} {l sr : List S43} (hd : a.eval d = .slice (some ⟨g, lo * 4, none⟩) dLen dCap) (hs : a.eval s = .slice (some sa) sLen sCap)
    (hR : Kd.R k43 43 W base (fun _ => True) (.slice (some ⟨g, 0, none⟩) n cap) l) (hC : ∀ j v, (pcells sr)[j]? = some v → W.cell? (sa.add j) = some v) (hn : sr.length = Nat.min sLen dLen) (hfit : lo + sr.length ≤ n)
    (h : ∀ w', Kd.R k43 43 w' base (fun _ => True) (.slice (some ⟨g, 0, none⟩) n cap) (over l lo sr) → W.grownBy w' (some g) → K (a.put o.dst (goInt sr.length)) w') : if Region.wanted o (yielded ops a.tmps) = true then Oper.wp Try.prog o a W K Q else E := by
  have hw : Region.wanted o (yielded ops a.tmps) = true := by simp [Region.wanted, hgd]
  rw [if_pos hw]
  have hrun := copy_run (ty := o.type) (dCap := dCap) (sCap := sCap) hR hC hn hfit
  unfold Oper.wp
  simp [execOp, ho, resolve, invoke, builtin, hd, hs, hrun, Result.andThen]
  exact h _ (R_over (W := W) sr l lo W hR hfit).1 (R_over (W := W) sr l lo W hR hfit).2
theorem mask1 (n : Nat) (hn : n < 4294967296) : Go.bits .and .u64 (n : Int) 4294967295 = n := by
  have := u64_and_nat n 4294967295 (by omega) (by omega)
  rw [nat_mask32, Nat.mod_eq_of_lt hn] at this
  exact this
theorem mul1 (n : Nat) (hn : n ≤ 65536) : bits_Mul.f 1 n = some (0, (n : Int)) := by
  have e0 := mask1 n (by omega)
  have e1 := mask1 1 (by omega)
  have e2 := mask1 0 (by omega)
  have e3 : (n : Int) / 4294967296 = 0 := by omega
  have e4 : IntKind.u64.wrap (n : Int) = n := by simp [IntKind.wrap, IntKind.signed, IntKind.bits]; omega
  have e5 : IntKind.u64.wrap 0 = 0 := by decide
  have e6 : IntKind.u64.wrap 1 = 1 := by decide
  simp only [Int.natCast_one, Int.natCast_zero] at e1 e2
  have e7 : (1 : Int) / 4294967296 = 0 := by decide
  simp only [bits_Mul.f, bits_Mul64.f, Option.bind_some, e0, e1, e2, e3, e4, e5, e7, Int.zero_mul, Int.mul_zero, Int.one_mul, Int.add_zero, Int.zero_ediv]
def rep (p : S43) (n k : Nat) : List S43 := List.replicate k p ++ List.replicate (n - k) z43
theorem rep_length (p : S43) {n k : Nat} (h : k ≤ n) : (rep p n k).length = n := by unfold rep; simp; omega
theorem rep_over (p : S43) {n k j : Nat} (h : k + j ≤ n) : over (rep p n k) k (List.replicate j p) = rep p n (k + j) := by
  unfold over rep
  have e1 : (List.replicate k p ++ List.replicate (n - k) z43).take k = List.replicate k p := by rw [List.take_append_of_le_length (by simp)]; simp
  have e2 : (List.replicate k p ++ List.replicate (n - k) z43).drop (k + (List.replicate j p).length) = List.replicate (n - (k + j)) z43 := by
    rw [List.length_replicate, List.drop_append]
    simp
    omega
  rw [e1, e2, List.replicate_append_replicate]
set_option maxHeartbeats 4000000 in
theorem slices_Repeat.calls (p : S43) (A0 : Option Addr) (c0 : Nat) (n : Nat) (w : World) (hn : 1 ≤ n) (hn2 : n ≤ 65536) (hr0 : Kd.C k43 w A0 1 [p]) (hc0 : 1 ≤ c0) :
    Calls Try.prog 64 #[.slice A0 1 c0, .int .i64 n] w fun e w' => ∃ v, e = .returned v ∧ Kd.R k43 43 w' w.heap.size (fun _ => True) v (List.replicate n p) ∧ Below w.heap.size w w' := by
  obtain ⟨sa, eA, _⟩ := hr0.2.2 (by omega)
  subst eA
  have h0 : ¬ (n : Int) < 0 := by omega
  have e4 : IntKind.u64.wrap (n : Int) = n := by simp [IntKind.wrap, IntKind.signed, IntKind.bits]; omega
  have e5 : IntKind.u64.wrap 1 = 1 := by decide
  have e6 : IntKind.i64.wrap (n : Int) = n := by simp [IntKind.wrap, IntKind.signed, IntKind.bits]; omega
  have hm := mul1 n hn2
  have hm' := Aside0.mk hm
  clear hm
  go_enter Try.func64, Try.ntmps64
  go_wp2_with fail
  refine (bits_Mul.calls 1 n 0 n w hm'.out).mono ?_
  rintro e w1 ⟨rfl, hdr⟩
  have hB1 := Aside0.mk hdr.below
  have hC1 := Aside0.mk (Kd.C_below hr0 hdr.below)
  clear hdr hr0
  have hg0 : ¬ (9223372036854775807 : Int) < n := by omega
  go_wp2_with (first | (at_make; refine Kd.R_make k43 (w0 := w) w.heap.size 43 rfl (N := 30) rfl 25 (.tmp 29) (.tmp 29) rfl (n : Int) rfl rfl Try.underlying25 (.agg #[(.int .u8 0), (.int .u8 0), (.int .u8 0), (.int .u8 0)]) 4 info43 rfl (by decide) (by decide) z43 (ok := fun _ => True) (okp := fun _ => True) ?hz (fun _ hk => hk) trivial ?h0 ?hl ?hB ?hb ?_; (case hz => exact k43_mkM _ _ _ z43); (case h0 => omega); (case hl => simp; omega); (case hB => exact hB1.out); (case hb => exact hB1.out.size); intro v1 w2 ho hb2 hgr hfr; rw [Int.toNat_natCast] at ho; obtain ⟨g, cp, ev, hgb, hgl, _⟩ := Kd.R_form ho (by rw [List.length_replicate]; omega); rw [List.length_replicate] at ev; subst ev; have hR := Aside0.mk ho; have hC2 := Aside0.mk (pcells_at (Kd.C_below hC1.out (show Below w1.heap.size w1 w2 from ⟨hgr.os, hgr.tape, hgr.output, hgr.size, fun i hi => hgr.block i hi (by simp)⟩))); have hB2 := Aside0.mk hb2; clear ho hb2 hgr hfr) | ((with_reducible refine gate_builtin (b := .copy) (xs := #[.tmp 31, .tmp 32]) rfl ?_); refine copyR (lo := 0) (dLen := n) (dCap := cp) rfl (.tmp 31) (.tmp 32) rfl rfl rfl hR.out hC2.out ?hn ?hf ?_; (case hn => exact (Nat.min_eq_left hn).symm); (case hf => simp only [List.length_cons, List.length_nil]; omega); intro w3 hR2 hg2; have hR3 := Aside0.mk hR2; have hB3 := Aside0.mk (pw_below_grown hB2.out (some g) hB2.out.size hg2 (fun _ h => by cases h; exact hgb)); clear hR2 hg2))
  have hcp : n ≤ cp := (Kd.R_reads' hR3.out).2.1
  clear hR hC2 hB2 hB1 hC1
  go_loopw [8] (fun v w' => ∃ k : Nat, 1 ≤ k ∧ k ≤ n ∧ v = .int .i64 k ∧ Aside0 (Kd.R k43 43 w' w.heap.size (fun _ => True) (.slice (some ⟨g, 0, none⟩) n cp) (rep p n k)) ∧ Aside0 (Below w.heap.size w w')) (fun v _ => n - (intOf v).toNat)
  case atStart =>
    refine ⟨1, Nat.le_refl _, hn, rfl, ?_, hB3⟩
    have e := rep_over p (n := n) (k := 0) (j := 1) (by omega)
    have e2 : rep p n 0 = List.replicate n z43 := by simp [rep]
    rw [e2] at e
    exact ⟨by rw [show rep p n 1 = rep p n (0 + 1) from rfl, ← e]; exact hR3.out⟩
  case round =>
    clear hR3 hB3
    obtain ⟨k, hk1, hkn, rfl, hR, hB⟩ := hrel
    by_cases hlt : k < n
    · have hlt' : (k : Int) < (n : Int) := by omega
      have q0 : (0 : Int) ≤ (k : Int) := by omega
      have q1 : (k : Int) ≤ (n : Int) := by omega
      have q2 : (k : Int) ≤ (cp : Int) := by omega
      have q3 : ¬ cp = k := by omega
      have q4 : ¬ (cp : Int) = (k : Int) := by omega
      have q5 : ¬ cp = 0 := by omega
      obtain ⟨j, hj⟩ : ∃ j, j = Nat.min k (n - k) := ⟨_, rfl⟩
      have hj1 : 1 ≤ j ∧ j ≤ k ∧ k + j ≤ n := by rw [hj, show Nat.min k (n - k) = min k (n - k) from rfl]; omega
      have hJ := Aside0.mk (And.intro hj hj1)
      have ekj0 : IntKind.i64.wrap ((k : Int) + (j : Int)) = ((k + j : Nat) : Int) := by rw [IntKind.wrap_i64]; omega
      have ekj := Aside0.mk ekj0
      clear ekj0 hj hj1
      have hcells : ∀ W', Kd.R k43 43 W' w.heap.size (fun _ => True) (.slice (some ⟨g, 0, none⟩) n cp) (rep p n k) → ∀ i v, (pcells (List.replicate j p))[i]? = some v → W'.cell? ((⟨g, 0, none⟩ : Addr).add i) = some v := by
        intro W' hR'
        obtain ⟨r1, r2, r3⟩ := Kd.R_reads' hR'
        have r4 := Kd.C_take r3 (m := j) (by rw [rep_length p hkn]; exact Nat.le_trans hJ.out.2.2.1 hkn)
        have e : (rep p n k).take j = List.replicate j p := by
          unfold rep
          rw [List.take_append_of_le_length (by rw [List.length_replicate]; exact hJ.out.2.2.1), List.take_replicate, Nat.min_eq_left hJ.out.2.2.1]
        rw [e] at r4
        exact pcells_at r4
      have hcl := Aside0.mk hcells
      clear hcells
      go_wp2_with fail
      replace hR := Aside0.mk (Kd.R_drew hR.out)
      replace hB := Aside0.mk (below_drew1 hB.out)
      go_region_held3 (fun _ => True) (trivial) (first | (refine copyR_step (lo := k) (dLen := n - k) (sLen := k) rfl (.tmp 41) (.tmp 44) rfl rfl rfl hR.out (hcl.out _ hR.out) ?hn ?hf ?_; (case hn => rw [List.length_replicate]; exact hJ.out.1); (case hf => rw [List.length_replicate]; exact hJ.out.2.2.2); intro w4 hR2 hg2; rw [rep_over p hJ.out.2.2.2] at hR2; rw [List.length_replicate]; replace hR := Aside0.mk hR2; replace hB := Aside0.mk (pw_below_grown hB.out (some g) hB.out.size hg2 (fun _ h => by cases h; exact hgb)); clear hR2 hg2))
      have ek := ekj.out
      go_wp2
      go_roundw
      case measure =>
        rw [ek]
        simp only [intOf, Int.toNat_natCast]
        have := hJ.out
        omega
      case rel => exact ⟨k + j, by have := hJ.out; omega, hJ.out.2.2.2, by rw [ek], hR, hB⟩
    · obtain rfl : k = n := by omega
      go_wp2
      go_ret
      refine ⟨_, rfl, ?_, hB.out⟩
      have e : rep p k k = List.replicate k p := by simp [rep]
      rw [← e]
      exact hR.out
def api_Pixel_64.f (l : List S43) (n : Int) : Option (List S43) := if l.length = 1 ∧ 1 ≤ n ∧ n ≤ 65536 then some (List.replicate n.toNat (l.getD 0 z43)) else none
theorem api_Pixel_64.calls (A0 : Option Addr) (c0 : Nat) (l0 : List (S43)) (a1 : Int) (r : List (S43)) (w : World) (hr0 : Kd.C k43 w A0 l0.length l0) (hc0 : l0.length ≤ c0) (h : api_Pixel_64.f l0 a1 = some r) :
    Calls Try.prog 64 #[.slice A0 l0.length c0, .int .i64 a1] w fun e w' => ∃ v0_ : Value, e = .returned (v0_) ∧ Kd.R k43 43 w' w.heap.size (fun _ => True) v0_ r ∧ Below w.heap.size w w' := by
  unfold api_Pixel_64.f at h
  split at h
  · rename_i hl
    obtain ⟨h1, h2, h3⟩ := hl
    obtain rfl := Option.some.inj h
    obtain ⟨n, rfl⟩ : ∃ n : Nat, a1 = n := ⟨a1.toNat, by omega⟩
    obtain ⟨p, rfl⟩ : ∃ p, l0 = [p] := by
      cases l0 with
      | nil => cases h1
      | cons p t => cases t with
        | nil => exact ⟨p, rfl⟩
        | cons q t => simp at h1
    exact slices_Repeat.calls p A0 c0 n w (by omega) (by omega) hr0 hc0
  · cases h
end
end Go.Proofs.Ytmockeaiccpogaa.All
end
section
namespace Go.Proofs.Ytmockeaiccpogaa.All
open Go.RowKit Go.Proofs.YtmockeaiccpogaaW.PrintWords Go.Proofs.YtmockeaiccpogaaW.PrintLast Go.Proofs.YtmockeaiccpogaaW.PrintMore
attribute [local go_sem] max2_int min2_int max_two min_two max_three min_three max_four min_four
set_option linter.unusedVariables false
set_option linter.unusedSimpArgs false
def buffer_New.j0 : Nat → Int → Int → Bool → Int → Int → Int → Int → Option (Int × Int × (List (S43)) × Int)
  | 0, _, _, _, _, _, _, _ => none
  | k + 1, x0, x1, x8, x638000, x638001, x638002, x638003 => if x8 = true then (some (0, 0, ([] : List (S43)), 6)) else ((pixel_Valid.f x638000 x638001 x638002 x638003).bind fun t641 => (if t641 = true then ((api_Pixel_64.f (([(⟨x638000, x638001, x638002, x638003⟩ : S43)] : List (S43))) (wrap64 (x0 * x1))).bind fun t645 => (some (x0, x1, t645, 0))) else (some (0, 0, ([] : List (S43)), 15))))
def buffer_New.f (k : Nat) (a0 : Int) (a1 : Int) (a2_0 : Int) (a2_1 : Int) (a2_2 : Int) (a2_3 : Int) : Option (Int × Int × (List (S43)) × Int) := (buffer_size.f a0).bind fun t639 => (if t639 = true then ((buffer_size.f a1).bind fun t640 => (buffer_New.j0 k a0 a1 (!t640) a2_0 a2_1 a2_2 a2_3)) else (buffer_New.j0 k a0 a1 true a2_0 a2_1 a2_2 a2_3))
set_option maxHeartbeats 8000000 in
set_option maxRecDepth 100000 in
theorem buffer_New.calls (k : Nat) (a0 : Int) (a1 : Int) (a2_0 : Int) (a2_1 : Int) (a2_2 : Int) (a2_3 : Int) (r1 : Int) (r2 : Int) (r3 : List (S43)) (r4 : Int) (w : World) (h : buffer_New.f k a0 a1 a2_0 a2_1 a2_2 a2_3 = some (r1, r2, r3, r4)) :
    Calls Try.prog 37 #[.int .i64 a0, .int .i64 a1, .agg #[.int .u8 a2_0, .int .u8 a2_1, .int .u8 a2_2, .int .u8 a2_3]] w fun e w' => ∃ v2_ : Value, e = .returned (.tuple #[.agg #[.int .i64 r1, .int .i64 r2, v2_], .int .i64 r4]) ∧ Kd.R k43 43 w' w.heap.size (fun _ => True) v2_ r3 ∧ Below w.heap.size w w' := by
  have hu43 := Try.underlying43
  have hu27 := Try.underlying27
  have HB := Aside0.mk (Below.refl w.heap.size w)
  have H : ((buffer_size.f a0).bind fun t639 => (if t639 = true then ((buffer_size.f a1).bind fun t640 => (buffer_New.j0 k a0 a1 (!t640) a2_0 a2_1 a2_2 a2_3)) else (buffer_New.j0 k a0 a1 true a2_0 a2_1 a2_2 a2_3))) = some (r1, r2, r3, r4) := h
  clear h
  have HC4 := Aside0.mk H
  clear H
  go_enter Try.func37, Try.ntmps37
  go_upto_region 1 with (first | ((with_reducible refine gate_dst (N := 5) rfl ?_); refine box_event ?hg (N := 5) ?hd (cs := #[.int .u8 a2_0, .int .u8 a2_1, .int .u8 a2_2, .int .u8 a2_3]) (t := 43) ?hr ?_; (case hd => rfl); (case hg => rfl); (case hr => first | (go_simp; done) | (go_simp; rfl)); intro gb637 hg w5 hbox hb; have n0_ := Aside0.mk (below_step (by repeat (first | (with_reducible first | exact HB.out | apply below_alloc | apply pw_below_drewN | apply below_drew1) | exact HB.out)) hb); have n1_ := Aside0.mk (hbox); have n2_ := Aside0.mk ((by rw [hg]; exact (below_size (by repeat (first | (with_reducible first | exact HB.out | apply below_alloc | apply pw_below_drewN | apply below_drew1) | exact HB.out))) : w.heap.size ≤ gb637)); have n3_ := Aside0.mk ((by rw [hg]; exact (below_size (by repeat (first | (with_reducible first | exact HB.out | apply below_alloc | apply pw_below_drewN | apply below_drew1) | exact HB.out))) : w.heap.size ≤ gb637)); clear HB; have HB := n0_; have BK637 := n1_; have GW637 := n2_; have GE637 := n3_; clear n0_ n1_ n2_ n3_; clear hb hbox hg) | ((with_reducible refine gate_dst (N := 6) rfl ?_); refine box_event ?hg (N := 6) ?hd (cs := #[.int .i64 0, .int .i64 0, .slice none 0 0]) (t := 27) ?hr ?_; (case hd => rfl); (case hg => rfl); (case hr => first | (go_simp; done) | (go_simp; rfl)); intro gb638 hg w6 hbox hb; have n0_ := Aside0.mk (blk_below (g := gb637) (o := .cells #[.int .u8 a2_0, .int .u8 a2_1, .int .u8 a2_2, .int .u8 a2_3] 43 (0, 0)) (by (with_reducible repeat (first | refine blk_drewN ?_ _ | refine blk_drew ?_ | refine blk_alloc ?_ _)); exact BK637.out) hb); have n1_ := Aside0.mk (below_step (by repeat (first | (with_reducible first | exact HB.out | apply below_alloc | apply pw_below_drewN | apply below_drew1 | refine below_set ?_ GE637.out) | exact HB.out)) hb); have n2_ := Aside0.mk (hbox); have n3_ := Aside0.mk ((by rw [hg]; exact (below_size (by repeat (first | (with_reducible first | exact HB.out | apply below_alloc | apply pw_below_drewN | apply below_drew1 | refine below_set ?_ GE637.out) | exact HB.out))) : w.heap.size ≤ gb638)); have n4_ := Aside0.mk ((by rw [hg]; exact (below_size (by repeat (first | (with_reducible first | exact HB.out | apply below_alloc | apply pw_below_drewN | apply below_drew1 | refine below_set ?_ GE637.out) | exact HB.out))) : w.heap.size ≤ gb638)); have n5_ := Aside0.mk ((by rw [hg]; exact Nat.ne_of_lt (blk_lt (g := gb637) (o := .cells #[.int .u8 a2_0, .int .u8 a2_1, .int .u8 a2_2, .int .u8 a2_3] 43 (0, 0)) (by (with_reducible repeat (first | refine blk_drewN ?_ _ | refine blk_drew ?_ | refine blk_alloc ?_ _)); exact BK637.out)) : gb637 ≠ gb638)); have n6_ := Aside0.mk ((by rw [hg]; exact Nat.ne_of_gt (blk_lt (g := gb637) (o := .cells #[.int .u8 a2_0, .int .u8 a2_1, .int .u8 a2_2, .int .u8 a2_3] 43 (0, 0)) (by (with_reducible repeat (first | refine blk_drewN ?_ _ | refine blk_drew ?_ | refine blk_alloc ?_ _)); exact BK637.out)) : gb638 ≠ gb637)); clear BK637; clear HB; have BK637 := n0_; have HB := n1_; have BK638 := n2_; have GW638 := n3_; have GE638 := n4_; have NB637_638 := n5_; have NB638_637 := n6_; clear n0_ n1_ n2_ n3_ n4_ n5_ n6_; clear hb hbox hg))
  (try simp only [Act.put, List.setIfInBounds_toArray, List.set_cons_zero, List.set_cons_succ])
  go_cut [8] (fun v8 wc => ∃ (kq : Nat) (x8_3 : Bool), v8 = .bool x8_3 ∧ Aside0 (buffer_New.j0 kq a0 a1 x8_3 a2_0 a2_1 a2_2 a2_3 = some (r1, r2, r3, r4)) ∧ Aside0 (kq ≤ k) ∧ Aside0 (wc.heap[gb637]? = some (.cells #[.int .u8 a2_0, .int .u8 a2_1, .int .u8 a2_2, .int .u8 a2_3] 43 (0, 0))) ∧ Aside0 (wc.heap[gb638]? = some (.cells #[.int .i64 0, .int .i64 0, (.slice none 0 0)] 27 (0, 0))) ∧ Aside0 (Below w.heap.size w wc))
  case first =>
    have H := HC4.out
    clear HC4
    replace H := Option.bind_eq_some_iff.mp H
    obtain ⟨t639, A70, H⟩ := H
    replace H : (if t639 = true then ((buffer_size.f a1).bind fun t640 => (buffer_New.j0 k a0 a1 (!t640) a2_0 a2_1 a2_2 a2_3)) else (buffer_New.j0 k a0 a1 true a2_0 a2_1 a2_2 a2_3)) = some (r1, r2, r3, r4) := H
    have A7 := Aside0.mk A70
    clear A70
    by_cases c8 : t639 = true
    · subst c8
      have H1 : ((buffer_size.f a1).bind fun t640 => (buffer_New.j0 k a0 a1 (!t640) a2_0 a2_1 a2_2 a2_3)) = some (r1, r2, r3, r4) := by rw [if_pos rfl] at H; exact H
      clear H
      have H := H1
      clear H1
      replace H := Option.bind_eq_some_iff.mp H
      obtain ⟨t640, A90, H⟩ := H
      replace H : (buffer_New.j0 k a0 a1 (!t640) a2_0 a2_1 a2_2 a2_3) = some (r1, r2, r3, r4) := H
      have A9 := Aside0.mk A90
      clear A90
      have H' := Aside0.mk H
      clear H
      go_wp2_with (first | ((with_reducible refine gate_callee (f := 39) rfl ?_); refine goesL_ (some 10) rfl rfl Try.func39 (by kernel_rfl) rfl #[.int .i64 a0] rfl (by (try simp only [List.map_toArray, List.map_cons, List.map_nil]); first | done | rfl | (simp only [List.length_drop, List.length_take]; rfl)) ?_; (with_reducible refine (buffer_size.calls a0 true _ A7.out).mono ?_); rintro e w' ⟨rfl, ⟨nd, rfl⟩⟩; refine ⟨_, rfl, ?_⟩) | (go_at_call 39; (with_reducible refine (buffer_size.calls a1 t640 _ A9.out).mono ?_); rintro e w' ⟨rfl, ⟨nd, rfl⟩⟩))
      go_meet
      case rel => exact ⟨_, (!t640), (by first | rfl | (simp; done) | (simp [*]; done)), H', ⟨by first | omega | exact Nat.le_refl _⟩, ⟨by (with_reducible repeat (first | refine blk_drewN ?_ _ | refine blk_drew ?_ | refine blk_alloc ?_ _)); exact BK637.out⟩, ⟨by (with_reducible repeat (first | refine blk_drewN ?_ _ | refine blk_drew ?_ | refine blk_alloc ?_ _)); exact BK638.out⟩, ⟨by repeat (first | (with_reducible first | exact HB.out | apply below_alloc | apply pw_below_drewN | apply below_drew1 | refine below_set ?_ GE637.out | refine below_set ?_ GE638.out) | exact HB.out)⟩⟩
    · replace c8 := Bool.eq_false_iff.mpr c8
      subst c8
      have H1 : (buffer_New.j0 k a0 a1 true a2_0 a2_1 a2_2 a2_3) = some (r1, r2, r3, r4) := by rw [if_neg (show ¬ (false = true) by decide)] at H; exact H
      clear H
      have H := H1
      clear H1
      have H' := Aside0.mk H
      clear H
      go_wp2_with (first | ((with_reducible refine gate_callee (f := 39) rfl ?_); refine goesL_ (some 10) rfl rfl Try.func39 (by kernel_rfl) rfl #[.int .i64 a0] rfl (by (try simp only [List.map_toArray, List.map_cons, List.map_nil]); first | done | rfl | (simp only [List.length_drop, List.length_take]; rfl)) ?_; (with_reducible refine (buffer_size.calls a0 false _ A7.out).mono ?_); rintro e w' ⟨rfl, ⟨nd, rfl⟩⟩; refine ⟨_, rfl, ?_⟩))
      go_meet
      case rel => exact ⟨_, (true), (by first | rfl | (simp; done) | (simp [*]; done)), H', ⟨by first | omega | exact Nat.le_refl _⟩, ⟨by (with_reducible repeat (first | refine blk_drewN ?_ _ | refine blk_drew ?_ | refine blk_alloc ?_ _)); exact BK637.out⟩, ⟨by (with_reducible repeat (first | refine blk_drewN ?_ _ | refine blk_drew ?_ | refine blk_alloc ?_ _)); exact BK638.out⟩, ⟨by repeat (first | (with_reducible first | exact HB.out | apply below_alloc | apply pw_below_drewN | apply below_drew1 | refine below_set ?_ GE637.out | refine below_set ?_ GE638.out) | exact HB.out)⟩⟩
  case rest =>
    clear HC4
    try clear p2
    try clear c3
    try clear c8
    obtain ⟨kq, x8_3, rfl, HA, HJ3, BK637, BK638, HB⟩ := hcut
    cases kq with
    | zero => exact absurd HA.out (by simp [buffer_New.j0])
    | succ kj3 =>
      have H := HA.out
      clear HA
      simp only [buffer_New.j0] at H
      by_cases c10 : x8_3 = true
      · subst c10
        have H1 : (some (0, 0, ([] : List (S43)), 6)) = some (r1, r2, r3, r4) := by rw [if_pos rfl] at H; exact H
        clear H
        have H := H1
        clear H1
        simp only [Option.some.injEq, Prod.mk.injEq] at H
        obtain ⟨rfl, rfl, rfl, rfl⟩ := H
        have hnb11 := NB638_637.out
        have hnc11 := NB637_638.out
        have hcz12_0 : wc.cell? ⟨gb638, 0, none⟩ = some (.int .i64 0) := (blk_cell BK638.out 0).trans rfl
        have hcz12_1 : wc.cell? ⟨gb638, 1, none⟩ = some (.int .i64 0) := (blk_cell BK638.out 1).trans rfl
        have hcz12_2 : wc.cell? ⟨gb638, 2, none⟩ = some (.slice none 0 0) := (blk_cell BK638.out 2).trans rfl
        have hfz12_0 := blk_frozen BK638.out 0
        have hfz12_1 := blk_frozen BK638.out 1
        have hfz12_2 := blk_frozen BK638.out 2
        go_wp2
        refine bodyPost_ret (results_ct rfl _ _ gb638 27 #[.int .i64 0, .int .i64 0, .slice none 0 0] (0, 0) _ rfl (by (with_reducible repeat (first | refine blk_drewN ?_ _ | refine blk_drew ?_ | refine blk_alloc ?_ _)); refine blk_put (cs := #[.int .i64 0, .int .i64 0, .slice none 0 0]) ?_ 2 _ rfl; (with_reducible repeat (first | refine blk_drewN ?_ _ | refine blk_drew ?_ | refine blk_alloc ?_ _)); refine blk_put (cs := #[.int .i64 0, .int .i64 0, .slice none 0 0]) ?_ 1 _ rfl; (with_reducible repeat (first | refine blk_drewN ?_ _ | refine blk_drew ?_ | refine blk_alloc ?_ _)); refine blk_put (cs := #[.int .i64 0, .int .i64 0, .slice none 0 0]) ?_ 0 _ rfl; (with_reducible repeat (first | refine blk_drewN ?_ _ | refine blk_drew ?_ | refine blk_alloc ?_ _)); exact BK638.out) Try.underlying27 rfl (by kernel_rfl)) rfl ?_
        exact ⟨_, by first | rfl | (simp [errW_none, errW_some] <;> rfl) | (simp [*, errW_none, errW_some] <;> rfl), by first | exact Kd.R_nil _ _ _ _ _ | exact Kd.N_nil _ _ _ _ _ | exact Kd.V_nil _ _ _ _ _ | exact Kd.Q_nil _ _ _ _ _ | exact Kd.S_nil _ _ _ _ _, by repeat (first | (with_reducible first | exact HB.out | apply below_alloc | apply pw_below_drewN | apply below_drew1 | refine below_set ?_ GE637.out | refine below_set ?_ GE638.out) | exact HB.out)⟩
      · replace c10 := Bool.eq_false_iff.mpr c10
        subst c10
        have H1 : ((pixel_Valid.f a2_0 a2_1 a2_2 a2_3).bind fun t641 => (if t641 = true then ((api_Pixel_64.f (([(⟨a2_0, a2_1, a2_2, a2_3⟩ : S43)] : List (S43))) (wrap64 (a0 * a1))).bind fun t645 => (some (a0, a1, t645, 0))) else (some (0, 0, ([] : List (S43)), 15)))) = some (r1, r2, r3, r4) := by rw [if_neg (show ¬ (false = true) by decide)] at H; exact H
        clear H
        have H := H1
        clear H1
        replace H := Option.bind_eq_some_iff.mp H
        obtain ⟨t641, A130, H⟩ := H
        replace H : (if t641 = true then ((api_Pixel_64.f (([(⟨a2_0, a2_1, a2_2, a2_3⟩ : S43)] : List (S43))) (wrap64 (a0 * a1))).bind fun t645 => (some (a0, a1, t645, 0))) else (some (0, 0, ([] : List (S43)), 15))) = some (r1, r2, r3, r4) := H
        have A13 := Aside0.mk A130
        clear A130
        by_cases c14 : t641 = true
        · subst c14
          have H1 : ((api_Pixel_64.f (([(⟨a2_0, a2_1, a2_2, a2_3⟩ : S43)] : List (S43))) (wrap64 (a0 * a1))).bind fun t645 => (some (a0, a1, t645, 0))) = some (r1, r2, r3, r4) := by rw [if_pos rfl] at H; exact H
          clear H
          have H := H1
          clear H1
          obtain ⟨y642, hy642⟩ : ∃ y_ : List (S43), y_ = (([(⟨a2_0, a2_1, a2_2, a2_3⟩ : S43)] : List (S43))) := ⟨_, rfl⟩
          replace H : ((api_Pixel_64.f y642 (wrap64 (a0 * a1))).bind fun t645 => (some (a0, a1, t645, 0))) = some (r1, r2, r3, r4) := by first | (rw [hy642]; with_reducible exact H) | (have H2_ := (Option.bind_some _ _).symm.trans H; rw [hy642]; with_reducible exact H2_) | (have H2_ := (Option.bind_some _ _).symm.trans H; with_reducible exact H2_) | with_reducible exact H | (rw [hy642]; exact H) | exact H
          have Ny642 := Aside0.mk hy642
          clear hy642
          replace H := Option.bind_eq_some_iff.mp H
          obtain ⟨t645, A150, H⟩ := H
          replace H : (some (a0, a1, t645, 0)) = some (r1, r2, r3, r4) := H
          have A15 := Aside0.mk A150
          clear A150
          simp only [Option.some.injEq, Prod.mk.injEq] at H
          obtain ⟨rfl, rfl, rfl, rfl⟩ := H
          have hnb16 := NB637_638.out
          have hnc16 := NB638_637.out
          have hcz17_0 : wc.cell? ⟨gb637, 0, none⟩ = some (.int .u8 a2_0) := (blk_cell BK637.out 0).trans rfl
          have hcz17_1 : wc.cell? ⟨gb637, 1, none⟩ = some (.int .u8 a2_1) := (blk_cell BK637.out 1).trans rfl
          have hcz17_2 : wc.cell? ⟨gb637, 2, none⟩ = some (.int .u8 a2_2) := (blk_cell BK637.out 2).trans rfl
          have hcz17_3 : wc.cell? ⟨gb637, 3, none⟩ = some (.int .u8 a2_3) := (blk_cell BK637.out 3).trans rfl
          have hfz17_0 := blk_frozen BK637.out 0
          have hfz17_1 := blk_frozen BK637.out 1
          have hfz17_2 := blk_frozen BK637.out 2
          have hfz17_3 := blk_frozen BK637.out 3
          go_wp2_with (first | ((with_reducible refine gate_callee (f := 53) rfl ?_); refine goesL_ (some 20) rfl rfl Try.func53 (by kernel_rfl) rfl #[.agg #[.int .u8 a2_0, .int .u8 a2_1, .int .u8 a2_2, .int .u8 a2_3]] rfl (by (try simp only [List.map_toArray, List.map_cons, List.map_nil]); first | done | rfl | (simp only [List.length_drop, List.length_take]; rfl)) ?_; (with_reducible refine (pixel_Valid.calls a2_0 a2_1 a2_2 a2_3 true _ A13.out).mono ?_); rintro e w18 ⟨rfl, hb⟩; refine ⟨_, rfl, ?_⟩; have n0_ := Aside0.mk (blk_below (g := gb637) (o := .cells #[.int .u8 a2_0, .int .u8 a2_1, .int .u8 a2_2, .int .u8 a2_3] 43 (0, 0)) (by (with_reducible repeat (first | refine blk_drewN ?_ _ | refine blk_drew ?_ | refine blk_alloc ?_ _)); exact BK637.out) hb); have n1_ := Aside0.mk (blk_below (g := gb638) (o := .cells #[.int .i64 0, .int .i64 0, .slice none 0 0] 27 (0, 0)) (by (with_reducible repeat (first | refine blk_drewN ?_ _ | refine blk_drew ?_ | refine blk_alloc ?_ _)); exact BK638.out) hb); have n2_ := Aside0.mk (below_step (by repeat (first | (with_reducible first | exact HB.out | apply below_alloc | apply pw_below_drewN | apply below_drew1 | refine below_set ?_ GE637.out | refine below_set ?_ GE638.out) | exact HB.out)) hb); clear BK637; clear BK638; clear HB; have BK637 := n0_; have BK638 := n1_; have HB := n2_; clear n0_ n1_ n2_; (try clear hb); (try clear hb2); (try clear hk); (try clear hi); have hcz19_0 : w18.cell? ⟨gb637, 0, none⟩ = some (.int .u8 a2_0) := (blk_cell BK637.out 0).trans rfl; have hcz19_1 : w18.cell? ⟨gb637, 1, none⟩ = some (.int .u8 a2_1) := (blk_cell BK637.out 1).trans rfl; have hcz19_2 : w18.cell? ⟨gb637, 2, none⟩ = some (.int .u8 a2_2) := (blk_cell BK637.out 2).trans rfl; have hcz19_3 : w18.cell? ⟨gb637, 3, none⟩ = some (.int .u8 a2_3) := (blk_cell BK637.out 3).trans rfl; have hfz19_0 := blk_frozen BK637.out 0; have hfz19_1 := blk_frozen BK637.out 1; have hfz19_2 := blk_frozen BK637.out 2; have hfz19_3 := blk_frozen BK637.out 3) | ((with_reducible refine gate_dst (N := 26) rfl ?_); refine Kd.R_lit k43 _ 43 ?hg (N := 26) ?hd (xs := ([(⟨a2_0, a2_1, a2_2, a2_3⟩ : S43)] : List (S43))) (inner := [.int .u8 a2_0, .int .u8 a2_1, .int .u8 a2_2, .int .u8 a2_3]) (ok := fun _ => True) (okp := fun _ => True) ?hr ?hp (fun _ hk => hk) trivial (Below.refl _ _) (Nat.le_refl _) (by simp) ?_; (case hd => rfl); (case hg => rfl); (case hr => first | (go_simp; done) | (go_simp; rfl)); (case hp => exact (Reps.c4 (show Kd.M k43 _ _ _ (⟨a2_0, a2_1, a2_2, a2_3⟩ : S43) [.int .u8 a2_0, .int .u8 a2_1, .int .u8 a2_2, .int .u8 a2_3] from (k43_mkM _ _ _ (⟨a2_0, a2_1, a2_2, a2_3⟩ : S43) )) (Reps.none _ _))); intro v643 w20 ho21 hb hg_ hnew_; clear hg_ hnew_; (first | rw [← Ny642.out] at ho21 | (simp only [Int.reduceToNat] at ho21; rw [← Ny642.out] at ho21)); have n0_ := Aside0.mk (Kd.R_lower (Kd.R_newB ho21 (g := gb637) (o := .cells #[.int .u8 a2_0, .int .u8 a2_1, .int .u8 a2_2, .int .u8 a2_3] 43 (0, 0)) (by (with_reducible repeat (first | refine blk_drewN ?_ _ | refine blk_drew ?_ | refine blk_alloc ?_ _)); exact BK637.out)) (below_size (by repeat (first | (with_reducible first | exact HB.out | apply below_alloc | apply pw_below_drewN | apply below_drew1 | refine below_set ?_ GE637.out | refine below_set ?_ GE638.out) | exact HB.out)))); have n1_ := Aside0.mk (blk_below (g := gb637) (o := .cells #[.int .u8 a2_0, .int .u8 a2_1, .int .u8 a2_2, .int .u8 a2_3] 43 (0, 0)) (by (with_reducible repeat (first | refine blk_drewN ?_ _ | refine blk_drew ?_ | refine blk_alloc ?_ _)); exact BK637.out) hb); have n2_ := Aside0.mk (blk_below (g := gb638) (o := .cells #[.int .i64 0, .int .i64 0, .slice none 0 0] 27 (0, 0)) (by (with_reducible repeat (first | refine blk_drewN ?_ _ | refine blk_drew ?_ | refine blk_alloc ?_ _)); exact BK638.out) hb); have n3_ := Aside0.mk (below_step (by repeat (first | (with_reducible first | exact HB.out | apply below_alloc | apply pw_below_drewN | apply below_drew1 | refine below_set ?_ GE637.out | refine below_set ?_ GE638.out) | exact HB.out)) hb); clear BK637; clear BK638; clear HB; have HO644 := n0_; have BK637 := n1_; have BK638 := n2_; have HB := n3_; clear n0_ n1_ n2_ n3_; clear hb ho21; obtain ⟨Ao22, co22, eo22⟩ := Kd.R_slice HO644.out; subst eo22) | ((with_reducible refine gate_callee (f := 64) rfl ?_); refine goesL_ (some 30) rfl rfl Try.func64 (by kernel_rfl) rfl #[.slice Ao22 y642.length co22, .int .i64 (wrap64 (a0 * a1))] rfl (by (try simp only [List.map_toArray, List.map_cons, List.map_nil]); first | done | rfl | (simp only [List.length_drop, List.length_take]; rfl)) ?_; (with_reducible refine (api_Pixel_64.calls _ _ y642 (wrap64 (a0 * a1)) t645 _ ?side1 ?side2 A15.out).mono ?_); (case side1 => repeat (first | exact (Kd.R_reads' HO644.out).2.2 | (with_reducible refine Kd.C_alloc ?_ _) | (with_reducible refine Kd.C_drewN ?_ _) | (with_reducible refine Kd.C_drew ?_))); (case side2 => exact (Kd.R_reads' HO644.out).2.1); rintro e w23 ⟨v646, rfl, ho0, hb⟩; refine ⟨_, rfl, ?_⟩; have n0_ := Aside0.mk (Kd.R_elder' (by (with_reducible repeat (first | apply Kd.R_alloc | apply Kd.R_drewN | apply Kd.R_drew)); exact HO644.out) (Kd.R_base ho0) hb); have n1_ := Aside0.mk (Kd.R_lower (Kd.R_newB (Kd.R_new' ho0 (Kd.R_lt (by (with_reducible repeat (first | apply Kd.R_alloc | apply Kd.R_drewN | apply Kd.R_drew)); exact HO644.out))) (g := gb637) (o := .cells #[.int .u8 a2_0, .int .u8 a2_1, .int .u8 a2_2, .int .u8 a2_3] 43 (0, 0)) (by (with_reducible repeat (first | refine blk_drewN ?_ _ | refine blk_drew ?_ | refine blk_alloc ?_ _)); exact BK637.out)) (below_size (by repeat (first | (with_reducible first | exact HB.out | apply below_alloc | apply pw_below_drewN | apply below_drew1 | refine below_set ?_ GE637.out | refine below_set ?_ GE638.out) | exact HB.out)))); have n2_ := Aside0.mk (blk_below (g := gb637) (o := .cells #[.int .u8 a2_0, .int .u8 a2_1, .int .u8 a2_2, .int .u8 a2_3] 43 (0, 0)) (by (with_reducible repeat (first | refine blk_drewN ?_ _ | refine blk_drew ?_ | refine blk_alloc ?_ _)); exact BK637.out) hb); have n3_ := Aside0.mk (blk_below (g := gb638) (o := .cells #[.int .i64 0, .int .i64 0, .slice none 0 0] 27 (0, 0)) (by (with_reducible repeat (first | refine blk_drewN ?_ _ | refine blk_drew ?_ | refine blk_alloc ?_ _)); exact BK638.out) hb); have n4_ := Aside0.mk (below_step (by repeat (first | (with_reducible first | exact HB.out | apply below_alloc | apply pw_below_drewN | apply below_drew1 | refine below_set ?_ GE637.out | refine below_set ?_ GE638.out) | exact HB.out)) hb); clear HO644; clear BK637; clear BK638; clear HB; have HO644 := n0_; have HO647 := n1_; have BK637 := n2_; have BK638 := n3_; have HB := n4_; clear n0_ n1_ n2_ n3_ n4_; (try clear hb); (try clear hb2); (try clear hk); (try clear hi); (try clear ho0); obtain ⟨Ao24, co24, eo24⟩ := Kd.R_slice HO647.out; subst eo24; have hcz25_0 : w23.cell? ⟨gb638, 0, none⟩ = some (.int .i64 0) := (blk_cell BK638.out 0).trans rfl; have hcz25_1 : w23.cell? ⟨gb638, 1, none⟩ = some (.int .i64 0) := (blk_cell BK638.out 1).trans rfl; have hcz25_2 : w23.cell? ⟨gb638, 2, none⟩ = some (.slice none 0 0) := (blk_cell BK638.out 2).trans rfl; have hfz25_0 := blk_frozen BK638.out 0; have hfz25_1 := blk_frozen BK638.out 1; have hfz25_2 := blk_frozen BK638.out 2))
          refine bodyPost_ret (results_ct rfl _ _ gb638 27 #[.int .i64 a0, .int .i64 a1, .slice Ao24 t645.length co24] (0, 0) _ rfl (by (with_reducible repeat (first | refine blk_drewN ?_ _ | refine blk_drew ?_ | refine blk_alloc ?_ _)); refine blk_put (cs := #[.int .i64 a0, .int .i64 a1, .slice none 0 0]) ?_ 2 _ rfl; (with_reducible repeat (first | refine blk_drewN ?_ _ | refine blk_drew ?_ | refine blk_alloc ?_ _)); refine blk_put (cs := #[.int .i64 a0, .int .i64 0, .slice none 0 0]) ?_ 1 _ rfl; (with_reducible repeat (first | refine blk_drewN ?_ _ | refine blk_drew ?_ | refine blk_alloc ?_ _)); refine blk_put (cs := #[.int .i64 0, .int .i64 0, .slice none 0 0]) ?_ 0 _ rfl; (with_reducible repeat (first | refine blk_drewN ?_ _ | refine blk_drew ?_ | refine blk_alloc ?_ _)); exact BK638.out) Try.underlying27 rfl (by kernel_rfl)) rfl ?_
          exact ⟨_, by first | rfl | (simp [errW_none, errW_some] <;> rfl) | (simp [*, errW_none, errW_some] <;> rfl), by (with_reducible repeat (first | apply Kd.R_alloc | apply Kd.R_drewN | apply Kd.R_drew)); exact Kd.R_mono (Kd.R_far (p := ⟨gb638, 2, none⟩) (Kd.R_far (p := ⟨gb638, 1, none⟩) (Kd.R_far (p := ⟨gb638, 0, none⟩) (Kd.R_types HO647.out BK638.out (by decide)) (fun _ hk => hk.2) (.int .i64 a0)) (fun _ hk => hk.2) (.int .i64 a1)) (fun _ hk => hk.2) (.slice Ao24 t645.length co24)) (fun _ hk => trivial), by repeat (first | (with_reducible first | exact HB.out | apply below_alloc | apply pw_below_drewN | apply below_drew1 | refine below_set ?_ GE637.out | refine below_set ?_ GE638.out) | exact HB.out)⟩
        · replace c14 := Bool.eq_false_iff.mpr c14
          subst c14
          have H1 : (some (0, 0, ([] : List (S43)), 15)) = some (r1, r2, r3, r4) := by rw [if_neg (show ¬ (false = true) by decide)] at H; exact H
          clear H
          have H := H1
          clear H1
          simp only [Option.some.injEq, Prod.mk.injEq] at H
          obtain ⟨rfl, rfl, rfl, rfl⟩ := H
          have hnb26 := NB637_638.out
          have hnc26 := NB638_637.out
          have hcz27_0 : wc.cell? ⟨gb637, 0, none⟩ = some (.int .u8 a2_0) := (blk_cell BK637.out 0).trans rfl
          have hcz27_1 : wc.cell? ⟨gb637, 1, none⟩ = some (.int .u8 a2_1) := (blk_cell BK637.out 1).trans rfl
          have hcz27_2 : wc.cell? ⟨gb637, 2, none⟩ = some (.int .u8 a2_2) := (blk_cell BK637.out 2).trans rfl
          have hcz27_3 : wc.cell? ⟨gb637, 3, none⟩ = some (.int .u8 a2_3) := (blk_cell BK637.out 3).trans rfl
          have hfz27_0 := blk_frozen BK637.out 0
          have hfz27_1 := blk_frozen BK637.out 1
          have hfz27_2 := blk_frozen BK637.out 2
          have hfz27_3 := blk_frozen BK637.out 3
          go_wp2_with (first | ((with_reducible refine gate_callee (f := 53) rfl ?_); refine goesL_ (some 20) rfl rfl Try.func53 (by kernel_rfl) rfl #[.agg #[.int .u8 a2_0, .int .u8 a2_1, .int .u8 a2_2, .int .u8 a2_3]] rfl (by (try simp only [List.map_toArray, List.map_cons, List.map_nil]); first | done | rfl | (simp only [List.length_drop, List.length_take]; rfl)) ?_; (with_reducible refine (pixel_Valid.calls a2_0 a2_1 a2_2 a2_3 false _ A13.out).mono ?_); rintro e w28 ⟨rfl, hb⟩; refine ⟨_, rfl, ?_⟩; have n0_ := Aside0.mk (blk_below (g := gb637) (o := .cells #[.int .u8 a2_0, .int .u8 a2_1, .int .u8 a2_2, .int .u8 a2_3] 43 (0, 0)) (by (with_reducible repeat (first | refine blk_drewN ?_ _ | refine blk_drew ?_ | refine blk_alloc ?_ _)); exact BK637.out) hb); have n1_ := Aside0.mk (blk_below (g := gb638) (o := .cells #[.int .i64 0, .int .i64 0, .slice none 0 0] 27 (0, 0)) (by (with_reducible repeat (first | refine blk_drewN ?_ _ | refine blk_drew ?_ | refine blk_alloc ?_ _)); exact BK638.out) hb); have n2_ := Aside0.mk (below_step (by repeat (first | (with_reducible first | exact HB.out | apply below_alloc | apply pw_below_drewN | apply below_drew1 | refine below_set ?_ GE637.out | refine below_set ?_ GE638.out) | exact HB.out)) hb); clear BK637; clear BK638; clear HB; have BK637 := n0_; have BK638 := n1_; have HB := n2_; clear n0_ n1_ n2_; (try clear hb); (try clear hb2); (try clear hk); (try clear hi); have hcz29_0 : w28.cell? ⟨gb638, 0, none⟩ = some (.int .i64 0) := (blk_cell BK638.out 0).trans rfl; have hcz29_1 : w28.cell? ⟨gb638, 1, none⟩ = some (.int .i64 0) := (blk_cell BK638.out 1).trans rfl; have hcz29_2 : w28.cell? ⟨gb638, 2, none⟩ = some (.slice none 0 0) := (blk_cell BK638.out 2).trans rfl; have hfz29_0 := blk_frozen BK638.out 0; have hfz29_1 := blk_frozen BK638.out 1; have hfz29_2 := blk_frozen BK638.out 2))
          refine bodyPost_ret (results_ct rfl _ _ gb638 27 #[.int .i64 0, .int .i64 0, .slice none 0 0] (0, 0) _ rfl (by (with_reducible repeat (first | refine blk_drewN ?_ _ | refine blk_drew ?_ | refine blk_alloc ?_ _)); refine blk_put (cs := #[.int .i64 0, .int .i64 0, .slice none 0 0]) ?_ 2 _ rfl; (with_reducible repeat (first | refine blk_drewN ?_ _ | refine blk_drew ?_ | refine blk_alloc ?_ _)); refine blk_put (cs := #[.int .i64 0, .int .i64 0, .slice none 0 0]) ?_ 1 _ rfl; (with_reducible repeat (first | refine blk_drewN ?_ _ | refine blk_drew ?_ | refine blk_alloc ?_ _)); refine blk_put (cs := #[.int .i64 0, .int .i64 0, .slice none 0 0]) ?_ 0 _ rfl; (with_reducible repeat (first | refine blk_drewN ?_ _ | refine blk_drew ?_ | refine blk_alloc ?_ _)); exact BK638.out) Try.underlying27 rfl (by kernel_rfl)) rfl ?_
          exact ⟨_, by first | rfl | (simp [errW_none, errW_some] <;> rfl) | (simp [*, errW_none, errW_some] <;> rfl), by first | exact Kd.R_nil _ _ _ _ _ | exact Kd.N_nil _ _ _ _ _ | exact Kd.V_nil _ _ _ _ _ | exact Kd.Q_nil _ _ _ _ _ | exact Kd.S_nil _ _ _ _ _, by repeat (first | (with_reducible first | exact HB.out | apply below_alloc | apply pw_below_drewN | apply below_drew1 | refine below_set ?_ GE637.out | refine below_set ?_ GE638.out) | exact HB.out)⟩
end Go.Proofs.Ytmockeaiccpogaa.All
end
