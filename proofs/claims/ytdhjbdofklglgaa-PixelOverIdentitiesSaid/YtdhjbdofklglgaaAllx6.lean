-- Written by a program of this session, which runs the kit's print.py and puts in functions that this session typed. Not trusted: Lean checks it.
import Derived.Test.YtdhjbdofklglgaaAllx0
import Derived.Test.YtdhjbdofklglgaaAllx2
namespace Go.Proofs.Ytdhjbdofklglgaa.All
open Go.RowKit Go.Proofs.YtdhjbdofklglgaaW.PrintWords Go.Proofs.YtdhjbdofklglgaaW.PrintLast Go.Proofs.YtdhjbdofklglgaaW.PrintMore
attribute [local go_sem] max2_int min2_int max_two min_two max_three min_three max_four min_four   -- for this text's walks alone
set_option linter.unusedVariables false
set_option linter.unusedSimpArgs false

/-! ### pixel_Average: function 16 -/
section
open Go.Proofs.YtdhjbdofklglgaaHand
def pixel_Average.me (s n : Int) : Int := IntKind.u8.wrap (IntKind.i64.wrap ((IntKind.i64.wrap (IntKind.i64.wrap (2 * s) + n)).tdiv (IntKind.i64.wrap (2 * n))))
theorem pixel_Average.lit0 (s n : Int) (gs gn : Nat) (w : World) (hs : w.cell? ⟨gs, 0, none⟩ = some (.int .i64 s)) (hn : w.cell? ⟨gn, 0, none⟩ = some (.int .i64 n)) (h0 : ¬ IntKind.i64.wrap (2 * n) = 0) :
    Calls Try.prog 33 #[.int .i64 0, .pointer (some ⟨gs, 0, none⟩), .pointer (some ⟨gn, 0, none⟩)] w fun e w' => e = .returned (.int .u8 (pixel_Average.me s n)) ∧ Drawn0 w w' := by
  go_enter Try.func33, Try.ntmps33
  go_wp2_with fail
  go_quiet (fail)
  go_wp2
  go_ret
  exact ⟨rfl, by repeat (first | exact Drawn0.refl _ | apply Drawn0.step)⟩
theorem pixel_Average.lit1 (s n : Int) (gs gn : Nat) (w : World) (hs : w.cell? ⟨gs, 1, none⟩ = some (.int .i64 s)) (hn : w.cell? ⟨gn, 0, none⟩ = some (.int .i64 n)) (h0 : ¬ IntKind.i64.wrap (2 * n) = 0) :
    Calls Try.prog 33 #[.int .i64 1, .pointer (some ⟨gs, 0, none⟩), .pointer (some ⟨gn, 0, none⟩)] w fun e w' => e = .returned (.int .u8 (pixel_Average.me s n)) ∧ Drawn0 w w' := by
  go_enter Try.func33, Try.ntmps33
  go_wp2_with fail
  go_quiet (fail)
  go_wp2
  go_ret
  exact ⟨rfl, by repeat (first | exact Drawn0.refl _ | apply Drawn0.step)⟩
theorem pixel_Average.lit2 (s n : Int) (gs gn : Nat) (w : World) (hs : w.cell? ⟨gs, 2, none⟩ = some (.int .i64 s)) (hn : w.cell? ⟨gn, 0, none⟩ = some (.int .i64 n)) (h0 : ¬ IntKind.i64.wrap (2 * n) = 0) :
    Calls Try.prog 33 #[.int .i64 2, .pointer (some ⟨gs, 0, none⟩), .pointer (some ⟨gn, 0, none⟩)] w fun e w' => e = .returned (.int .u8 (pixel_Average.me s n)) ∧ Drawn0 w w' := by
  go_enter Try.func33, Try.ntmps33
  go_wp2_with fail
  go_quiet (fail)
  go_wp2
  go_ret
  exact ⟨rfl, by repeat (first | exact Drawn0.refl _ | apply Drawn0.step)⟩
theorem pixel_Average.lit3 (s n : Int) (gs gn : Nat) (w : World) (hs : w.cell? ⟨gs, 3, none⟩ = some (.int .i64 s)) (hn : w.cell? ⟨gn, 0, none⟩ = some (.int .i64 n)) (h0 : ¬ IntKind.i64.wrap (2 * n) = 0) :
    Calls Try.prog 33 #[.int .i64 3, .pointer (some ⟨gs, 0, none⟩), .pointer (some ⟨gn, 0, none⟩)] w fun e w' => e = .returned (.int .u8 (pixel_Average.me s n)) ∧ Drawn0 w w' := by
  go_enter Try.func33, Try.ntmps33
  go_wp2_with fail
  go_quiet (fail)
  go_wp2
  go_ret
  exact ⟨rfl, by repeat (first | exact Drawn0.refl _ | apply Drawn0.step)⟩
def pixel_Average.step (s : Int × Int × Int × Int) (p : S23) : Int × Int × Int × Int := (wrap64 (s.1 + wrap64 (mn p.f0 p.f3)), wrap64 (s.2.1 + wrap64 (mn p.f1 p.f3)), wrap64 (s.2.2.1 + wrap64 (mn p.f2 p.f3)), wrap64 (s.2.2.2 + wrap64 p.f3))
def pixel_Average.sums (l : List S23) : Int × Int × Int × Int := l.foldl pixel_Average.step (0, 0, 0, 0)
theorem pixel_Average.sums_snoc (l : List S23) (i : Nat) (h : i < l.length) : pixel_Average.sums (l.take (i + 1)) = pixel_Average.step (pixel_Average.sums (l.take i)) (rd_T23 l i) := by
  unfold pixel_Average.sums
  rw [List.take_succ_eq_append_getElem h, List.foldl_append]
  simp [rd_T23, List.getD_eq_getElem?_getD, List.getElem?_eq_getElem h]
def pixel_Average.f (l0 : List S23) : Option (Int × Int × Int × Int) := if (l0.length : Int) = 0 then some (0, 0, 0, 0) else
  if IntKind.i64.wrap (2 * (l0.length : Int)) = 0 then none else some (pixel_Average.me (pixel_Average.sums l0).1 l0.length, pixel_Average.me (pixel_Average.sums l0).2.1 l0.length, pixel_Average.me (pixel_Average.sums l0).2.2.1 l0.length, pixel_Average.me (pixel_Average.sums l0).2.2.2 l0.length)
set_option maxHeartbeats 4000000 in
theorem pixel_Average.calls (A0 : Option Addr) (c0 : Nat) (l0 : List S23) (r1 r2 r3 r4 : Int) (w : World) (hr0 : Kd.C k23 w A0 l0.length l0) (hc0 : l0.length ≤ c0) (h : pixel_Average.f l0 = some (r1, r2, r3, r4)) :
    Calls Try.prog 16 #[.slice A0 l0.length c0] w fun e w' => e = .returned (.agg #[.int .u8 r1, .int .u8 r2, .int .u8 r3, .int .u8 r4]) ∧ Below w.heap.size w w' := by
  unfold pixel_Average.f at h
  have hmax : l0.length ≤ 9223372036854775807 := hr0.2.1
  have hr := Aside0.mk hr0
  clear hr0
  by_cases z : (l0.length : Int) = 0
  · rw [if_pos z] at h
    obtain ⟨rfl, rfl, rfl, rfl⟩ : 0 = r1 ∧ 0 = r2 ∧ 0 = r3 ∧ 0 = r4 := by simpa using h
    have z1 : ((l0.length : Int) == 0) = true := beq_iff_eq.mpr z
    clear z h
    go_enter Try.func16, Try.ntmps16
    go_wp2_with fail
    obtain ⟨hR0, -, hb0⟩ := allocs2 w (Obj.cells #[Value.int IntKind.u8 0, Value.int IntKind.u8 0, Value.int IntKind.u8 0, Value.int IntKind.u8 0] 23) (Obj.cells #[.int .i64 l0.length] 3)
    exact bodyPost_ret (results_cell_row rfl _ _ w.heap.size 23 #[.int .u8 0, .int .u8 0, .int .u8 0, .int .u8 0] (0, 0) _ rfl hR0 Try.underlying23 rfl (by kernel_rfl)) rfl ⟨rfl, hb0⟩
  · rw [if_neg z] at h
    have z1 : ((l0.length : Int) == 0) = false := beq_eq_false_iff_ne.mpr z
    by_cases zn : IntKind.i64.wrap (2 * (l0.length : Int)) = 0
    · rw [if_pos zn] at h; cases h
    rw [if_neg zn] at h
    obtain ⟨rfl, rfl, rfl, rfl⟩ : pixel_Average.me (pixel_Average.sums l0).1 l0.length = r1 ∧ pixel_Average.me (pixel_Average.sums l0).2.1 l0.length = r2 ∧ pixel_Average.me (pixel_Average.sums l0).2.2.1 l0.length = r3 ∧ pixel_Average.me (pixel_Average.sums l0).2.2.2 l0.length = r4 := by simpa using h
    have hzn := Aside0.mk zn
    clear z h zn
    go_enter Try.func16, Try.ntmps16
    go_wp2_with fail
    obtain ⟨hR0, hN0, hS0, hb0⟩ := allocs3 w (Obj.cells #[Value.int IntKind.u8 0, Value.int IntKind.u8 0, Value.int IntKind.u8 0, Value.int IntKind.u8 0] 23) (Obj.cells #[.int .i64 l0.length] 3) (Obj.cells #[Value.int IntKind.i64 0, Value.int IntKind.i64 0, Value.int IntKind.i64 0, Value.int IntKind.i64 0] 46)
    generalize ((w.alloc (Obj.cells #[Value.int IntKind.u8 0, Value.int IntKind.u8 0, Value.int IntKind.u8 0, Value.int IntKind.u8 0] 23)).alloc (Obj.cells #[.int .i64 l0.length] 3)).alloc (Obj.cells #[Value.int IntKind.i64 0, Value.int IntKind.i64 0, Value.int IntKind.i64 0, Value.int IntKind.i64 0] 46) = W at hR0 hN0 hS0 hb0 ⊢
    have hR := Aside0.mk hR0
    have hN := Aside0.mk hN0
    have hS := Aside0.mk hS0
    have hb := Aside0.mk hb0
    clear hR0 hN0 hS0 hb0
    clear z1
    go_loopw [17] (fun v w' => ∃ i : Nat, i ≤ l0.length ∧ v = .int .i64 i ∧ Aside0 (w'.heap[w.heap.size]? = some (.cells #[Value.int IntKind.u8 0, Value.int IntKind.u8 0, Value.int IntKind.u8 0, Value.int IntKind.u8 0] 23 (0, 0)))
      ∧ Aside0 (w'.heap[w.heap.size + 1]? = some (.cells #[.int .i64 l0.length] 3 (0, 0)))
      ∧ Aside0 (w'.heap[w.heap.size + 1 + 1]? = some (.cells #[.int .i64 (pixel_Average.sums (l0.take i)).1, .int .i64 (pixel_Average.sums (l0.take i)).2.1, .int .i64 (pixel_Average.sums (l0.take i)).2.2.1, .int .i64 (pixel_Average.sums (l0.take i)).2.2.2] 46 (0, 0)))
      ∧ Aside0 (Below w.heap.size w w')) (fun v _ => l0.length - (intOf v).toNat)
    case atStart => exact ⟨0, Nat.zero_le _, rfl, hR, hN, ⟨hS.out⟩, hb⟩
    case round =>
      clear hR hN hS hb
      obtain ⟨i, hi, rfl, hR, hN, hS, hb⟩ := hrel
      by_cases hlt : i < l0.length
      · obtain ⟨ad, e0, x0, x1, x2, x3⟩ := at_T23 hr.out (i : Int) (by omega) (by omega)
        cases e0
        simp only [Int.toNat_natCast] at x0 x1 x2 x3
        replace x0 := (hb.out.cell (World.block_lt_of_cell? w _ x0)).trans x0
        replace x1 := (hb.out.cell (World.block_lt_of_cell? w _ x1)).trans x1
        replace x2 := (hb.out.cell (World.block_lt_of_cell? w _ x2)).trans x2
        replace x3 := (hb.out.cell (World.block_lt_of_cell? w _ x3)).trans x3
        go_wp2_with fail
        generalize hp : rd_T23 l0 (i : Int) = p at x0 x1 x2 x3 ⊢
        have Hp := Aside0.mk hp
        clear hp x0 x1 x2 x3
        have hgb := blk_lt hS.out
        obtain ⟨hP0, hb1⟩ := allocs1 wr (Obj.cells #[Value.int IntKind.u8 p.f0, Value.int IntKind.u8 p.f1, Value.int IntKind.u8 p.f2, Value.int IntKind.u8 p.f3] 23)
        replace hR := Aside0.mk (blk_below hR.out hb1)
        replace hN := Aside0.mk (blk_below hN.out hb1)
        replace hS := Aside0.mk (blk_below hS.out hb1)
        have hge := hb.out.size
        replace hb := Aside0.mk (below_then hb.out (by omega) hb1)
        generalize wr.alloc (Obj.cells #[Value.int IntKind.u8 p.f0, Value.int IntKind.u8 p.f1, Value.int IntKind.u8 p.f2, Value.int IntKind.u8 p.f3] 23) = W1 at hR hN hS hb hb1 hP0 ⊢
        have hP := Aside0.mk hP0
        clear hb1 hP0
        refine (pixel_Clamp.calls _ _ _ _ (mn p.f0 p.f3) (mn p.f1 p.f3) (mn p.f2 p.f3) p.f3 W1 rfl).mono ?_
        rintro e w1 ⟨rfl, hb1⟩
        replace hR := Aside0.mk (blk_below hR.out hb1)
        replace hN := Aside0.mk (blk_below hN.out hb1)
        replace hS := Aside0.mk (blk_below hS.out hb1)
        replace hP := Aside0.mk (blk_below hP.out hb1)
        have hge1 := hb.out.size
        replace hb := Aside0.mk (below_then hb.out (by omega) hb1)
        clear hb1 hge1
        have y0 := (blk_cell hP.out 0).trans rfl
        have y1 := (blk_cell hP.out 1).trans rfl
        have y2 := (blk_cell hP.out 2).trans rfl
        have y3 := (blk_cell hP.out 3).trans rfl
        have z0 := blk_frozen hP.out 0
        have z1 := blk_frozen hP.out 1
        have z2 := blk_frozen hP.out 2
        have z3 := blk_frozen hP.out 3
        go_wp2_with fail
        replace hR := Aside0.mk (blk_far (blk_far (blk_far (blk_far hR.out (p := ⟨wr.heap.size, 0, none⟩) (by simp; omega) (.int .u8 (mn p.f0 p.f3))) (p := ⟨wr.heap.size, 1, none⟩) (by simp; omega) (.int .u8 (mn p.f1 p.f3))) (p := ⟨wr.heap.size, 2, none⟩) (by simp; omega) (.int .u8 (mn p.f2 p.f3))) (p := ⟨wr.heap.size, 3, none⟩) (by simp; omega) (.int .u8 p.f3))
        replace hN := Aside0.mk (blk_far (blk_far (blk_far (blk_far hN.out (p := ⟨wr.heap.size, 0, none⟩) (by simp; omega) (.int .u8 (mn p.f0 p.f3))) (p := ⟨wr.heap.size, 1, none⟩) (by simp; omega) (.int .u8 (mn p.f1 p.f3))) (p := ⟨wr.heap.size, 2, none⟩) (by simp; omega) (.int .u8 (mn p.f2 p.f3))) (p := ⟨wr.heap.size, 3, none⟩) (by simp; omega) (.int .u8 p.f3))
        replace hS := Aside0.mk (blk_far (blk_far (blk_far (blk_far hS.out (p := ⟨wr.heap.size, 0, none⟩) (by simp; omega) (.int .u8 (mn p.f0 p.f3))) (p := ⟨wr.heap.size, 1, none⟩) (by simp; omega) (.int .u8 (mn p.f1 p.f3))) (p := ⟨wr.heap.size, 2, none⟩) (by simp; omega) (.int .u8 (mn p.f2 p.f3))) (p := ⟨wr.heap.size, 3, none⟩) (by simp; omega) (.int .u8 p.f3))
        replace hb := Aside0.mk (below_set (below_set (below_set (below_set hb.out (g := wr.heap.size) (j := 0) (v := .int .u8 (mn p.f0 p.f3)) hge) (g := wr.heap.size) (j := 1) (v := .int .u8 (mn p.f1 p.f3)) hge) (g := wr.heap.size) (j := 2) (v := .int .u8 (mn p.f2 p.f3)) hge) (g := wr.heap.size) (j := 3) (v := .int .u8 p.f3) hge)
        clear y0 y1 y2 y3 z0 z1 z2 z3 hP
        generalize ((((w1.setCell { block := wr.heap.size, off := 0 } (Value.int IntKind.u8 (mn p.f0 p.f3))).setCell { block := wr.heap.size, off := 1 } (Value.int IntKind.u8 (mn p.f1 p.f3))).setCell { block := wr.heap.size, off := 2 } (Value.int IntKind.u8 (mn p.f2 p.f3))).setCell { block := wr.heap.size, off := 3 } (Value.int IntKind.u8 p.f3)) = W3 at hR hN hS hb ⊢
        have i0 : ∀ W, (Instr.index 47 (.agg #[Value.int IntKind.u8 (mn p.f0 p.f3), Value.int IntKind.u8 (mn p.f1 p.f3), Value.int IntKind.u8 (mn p.f2 p.f3), Value.int IntKind.u8 p.f3]) (.int .i64 0)).run Try.prog W = .ok (Value.int IntKind.u8 (mn p.f0 p.f3)) W := fun _ => by kernel_rfl
        have i1 : ∀ W, (Instr.index 47 (.agg #[Value.int IntKind.u8 (mn p.f0 p.f3), Value.int IntKind.u8 (mn p.f1 p.f3), Value.int IntKind.u8 (mn p.f2 p.f3), Value.int IntKind.u8 p.f3]) (.int .i64 1)).run Try.prog W = .ok (Value.int IntKind.u8 (mn p.f1 p.f3)) W := fun _ => by kernel_rfl
        have i2 : ∀ W, (Instr.index 47 (.agg #[Value.int IntKind.u8 (mn p.f0 p.f3), Value.int IntKind.u8 (mn p.f1 p.f3), Value.int IntKind.u8 (mn p.f2 p.f3), Value.int IntKind.u8 p.f3]) (.int .i64 2)).run Try.prog W = .ok (Value.int IntKind.u8 (mn p.f2 p.f3)) W := fun _ => by kernel_rfl
        have i3 : ∀ W, (Instr.index 47 (.agg #[Value.int IntKind.u8 (mn p.f0 p.f3), Value.int IntKind.u8 (mn p.f1 p.f3), Value.int IntKind.u8 (mn p.f2 p.f3), Value.int IntKind.u8 p.f3]) (.int .i64 3)).run Try.prog W = .ok (Value.int IntKind.u8 p.f3) W := fun _ => by kernel_rfl
        generalize hs : pixel_Average.sums (l0.take i) = s at hS
        have Hs := Aside0.mk hs
        clear hs
        have y0 := (blk_cell hS.out 0).trans rfl
        have y1 := (blk_cell hS.out 1).trans rfl
        have y2 := (blk_cell hS.out 2).trans rfl
        have y3 := (blk_cell hS.out 3).trans rfl
        have z0 := blk_frozen hS.out 0
        have z1 := blk_frozen hS.out 1
        have z2 := blk_frozen hS.out 2
        have z3 := blk_frozen hS.out 3
        refine wp_loop_rounds 5 ?_
        rw [rounds_succ]
        go_wp2
        rw [rounds_succ]
        go_wp2
        rw [rounds_succ]
        go_wp2
        rw [rounds_succ]
        go_wp2
        rw [rounds_succ]
        go_wp2
        go_roundw
        case rel => 
          have hs1 := pixel_Average.sums_snoc l0 i hlt
          rw [Hs.out, Hp.out] at hs1
          refine ⟨i + 1, by omega, by go_num, ⟨?_⟩, ⟨?_⟩, ⟨?_⟩, ⟨?_⟩⟩
          · refine blk_far (blk_far (blk_far (blk_far hR.out ?_ _) ?_ _) ?_ _) ?_ _ <;> (simp; try omega)
          · refine blk_far (blk_far (blk_far (blk_far hN.out ?_ _) ?_ _) ?_ _) ?_ _ <;> (simp; try omega)
          · rw [hs1]
            exact blk_put (blk_put (blk_put (blk_put hS.out 0 _ rfl) 1 _ rfl) 2 _ rfl) 3 _ rfl
          · exact below_set (below_set (below_set (below_set hb.out (by omega)) (by omega)) (by omega)) (by omega)
        case measure => simp [intOf]; omega
      · obtain rfl : i = l0.length := by omega
        rw [List.take_length] at hS
        go_wp2_with fail
        refine (pixel_Average.lit0 _ _ (w.heap.size + 1 + 1) (w.heap.size + 1) wr ((blk_cell hS.out 0).trans rfl) ((blk_cell hN.out 0).trans rfl) hzn.out).mono ?_
        rintro e w1 ⟨rfl, hd⟩
        replace hR := Aside0.mk (cells_drawn hd hR.out)
        replace hN := Aside0.mk (cells_drawn hd hN.out)
        replace hS := Aside0.mk (cells_drawn hd hS.out)
        replace hb := Aside0.mk (below_then hb.out hb.out.size hd.below)
        clear hd
        go_wp2_with fail
        refine (pixel_Average.lit1 _ _ (w.heap.size + 1 + 1) (w.heap.size + 1) w1 ((blk_cell hS.out 1).trans rfl) ((blk_cell hN.out 0).trans rfl) hzn.out).mono ?_
        rintro e w2 ⟨rfl, hd⟩
        replace hR := Aside0.mk (cells_drawn hd hR.out)
        replace hN := Aside0.mk (cells_drawn hd hN.out)
        replace hS := Aside0.mk (cells_drawn hd hS.out)
        replace hb := Aside0.mk (below_then hb.out hb.out.size hd.below)
        clear hd
        go_wp2_with fail
        refine (pixel_Average.lit2 _ _ (w.heap.size + 1 + 1) (w.heap.size + 1) w2 ((blk_cell hS.out 2).trans rfl) ((blk_cell hN.out 0).trans rfl) hzn.out).mono ?_
        rintro e w3 ⟨rfl, hd⟩
        replace hR := Aside0.mk (cells_drawn hd hR.out)
        replace hN := Aside0.mk (cells_drawn hd hN.out)
        replace hS := Aside0.mk (cells_drawn hd hS.out)
        replace hb := Aside0.mk (below_then hb.out hb.out.size hd.below)
        clear hd
        go_wp2_with fail
        refine (pixel_Average.lit3 _ _ (w.heap.size + 1 + 1) (w.heap.size + 1) w3 ((blk_cell hS.out 3).trans rfl) ((blk_cell hN.out 0).trans rfl) hzn.out).mono ?_
        rintro e w4 ⟨rfl, hd⟩
        replace hR := Aside0.mk (cells_drawn hd hR.out)
        replace hb := Aside0.mk (below_then hb.out hb.out.size hd.below)
        clear hd hN hS
        have y0 := (blk_cell hR.out 0).trans rfl
        have y1 := (blk_cell hR.out 1).trans rfl
        have y2 := (blk_cell hR.out 2).trans rfl
        have y3 := (blk_cell hR.out 3).trans rfl
        have z0 := blk_frozen hR.out 0
        have z1 := blk_frozen hR.out 1
        have z2 := blk_frozen hR.out 2
        have z3 := blk_frozen hR.out 3
        go_wp2
        exact bodyPost_ret (results_cell_row rfl _ _ w.heap.size 23 _ (0, 0) _ rfl (blk_put (blk_put (blk_put (blk_put hR.out 0 _ rfl) 1 _ rfl) 2 _ rfl) 3 _ rfl) Try.underlying23 rfl (by kernel_rfl)) rfl ⟨rfl, below_set (below_set (below_set (below_set hb.out (Nat.le_refl _)) (Nat.le_refl _)) (Nat.le_refl _)) (Nat.le_refl _)⟩
end


end Go.Proofs.Ytdhjbdofklglgaa.All
