-- Written by a program of this session, which runs the kit's print.py and puts in functions that this session typed. Not trusted: Lean checks it.
import Derived.Test.YthpmfhfnkgbkjaaHand
import Derived.Test.YthpmfhfnkgbkjaaAllx0
namespace Go.Proofs.Ythpmfhfnkgbkjaa.All
open Go.Proofs.YthpmfhfnkgbkjaaSq
open Go.RowKit Go.Proofs.YthpmfhfnkgbkjaaW.PrintWords Go.Proofs.YthpmfhfnkgbkjaaW.PrintLast Go.Proofs.YthpmfhfnkgbkjaaW.PrintMore
attribute [local go_sem] max2_int min2_int max_two min_two max_three min_three max_four min_four   -- for this text's walks alone
set_option linter.unusedVariables false
set_option linter.unusedSimpArgs false

/-! ### scale_build: function 33 -/
section
open Go.Proofs.YthpmfhfnkgbkjaaHand Go.Proofs.YthpmfhfnkgbkjaaSq
/-- A call of a closure that a variable holds. -/
theorem scale_build.goesV {P : Program} {ops : Array Oper} {Q : Exit → Act → World → Prop} {oi : Oper} {N : Option Tmp} {a : Act} {w : World} {K : Act → World → Prop} {f : FuncId} {fn : Func} {t : Tmp} {ars : Array Operand} {ts : Array TypeId} {caps : Array Value} (hf : P.funcs[f]? = some fn) (hname : (fn.name == "runtime.NumGoroutine") = false) (hb : fn.body.isSome = true) (args : Array Value)
    (hw : Region.wanted oi (yielded ops a.tmps) = true) (hN : oi.dst = N) (hop : oi.op = .call { callee := .value (.tmp t), args := ars, argTypes := ts }) (hv : a.eval (.tmp t) = .func (.func f) #[] caps) (hargs : ars.map a.eval ++ caps = args)
    (h : Calls P f args w fun e w' => ∃ v, e = .returned v ∧ K (a.put N v) w') : if Region.wanted oi (yielded ops a.tmps) = true then Oper.wp P oi a w K Q else K (a.put N undef) w := by
  refine call_ f args hw hN ?_ h
  have he := enters_ hf hname hb args w
  unfold execOp
  simp [hop, resolve, Deferred.ofValue, invoke, hv, hargs, he]
def scale_build.bl (p : Int → Int → S43) (w0 n : Nat) : List S43 := (List.range n).map fun k => p ((k % w0 : Nat) : Int) ((k / w0 : Nat) : Int)
theorem scale_build.bl_succ (p : Int → Int → S43) {w0 y x : Nat} (h : x < w0) : scale_build.bl p w0 (y * w0 + x + 1) = scale_build.bl p w0 (y * w0 + x) ++ [p x y] := by
  unfold scale_build.bl
  rw [List.range_succ, List.map_append, List.map_singleton]
  have e1 : (y * w0 + x) % w0 = x := by rw [Nat.add_comm, Nat.add_mul_mod_self_right, Nat.mod_eq_of_lt h]
  have e2 : (y * w0 + x) / w0 = y := by rw [Nat.add_comm, Nat.add_mul_div_right _ _ (by omega), Nat.div_eq_of_lt h]; omega
  rw [e1, e2]
set_option maxHeartbeats 4000000 in
theorem scale_build.calls (f : FuncId) (fn : Func) (caps : Array Value) (hf : Try.prog.funcs[f]? = some fn) (hname : (fn.name == "runtime.NumGoroutine") = false) (hbody : fn.body.isSome = true)
    (w0 h0 : Nat) (hw0 : w0 ≤ 256) (hh0 : h0 ≤ 256) (p : Int → Int → S43) (w : World)
    (hcl : ∀ (x y : Nat) (W : World), x < w0 → y < h0 → Below w.heap.size w W → Calls Try.prog f (#[.int .i64 x, .int .i64 y] ++ caps) W fun e w' => e = .returned (.agg #[.int .u8 (p x y).f0, .int .u8 (p x y).f1, .int .u8 (p x y).f2, .int .u8 (p x y).f3]) ∧ Below W.heap.size W w') :
    Calls Try.prog 33 #[.int .i64 w0, .int .i64 h0, .func (.func f) #[] caps] w fun e w' => ∃ v, e = .returned (.agg #[.int .i64 w0, .int .i64 h0, v]) ∧ Kd.R k43 43 w' w.heap.size (fun _ => True) v (scale_build.bl p w0 (h0 * w0)) ∧ Below w.heap.size w w' := by
  go_enter Try.func33, Try.ntmps33
  go_wp2_with fail
  obtain ⟨hR0, hO0, hb0⟩ := allocs2 w (Obj.cells #[.int .i64 0, .int .i64 0, .slice none 0 0] 24) (Obj.cells #[.int .i64 w0, .int .i64 h0, .slice none 0 0] 24)
  generalize (w.alloc (Obj.cells #[.int .i64 0, .int .i64 0, .slice none 0 0] 24)).alloc (Obj.cells #[.int .i64 w0, .int .i64 h0, .slice none 0 0] 24) = W at hR0 hO0 hb0 ⊢
  have hR := Aside0.mk hR0
  have hO := Aside0.mk hO0
  have hB := Aside0.mk hb0
  clear hR0 hO0 hb0
  go_loopw [14] (fun v w' => ∃ (y : Nat) (u : Value), y ≤ h0 ∧ v = .int .i64 y ∧ Aside0 (Kd.R k43 43 w' w.heap.size (fun _ => True) u (scale_build.bl p w0 (y * w0))) ∧ Aside0 (w'.heap[w.heap.size]? = some (.cells #[.int .i64 0, .int .i64 0, .slice none 0 0] 24 (0, 0))) ∧ Aside0 (w'.heap[w.heap.size + 1]? = some (.cells #[.int .i64 w0, .int .i64 h0, u] 24 (0, 0))) ∧ Aside0 (Below w.heap.size w w')) (fun v _ => h0 - (intOf v).toNat)
  case atStart => exact ⟨0, .slice none 0 0, Nat.zero_le _, rfl, ⟨by rw [Nat.zero_mul]; exact Kd.R_nil _ _ _ _ _⟩, hR, hO, hB⟩
  case round =>
    clear hR hO hB
    obtain ⟨y, u, hy, rfl, hu, hR, hO, hB⟩ := hrel
    by_cases hlt : y < h0
    · have hlt' : (y : Int) < (h0 : Int) := by omega
      go_wp2_with fail
      go_loopw [18] (fun v w' => ∃ (x : Nat) (u : Value), x ≤ w0 ∧ v = .int .i64 x ∧ Aside0 (Kd.R k43 43 w' w.heap.size (fun _ => True) u (scale_build.bl p w0 (y * w0 + x))) ∧ Aside0 (w'.heap[w.heap.size]? = some (.cells #[.int .i64 0, .int .i64 0, .slice none 0 0] 24 (0, 0))) ∧ Aside0 (w'.heap[w.heap.size + 1]? = some (.cells #[.int .i64 w0, .int .i64 h0, u] 24 (0, 0))) ∧ Aside0 (Below w.heap.size w w')) (fun v _ => w0 - (intOf v).toNat)
      case atStart => exact ⟨0, u, Nat.zero_le _, rfl, ⟨hu.out⟩, hR, hO, hB⟩
      case round =>
        clear hR hO hB hu
        obtain ⟨x, u, hx, rfl, hu, hR, hO, hB⟩ := hrel
        by_cases hxl : x < w0
        · have hxl' : (x : Int) < (w0 : Int) := by omega
          go_wp2_with fail
          refine start_ (n := 10) (S := fun w' => w'.cell? ⟨w.heap.size + 1, 0, none⟩ = some (.int .i64 w0) ∧ w'.cell? ⟨w.heap.size + 1, 1, none⟩ = some (.int .i64 h0) ∧ w'.cell? ⟨w.heap.size + 1, 2, none⟩ = some u) (ds := [9]) #[false, false, false, false, false, false, false, false, false, false] (by kernel_rfl) rfl rfl ⟨(blk_cell hO.out 0).trans rfl, (blk_cell hO.out 1).trans rfl, (blk_cell hO.out 2).trans rfl⟩ (fun hHeld => ?_)
          have HT_ : Aside0 (rtab .any (opsOf Try.f33 8) = rtab .any (opsOf Try.f33 8)) := ⟨rfl⟩
          replace hu := Aside0.mk (Kd.R_drew hu.out)
          replace hR := Aside0.mk (blk_drew hR.out)
          replace hO := Aside0.mk (blk_drew hO.out)
          replace hB := Aside0.mk (below_drew1 hB.out)
          generalize wr.drew = w2 at hu hR hO hB hHeld ⊢
          refine pv_ 0 21 #[true, false, false, false, false, false, false, false, false, false] HT_ ?_
          refine pv_ 2 23 #[true, false, true, false, false, false, false, false, false, false] HT_ ?_
          refine pv_ 3 24 #[true, false, true, true, false, false, false, false, false, false] HT_ ?_
          refine pv_ 4 25 #[true, false, true, true, true, false, false, false, false, false] HT_ ?_
          refine take_ (i := 1) (N := some 22) (v := ?_) (a' := ?_) #[true, true, true, true, true, false, false, false, false, false] rfl rfl (take_of HT_.out (by kernel_rfl)) (fun _ _ _ h => h) (Or.inl ⟨by rfl, ?_⟩) hHeld ?_ ?_
          rotate_left
          · rintro w' ⟨s0, s1, s2⟩
            go_simp
            with_reducible rfl
          rotate_left
          · simp only [Act.put, List.setIfInBounds_toArray, List.set_cons_zero, List.set_cons_succ, i64_w, i32_w]
            rfl
          refine one_ (i := 5) (N := some 26) #[true, true, true, true, true, true, false, false, false, false] rfl rfl (one_of HT_.out (by kernel_rfl)) (by decide) (fun K hK => ?_)
          refine scale_build.goesV hf hname hbody (#[.int .i64 x, .int .i64 y] ++ caps) (by rfl) rfl rfl rfl (by (try simp only [List.map_toArray, List.map_cons, List.map_nil]); rfl) ?_
          refine (hcl x y w2 hxl hlt hB.out).mono ?_
          rintro e w3 ⟨rfl, hb⟩
          refine ⟨_, rfl, ?_⟩
          replace hu := Aside0.mk (Kd.R_below hu.out hb)
          replace hR := Aside0.mk (blk_below hR.out hb)
          replace hO := Aside0.mk (blk_below hO.out hb)
          replace hB := Aside0.mk (below_step hB.out hb)
          clear hb
          refine hK.out _ _ ⟨(blk_cell hO.out 0).trans rfl, (blk_cell hO.out 1).trans rfl, (blk_cell hO.out 2).trans rfl⟩ (fun hHeld => ?_)
          clear hK K
          refine norm_ (a' := ?_) ?_ ?_
          rotate_left
          · show Act.put _ (some 26) _ = _
            simp only [Act.put, List.setIfInBounds_toArray, List.set_cons_zero, List.set_cons_succ, i64_w, i32_w]
            rfl
          refine one_ (i := 6) (N := some 27) #[true, true, true, true, true, true, true, false, false, false] rfl rfl (one_of HT_.out (by kernel_rfl)) (by decide) (fun K hK => ?_)
          refine value_ (w1 := ?_) (v := ?_) (by rfl) rfl ?_ ?_
          rotate_left 2
          · go_simp
            constructor
            · rfl
            · rfl
          refine hK.out _ _ ⟨(blk_cell (blk_alloc hO.out _) 0).trans rfl, (blk_cell (blk_alloc hO.out _) 1).trans rfl, (blk_cell (blk_alloc hO.out _) 2).trans rfl⟩ (fun hHeld => ?_)
          clear hK K
          refine norm_ (a' := ?_) ?_ ?_
          rotate_left
          · show Act.put _ (some 27) _ = _
            simp only [Act.put, List.setIfInBounds_toArray, List.set_cons_zero, List.set_cons_succ, i64_w, i32_w]
            rfl
          refine one_ (i := 7) (N := some 28) #[true, true, true, true, true, true, true, true, false, false] rfl rfl (one_of HT_.out (by kernel_rfl)) (by decide) (fun K hK => ?_)
          have hlen : (scale_build.bl p w0 (y * w0 + x)).length < 35184372088832 := by
            have m := Nat.mul_le_mul (Nat.le_of_lt hlt) (Nat.le_refl w0)
            have m2 := Nat.mul_le_mul hh0 hw0
            unfold scale_build.bl
            rw [List.length_map, List.length_range]
            omega
          refine Kd.R_append_step k43 (w0 := w) w.heap.size (by rfl) (.tmp 22) (.tmp 27) 22 43 (.agg #[(.int .u8 0), (.int .u8 0), (.int .u8 0), (.int .u8 0)]) 4 rfl Try.underlying22 info43 rfl (by decide) (by omega) u (scale_build.bl p w0 (y * w0 + x)) (p x y) [.int .u8 (p x y).f0, .int .u8 (p x y).f1, .int .u8 (p x y).f2, .int .u8 (p x y).f3] (fun _ => True) (fun _ => False) rfl rfl ?aP (fun _ hk => hk.elim) ?aF ?aO ?aB ?aS ?aL ?_
          (case aP => exact k43_mkM _ _ _ (p x y))
          (case aB => exact hq_ hB)
          (case aF => exact (fun _ _ => trivial))
          (case aO => exact hu.out)
          (case aS => exact below_size (hq_ hB))
          (case aL => omega)
          intro v4 w4 ho hb hg hat
          rw [← scale_build.bl_succ p hxl] at ho
          replace hR := Aside0.mk (blk_grown (bq_ hR) hg (Kd.R_ne hu.out hR.out (by decide)))
          replace hO := Aside0.mk (blk_grown (bq_ hO) hg (Kd.R_ne hu.out hO.out (by decide)))
          replace hB := Aside0.mk hb
          replace hu := Aside0.mk ho
          clear ho hb hg hat
          refine hK.out _ _ ⟨(blk_cell hO.out 0).trans rfl, (blk_cell hO.out 1).trans rfl, (blk_cell hO.out 2).trans rfl⟩ (fun hHeld => ?_)
          clear hK K
          refine norm_ (a' := ?_) ?_ ?_
          rotate_left
          · show Act.put _ (some 28) _ = _
            simp only [Act.put, List.setIfInBounds_toArray, List.set_cons_zero, List.set_cons_succ, i64_w, i32_w]
            rfl
          refine pv_ 8 29 #[true, true, true, true, true, true, true, true, true, false] HT_ ?_
          refine last_ (i := 9) (N := none) #[true, true, true, true, true, true, true, true, true, true] rfl rfl (one_of HT_.out (by kernel_rfl)) (by decide) (fun K hK => ?_)
          have hs26 : w4.cell? ⟨w.heap.size + 1, 2, none⟩ = some u := (blk_cell hO.out 2).trans rfl
          have hfs26 := blk_frozen hO.out 2
          obtain ⟨Ao, co, eo⟩ := Kd.R_slice hu.out
          subst eo
          refine skip_ (w1 := ?_) (by rfl) rfl ?_ ?_
          rotate_left
          · go_simp
            rfl
          refine hK.out _ _ ?_
          clear hK K
          refine done_ (done_of HT_.out (by kernel_rfl)) ?_
          try go_wp2
          go_roundw
          case measure => simp [intOf]; omega
          case rel =>
            refine ⟨x + 1, .slice Ao (scale_build.bl p w0 (y * w0 + x + 1)).length co, by omega, by go_num, ⟨?_⟩, ⟨?_⟩, ⟨?_⟩, ⟨?_⟩⟩
            · exact Kd.R_mono (Kd.R_far (p := ⟨w.heap.size + 1, 2, none⟩) (Kd.R_types hu.out hO.out (by decide)) (fun _ hk => hk.2) _) (fun _ hk => trivial)
            · exact blk_far hR.out (by simp) _
            · exact blk_put (cs := #[.int .i64 w0, .int .i64 h0, u]) hO.out 2 _ rfl
            · exact below_set hB.out (by simp)
        · obtain rfl : x = w0 := by omega
          go_wp2
          go_roundw
          case measure => simp [intOf]; omega
          case rel => exact ⟨y + 1, u, by omega, by go_num, ⟨by have e : (y + 1) * x = y * x + x := Nat.succ_mul y x; rw [e]; exact hu.out⟩, hR, hO, hB⟩
    · obtain rfl : y = h0 := by omega
      have x0 := (blk_cell hO.out 0).trans rfl
      have x1 := (blk_cell hO.out 1).trans rfl
      have x2 := (blk_cell hO.out 2).trans rfl
      have z0 := (blk_cell hR.out 0).trans rfl
      have z1 := (blk_cell hR.out 1).trans rfl
      have z2 := (blk_cell hR.out 2).trans rfl
      have f0 := blk_frozen hR.out 0
      have f1 := blk_frozen hR.out 1
      have f2 := blk_frozen hR.out 2
      obtain ⟨Ao, co, eo⟩ := Kd.R_slice hu.out
      subst eo
      go_wp2
      have hR1 : ((wr.setCell ⟨w.heap.size, 0, none⟩ (.int .i64 w0)).setCell ⟨w.heap.size, 1, none⟩ (.int .i64 y)).heap[w.heap.size]? = some (.cells #[.int .i64 w0, .int .i64 y, .slice none 0 0] 24 (0, 0)) := blk_put (cs := #[.int .i64 w0, .int .i64 0, .slice none 0 0]) (blk_put (cs := #[.int .i64 0, .int .i64 0, .slice none 0 0]) hR.out 0 _ rfl) 1 _ rfl
      refine bodyPost_ret (results_cell_row rfl _ _ w.heap.size 24 #[.int .i64 w0, .int .i64 y, .slice Ao (scale_build.bl p w0 (y * w0)).length co] (0, 0) _ rfl (blk_put (cs := #[.int .i64 w0, .int .i64 y, .slice none 0 0]) hR1 2 _ rfl) Try.underlying24 rfl (by kernel_rfl)) rfl ⟨_, rfl, ?_, ?_⟩
      · have q1 := Kd.R_mono (Kd.R_far (p := ⟨w.heap.size, 0, none⟩) (Kd.R_types hu.out hR.out (by decide)) (fun _ hk => hk.2) (.int .i64 w0)) (ok' := fun _ => True) (fun _ hk => trivial)
        have q2 := Kd.R_mono (Kd.R_far (p := ⟨w.heap.size, 1, none⟩) (Kd.R_types q1 (blk_put (cs := #[.int .i64 0, .int .i64 0, .slice none 0 0]) hR.out 0 _ rfl) (by decide)) (fun _ hk => hk.2) (.int .i64 y)) (ok' := fun _ => True) (fun _ hk => trivial)
        exact Kd.R_mono (Kd.R_far (p := ⟨w.heap.size, 2, none⟩) (Kd.R_types q2 hR1 (by decide)) (fun _ hk => hk.2) _) (fun _ hk => trivial)
      · exact below_set (below_set (below_set hB.out (by simp)) (by simp)) (by simp)
end


end Go.Proofs.Ythpmfhfnkgbkjaa.All
