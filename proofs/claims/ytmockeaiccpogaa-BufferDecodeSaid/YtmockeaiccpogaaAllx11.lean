-- Written by a program of this session, which runs the kit's print.py and puts in functions that this session typed. Not trusted: Lean checks it.
import Derived.Test.YtmockeaiccpogaaAllx0
import Derived.Test.YtmockeaiccpogaaAllx1
import Derived.Test.YtmockeaiccpogaaAllx2
import Derived.Test.YtmockeaiccpogaaAllx8
import Derived.Test.YtmockeaiccpogaaAllx9
import Derived.Test.YtmockeaiccpogaaAllx10
namespace Go.Proofs.Ytmockeaiccpogaa.All
open Go.RowKit Go.Proofs.YtmockeaiccpogaaW.PrintWords Go.Proofs.YtmockeaiccpogaaW.PrintLast Go.Proofs.YtmockeaiccpogaaW.PrintMore
attribute [local go_sem] max2_int min2_int max_two min_two max_three min_three max_four min_four   -- for this text's walks alone
set_option linter.unusedVariables false
set_option linter.unusedSimpArgs false

/-! ### buffer_Diff: function 17 -/
section
open Go.Proofs.YtmockeaiccpogaaHand Go.Proofs.YtmockeaiccpogaaSq
attribute [local go_sem high] eqA43 eqA47
def buffer_Diff.ne (a b : S43) : Bool := (!(a.f0 == b.f0) || (!(a.f1 == b.f1) || (!(a.f2 == b.f2) || (!(a.f3 == b.f3)))))
def buffer_Diff.mk (a b : List S43) (i : Nat) : Bool := buffer_Diff.ne (rd_T43 a (i : Int)) (rd_T43 b (i : Int))
set_option maxHeartbeats 4000000 in
theorem buffer_Diff.lit_calls (W H : Int) (A B : Option Addr) (c d : Nat) (a b : List S43) (i : Nat) (ga gb : Nat) (w : World) (hA0 : Kd.C k43 w A a.length a) (hB0 : Kd.C k43 w B b.length b)
    (ha0 : w.heap[ga]? = some (.cells #[.int .i64 W, .int .i64 H, .slice A a.length c] 27 (0, 0))) (hb0 : w.heap[gb]? = some (.cells #[.int .i64 W, .int .i64 H, .slice B b.length d] 27 (0, 0)))
    (hia : i < a.length) (hib : i < b.length) :
    Calls Try.prog 45 #[.int .i64 i, .pointer (some ⟨ga, 0, none⟩), .pointer (some ⟨gb, 0, none⟩)] w fun e w' => e = .returned (.bool (buffer_Diff.mk a b i)) ∧ Below w.heap.size w w' := by
  have pa : (0 : Int) ≤ (i : Int) := by omega
  have qa : (i : Int) < (a.length : Int) := by omega
  have qb : (i : Int) < (b.length : Int) := by omega
  obtain ⟨ada, eA, a0, a1, a2, a3⟩ := at_T43 hA0 (i : Int) pa qa
  obtain ⟨adb, eB, b0, b1, b2, b3⟩ := at_T43 hB0 (i : Int) pa qb
  subst eA eB
  have x0 : w.cell? ⟨ga, 2, none⟩ = some (.slice (some ada) a.length c) := (blk_cell ha0 2).trans rfl
  have y0 : w.cell? ⟨gb, 2, none⟩ = some (.slice (some adb) b.length d) := (blk_cell hb0 2).trans rfl
  simp only [Int.toNat_natCast] at a0 a1 a2 a3 b0 b1 b2 b3
  replace pa := eq_true pa
  replace qa := eq_true qa
  replace qb := eq_true qb
  clear hA0 hB0 ha0 hb0
  go_enter Try.func45, Try.ntmps45
  go_wp2_with fail
  go_quiet (fail)
  go_wp2
  go_ret
  exact ⟨rfl, pw_below_drewN (Below.refl _ _) nq⟩
def buffer_Diff.f (a0_0 a0_1 : Int) (l0_2 : List S43) (a1_0 a1_1 : Int) (l1_2 : List S43) : Option (List S47 × Int) :=
  (buffer_Valid.f a0_0 a0_1 l0_2).bind fun s1 => if s1 = true then (buffer_Valid.f a1_0 a1_1 l1_2).bind fun s2 => if s2 = true then (if a0_0 = a1_0 ∧ a0_1 = a1_1 then some (if (buffer_runs.all (buffer_Diff.mk l0_2 l1_2) a0_0.toNat a0_1.toNat).length > 256 then [] else buffer_runs.all (buffer_Diff.mk l0_2 l1_2) a0_0.toNat a0_1.toNat, if (buffer_runs.all (buffer_Diff.mk l0_2 l1_2) a0_0.toNat a0_1.toNat).length > 256 then 5 else 0) else some ([], 2)) else some ([], 15) else some ([], 15)
set_option maxHeartbeats 4000000 in
theorem buffer_Diff.calls (a0_0 : Int) (a0_1 : Int) (A0_2 : Option Addr) (c0_2 : Nat) (l0_2 : List (S43)) (a1_0 : Int) (a1_1 : Int) (A1_2 : Option Addr) (c1_2 : Nat) (l1_2 : List (S43)) (r1 : List (S47)) (r2 : Int) (w : World) (hr0_2 : Kd.C k43 w A0_2 l0_2.length l0_2) (hc0_2 : l0_2.length ≤ c0_2) (hr1_2 : Kd.C k43 w A1_2 l1_2.length l1_2) (hc1_2 : l1_2.length ≤ c1_2) (h : buffer_Diff.f a0_0 a0_1 l0_2 a1_0 a1_1 l1_2 = some (r1, r2)) :
    Calls Try.prog 17 #[.agg #[.int .i64 a0_0, .int .i64 a0_1, .slice A0_2 l0_2.length c0_2], .agg #[.int .i64 a1_0, .int .i64 a1_1, .slice A1_2 l1_2.length c1_2]] w fun e w' => ∃ v1_ : Value, e = .returned (.tuple #[v1_, .int .i64 r2]) ∧ Kd.R k47 47 w' w.heap.size (fun _ => True) v1_ r1 ∧ Below w.heap.size w w' := by
  replace h := Option.bind_eq_some_iff.mp h
  obtain ⟨s1, hs1, h⟩ := h
  have hs := Aside0.mk hs1
  clear hs1
  go_enter Try.func17, Try.ntmps17
  go_wp2_with fail
  obtain ⟨ha0, hb0, hB0⟩ := allocs2 w (Obj.cells #[.int .i64 a0_0, .int .i64 a0_1, .slice A0_2 l0_2.length c0_2] 27) (Obj.cells #[.int .i64 a1_0, .int .i64 a1_1, .slice A1_2 l1_2.length c1_2] 27)
  generalize (w.alloc (Obj.cells #[.int .i64 a0_0, .int .i64 a0_1, .slice A0_2 l0_2.length c0_2] 27)).alloc (Obj.cells #[.int .i64 a1_0, .int .i64 a1_1, .slice A1_2 l1_2.length c1_2] 27) = V at ha0 hb0 hB0 ⊢
  have hC := Aside0.mk (Kd.C_below hr0_2 hB0)
  have hD := Aside0.mk (Kd.C_below hr1_2 hB0)
  have ha := Aside0.mk ha0
  have hb := Aside0.mk hb0
  have hB := Aside0.mk hB0
  clear ha0 hb0 hB0 hr0_2 hr1_2
  refine (buffer_Valid.calls a0_0 a0_1 A0_2 c0_2 l0_2 s1 V hC.out hc0_2 hs.out).mono ?_
  rintro e w1 ⟨rfl, hb1⟩
  replace ha := Aside0.mk (blk_below ha.out hb1)
  replace hb := Aside0.mk (blk_below hb.out hb1)
  replace hC := Aside0.mk (Kd.C_below hC.out hb1)
  replace hD := Aside0.mk (Kd.C_below hD.out hb1)
  replace hB := Aside0.mk (below_step hB.out hb1)
  clear hb1
  have x0 := (blk_cell ha.out 0).trans rfl
  have x1 := (blk_cell ha.out 1).trans rfl
  have x2 := (blk_cell ha.out 2).trans rfl
  have y0 := (blk_cell hb.out 0).trans rfl
  have y1 := (blk_cell hb.out 1).trans rfl
  have y2 := (blk_cell hb.out 2).trans rfl
  cases s1 with
  | false =>
    obtain ⟨rfl, rfl⟩ : [] = r1 ∧ 15 = r2 := by simpa using h
    clear h
    go_wp2
    go_ret2
    exact ⟨_, rfl, Kd.R_nil _ _ _ _ _, hB.out⟩
  | true =>
    rw [if_pos rfl] at h
    replace h := Option.bind_eq_some_iff.mp h
    obtain ⟨s2, hs2, h⟩ := h
    have hs' := Aside0.mk hs2
    clear hs2
    go_wp2_with fail
    refine (buffer_Valid.calls a1_0 a1_1 A1_2 c1_2 l1_2 s2 w1 hD.out hc1_2 hs'.out).mono ?_
    rintro e w2 ⟨rfl, hb1⟩
    replace ha := Aside0.mk (blk_below ha.out hb1)
    replace hb := Aside0.mk (blk_below hb.out hb1)
    replace hC := Aside0.mk (Kd.C_below hC.out hb1)
    replace hD := Aside0.mk (Kd.C_below hD.out hb1)
    replace hB := Aside0.mk (below_step hB.out hb1)
    clear hb1 x0 x1 x2 y0 y1 y2
    cases s2 with
    | false =>
      obtain ⟨rfl, rfl⟩ : [] = r1 ∧ 15 = r2 := by simpa using h
      clear h
      go_wp2
      go_ret2
      exact ⟨_, rfl, Kd.R_nil _ _ _ _ _, hB.out⟩
    | true =>
      rw [if_pos rfl] at h
      try go_wp2
      replace ha := Aside0.mk (blk_drew ha.out)
      replace hb := Aside0.mk (blk_drew hb.out)
      replace hC := Aside0.mk (Kd.C_drew hC.out)
      replace hD := Aside0.mk (Kd.C_drew hD.out)
      replace hB := Aside0.mk (below_drew1 hB.out)
      refine start_ (n := 6) (S := fun w' => w'.cell? ⟨w.heap.size, 0, none⟩ = some (.int .i64 a0_0) ∧ w'.cell? ⟨w.heap.size, 1, none⟩ = some (.int .i64 a0_1) ∧ w'.cell? ⟨w.heap.size, 2, none⟩ = some (.slice A0_2 l0_2.length c0_2) ∧ w'.cell? ⟨w.heap.size + 1, 0, none⟩ = some (.int .i64 a1_0) ∧ w'.cell? ⟨w.heap.size + 1, 1, none⟩ = some (.int .i64 a1_1) ∧ w'.cell? ⟨w.heap.size + 1, 2, none⟩ = some (.slice A1_2 l1_2.length c1_2)) (ds := []) #[false, false, false, false, false, false] (by kernel_rfl) rfl rfl ⟨(blk_cell ha.out 0).trans rfl, (blk_cell ha.out 1).trans rfl, (blk_cell ha.out 2).trans rfl, (blk_cell hb.out 0).trans rfl, (blk_cell hb.out 1).trans rfl, (blk_cell hb.out 2).trans rfl⟩ (fun hHeld => ?_)
      generalize w2.drew = w3 at ha hb hC hD hB hHeld ⊢
      refine take_ (i := 0) (N := some 16) (v := ?_) (a' := ?_) #[true, false, false, false, false, false] rfl rfl (by kernel_rfl) (fun _ _ _ h => h) (Or.inl ⟨by rfl, ?_⟩) hHeld ?_ ?_
      rotate_left
      · rintro w' ⟨s0, s1, s2, s3, s4, s5⟩
        go_simp
        with_reducible rfl
      rotate_left
      · simp only [Act.put, List.setIfInBounds_toArray, List.set_cons_zero, List.set_cons_succ, i64_w, i32_w]
        rfl
      refine take_ (i := 2) (N := some 18) (v := ?_) (a' := ?_) #[true, false, true, false, false, false] rfl rfl (by kernel_rfl) (fun _ _ _ h => h) (Or.inl ⟨by rfl, ?_⟩) hHeld ?_ ?_
      rotate_left
      · rintro w' ⟨s0, s1, s2, s3, s4, s5⟩
        go_simp
        with_reducible rfl
      rotate_left
      · simp only [Act.put, List.setIfInBounds_toArray, List.set_cons_zero, List.set_cons_succ, i64_w, i32_w]
        rfl
      refine one_ (i := 1) (N := some 17) #[true, true, true, false, false, false] rfl rfl (by kernel_rfl) (by decide) (fun K hK => ?_)
      refine goes_ Try.func43 (by kernel_rfl) rfl #[.agg #[.int .i64 a0_0, .int .i64 a0_1, .slice A0_2 l0_2.length c0_2]] (by rfl) rfl rfl (by (try simp only [List.map_toArray, List.map_cons, List.map_nil]); first | done | rfl) ?_
      refine (buffer_frame.calls a0_0 a0_1 _ _ l0_2 0 0 a0_0 a0_1 _ hC.out hc0_2 rfl).mono ?_
      rintro e w4 ⟨rfl, hb1⟩
      refine ⟨_, rfl, ?_⟩
      replace ha := Aside0.mk (blk_below ha.out hb1)
      replace hb := Aside0.mk (blk_below hb.out hb1)
      replace hC := Aside0.mk (Kd.C_below hC.out hb1)
      replace hD := Aside0.mk (Kd.C_below hD.out hb1)
      replace hB := Aside0.mk (below_step hB.out hb1)
      clear hb1
      refine hK.out _ _ ⟨(blk_cell ha.out 0).trans rfl, (blk_cell ha.out 1).trans rfl, (blk_cell ha.out 2).trans rfl, (blk_cell hb.out 0).trans rfl, (blk_cell hb.out 1).trans rfl, (blk_cell hb.out 2).trans rfl⟩ (fun hHeld => ?_)
      clear hK K
      refine norm_ (a' := ?_) ?_ ?_
      rotate_left
      · show Act.put _ (some 17) _ = _
        simp only [Act.put, List.setIfInBounds_toArray, List.set_cons_zero, List.set_cons_succ, i64_w, i32_w]
        rfl
      refine one_ (i := 3) (N := some 19) #[true, true, true, true, false, false] rfl rfl (by kernel_rfl) (by decide) (fun K hK => ?_)
      refine goes_ Try.func43 (by kernel_rfl) rfl #[.agg #[.int .i64 a1_0, .int .i64 a1_1, .slice A1_2 l1_2.length c1_2]] (by rfl) rfl rfl (by (try simp only [List.map_toArray, List.map_cons, List.map_nil]); first | done | rfl) ?_
      refine (buffer_frame.calls a1_0 a1_1 _ _ l1_2 0 0 a1_0 a1_1 _ hD.out hc1_2 rfl).mono ?_
      rintro e w5 ⟨rfl, hb1⟩
      refine ⟨_, rfl, ?_⟩
      replace ha := Aside0.mk (blk_below ha.out hb1)
      replace hb := Aside0.mk (blk_below hb.out hb1)
      replace hC := Aside0.mk (Kd.C_below hC.out hb1)
      replace hD := Aside0.mk (Kd.C_below hD.out hb1)
      replace hB := Aside0.mk (below_step hB.out hb1)
      clear hb1
      refine hK.out _ _ ⟨(blk_cell ha.out 0).trans rfl, (blk_cell ha.out 1).trans rfl, (blk_cell ha.out 2).trans rfl, (blk_cell hb.out 0).trans rfl, (blk_cell hb.out 1).trans rfl, (blk_cell hb.out 2).trans rfl⟩ (fun hHeld => ?_)
      clear hK K
      refine norm_ (a' := ?_) ?_ ?_
      rotate_left
      · show Act.put _ (some 19) _ = _
        simp only [Act.put, List.setIfInBounds_toArray, List.set_cons_zero, List.set_cons_succ, i64_w, i32_w]
        rfl
      refine pure_ (i := 4) (N := some 20) (v := ?_) (a' := ?_) #[true, true, true, true, true, false] rfl rfl (by kernel_rfl) (fun _ _ _ h => h) (Or.inl ⟨by rfl, ?_⟩) ?_ ?_
      rotate_left
      · intro w'
        go_simp
        with_reducible rfl
      rotate_left
      · simp only [Act.put, List.setIfInBounds_toArray, List.set_cons_zero, List.set_cons_succ, i64_w, i32_w]
        rfl
      refine pure_ (i := 5) (N := some 15) (v := ?_) (a' := ?_) #[true, true, true, true, true, true] rfl rfl (by kernel_rfl) (fun _ _ _ h => h) (Or.inl ⟨by rfl, ?_⟩) ?_ ?_
      rotate_left
      · intro w'
        go_simp
        with_reducible rfl
      rotate_left
      · simp only [Act.put, List.setIfInBounds_toArray, List.set_cons_zero, List.set_cons_succ, i64_w, i32_w]
        rfl
      refine done_ (by kernel_rfl) ?_
      by_cases hq : a0_0 = a1_0 ∧ a0_1 = a1_1
      · rw [if_pos hq] at h
        obtain ⟨rfl, rfl⟩ := hq
        simp only [Option.some.injEq, Prod.mk.injEq] at h
        have hr := Aside0.mk h
        clear h
        have hq2 : (!(a0_0 == a0_0) || (!(a0_1 == a0_1))) = false := by simp
        rw [hq2]
        have x0 := (blk_cell ha.out 0).trans rfl
        have x1 := (blk_cell ha.out 1).trans rfl
        go_wp2_with fail
        obtain ⟨hW, hH, hl⟩ := buffer_Valid.of_valid hs.out
        obtain ⟨_, _, hl'⟩ := buffer_Valid.of_valid hs'.out
        obtain ⟨n, hn⟩ : ∃ n : Nat, a0_0 = n := ⟨a0_0.toNat, by omega⟩
        obtain ⟨m, hm⟩ : ∃ m : Nat, a0_1 = m := ⟨a0_1.toNat, by omega⟩
        subst hn hm
        rw [← Int.natCast_mul] at hl hl'
        refine (buffer_runs.calls 45 Try.f45 #[.pointer (some ⟨w.heap.size, 0, none⟩), .pointer (some ⟨w.heap.size + 1, 0, none⟩)] Try.func45 (by kernel_rfl) rfl n m (by omega) (by omega) (buffer_Diff.mk l0_2 l1_2) w5 ?cl).mono ?_
        case cl =>
          intro i W1 hi hb1
          exact buffer_Diff.lit_calls n m A0_2 A1_2 c0_2 c1_2 l0_2 l1_2 i w.heap.size (w.heap.size + 1) W1 (Kd.C_below hC.out hb1) (Kd.C_below hD.out hb1) (blk_below ha.out hb1) (blk_below hb.out hb1) (by omega) (by omega)
        rintro e w6 ⟨v, rfl, hv, hb2⟩
        have hV := Aside0.mk (Kd.R_lower hv hB.out.size)
        replace hB := Aside0.mk (below_step hB.out hb2)
        clear hv hb2
        obtain ⟨q2, hq2⟩ : ∃ q : Int, (if (buffer_runs.all (buffer_Diff.mk l0_2 l1_2) n m).length > 256 then (5 : Int) else 0) = q := ⟨_, rfl⟩
        rw [hq2]
        have he2 := Aside0.mk hq2.symm
        clear hq2
        go_wp2
        go_ret2
        have e1 : (if (buffer_runs.all (buffer_Diff.mk l0_2 l1_2) n m).length > 256 then [] else buffer_runs.all (buffer_Diff.mk l0_2 l1_2) n m) = r1 := hr.out.1
        have e2 : (if (buffer_runs.all (buffer_Diff.mk l0_2 l1_2) n m).length > 256 then (5 : Int) else 0) = r2 := hr.out.2
        exact ⟨v, by rw [he2.out, e2]; rfl, by rw [← e1]; exact hV.out, hB.out⟩
      · rw [if_neg hq] at h
        obtain ⟨rfl, rfl⟩ : [] = r1 ∧ 2 = r2 := by simpa using h
        have hq2 : (!(a0_0 == a1_0) || (!(a0_1 == a1_1))) = true := by
          by_cases e : a0_0 = a1_0
          · have e2 : ¬ a0_1 = a1_1 := fun h => hq ⟨e, h⟩
            simp [e2]
          · simp [e]
        rw [hq2]
        go_wp2
        go_ret2
        exact ⟨_, rfl, Kd.R_nil _ _ _ _ _, hB.out⟩
end


end Go.Proofs.Ytmockeaiccpogaa.All
