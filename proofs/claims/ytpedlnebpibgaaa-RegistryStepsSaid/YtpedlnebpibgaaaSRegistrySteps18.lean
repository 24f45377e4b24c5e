-- The texts behind this claim's law, put together by a program of this session (shake.py): what no text uses is left out. Its words are print.sh's.
import Derived.Test.YtpedlnebpibgaaaSRegistrySteps17
section
namespace Go.Proofs.Ytpedlnebpibgaaa.All
open Go.RowKit Go.Proofs.YtpedlnebpibgaaaW.PrintWords Go.Proofs.YtpedlnebpibgaaaW.PrintLast Go.Proofs.YtpedlnebpibgaaaW.PrintMore
attribute [local go_sem] max2_int min2_int max_two min_two max_three min_three max_four min_four
set_option linter.unusedVariables false
set_option linter.unusedSimpArgs false
abbrev zq30.q0 : Array Bool := #[false, false, false, false, false, false, false, false, false]
abbrev zq30.q1 : Array Bool := #[true, false, false, false, false, false, false, false, false]
abbrev zq30.q2 : Array Bool := #[true, true, false, false, false, false, false, false, false]
abbrev zq30.q3 : Array Bool := #[true, true, true, false, false, false, false, false, false]
abbrev zq30.q4 : Array Bool := #[true, true, true, false, true, false, false, false, false]
abbrev zq30.q5 : Array Bool := #[true, true, true, true, true, true, false, false, false]
abbrev zq30.q6 : Array Bool := #[true, true, true, true, true, false, false, false, false]
abbrev zq30.q7 : Array Bool := #[true, true, true, false, true, true, false, false, false]
abbrev zq30.q8 : Array Bool := #[true, true, true, true, true, true, true, false, false]
abbrev zq30.q9 : Array Bool := #[true, true, true, true, true, true, true, true, false]
abbrev zq30.q10 : Array Bool := #[true, true, true, true, true, true, true, true, true]
def compositorref14_with.f (l0_0 : List (S49)) (a1_0 : Int) (a1_1 : ByteArray) (a1_2 : Int) : Option ((List (S49))) := if ([] : List (S49)).length + l0_0.length < 4398046511104 then ((some (([] : List (S49)) ++ l0_0 : List (S49))).bind fun y215 => ((some (([(⟨a1_0, a1_1, a1_2⟩ : S49)] : List (S49)) : List (S49))).bind fun y218 => (if y215.length + y218.length < 4398046511104 then (some (y215 ++ y218)) else (none)))) else (none)
def compositorref14_with.T2 : Bool × List (List Nat × List Nat) := (true, [([], []), ([], []), ([1], [1]), ([0, 2], [0, 2]), ([], []), ([4], [4]), ([3, 5, 3], [3, 5]), ([6], [6]), ([7, 6, 0, 1, 2, 3, 4, 5, 6, 7], [7])])
def compositorref14_with.B2 : List Nat := [0, 0, 2, 7, 0, 16, 63, 127, 255]
theorem compositorref14_with.tab2 : rtab .any (opsOf Try.f30 2) = compositorref14_with.T2 := by kernel_rfl
theorem compositorref14_with.bits2 : waitsOk compositorref14_with.T2.2 compositorref14_with.B2 = true := by kernel_rfl
set_option maxHeartbeats 8000000 in
set_option maxRecDepth 100000 in
theorem compositorref14_with.calls (A0_0 : Option Addr) (c0_0 : Nat) (l0_0 : List (S49)) (a1_0 : Int) (a1_1 : ByteArray) (a1_2 : Int) (r : List (S49)) (w : World) (hr0_0 : Kd.C k49 w A0_0 l0_0.length l0_0) (hc0_0 : l0_0.length ≤ c0_0) (h : compositorref14_with.f l0_0 a1_0 a1_1 a1_2 = some r) :
    Calls Try.prog 30 #[.agg #[.slice A0_0 l0_0.length c0_0], .agg #[.int .u32 a1_0, .string a1_1, .int .i64 a1_2]] w fun e w' => ∃ v0_ : Value, e = .returned (.agg #[v0_]) ∧ Kd.R k49 49 w' w.heap.size (fun _ => True) v0_ r ∧ Below w.heap.size w w' := by
  have hu28 := Try.underlying28
  have hu49 := Try.underlying49
  have HR0_0 := Aside0.mk hr0_0
  have HC0_0 := Aside0.mk hc0_0
  clear hr0_0 hc0_0
  have HB := Aside0.mk (Below.refl w.heap.size w)
  have H : (if ([] : List (S49)).length + l0_0.length < 4398046511104 then ((some (([] : List (S49)) ++ l0_0 : List (S49))).bind fun y215 => ((some (([(⟨a1_0, a1_1, a1_2⟩ : S49)] : List (S49)) : List (S49))).bind fun y218 => (if y215.length + y218.length < 4398046511104 then (some (y215 ++ y218)) else (none)))) else (none)) = some r := h
  clear h
  by_cases c3 : ([] : List (S49)).length + l0_0.length < 4398046511104
  · rw [if_pos c3] at H
    have LMc3 := Aside0.mk c3
    clear c3
    obtain ⟨y215, hy215⟩ : ∃ y_ : List (S49), y_ = (([] : List (S49)) ++ l0_0) := ⟨_, rfl⟩
    replace H : ((some (([(⟨a1_0, a1_1, a1_2⟩ : S49)] : List (S49)) : List (S49))).bind fun y218 => (if y215.length + y218.length < 4398046511104 then (some (y215 ++ y218)) else (none))) = some r := by first | (rw [hy215]; with_reducible exact H) | (have H2_ := (Option.bind_some _ _).symm.trans H; rw [hy215]; with_reducible exact H2_) | (have H2_ := (Option.bind_some _ _).symm.trans H; with_reducible exact H2_) | with_reducible exact H | (rw [hy215]; exact H) | exact H
    have Ny215 := Aside0.mk hy215
    clear hy215
    obtain ⟨y218, hy218⟩ : ∃ y_ : List (S49), y_ = (([(⟨a1_0, a1_1, a1_2⟩ : S49)] : List (S49))) := ⟨_, rfl⟩
    replace H : (if y215.length + y218.length < 4398046511104 then (some (y215 ++ y218)) else (none)) = some r := by first | (rw [hy218]; with_reducible exact H) | (have H2_ := (Option.bind_some _ _).symm.trans H; rw [hy218]; with_reducible exact H2_) | (have H2_ := (Option.bind_some _ _).symm.trans H; with_reducible exact H2_) | with_reducible exact H | (rw [hy218]; exact H) | exact H
    have Ny218 := Aside0.mk hy218
    clear hy218
    by_cases c4 : y215.length + y218.length < 4398046511104
    · rw [if_pos c4] at H
      have LMc4 := Aside0.mk c4
      clear c4
      obtain ⟨y221, hy221⟩ : ∃ y_ : List (S49), y_ = (y215 ++ y218) := ⟨_, rfl⟩
      replace H : (some y221) = some r := by first | (rw [hy221]; with_reducible exact H) | (have H2_ := (Option.bind_some _ _).symm.trans H; rw [hy221]; with_reducible exact H2_) | (have H2_ := (Option.bind_some _ _).symm.trans H; with_reducible exact H2_) | with_reducible exact H | (rw [hy221]; exact H) | exact H
      have Ny221 := Aside0.mk hy221
      clear hy221
      obtain rfl := Option.some.inj H
      go_enter Try.func30, Try.ntmps30
      try go_wp2_with (first | ((with_reducible refine gate_dst (N := 2) rfl ?_); refine box_event ?hg (N := 2) ?hd (cs := #[.slice A0_0 l0_0.length c0_0]) (t := 28) ?hr ?_; (case hd => rfl); (case hg => rfl); (case hr => first | (go_simp; done) | (go_simp; rfl)); intro gb212 hg w5 hbox hb; have n0_ := Aside0.mk (below_step (by repeat (first | (with_reducible first | exact HB.out | apply below_alloc | apply pw_below_drewN | apply below_drew1) | exact HB.out)) hb); have n1_ := Aside0.mk (hbox); have n2_ := Aside0.mk ((by rw [hg]; exact (below_size (by repeat (first | (with_reducible first | exact HB.out | apply below_alloc | apply pw_below_drewN | apply below_drew1) | exact HB.out))) : w.heap.size ≤ gb212)); have n3_ := Aside0.mk ((by rw [hg]; exact (below_size (by repeat (first | (with_reducible first | exact HB.out | apply below_alloc | apply pw_below_drewN | apply below_drew1) | exact HB.out))) : w.heap.size ≤ gb212)); clear HB; have HB := n0_; have BK212 := n1_; have GW212 := n2_; have GE212 := n3_; clear n0_ n1_ n2_ n3_; clear hb hbox hg) | ((with_reducible refine gate_dst (N := 3) rfl ?_); refine box_event ?hg (N := 3) ?hd (cs := #[.int .u32 a1_0, .string a1_1, .int .i64 a1_2]) (t := 49) ?hr ?_; (case hd => rfl); (case hg => rfl); (case hr => first | (go_simp; done) | (go_simp; rfl)); intro gb213 hg w6 hbox hb; have n0_ := Aside0.mk (blk_below (g := gb212) (o := .cells #[.slice A0_0 l0_0.length c0_0] 28 (0, 0)) (by (with_reducible repeat (first | refine blk_drewN ?_ _ | refine blk_drew ?_ | refine blk_alloc ?_ _)); exact BK212.out) hb); have n1_ := Aside0.mk (below_step (by repeat (first | (with_reducible first | exact HB.out | apply below_alloc | apply pw_below_drewN | apply below_drew1 | refine below_set ?_ GE212.out) | exact HB.out)) hb); have n2_ := Aside0.mk (hbox); have n3_ := Aside0.mk ((by rw [hg]; exact (below_size (by repeat (first | (with_reducible first | exact HB.out | apply below_alloc | apply pw_below_drewN | apply below_drew1 | refine below_set ?_ GE212.out) | exact HB.out))) : w.heap.size ≤ gb213)); have n4_ := Aside0.mk ((by rw [hg]; exact (below_size (by repeat (first | (with_reducible first | exact HB.out | apply below_alloc | apply pw_below_drewN | apply below_drew1 | refine below_set ?_ GE212.out) | exact HB.out))) : w.heap.size ≤ gb213)); have n5_ := Aside0.mk ((by rw [hg]; exact Nat.ne_of_lt (blk_lt (g := gb212) (o := .cells #[.slice A0_0 l0_0.length c0_0] 28 (0, 0)) (by (with_reducible repeat (first | refine blk_drewN ?_ _ | refine blk_drew ?_ | refine blk_alloc ?_ _)); exact BK212.out)) : gb212 ≠ gb213)); have n6_ := Aside0.mk ((by rw [hg]; exact Nat.ne_of_gt (blk_lt (g := gb212) (o := .cells #[.slice A0_0 l0_0.length c0_0] 28 (0, 0)) (by (with_reducible repeat (first | refine blk_drewN ?_ _ | refine blk_drew ?_ | refine blk_alloc ?_ _)); exact BK212.out)) : gb213 ≠ gb212)); clear BK212; clear HB; have BK212 := n0_; have HB := n1_; have BK213 := n2_; have GW213 := n3_; have GE213 := n4_; have NB212_213 := n5_; have NB213_212 := n6_; clear n0_ n1_ n2_ n3_ n4_ n5_ n6_; clear hb hbox hg) | ((with_reducible refine gate_dst (N := 4) rfl ?_); refine box_event ?hg (N := 4) ?hd (cs := #[.slice none 0 0]) (t := 28) ?hr ?_; (case hd => rfl); (case hg => rfl); (case hr => first | (go_simp; done) | (go_simp; rfl)); intro gb214 hg w7 hbox hb; have n0_ := Aside0.mk (blk_below (g := gb212) (o := .cells #[.slice A0_0 l0_0.length c0_0] 28 (0, 0)) (by (with_reducible repeat (first | refine blk_drewN ?_ _ | refine blk_drew ?_ | refine blk_alloc ?_ _)); exact BK212.out) hb); have n1_ := Aside0.mk (blk_below (g := gb213) (o := .cells #[.int .u32 a1_0, .string a1_1, .int .i64 a1_2] 49 (0, 0)) (by (with_reducible repeat (first | refine blk_drewN ?_ _ | refine blk_drew ?_ | refine blk_alloc ?_ _)); exact BK213.out) hb); have n2_ := Aside0.mk (below_step (by repeat (first | (with_reducible first | exact HB.out | apply below_alloc | apply pw_below_drewN | apply below_drew1 | refine below_set ?_ GE212.out | refine below_set ?_ GE213.out) | exact HB.out)) hb); have n3_ := Aside0.mk (hbox); have n4_ := Aside0.mk ((by rw [hg]; exact (below_size (by repeat (first | (with_reducible first | exact HB.out | apply below_alloc | apply pw_below_drewN | apply below_drew1 | refine below_set ?_ GE212.out | refine below_set ?_ GE213.out) | exact HB.out))) : w.heap.size ≤ gb214)); have n5_ := Aside0.mk ((by rw [hg]; exact (below_size (by repeat (first | (with_reducible first | exact HB.out | apply below_alloc | apply pw_below_drewN | apply below_drew1 | refine below_set ?_ GE212.out | refine below_set ?_ GE213.out) | exact HB.out))) : w.heap.size ≤ gb214)); have n6_ := Aside0.mk ((by rw [hg]; exact Nat.ne_of_lt (blk_lt (g := gb212) (o := .cells #[.slice A0_0 l0_0.length c0_0] 28 (0, 0)) (by (with_reducible repeat (first | refine blk_drewN ?_ _ | refine blk_drew ?_ | refine blk_alloc ?_ _)); exact BK212.out)) : gb212 ≠ gb214)); have n7_ := Aside0.mk ((by rw [hg]; exact Nat.ne_of_gt (blk_lt (g := gb212) (o := .cells #[.slice A0_0 l0_0.length c0_0] 28 (0, 0)) (by (with_reducible repeat (first | refine blk_drewN ?_ _ | refine blk_drew ?_ | refine blk_alloc ?_ _)); exact BK212.out)) : gb214 ≠ gb212)); have n8_ := Aside0.mk ((by rw [hg]; exact Nat.ne_of_lt (blk_lt (g := gb213) (o := .cells #[.int .u32 a1_0, .string a1_1, .int .i64 a1_2] 49 (0, 0)) (by (with_reducible repeat (first | refine blk_drewN ?_ _ | refine blk_drew ?_ | refine blk_alloc ?_ _)); exact BK213.out)) : gb213 ≠ gb214)); have n9_ := Aside0.mk ((by rw [hg]; exact Nat.ne_of_gt (blk_lt (g := gb213) (o := .cells #[.int .u32 a1_0, .string a1_1, .int .i64 a1_2] 49 (0, 0)) (by (with_reducible repeat (first | refine blk_drewN ?_ _ | refine blk_drew ?_ | refine blk_alloc ?_ _)); exact BK213.out)) : gb214 ≠ gb213)); clear BK212; clear BK213; clear HB; have BK212 := n0_; have BK213 := n1_; have HB := n2_; have BK214 := n3_; have GW214 := n4_; have GE214 := n5_; have NB212_214 := n6_; have NB214_212 := n7_; have NB213_214 := n8_; have NB214_213 := n9_; clear n0_ n1_ n2_ n3_ n4_ n5_ n6_ n7_ n8_ n9_; clear hb hbox hg))
      have n0_ := Aside0.mk (blk_drew BK212.out)
      have n1_ := Aside0.mk (blk_drew BK213.out)
      have n2_ := Aside0.mk (blk_drew BK214.out)
      have n3_ := Aside0.mk (below_drew1 HB.out)
      clear BK212
      clear BK213
      clear BK214
      clear HB
      have BK212 := n0_
      have BK213 := n1_
      have BK214 := n2_
      have HB := n3_
      clear n0_ n1_ n2_ n3_
      refine start_ (n := 9) (S := fun w' => w'.cell? ⟨gb212, 0, none⟩ = some (.slice A0_0 l0_0.length c0_0) ∧ w'.cell? ⟨gb213, 0, none⟩ = some (.int .u32 a1_0) ∧ w'.cell? ⟨gb213, 1, none⟩ = some (.string a1_1) ∧ w'.cell? ⟨gb213, 2, none⟩ = some (.int .i64 a1_2)) (ds := []) zq30.q0 (by kernel_rfl) rfl rfl ⟨(blk_cell BK212.out 0).trans rfl, (blk_cell BK213.out 0).trans rfl, (blk_cell BK213.out 1).trans rfl, (blk_cell BK213.out 2).trans rfl⟩ (fun hHeld => ?_); refine with_tabW compositorref14_with.tab2 compositorref14_with.bits2 (fun HT_ HW_ => ?_)
      generalize w7.drew = w8 at BK212 BK213 BK214 HB hHeld ⊢
      refine pure_ (i := 0) (N := some 6) (v := ?_) (a' := ?_) zq30.q1 rfl rfl (any_of HT_.out (by kernel_rfl)) (fun _ _ _ h => h) (Or.inl ⟨by rfl, ?_⟩) ?_ ?_
      rotate_left
      · intro w'
        go_simp
        with_reducible rfl
      rotate_left
      · simp only [Act.put, List.setIfInBounds_toArray, List.set_cons_zero, List.set_cons_succ, i64_w, i32_w]
        rfl
      refine pure_ (i := 1) (N := some 7) (v := ?_) (a' := ?_) zq30.q2 rfl rfl (any_of HT_.out (by kernel_rfl)) (fun _ _ _ h => h) (Or.inl ⟨by rfl, ?_⟩) ?_ ?_
      rotate_left
      · intro w'
        go_simp
        with_reducible rfl
      rotate_left
      · simp only [Act.put, List.setIfInBounds_toArray, List.set_cons_zero, List.set_cons_succ, i64_w, i32_w]
        rfl
      refine take_ (i := 2) (N := some 8) (v := ?_) (a' := ?_) zq30.q3 rfl rfl (take_ofW HT_.out HW_.out (by kernel_rfl)) (fun _ _ _ h => h) (Or.inl ⟨by rfl, ?_⟩) hHeld ?_ ?_
      rotate_left
      · rintro w' ⟨s0, s1, s2, s3⟩
        go_simp
        with_reducible rfl
      rotate_left
      · simp only [Act.put, List.setIfInBounds_toArray, List.set_cons_zero, List.set_cons_succ, i64_w, i32_w]
        rfl
      refine take_ (i := 4) (N := some 10) (v := ?_) (a' := ?_) zq30.q4 rfl rfl (take_ofW HT_.out HW_.out (by kernel_rfl)) (fun _ _ _ h => h) (Or.inl ⟨by rfl, ?_⟩) hHeld ?_ ?_
      rotate_left
      · rintro w' ⟨s0, s1, s2, s3⟩
        go_simp
        with_reducible rfl
      rotate_left
      · simp only [Act.put, List.setIfInBounds_toArray, List.set_cons_zero, List.set_cons_succ, i64_w, i32_w]
        rfl
      refine join_ (σ := Value × Value) 3 zq30.q5 (fun s_ => [(9, s_.1), (11, s_.2)]) (fun s_ w' => (w'.cell? ⟨gb212, 0, none⟩ = some (.slice A0_0 l0_0.length c0_0) ∧ w'.cell? ⟨gb213, 0, none⟩ = some (.int .u32 a1_0) ∧ w'.cell? ⟨gb213, 1, none⟩ = some (.string a1_1) ∧ w'.cell? ⟨gb213, 2, none⟩ = some (.int .i64 a1_2)) ∧ (Kd.R k49 49 w' w.heap.size (fun k_ => some k_ ≠ (s_.2 : Value).ownBlock ∧ k_ ≠ gb213) s_.1 y215) ∧ (Kd.R k49 49 w' w.heap.size (fun k_ => some k_ ≠ (s_.1 : Value).ownBlock ∧ k_ ≠ gb213) s_.2 y218) ∧ (w'.heap[gb212]? = some (.cells #[.slice A0_0 l0_0.length c0_0] 28 (0, 0))) ∧ (w'.heap[gb213]? = some (.cells #[.int .u32 a1_0, .string a1_1, .int .i64 a1_2] 49 (0, 0))) ∧ (w'.heap[gb214]? = some (.cells #[.slice none 0 0] 28 (0, 0))) ∧ (Below w.heap.size w w')) ?_ ?_
      rotate_left
      · intro hCont
        refine two_ (i := 3) (j := 5) (Ni := some 9) (Nj := some 11) zq30.q6 zq30.q7 rfl rfl rfl rfl (two_of HT_.out (by kernel_rfl)) (by decide) (by decide) (fun K hK => ?_) (fun K hK => ?_)
        · skip
          refine Kd.R_append_rows_step k49 (w0 := w) w.heap.size (by rfl) (.tmp 6) (.tmp 8) 26 49 (.agg #[(.int .u32 0), (.string ⟨#[]⟩), (.int .i64 0)]) 32 rfl Try.underlying26 info49 rfl (by decide) (by omega) (.slice none 0 0) ([] : List (S49)) l0_0 _ _ _ (fun k_ => k_ ≠ gb213) (fun _ => False) rfl rfl ?aO ?aR (fun _ _ h => h) (fun _ h => h.elim) ?aF ?aB ?aS ?aL ?_
          (case aR => repeat (first | exact (Kd.C_below HR0_0.out HB.out) | (with_reducible refine Kd.C_alloc ?_ _) | (with_reducible refine Kd.C_drewN ?_ _) | (with_reducible refine Kd.C_drew ?_)))
          (case aB => exact (by repeat (first | (with_reducible first | exact HB.out | apply below_alloc | apply pw_below_drewN | apply below_drew1 | refine below_set ?_ GE212.out | refine below_set ?_ GE213.out | refine below_set ?_ GE214.out) | exact HB.out)))
          (case aF => exact (fun k_ hk => Kd.freshB (g := gb213) (o := .cells #[.int .u32 a1_0, .string a1_1, .int .i64 a1_2] 49 (0, 0)) (by (with_reducible repeat (first | refine blk_drewN ?_ _ | refine blk_drew ?_ | refine blk_alloc ?_ _)); exact BK213.out) k_ hk))
          (case aO => exact ((Kd.R_nil _ _ _ _ (fun k_ => k_ ≠ gb213))))
          (case aS => exact (below_size (by repeat (first | (with_reducible first | exact HB.out | apply below_alloc | apply pw_below_drewN | apply below_drew1 | refine below_set ?_ GE212.out | refine below_set ?_ GE213.out | refine below_set ?_ GE214.out) | exact HB.out))))
          (case aL => have := LMc3.out; omega)
          intro v216 w9 ho hb hg hat
          rw [← Ny215.out] at ho
          have n0_ := Aside0.mk (blk_grown (g := gb212) (o := .cells #[.slice A0_0 l0_0.length c0_0] 28 (0, 0)) (by (with_reducible repeat (first | refine blk_drewN ?_ _ | refine blk_drew ?_ | refine blk_alloc ?_ _)); exact BK212.out) hg (by simp [Value.ownBlock]))
          have n1_ := Aside0.mk (blk_grown (g := gb213) (o := .cells #[.int .u32 a1_0, .string a1_1, .int .i64 a1_2] 49 (0, 0)) (by (with_reducible repeat (first | refine blk_drewN ?_ _ | refine blk_drew ?_ | refine blk_alloc ?_ _)); exact BK213.out) hg (by simp [Value.ownBlock]))
          have n2_ := Aside0.mk (blk_grown (g := gb214) (o := .cells #[.slice none 0 0] 28 (0, 0)) (by (with_reducible repeat (first | refine blk_drewN ?_ _ | refine blk_drew ?_ | refine blk_alloc ?_ _)); exact BK214.out) hg (by simp [Value.ownBlock]))
          have n3_ := Aside0.mk (hb)
          have n4_ := Aside0.mk (ho)
          clear BK212
          clear BK213
          clear BK214
          clear HB
          have BK212 := n0_
          have BK213 := n1_
          have BK214 := n2_
          have HB := n3_
          have HO217 := n4_
          clear n0_ n1_ n2_ n3_ n4_
          clear ho hb hg hat
          refine hK.out _ _ ⟨(blk_cell BK212.out 0).trans rfl, (blk_cell BK213.out 0).trans rfl, (blk_cell BK213.out 1).trans rfl, (blk_cell BK213.out 2).trans rfl⟩ (fun hHeld => ?_)
          clear hK K
          refine norm_ (a' := ?_) ?_ ?_
          rotate_left
          · show Act.put _ (some 9) _ = _
            simp only [Act.put, List.setIfInBounds_toArray, List.set_cons_zero, List.set_cons_succ, i64_w, i32_w]
            rfl
          refine one_ (i := 5) (N := some 11) zq30.q5 rfl rfl (one_of HT_.out (by kernel_rfl)) (by decide) (fun K hK => ?_)
          refine Kd.R_lit_step k49 _ 49 ?hg (N := 11) ?hd (xs := ([(⟨a1_0, a1_1, a1_2⟩ : S49)] : List (S49))) (inner := [.int .u32 a1_0, .string a1_1, .int .i64 a1_2]) (ok := fun _ => True) (okp := fun _ => True) ?hr ?hp (fun _ hk => hk) trivial (Below.refl _ _) (Nat.le_refl _) (by simp) ?_; (case hd => rfl); (case hg => rfl); (case hr => first | (go_simp; done) | (go_simp; rfl)); (case hp => exact (Reps.c3 (show Kd.M k49 _ _ _ (⟨a1_0, a1_1, a1_2⟩ : S49) [.int .u32 a1_0, .string a1_1, .int .i64 a1_2] from (k49_mkM _ _ _ (⟨a1_0, a1_1, a1_2⟩ : S49) )) (Reps.none _ _)))
          intro v219 w10 ho11 hb hg_ hnew_
          clear hg_ hnew_
          (first | rw [← Ny218.out] at ho11 | (simp only [Int.reduceToNat] at ho11; rw [← Ny218.out] at ho11))
          have n0_ := Aside0.mk (Kd.R_elder' (by (with_reducible repeat (first | apply Kd.R_alloc | apply Kd.R_drewN | apply Kd.R_drew)); exact HO217.out) (Kd.R_base ho11) hb)
          have n1_ := Aside0.mk (Kd.R_lower (Kd.R_newB (Kd.R_new' ho11 (Kd.R_lt (by (with_reducible repeat (first | apply Kd.R_alloc | apply Kd.R_drewN | apply Kd.R_drew)); exact HO217.out))) (g := gb213) (o := .cells #[.int .u32 a1_0, .string a1_1, .int .i64 a1_2] 49 (0, 0)) (by (with_reducible repeat (first | refine blk_drewN ?_ _ | refine blk_drew ?_ | refine blk_alloc ?_ _)); exact BK213.out)) (below_size (by repeat (first | (with_reducible first | exact HB.out | apply below_alloc | apply pw_below_drewN | apply below_drew1 | refine below_set ?_ GE212.out | refine below_set ?_ GE213.out | refine below_set ?_ GE214.out) | exact HB.out))))
          have n2_ := Aside0.mk (blk_below (g := gb212) (o := .cells #[.slice A0_0 l0_0.length c0_0] 28 (0, 0)) (by (with_reducible repeat (first | refine blk_drewN ?_ _ | refine blk_drew ?_ | refine blk_alloc ?_ _)); exact BK212.out) hb)
          have n3_ := Aside0.mk (blk_below (g := gb213) (o := .cells #[.int .u32 a1_0, .string a1_1, .int .i64 a1_2] 49 (0, 0)) (by (with_reducible repeat (first | refine blk_drewN ?_ _ | refine blk_drew ?_ | refine blk_alloc ?_ _)); exact BK213.out) hb)
          have n4_ := Aside0.mk (blk_below (g := gb214) (o := .cells #[.slice none 0 0] 28 (0, 0)) (by (with_reducible repeat (first | refine blk_drewN ?_ _ | refine blk_drew ?_ | refine blk_alloc ?_ _)); exact BK214.out) hb)
          have n5_ := Aside0.mk (below_step (by repeat (first | (with_reducible first | exact HB.out | apply below_alloc | apply pw_below_drewN | apply below_drew1 | refine below_set ?_ GE212.out | refine below_set ?_ GE213.out | refine below_set ?_ GE214.out) | exact HB.out)) hb)
          clear HO217
          clear BK212
          clear BK213
          clear BK214
          clear HB
          have HO217 := n0_
          have HO220 := n1_
          have BK212 := n2_
          have BK213 := n3_
          have BK214 := n4_
          have HB := n5_
          clear n0_ n1_ n2_ n3_ n4_ n5_
          clear hb ho11
          refine hK.out _ _ ⟨(blk_cell BK212.out 0).trans rfl, (blk_cell BK213.out 0).trans rfl, (blk_cell BK213.out 1).trans rfl, (blk_cell BK213.out 2).trans rfl⟩ (fun hHeld => ?_)
          clear hK K
          refine norm_ (a' := ?_) ?_ ?_
          rotate_left
          · show Act.put _ (some 11) _ = _
            simp only [Act.put, List.setIfInBounds_toArray, List.set_cons_zero, List.set_cons_succ, i64_w, i32_w]
            rfl
          exact norm_ (by simp only [putAll, Act.put, List.setIfInBounds_toArray, List.set_cons_zero, List.set_cons_succ]) (hCont (v216, v219) _ ⟨hHeld, (by (with_reducible repeat (first | apply Kd.R_alloc | apply Kd.R_drewN | apply Kd.R_drew)); exact Kd.R_mono HO217.out (fun _ hk => ⟨hk.2, hk.1⟩)), (by (with_reducible repeat (first | apply Kd.R_alloc | apply Kd.R_drewN | apply Kd.R_drew)); exact Kd.R_mono HO220.out (fun _ hk => ⟨hk.1.2, hk.2⟩)), (by (with_reducible repeat (first | refine blk_drewN ?_ _ | refine blk_drew ?_ | refine blk_alloc ?_ _)); exact BK212.out), (by (with_reducible repeat (first | refine blk_drewN ?_ _ | refine blk_drew ?_ | refine blk_alloc ?_ _)); exact BK213.out), (by (with_reducible repeat (first | refine blk_drewN ?_ _ | refine blk_drew ?_ | refine blk_alloc ?_ _)); exact BK214.out), (by repeat (first | (with_reducible first | exact HB.out | apply below_alloc | apply pw_below_drewN | apply below_drew1 | refine below_set ?_ GE212.out | refine below_set ?_ GE213.out | refine below_set ?_ GE214.out) | exact HB.out))⟩)
        · skip
          refine Kd.R_lit_step k49 _ 49 ?hg (N := 11) ?hd (xs := ([(⟨a1_0, a1_1, a1_2⟩ : S49)] : List (S49))) (inner := [.int .u32 a1_0, .string a1_1, .int .i64 a1_2]) (ok := fun _ => True) (okp := fun _ => True) ?hr ?hp (fun _ hk => hk) trivial (Below.refl _ _) (Nat.le_refl _) (by simp) ?_; (case hd => rfl); (case hg => rfl); (case hr => first | (go_simp; done) | (go_simp; rfl)); (case hp => exact (Reps.c3 (show Kd.M k49 _ _ _ (⟨a1_0, a1_1, a1_2⟩ : S49) [.int .u32 a1_0, .string a1_1, .int .i64 a1_2] from (k49_mkM _ _ _ (⟨a1_0, a1_1, a1_2⟩ : S49) )) (Reps.none _ _)))
          intro v219 w9 ho10 hb hg_ hnew_
          clear hg_ hnew_
          (first | rw [← Ny218.out] at ho10 | (simp only [Int.reduceToNat] at ho10; rw [← Ny218.out] at ho10))
          have n0_ := Aside0.mk (Kd.R_lower (Kd.R_newB ho10 (g := gb213) (o := .cells #[.int .u32 a1_0, .string a1_1, .int .i64 a1_2] 49 (0, 0)) (by (with_reducible repeat (first | refine blk_drewN ?_ _ | refine blk_drew ?_ | refine blk_alloc ?_ _)); exact BK213.out)) (below_size (by repeat (first | (with_reducible first | exact HB.out | apply below_alloc | apply pw_below_drewN | apply below_drew1 | refine below_set ?_ GE212.out | refine below_set ?_ GE213.out | refine below_set ?_ GE214.out) | exact HB.out))))
          have n1_ := Aside0.mk (blk_below (g := gb212) (o := .cells #[.slice A0_0 l0_0.length c0_0] 28 (0, 0)) (by (with_reducible repeat (first | refine blk_drewN ?_ _ | refine blk_drew ?_ | refine blk_alloc ?_ _)); exact BK212.out) hb)
          have n2_ := Aside0.mk (blk_below (g := gb213) (o := .cells #[.int .u32 a1_0, .string a1_1, .int .i64 a1_2] 49 (0, 0)) (by (with_reducible repeat (first | refine blk_drewN ?_ _ | refine blk_drew ?_ | refine blk_alloc ?_ _)); exact BK213.out) hb)
          have n3_ := Aside0.mk (blk_below (g := gb214) (o := .cells #[.slice none 0 0] 28 (0, 0)) (by (with_reducible repeat (first | refine blk_drewN ?_ _ | refine blk_drew ?_ | refine blk_alloc ?_ _)); exact BK214.out) hb)
          have n4_ := Aside0.mk (below_step (by repeat (first | (with_reducible first | exact HB.out | apply below_alloc | apply pw_below_drewN | apply below_drew1 | refine below_set ?_ GE212.out | refine below_set ?_ GE213.out | refine below_set ?_ GE214.out) | exact HB.out)) hb)
          clear BK212
          clear BK213
          clear BK214
          clear HB
          have HO220 := n0_
          have BK212 := n1_
          have BK213 := n2_
          have BK214 := n3_
          have HB := n4_
          clear n0_ n1_ n2_ n3_ n4_
          clear hb ho10
          refine hK.out _ _ ⟨(blk_cell BK212.out 0).trans rfl, (blk_cell BK213.out 0).trans rfl, (blk_cell BK213.out 1).trans rfl, (blk_cell BK213.out 2).trans rfl⟩ (fun hHeld => ?_)
          clear hK K
          refine norm_ (a' := ?_) ?_ ?_
          rotate_left
          · show Act.put _ (some 11) _ = _
            simp only [Act.put, List.setIfInBounds_toArray, List.set_cons_zero, List.set_cons_succ, i64_w, i32_w]
            rfl
          refine one_ (i := 3) (N := some 9) zq30.q5 rfl rfl (one_of HT_.out (by kernel_rfl)) (by decide) (fun K hK => ?_)
          refine Kd.R_append_rows_step k49 (w0 := w) w.heap.size (by rfl) (.tmp 6) (.tmp 8) 26 49 (.agg #[(.int .u32 0), (.string ⟨#[]⟩), (.int .i64 0)]) 32 rfl Try.underlying26 info49 rfl (by decide) (by omega) (.slice none 0 0) ([] : List (S49)) l0_0 _ _ _ (fun k_ => some k_ ≠ (v219 : Value).ownBlock ∧ k_ ≠ gb213) (fun _ => False) rfl rfl ?aO ?aR (fun _ _ h => h) (fun _ h => h.elim) ?aF ?aB ?aS ?aL ?_
          (case aR => repeat (first | exact (Kd.C_below HR0_0.out HB.out) | (with_reducible refine Kd.C_alloc ?_ _) | (with_reducible refine Kd.C_drewN ?_ _) | (with_reducible refine Kd.C_drew ?_)))
          (case aB => exact (by repeat (first | (with_reducible first | exact HB.out | apply below_alloc | apply pw_below_drewN | apply below_drew1 | refine below_set ?_ GE212.out | refine below_set ?_ GE213.out | refine below_set ?_ GE214.out) | exact HB.out)))
          (case aF => exact (fun k_ hk => ⟨Kd.fresh' (Kd.R_lt (by (with_reducible repeat (first | apply Kd.R_alloc | apply Kd.R_drewN | apply Kd.R_drew)); exact HO220.out)) k_ hk, Kd.freshB (g := gb213) (o := .cells #[.int .u32 a1_0, .string a1_1, .int .i64 a1_2] 49 (0, 0)) (by (with_reducible repeat (first | refine blk_drewN ?_ _ | refine blk_drew ?_ | refine blk_alloc ?_ _)); exact BK213.out) k_ hk⟩))
          (case aO => exact ((Kd.R_nil _ _ _ _ (fun k_ => some k_ ≠ (v219 : Value).ownBlock ∧ k_ ≠ gb213))))
          (case aS => exact (below_size (by repeat (first | (with_reducible first | exact HB.out | apply below_alloc | apply pw_below_drewN | apply below_drew1 | refine below_set ?_ GE212.out | refine below_set ?_ GE213.out | refine below_set ?_ GE214.out) | exact HB.out))))
          (case aL => have := LMc3.out; omega)
          intro v216 w11 ho hb hg hat
          rw [← Ny215.out] at ho
          have n0_ := Aside0.mk (blk_grown (g := gb212) (o := .cells #[.slice A0_0 l0_0.length c0_0] 28 (0, 0)) (by (with_reducible repeat (first | refine blk_drewN ?_ _ | refine blk_drew ?_ | refine blk_alloc ?_ _)); exact BK212.out) hg (by simp [Value.ownBlock]))
          have n1_ := Aside0.mk (blk_grown (g := gb213) (o := .cells #[.int .u32 a1_0, .string a1_1, .int .i64 a1_2] 49 (0, 0)) (by (with_reducible repeat (first | refine blk_drewN ?_ _ | refine blk_drew ?_ | refine blk_alloc ?_ _)); exact BK213.out) hg (by simp [Value.ownBlock]))
          have n2_ := Aside0.mk (blk_grown (g := gb214) (o := .cells #[.slice none 0 0] 28 (0, 0)) (by (with_reducible repeat (first | refine blk_drewN ?_ _ | refine blk_drew ?_ | refine blk_alloc ?_ _)); exact BK214.out) hg (by simp [Value.ownBlock]))
          have n3_ := Aside0.mk (Kd.R_after (Kd.R_apart_nil (by (with_reducible repeat (first | apply Kd.R_alloc | apply Kd.R_drewN | apply Kd.R_drew)); exact HO220.out)) hg hat)
          have n4_ := Aside0.mk (hb)
          have n5_ := Aside0.mk (ho)
          clear BK212
          clear BK213
          clear BK214
          clear HO220
          clear HB
          have BK212 := n0_
          have BK213 := n1_
          have BK214 := n2_
          have HO220 := n3_
          have HB := n4_
          have HO217 := n5_
          clear n0_ n1_ n2_ n3_ n4_ n5_
          clear ho hb hg hat
          refine hK.out _ _ ⟨(blk_cell BK212.out 0).trans rfl, (blk_cell BK213.out 0).trans rfl, (blk_cell BK213.out 1).trans rfl, (blk_cell BK213.out 2).trans rfl⟩ (fun hHeld => ?_)
          clear hK K
          refine norm_ (a' := ?_) ?_ ?_
          rotate_left
          · show Act.put _ (some 9) _ = _
            simp only [Act.put, List.setIfInBounds_toArray, List.set_cons_zero, List.set_cons_succ, i64_w, i32_w]
            rfl
          exact norm_ (by simp only [putAll, Act.put, List.setIfInBounds_toArray, List.set_cons_zero, List.set_cons_succ]) (hCont (v216, v219) _ ⟨hHeld, (by (with_reducible repeat (first | apply Kd.R_alloc | apply Kd.R_drewN | apply Kd.R_drew)); exact HO217.out), (by (with_reducible repeat (first | apply Kd.R_alloc | apply Kd.R_drewN | apply Kd.R_drew)); exact Kd.R_mono HO220.out (fun _ hk => ⟨hk.2, hk.1.2⟩)), (by (with_reducible repeat (first | refine blk_drewN ?_ _ | refine blk_drew ?_ | refine blk_alloc ?_ _)); exact BK212.out), (by (with_reducible repeat (first | refine blk_drewN ?_ _ | refine blk_drew ?_ | refine blk_alloc ?_ _)); exact BK213.out), (by (with_reducible repeat (first | refine blk_drewN ?_ _ | refine blk_drew ?_ | refine blk_alloc ?_ _)); exact BK214.out), (by repeat (first | (with_reducible first | exact HB.out | apply below_alloc | apply pw_below_drewN | apply below_drew1 | refine below_set ?_ GE212.out | refine below_set ?_ GE213.out | refine below_set ?_ GE214.out) | exact HB.out))⟩)
      rintro ⟨v216, v219⟩ w12 ⟨hS_, h0_, h1_, h2_, h3_, h4_, h5_⟩
      have n0_ : Aside0 (Kd.R k49 49 w12 w.heap.size (fun k_ => some k_ ≠ (v219 : Value).ownBlock ∧ k_ ≠ gb213) v216 y215) := ⟨h0_⟩
      have n1_ : Aside0 (Kd.R k49 49 w12 w.heap.size (fun k_ => some k_ ≠ (v216 : Value).ownBlock ∧ k_ ≠ gb213) v219 y218) := ⟨h1_⟩
      have n2_ : Aside0 (w12.heap[gb212]? = some (.cells #[.slice A0_0 l0_0.length c0_0] 28 (0, 0))) := ⟨h2_⟩
      have n3_ : Aside0 (w12.heap[gb213]? = some (.cells #[.int .u32 a1_0, .string a1_1, .int .i64 a1_2] 49 (0, 0))) := ⟨h3_⟩
      have n4_ : Aside0 (w12.heap[gb214]? = some (.cells #[.slice none 0 0] 28 (0, 0))) := ⟨h4_⟩
      have n5_ : Aside0 (Below w.heap.size w w12) := ⟨h5_⟩
      clear BK212
      clear BK213
      clear BK214
      clear HB
      clear h0_ h1_ h2_ h3_ h4_ h5_
      have HO217 := n0_
      have HO220 := n1_
      have BK212 := n2_
      have BK213 := n3_
      have BK214 := n4_
      have HB := n5_
      clear n0_ n1_ n2_ n3_ n4_ n5_
      have hHeld : w12.cell? ⟨gb212, 0, none⟩ = some (.slice A0_0 l0_0.length c0_0) ∧ w12.cell? ⟨gb213, 0, none⟩ = some (.int .u32 a1_0) ∧ w12.cell? ⟨gb213, 1, none⟩ = some (.string a1_1) ∧ w12.cell? ⟨gb213, 2, none⟩ = some (.int .i64 a1_2) := hS_
      obtain ⟨Ao14, co14, eo14⟩ := Kd.R_slice HO220.out
      (first | subst eo14 | (injection eo14 with f1_ f2_ f3_; have f4_ := f1_.symm; have f5_ := f3_.symm; clear f1_ f2_ f3_; subst f4_; subst f5_))
      refine norm_ (a' := ?_) ?_ ?_
      rotate_left
      · simp only [putAll, Act.put, List.setIfInBounds_toArray, List.set_cons_zero, List.set_cons_succ]
        rfl
      refine one_ (i := 6) (N := some 12) zq30.q8 rfl rfl (one_of HT_.out (by kernel_rfl)) (by decide) (fun K hK => ?_)
      refine Kd.R_append_rows_step k49 (w0 := w) w.heap.size (by rfl) (.tmp 9) (.tmp 11) 26 49 (.agg #[(.int .u32 0), (.string ⟨#[]⟩), (.int .i64 0)]) 32 rfl Try.underlying26 info49 rfl (by decide) (by omega) v216 y215 y218 _ _ _ (fun k_ => some k_ ≠ (.slice Ao14 y218.length co14 : Value).ownBlock ∧ k_ ≠ gb213) (fun _ => False) rfl rfl ?aO ?aR (fun _ _ h => h) (fun _ h => h.elim) ?aF ?aB ?aS ?aL ?_
      (case aR => repeat (first | exact (Kd.R_reads' HO220.out).2.2 | (with_reducible refine Kd.C_alloc ?_ _) | (with_reducible refine Kd.C_drewN ?_ _) | (with_reducible refine Kd.C_drew ?_)))
      (case aB => exact (by repeat (first | (with_reducible first | exact HB.out | apply below_alloc | apply pw_below_drewN | apply below_drew1 | refine below_set ?_ GE212.out | refine below_set ?_ GE213.out | refine below_set ?_ GE214.out) | exact HB.out)))
      (case aF => exact (fun k_ hk => ⟨Kd.fresh' (Kd.R_lt (by (with_reducible repeat (first | apply Kd.R_alloc | apply Kd.R_drewN | apply Kd.R_drew)); exact HO220.out)) k_ hk, Kd.freshB (g := gb213) (o := .cells #[.int .u32 a1_0, .string a1_1, .int .i64 a1_2] 49 (0, 0)) (by (with_reducible repeat (first | refine blk_drewN ?_ _ | refine blk_drew ?_ | refine blk_alloc ?_ _)); exact BK213.out) k_ hk⟩))
      (case aO => exact (by (with_reducible repeat (first | apply Kd.R_alloc | apply Kd.R_drewN | apply Kd.R_drew)); exact HO217.out))
      (case aS => exact (below_size (by repeat (first | (with_reducible first | exact HB.out | apply below_alloc | apply pw_below_drewN | apply below_drew1 | refine below_set ?_ GE212.out | refine below_set ?_ GE213.out | refine below_set ?_ GE214.out) | exact HB.out))))
      (case aL => have := LMc4.out; omega)
      intro v222 w13 ho hb hg hat
      rw [← Ny221.out] at ho
      have n0_ := Aside0.mk (blk_grown (g := gb212) (o := .cells #[.slice A0_0 l0_0.length c0_0] 28 (0, 0)) (by (with_reducible repeat (first | refine blk_drewN ?_ _ | refine blk_drew ?_ | refine blk_alloc ?_ _)); exact BK212.out) hg (Kd.R_ne HO217.out BK212.out (by decide)))
      have n1_ := Aside0.mk (blk_grown (g := gb213) (o := .cells #[.int .u32 a1_0, .string a1_1, .int .i64 a1_2] 49 (0, 0)) (by (with_reducible repeat (first | refine blk_drewN ?_ _ | refine blk_drew ?_ | refine blk_alloc ?_ _)); exact BK213.out) hg (Kd.R_away HO217.out (fun _ hk => hk.2)))
      have n2_ := Aside0.mk (blk_grown (g := gb214) (o := .cells #[.slice none 0 0] 28 (0, 0)) (by (with_reducible repeat (first | refine blk_drewN ?_ _ | refine blk_drew ?_ | refine blk_alloc ?_ _)); exact BK214.out) hg (Kd.R_ne HO217.out BK214.out (by decide)))
      have n3_ := Aside0.mk (Kd.R_after (ok := (fun k_ => k_ ≠ gb213)) (by (with_reducible repeat (first | apply Kd.R_alloc | apply Kd.R_drewN | apply Kd.R_drew)); exact Kd.R_mono HO220.out (fun _ hk => ⟨hk.2, hk.1⟩)) hg hat)
      have n4_ := Aside0.mk (hb)
      have n5_ := Aside0.mk (ho)
      clear BK212
      clear BK213
      clear BK214
      clear HO220
      clear HB
      clear HO217
      have BK212 := n0_
      have BK213 := n1_
      have BK214 := n2_
      have HO220 := n3_
      have HB := n4_
      have HO223 := n5_
      clear n0_ n1_ n2_ n3_ n4_ n5_
      clear ho hb hg hat
      obtain ⟨Ao15, co15, eo15⟩ := Kd.R_slice HO223.out
      (first | subst eo15 | (injection eo15 with f1_ f2_ f3_; have f4_ := f1_.symm; have f5_ := f3_.symm; clear f1_ f2_ f3_; subst f4_; subst f5_))
      refine hK.out _ _ ⟨(blk_cell BK212.out 0).trans rfl, (blk_cell BK213.out 0).trans rfl, (blk_cell BK213.out 1).trans rfl, (blk_cell BK213.out 2).trans rfl⟩ (fun hHeld => ?_)
      clear hK K
      refine norm_ (a' := ?_) ?_ ?_
      rotate_left
      · show Act.put _ (some 12) _ = _
        simp only [Act.put, List.setIfInBounds_toArray, List.set_cons_zero, List.set_cons_succ, i64_w, i32_w]
        rfl
      refine pure_ (i := 7) (N := some 13) (v := ?_) (a' := ?_) zq30.q9 rfl rfl (any_of HT_.out (by kernel_rfl)) (fun _ _ _ h => h) (Or.inl ⟨by rfl, ?_⟩) ?_ ?_
      rotate_left
      · intro w'
        go_simp
        with_reducible rfl
      rotate_left
      · simp only [Act.put, List.setIfInBounds_toArray, List.set_cons_zero, List.set_cons_succ, i64_w, i32_w]
        rfl
      refine one_ (i := 8) (N := none) zq30.q10 rfl rfl (one_of HT_.out (by kernel_rfl)) (by decide) (fun K hK => ?_)
      have hs16 : w13.cell? ⟨gb214, 0, none⟩ = some (.slice none 0 0) := (blk_cell BK214.out 0).trans rfl
      have hfs16 := blk_frozen BK214.out 0
      have hns16_0 := NB212_214.out
      have hns16_1 := NB213_214.out
      have hms16_0 := NB214_212.out
      have hms16_1 := NB214_213.out
      refine skip_ (w1 := ?_) (by rfl) rfl ?_ ?_
      rotate_left
      · go_simp
        rfl
      refine hK.out _ _ ⟨((cell_far (p := ⟨gb214, _, none⟩) NB212_214.out _).trans (hHeld.1)), ((cell_far (p := ⟨gb214, _, none⟩) NB213_214.out _).trans (hHeld.2.1)), ((cell_far (p := ⟨gb214, _, none⟩) NB213_214.out _).trans (hHeld.2.2.1)), ((cell_far (p := ⟨gb214, _, none⟩) NB213_214.out _).trans (hHeld.2.2.2))⟩ (fun hHeld => ?_)
      clear hK K
      refine done_ (done_of HT_.out (by kernel_rfl)) ?_
      try go_wp2
      refine bodyPost_ret (results_cell_row rfl _ _ gb214 28 #[.slice Ao15 y221.length co15] (0, 0) _ rfl (by (with_reducible repeat (first | refine blk_drewN ?_ _ | refine blk_drew ?_ | refine blk_alloc ?_ _)); refine blk_put (cs := #[.slice none 0 0]) ?_ 0 _ rfl; (with_reducible repeat (first | refine blk_drewN ?_ _ | refine blk_drew ?_ | refine blk_alloc ?_ _)); exact BK214.out) Try.underlying28 rfl (by kernel_rfl)) rfl ?_
      exact ⟨_, by first | rfl | (simp [errW_none, errW_some] <;> rfl) | (simp [*, errW_none, errW_some] <;> rfl), by (with_reducible repeat (first | apply Kd.R_alloc | apply Kd.R_drewN | apply Kd.R_drew)); exact Kd.R_mono (Kd.R_far (p := ⟨gb214, 0, none⟩) (Kd.R_types HO223.out BK214.out (by decide)) (fun _ hk => hk.2) (.slice Ao15 y221.length co15)) (fun _ hk => trivial), by repeat (first | (with_reducible first | exact HB.out | apply below_alloc | apply pw_below_drewN | apply below_drew1 | refine below_set ?_ GE212.out | refine below_set ?_ GE213.out | refine below_set ?_ GE214.out) | exact HB.out)⟩
    · rw [if_neg c4] at H
      exact absurd H (by simp)
  · rw [if_neg c3] at H
    exact absurd H (by simp)
end Go.Proofs.Ytpedlnebpibgaaa.All
end
section
namespace Go.Proofs.Ytpedlnebpibgaaa.All
open Go.RowKit Go.Proofs.YtpedlnebpibgaaaW.PrintWords Go.Proofs.YtpedlnebpibgaaaW.PrintLast Go.Proofs.YtpedlnebpibgaaaW.PrintMore
attribute [local go_sem] max2_int min2_int max_two min_two max_three min_three max_four min_four
set_option linter.unusedVariables false
set_option linter.unusedSimpArgs false
def compositorref14_Add.j0 : Nat → ByteArray → Int → Bool → List (S49) → Option ((List (S49)) × Int × Int)
  | 0, _, _, _, _ => none
  | k + 1, x1, x2, x17, x225000 => if x17 = true then (some (x225000, 0, 11)) else ((compositorref14_List.f k x225000).bind fun t227 => (if (t227.length : Int) ≥ 64 then (some (x225000, 0, 5)) else ((compositorref14_added.f k x225000).bind fun t230 => ((compositorref14_with.f x225000 ((wrap64 (t230 + 1)) % 4294967296) x1 x2).bind fun t231 => (some (t231, (wrap64 (t230 + 1)) % 4294967296, 0))))))
def compositorref14_Add.f (k : Nat) (l0_0 : List (S49)) (a1 : ByteArray) (a2 : Int) : Option ((List (S49)) × Int × Int) := (compositorref12_Version.f k a1).bind fun t226 => (if t226 = 0 then (some (l0_0, 0, 8)) else (if a2 < 1 then (compositorref14_Add.j0 k a1 a2 true l0_0) else (compositorref14_Add.j0 k a1 a2 (decide (a2 > t226)) l0_0)))
set_option maxHeartbeats 8000000 in
set_option maxRecDepth 100000 in
theorem compositorref14_Add.calls (k : Nat) (P0_0_ : Nat → Prop) (u9000_ : Value) (l0_0 : List (S49)) (a1 : ByteArray) (a2 : Int) (r1 : List (S49)) (r2 : Int) (r3 : Int) (w0 w : World) (hB : Below w0.heap.size w0 w) (ho0_0 : Kd.R k49 49 w w0.heap.size P0_0_ u9000_ l0_0) (h : compositorref14_Add.f k l0_0 a1 a2 = some (r1, r2, r3)) :
    Calls Try.prog 13 #[.agg #[u9000_], .string a1, .int .i64 a2] w fun e w' => ∃ v0_ : Value, e = .returned (.tuple #[.agg #[v0_], .int .u32 r2, .int .i64 r3]) ∧ Kd.R k49 49 w' w0.heap.size (fun k_ => (P0_0_ k_ ∨ w.heap.size ≤ k_)) v0_ r1 ∧ Below w0.heap.size w0 w' ∧ Kept w w' (fun k_ => P0_0_ k_) := by
  have hu28 := Try.underlying28
  have hu49 := Try.underlying49
  have HO0_0 := Aside0.mk (show Kd.R k49 49 w w0.heap.size (fun k_ => (P0_0_ k_ ∨ w.heap.size ≤ k_)) u9000_ l0_0 from Kd.R_mono ho0_0 (fun k_ hk => (.inl hk)))
  have HK := Aside0.mk (Kept.refl w (fun k_ => P0_0_ k_))
  have HW0 := Aside0.mk hB.size
  have HB := Aside0.mk hB
  clear hB
  have H : ((compositorref12_Version.f k a1).bind fun t226 => (if t226 = 0 then (some (l0_0, 0, 8)) else (if a2 < 1 then (compositorref14_Add.j0 k a1 a2 true l0_0) else (compositorref14_Add.j0 k a1 a2 (decide (a2 > t226)) l0_0)))) = some (r1, r2, r3) := h
  clear h
  replace H := Option.bind_eq_some_iff.mp H
  obtain ⟨t226, A40, H⟩ := H
  replace H : (if t226 = 0 then (some (l0_0, 0, 8)) else (if a2 < 1 then (compositorref14_Add.j0 k a1 a2 true l0_0) else (compositorref14_Add.j0 k a1 a2 (decide (a2 > t226)) l0_0))) = some (r1, r2, r3) := H
  have A4 := Aside0.mk A40
  clear A40
  by_cases c5 : t226 = 0
  · rw [if_pos c5] at H
    have c5b0 : (t226 == 0) = true := beq_iff_eq.mpr c5
    have c5b1 : (t226 != 0) = false := bne_eq_false_iff_eq.mpr c5
    clear c5
    simp only [Option.some.injEq, Prod.mk.injEq] at H
    obtain ⟨rfl, rfl, rfl⟩ := H
    obtain ⟨Ao6, co6, eo6⟩ := Kd.R_slice HO0_0.out
    subst eo6
    go_enter Try.func13, Try.ntmps13
    go_wp2_with (first | ((with_reducible refine gate_dst (N := 3) rfl ?_); refine box_event ?hg (N := 3) ?hd (cs := #[.slice Ao6 l0_0.length co6]) (t := 28) ?hr ?_; (case hd => rfl); (case hg => rfl); (case hr => first | (go_simp; done) | (go_simp; rfl)); intro gb224 hg w7 hbox hb; have n0_ := Aside0.mk (Kd.R_below (by (with_reducible repeat (first | apply Kd.R_alloc | apply Kd.R_drewN | apply Kd.R_drew)); exact HO0_0.out) hb); have n1_ := Aside0.mk (Kept.below (S := (fun k_ => P0_0_ k_)) (by repeat (first | (with_reducible first | exact HK.out | apply Kept.alloc | apply Kept.drewN | apply Kept.drew) | exact HK.out)) hb); have n2_ := Aside0.mk (below_step (by repeat (first | (with_reducible first | exact HB.out | apply below_alloc | apply pw_below_drewN | apply below_drew1) | exact HB.out)) hb); have n3_ := Aside0.mk (hbox); have n4_ := Aside0.mk ((by rw [hg]; exact (by first | exact HK.out.1 | exact (show Kept w _ (fun k_ => P0_0_ k_) from by repeat (first | (with_reducible first | exact HK.out | apply Kept.alloc | apply Kept.drewN | apply Kept.drew) | exact HK.out)).1) : w.heap.size ≤ gb224)); have n5_ := Aside0.mk ((by rw [hg]; exact (below_size (by repeat (first | (with_reducible first | exact HB.out | apply below_alloc | apply pw_below_drewN | apply below_drew1) | exact HB.out))) : w0.heap.size ≤ gb224)); clear HO0_0; clear HK; clear HB; have HO0_0 := n0_; have HK := n1_; have HB := n2_; have BK224 := n3_; have GW224 := n4_; have GE224 := n5_; clear n0_ n1_ n2_ n3_ n4_ n5_; clear hb hbox hg) | ((with_reducible refine gate_dst (N := 6) rfl ?_); refine box_event ?hg (N := 6) ?hd (cs := #[.slice none 0 0]) (t := 28) ?hr ?_; (case hd => rfl); (case hg => rfl); (case hr => first | (go_simp; done) | (go_simp; rfl)); intro gb225 hg w8 hbox hb; have n0_ := Aside0.mk (Kd.R_below (by (with_reducible repeat (first | apply Kd.R_alloc | apply Kd.R_drewN | apply Kd.R_drew)); exact HO0_0.out) hb); have n1_ := Aside0.mk (blk_below (g := gb224) (o := .cells #[.slice Ao6 l0_0.length co6] 28 (0, 0)) (by (with_reducible repeat (first | refine blk_drewN ?_ _ | refine blk_drew ?_ | refine blk_alloc ?_ _)); exact BK224.out) hb); have n2_ := Aside0.mk (Kept.below (S := (fun k_ => P0_0_ k_)) (by repeat (first | (with_reducible first | exact HK.out | apply Kept.alloc | apply Kept.drewN | apply Kept.drew | refine Kept.setCell ?_ (.inr GW224.out) _) | exact HK.out)) hb); have n3_ := Aside0.mk (below_step (by repeat (first | (with_reducible first | exact HB.out | apply below_alloc | apply pw_below_drewN | apply below_drew1 | refine below_set ?_ GE224.out) | exact HB.out)) hb); have n4_ := Aside0.mk (hbox); have n5_ := Aside0.mk ((by rw [hg]; exact (by first | exact HK.out.1 | exact (show Kept w _ (fun k_ => P0_0_ k_) from by repeat (first | (with_reducible first | exact HK.out | apply Kept.alloc | apply Kept.drewN | apply Kept.drew | refine Kept.setCell ?_ (.inr GW224.out) _) | exact HK.out)).1) : w.heap.size ≤ gb225)); have n6_ := Aside0.mk ((by rw [hg]; exact (below_size (by repeat (first | (with_reducible first | exact HB.out | apply below_alloc | apply pw_below_drewN | apply below_drew1 | refine below_set ?_ GE224.out) | exact HB.out))) : w0.heap.size ≤ gb225)); have n7_ := Aside0.mk ((by rw [hg]; exact Nat.ne_of_lt (blk_lt (g := gb224) (o := .cells #[.slice Ao6 l0_0.length co6] 28 (0, 0)) (by (with_reducible repeat (first | refine blk_drewN ?_ _ | refine blk_drew ?_ | refine blk_alloc ?_ _)); exact BK224.out)) : gb224 ≠ gb225)); have n8_ := Aside0.mk ((by rw [hg]; exact Nat.ne_of_gt (blk_lt (g := gb224) (o := .cells #[.slice Ao6 l0_0.length co6] 28 (0, 0)) (by (with_reducible repeat (first | refine blk_drewN ?_ _ | refine blk_drew ?_ | refine blk_alloc ?_ _)); exact BK224.out)) : gb225 ≠ gb224)); clear HO0_0; clear BK224; clear HK; clear HB; have HO0_0 := n0_; have BK224 := n1_; have HK := n2_; have HB := n3_; have BK225 := n4_; have GW225 := n5_; have GE225 := n6_; have NB224_225 := n7_; have NB225_224 := n8_; clear n0_ n1_ n2_ n3_ n4_ n5_ n6_ n7_ n8_; clear hb hbox hg) | ((with_reducible refine gate_callee (f := 26) rfl ?_); refine goesL_ (some 12) rfl rfl Try.func26 (by kernel_rfl) rfl #[.string a1] rfl (by (try simp only [List.map_toArray, List.map_cons, List.map_nil]); first | done | rfl | (simp only [List.length_drop, List.length_take]; rfl)) ?_; (with_reducible refine (compositorref12_Version.calls k a1 t226 _ A4.out).mono ?_); rintro e w9 ⟨rfl, hb⟩; refine ⟨_, rfl, ?_⟩; have n0_ := Aside0.mk (Kd.R_below (by (with_reducible repeat (first | apply Kd.R_alloc | apply Kd.R_drewN | apply Kd.R_drew)); exact HO0_0.out) hb); have n1_ := Aside0.mk (blk_below (g := gb224) (o := .cells #[.slice Ao6 l0_0.length co6] 28 (0, 0)) (by (with_reducible repeat (first | refine blk_drewN ?_ _ | refine blk_drew ?_ | refine blk_alloc ?_ _)); exact BK224.out) hb); have n2_ := Aside0.mk (blk_below (g := gb225) (o := .cells #[.slice none 0 0] 28 (0, 0)) (by (with_reducible repeat (first | refine blk_drewN ?_ _ | refine blk_drew ?_ | refine blk_alloc ?_ _)); exact BK225.out) hb); have n3_ := Aside0.mk (Kept.below (S := (fun k_ => P0_0_ k_)) (by repeat (first | (with_reducible first | exact HK.out | apply Kept.alloc | apply Kept.drewN | apply Kept.drew | refine Kept.setCell ?_ (.inr GW224.out) _ | refine Kept.setCell ?_ (.inr GW225.out) _) | exact HK.out)) hb); have n4_ := Aside0.mk (below_step (by repeat (first | (with_reducible first | exact HB.out | apply below_alloc | apply pw_below_drewN | apply below_drew1 | refine below_set ?_ GE224.out | refine below_set ?_ GE225.out) | exact HB.out)) hb); clear HO0_0; clear BK224; clear BK225; clear HK; clear HB; have HO0_0 := n0_; have BK224 := n1_; have BK225 := n2_; have HK := n3_; have HB := n4_; clear n0_ n1_ n2_ n3_ n4_; (try clear hb); (try clear hb2); (try clear hk); (try clear hi); have hnb10 := NB224_225.out; have hnc10 := NB225_224.out; have hcz11_0 : w9.cell? ⟨gb224, 0, none⟩ = some (.slice Ao6 l0_0.length co6) := (blk_cell BK224.out 0).trans rfl; have hfz11_0 := blk_frozen BK224.out 0; have hcz12_0 : w9.cell? ⟨gb225, 0, none⟩ = some (.slice none 0 0) := (blk_cell BK225.out 0).trans rfl; have hfz12_0 := blk_frozen BK225.out 0))
    refine bodyPost_ret (results_ctt rfl _ _ gb225 28 #[.slice Ao6 l0_0.length co6] (0, 0) _ rfl (by (with_reducible repeat (first | refine blk_drewN ?_ _ | refine blk_drew ?_ | refine blk_alloc ?_ _)); refine blk_put (cs := #[.slice none 0 0]) ?_ 0 _ rfl; (with_reducible repeat (first | refine blk_drewN ?_ _ | refine blk_drew ?_ | refine blk_alloc ?_ _)); exact BK225.out) Try.underlying28 rfl (by kernel_rfl)) rfl ?_
    exact ⟨_, by first | rfl | (simp [errW_none, errW_some] <;> rfl) | (simp [*, errW_none, errW_some] <;> rfl), by (with_reducible repeat (first | apply Kd.R_alloc | apply Kd.R_drewN | apply Kd.R_drew)); exact Kd.R_mono (Kd.R_far (p := ⟨gb225, 0, none⟩) (Kd.R_types HO0_0.out BK225.out (by decide)) (fun _ hk => hk.2) (.slice Ao6 l0_0.length co6)) (fun _ hk => hk.1), by repeat (first | (with_reducible first | exact HB.out | apply below_alloc | apply pw_below_drewN | apply below_drew1 | refine below_set ?_ GE224.out | refine below_set ?_ GE225.out) | exact HB.out), by repeat (first | (with_reducible first | exact HK.out | apply Kept.alloc | apply Kept.drewN | apply Kept.drew | refine Kept.setCell ?_ (.inr GW224.out) _ | refine Kept.setCell ?_ (.inr GW225.out) _) | exact HK.out)⟩
  · rw [if_neg c5] at H
    have c5b0 : (t226 == 0) = false := beq_eq_false_iff_ne.mpr c5
    have c5b1 : (t226 != 0) = true := bne_iff_ne.mpr c5
    have HC13 := Aside0.mk H
    clear H
    obtain ⟨Ao14, co14, eo14⟩ := Kd.R_slice HO0_0.out
    subst eo14
    go_enter Try.func13, Try.ntmps13
    go_upto_region 4 with (first | ((with_reducible refine gate_dst (N := 3) rfl ?_); refine box_event ?hg (N := 3) ?hd (cs := #[.slice Ao14 l0_0.length co14]) (t := 28) ?hr ?_; (case hd => rfl); (case hg => rfl); (case hr => first | (go_simp; done) | (go_simp; rfl)); intro gb224 hg w15 hbox hb; have n0_ := Aside0.mk (Kd.R_below (by (with_reducible repeat (first | apply Kd.R_alloc | apply Kd.R_drewN | apply Kd.R_drew)); exact HO0_0.out) hb); have n1_ := Aside0.mk (Kept.below (S := (fun k_ => P0_0_ k_)) (by repeat (first | (with_reducible first | exact HK.out | apply Kept.alloc | apply Kept.drewN | apply Kept.drew) | exact HK.out)) hb); have n2_ := Aside0.mk (below_step (by repeat (first | (with_reducible first | exact HB.out | apply below_alloc | apply pw_below_drewN | apply below_drew1) | exact HB.out)) hb); have n3_ := Aside0.mk (hbox); have n4_ := Aside0.mk ((by rw [hg]; exact (by first | exact HK.out.1 | exact (show Kept w _ (fun k_ => P0_0_ k_) from by repeat (first | (with_reducible first | exact HK.out | apply Kept.alloc | apply Kept.drewN | apply Kept.drew) | exact HK.out)).1) : w.heap.size ≤ gb224)); have n5_ := Aside0.mk ((by rw [hg]; exact (below_size (by repeat (first | (with_reducible first | exact HB.out | apply below_alloc | apply pw_below_drewN | apply below_drew1) | exact HB.out))) : w0.heap.size ≤ gb224)); clear HO0_0; clear HK; clear HB; have HO0_0 := n0_; have HK := n1_; have HB := n2_; have BK224 := n3_; have GW224 := n4_; have GE224 := n5_; clear n0_ n1_ n2_ n3_ n4_ n5_; clear hb hbox hg) | ((with_reducible refine gate_dst (N := 6) rfl ?_); refine box_event ?hg (N := 6) ?hd (cs := #[.slice none 0 0]) (t := 28) ?hr ?_; (case hd => rfl); (case hg => rfl); (case hr => first | (go_simp; done) | (go_simp; rfl)); intro gb225 hg w16 hbox hb; have n0_ := Aside0.mk (Kd.R_below (by (with_reducible repeat (first | apply Kd.R_alloc | apply Kd.R_drewN | apply Kd.R_drew)); exact HO0_0.out) hb); have n1_ := Aside0.mk (blk_below (g := gb224) (o := .cells #[.slice Ao14 l0_0.length co14] 28 (0, 0)) (by (with_reducible repeat (first | refine blk_drewN ?_ _ | refine blk_drew ?_ | refine blk_alloc ?_ _)); exact BK224.out) hb); have n2_ := Aside0.mk (Kept.below (S := (fun k_ => P0_0_ k_)) (by repeat (first | (with_reducible first | exact HK.out | apply Kept.alloc | apply Kept.drewN | apply Kept.drew | refine Kept.setCell ?_ (.inr GW224.out) _) | exact HK.out)) hb); have n3_ := Aside0.mk (below_step (by repeat (first | (with_reducible first | exact HB.out | apply below_alloc | apply pw_below_drewN | apply below_drew1 | refine below_set ?_ GE224.out) | exact HB.out)) hb); have n4_ := Aside0.mk (hbox); have n5_ := Aside0.mk ((by rw [hg]; exact (by first | exact HK.out.1 | exact (show Kept w _ (fun k_ => P0_0_ k_) from by repeat (first | (with_reducible first | exact HK.out | apply Kept.alloc | apply Kept.drewN | apply Kept.drew | refine Kept.setCell ?_ (.inr GW224.out) _) | exact HK.out)).1) : w.heap.size ≤ gb225)); have n6_ := Aside0.mk ((by rw [hg]; exact (below_size (by repeat (first | (with_reducible first | exact HB.out | apply below_alloc | apply pw_below_drewN | apply below_drew1 | refine below_set ?_ GE224.out) | exact HB.out))) : w0.heap.size ≤ gb225)); have n7_ := Aside0.mk ((by rw [hg]; exact Nat.ne_of_lt (blk_lt (g := gb224) (o := .cells #[.slice Ao14 l0_0.length co14] 28 (0, 0)) (by (with_reducible repeat (first | refine blk_drewN ?_ _ | refine blk_drew ?_ | refine blk_alloc ?_ _)); exact BK224.out)) : gb224 ≠ gb225)); have n8_ := Aside0.mk ((by rw [hg]; exact Nat.ne_of_gt (blk_lt (g := gb224) (o := .cells #[.slice Ao14 l0_0.length co14] 28 (0, 0)) (by (with_reducible repeat (first | refine blk_drewN ?_ _ | refine blk_drew ?_ | refine blk_alloc ?_ _)); exact BK224.out)) : gb225 ≠ gb224)); clear HO0_0; clear BK224; clear HK; clear HB; have HO0_0 := n0_; have BK224 := n1_; have HK := n2_; have HB := n3_; have BK225 := n4_; have GW225 := n5_; have GE225 := n6_; have NB224_225 := n7_; have NB225_224 := n8_; clear n0_ n1_ n2_ n3_ n4_ n5_ n6_ n7_ n8_; clear hb hbox hg) | ((with_reducible refine gate_callee (f := 26) rfl ?_); refine goesL_ (some 12) rfl rfl Try.func26 (by kernel_rfl) rfl #[.string a1] rfl (by (try simp only [List.map_toArray, List.map_cons, List.map_nil]); first | done | rfl | (simp only [List.length_drop, List.length_take]; rfl)) ?_; (with_reducible refine (compositorref12_Version.calls k a1 t226 _ A4.out).mono ?_); rintro e w17 ⟨rfl, hb⟩; refine ⟨_, rfl, ?_⟩; have n0_ := Aside0.mk (Kd.R_below (by (with_reducible repeat (first | apply Kd.R_alloc | apply Kd.R_drewN | apply Kd.R_drew)); exact HO0_0.out) hb); have n1_ := Aside0.mk (blk_below (g := gb224) (o := .cells #[.slice Ao14 l0_0.length co14] 28 (0, 0)) (by (with_reducible repeat (first | refine blk_drewN ?_ _ | refine blk_drew ?_ | refine blk_alloc ?_ _)); exact BK224.out) hb); have n2_ := Aside0.mk (blk_below (g := gb225) (o := .cells #[.slice none 0 0] 28 (0, 0)) (by (with_reducible repeat (first | refine blk_drewN ?_ _ | refine blk_drew ?_ | refine blk_alloc ?_ _)); exact BK225.out) hb); have n3_ := Aside0.mk (Kept.below (S := (fun k_ => P0_0_ k_)) (by repeat (first | (with_reducible first | exact HK.out | apply Kept.alloc | apply Kept.drewN | apply Kept.drew | refine Kept.setCell ?_ (.inr GW224.out) _ | refine Kept.setCell ?_ (.inr GW225.out) _) | exact HK.out)) hb); have n4_ := Aside0.mk (below_step (by repeat (first | (with_reducible first | exact HB.out | apply below_alloc | apply pw_below_drewN | apply below_drew1 | refine below_set ?_ GE224.out | refine below_set ?_ GE225.out) | exact HB.out)) hb); clear HO0_0; clear BK224; clear BK225; clear HK; clear HB; have HO0_0 := n0_; have BK224 := n1_; have BK225 := n2_; have HK := n3_; have HB := n4_; clear n0_ n1_ n2_ n3_ n4_; (try clear hb); (try clear hb2); (try clear hk); (try clear hi)))
    (try simp only [Act.put, List.setIfInBounds_toArray, List.set_cons_zero, List.set_cons_succ])
    go_cut [17] (fun v17 wc => ∃ (kq : Nat) (x17_12 : Bool), v17 = .bool x17_12 ∧ Aside0 (compositorref14_Add.j0 kq a1 a2 x17_12 l0_0 = some (r1, r2, r3)) ∧ Aside0 (kq ≤ k) ∧ Aside0 (Kd.R k49 49 wc w0.heap.size (fun k_ => (P0_0_ k_ ∨ w.heap.size ≤ k_)) (.slice Ao14 l0_0.length co14) l0_0) ∧ Aside0 (wc.heap[gb224]? = some (.cells #[(.slice Ao14 l0_0.length co14)] 28 (0, 0))) ∧ Aside0 (wc.heap[gb225]? = some (.cells #[(.slice none 0 0)] 28 (0, 0))) ∧ Aside0 (Kept w wc (fun k_ => P0_0_ k_)) ∧ Aside0 (Below w0.heap.size w0 wc))
    case first =>
      have H := HC13.out
      clear HC13
      by_cases c18 : a2 < 1
      · rw [if_pos c18] at H
        have c18b0 : decide (a2 < 1) = true := decide_eq_true c18
        clear c18
        (first | rw [c18b0] | (simp only [i64_w, i32_w]; rw [c18b0]) | skip)
        have H' := Aside0.mk H
        clear H
        go_wp2
        go_meet
        case rel => exact ⟨_, (true), (by first | rfl | (simp; done) | (simp [*]; done)), H', ⟨by first | omega | exact Nat.le_refl _⟩, ⟨by (with_reducible repeat (first | apply Kd.R_alloc | apply Kd.R_drewN | apply Kd.R_drew)); exact HO0_0.out⟩, ⟨by (with_reducible repeat (first | refine blk_drewN ?_ _ | refine blk_drew ?_ | refine blk_alloc ?_ _)); exact BK224.out⟩, ⟨by (with_reducible repeat (first | refine blk_drewN ?_ _ | refine blk_drew ?_ | refine blk_alloc ?_ _)); exact BK225.out⟩, ⟨by repeat (first | (with_reducible first | exact HK.out | apply Kept.alloc | apply Kept.drewN | apply Kept.drew | refine Kept.setCell ?_ (.inr GW224.out) _ | refine Kept.setCell ?_ (.inr GW225.out) _) | exact HK.out)⟩, ⟨by repeat (first | (with_reducible first | exact HB.out | apply below_alloc | apply pw_below_drewN | apply below_drew1 | refine below_set ?_ GE224.out | refine below_set ?_ GE225.out) | exact HB.out)⟩⟩
      · rw [if_neg c18] at H
        have c18b0 : decide (a2 < 1) = false := decide_eq_false c18
        clear c18
        (first | rw [c18b0] | (simp only [i64_w, i32_w]; rw [c18b0]) | skip)
        have H' := Aside0.mk H
        clear H
        go_wp2
        go_meet
        case rel => exact ⟨_, (decide (a2 > t226)), (by first | rfl | (simp; done) | (simp [*]; done)), H', ⟨by first | omega | exact Nat.le_refl _⟩, ⟨by (with_reducible repeat (first | apply Kd.R_alloc | apply Kd.R_drewN | apply Kd.R_drew)); exact HO0_0.out⟩, ⟨by (with_reducible repeat (first | refine blk_drewN ?_ _ | refine blk_drew ?_ | refine blk_alloc ?_ _)); exact BK224.out⟩, ⟨by (with_reducible repeat (first | refine blk_drewN ?_ _ | refine blk_drew ?_ | refine blk_alloc ?_ _)); exact BK225.out⟩, ⟨by repeat (first | (with_reducible first | exact HK.out | apply Kept.alloc | apply Kept.drewN | apply Kept.drew | refine Kept.setCell ?_ (.inr GW224.out) _ | refine Kept.setCell ?_ (.inr GW225.out) _) | exact HK.out)⟩, ⟨by repeat (first | (with_reducible first | exact HB.out | apply below_alloc | apply pw_below_drewN | apply below_drew1 | refine below_set ?_ GE224.out | refine below_set ?_ GE225.out) | exact HB.out)⟩⟩
    case rest =>
      clear HC13
      try clear c1
      try clear c2
      try clear p2
      try clear c5
      try clear c5b0
      try clear c5b1
      try clear c10
      try clear c13
      try clear c18
      try clear c18b0
      try clear hcz11_0
      try clear hcz12_0
      try clear hfz11_0
      try clear hfz12_0
      obtain ⟨kq, x17_12, rfl, HA, HJ12, HO_225000, BK224, BK225, HK, HB⟩ := hcut
      cases kq with
      | zero => exact absurd HA.out (by simp [compositorref14_Add.j0])
      | succ kj12 =>
        have H := HA.out
        clear HA
        simp only [compositorref14_Add.j0] at H
        by_cases c19 : x17_12 = true
        · subst c19
          have H1 : (some (l0_0, 0, 11)) = some (r1, r2, r3) := by rw [if_pos rfl] at H; exact H
          clear H
          have H := H1
          clear H1
          simp only [Option.some.injEq, Prod.mk.injEq] at H
          obtain ⟨rfl, rfl, rfl⟩ := H
          have hnb20 := NB224_225.out
          have hnc20 := NB225_224.out
          have hcz21_0 : wc.cell? ⟨gb224, 0, none⟩ = some (.slice Ao14 l0_0.length co14) := (blk_cell BK224.out 0).trans rfl
          have hfz21_0 := blk_frozen BK224.out 0
          have hcz22_0 : wc.cell? ⟨gb225, 0, none⟩ = some (.slice none 0 0) := (blk_cell BK225.out 0).trans rfl
          have hfz22_0 := blk_frozen BK225.out 0
          go_wp2
          refine bodyPost_ret (results_ctt rfl _ _ gb225 28 #[.slice Ao14 l0_0.length co14] (0, 0) _ rfl (by (with_reducible repeat (first | refine blk_drewN ?_ _ | refine blk_drew ?_ | refine blk_alloc ?_ _)); refine blk_put (cs := #[.slice none 0 0]) ?_ 0 _ rfl; (with_reducible repeat (first | refine blk_drewN ?_ _ | refine blk_drew ?_ | refine blk_alloc ?_ _)); exact BK225.out) Try.underlying28 rfl (by kernel_rfl)) rfl ?_
          exact ⟨_, by first | rfl | (simp [errW_none, errW_some] <;> rfl) | (simp [*, errW_none, errW_some] <;> rfl), by (with_reducible repeat (first | apply Kd.R_alloc | apply Kd.R_drewN | apply Kd.R_drew)); exact Kd.R_mono (Kd.R_far (p := ⟨gb225, 0, none⟩) (Kd.R_types HO_225000.out BK225.out (by decide)) (fun _ hk => hk.2) (.slice Ao14 l0_0.length co14)) (fun _ hk => hk.1), by repeat (first | (with_reducible first | exact HB.out | apply below_alloc | apply pw_below_drewN | apply below_drew1 | refine below_set ?_ GE224.out | refine below_set ?_ GE225.out) | exact HB.out), by repeat (first | (with_reducible first | exact HK.out | apply Kept.alloc | apply Kept.drewN | apply Kept.drew | refine Kept.setCell ?_ (.inr GW224.out) _ | refine Kept.setCell ?_ (.inr GW225.out) _) | exact HK.out)⟩
        · replace c19 := Bool.eq_false_iff.mpr c19
          subst c19
          have H1 : ((compositorref14_List.f kj12 l0_0).bind fun t227 => (if (t227.length : Int) ≥ 64 then (some (l0_0, 0, 5)) else ((compositorref14_added.f kj12 l0_0).bind fun t230 => ((compositorref14_with.f l0_0 ((wrap64 (t230 + 1)) % 4294967296) a1 a2).bind fun t231 => (some (t231, (wrap64 (t230 + 1)) % 4294967296, 0)))))) = some (r1, r2, r3) := by rw [if_neg (show ¬ (false = true) by decide)] at H; exact H
          clear H
          have H := H1
          clear H1
          replace H := Option.bind_eq_some_iff.mp H
          obtain ⟨t227, A230, H⟩ := H
          replace H : (if (t227.length : Int) ≥ 64 then (some (l0_0, 0, 5)) else ((compositorref14_added.f kj12 l0_0).bind fun t230 => ((compositorref14_with.f l0_0 ((wrap64 (t230 + 1)) % 4294967296) a1 a2).bind fun t231 => (some (t231, (wrap64 (t230 + 1)) % 4294967296, 0))))) = some (r1, r2, r3) := H
          have A23 := Aside0.mk A230
          clear A230
          by_cases c24 : (t227.length : Int) ≥ 64
          · rw [if_pos c24] at H
            have c24b0 : decide (64 ≤ (t227.length : Int)) = true := decide_eq_true c24
            have c24b1 : decide (64 ≤ t227.length) = true := decide_eq_true (by omega)
            clear c24
            simp only [Option.some.injEq, Prod.mk.injEq] at H
            obtain ⟨rfl, rfl, rfl⟩ := H
            have hnb25 := NB224_225.out
            have hnc25 := NB225_224.out
            have hcz26_0 : wc.cell? ⟨gb224, 0, none⟩ = some (.slice Ao14 l0_0.length co14) := (blk_cell BK224.out 0).trans rfl
            have hfz26_0 := blk_frozen BK224.out 0
            go_wp2_with (first | ((with_reducible refine gate_callee (f := 20) rfl ?_); refine goesL_ (some 28) rfl rfl Try.func20 (by kernel_rfl) rfl #[.agg #[.slice Ao14 l0_0.length co14]] rfl (by (try simp only [List.map_toArray, List.map_cons, List.map_nil]); first | done | rfl | (simp only [List.length_drop, List.length_take]; rfl)) ?_; (with_reducible refine (compositorref14_List.calls kj12 _ _ l0_0 t227 _ ?side1 ?side2 A23.out).mono ?_); (case side1 => repeat (first | exact (Kd.R_reads' HO_225000.out).2.2 | (with_reducible refine Kd.C_alloc ?_ _) | (with_reducible refine Kd.C_drewN ?_ _) | (with_reducible refine Kd.C_drew ?_))); (case side2 => exact (Kd.R_reads' HO_225000.out).2.1); rintro e w27 ⟨v228, rfl, ho0, hb⟩; refine ⟨_, rfl, ?_⟩; have n0_ := Aside0.mk (Kd.R_elder' (by (with_reducible repeat (first | apply Kd.R_alloc | apply Kd.R_drewN | apply Kd.R_drew)); exact HO_225000.out) (Kd.R_base ho0) hb); have n1_ := Aside0.mk (Kd.R_lower (Kd.R_new' (Kd.R_newM (M := fun k_ => (P0_0_ k_ ∨ w.heap.size ≤ k_)) ho0 (by first | exact HK.out.1 | exact (show Kept w _ (fun k_ => P0_0_ k_) from by repeat (first | (with_reducible first | exact HK.out | apply Kept.alloc | apply Kept.drewN | apply Kept.drew | refine Kept.setCell ?_ (.inr GW224.out) _ | refine Kept.setCell ?_ (.inr GW225.out) _) | exact HK.out)).1) (fun k_ h_ => .inr h_)) (Kd.R_lt (by (with_reducible repeat (first | apply Kd.R_alloc | apply Kd.R_drewN | apply Kd.R_drew)); exact HO_225000.out))) (below_size (by repeat (first | (with_reducible first | exact HB.out | apply below_alloc | apply pw_below_drewN | apply below_drew1 | refine below_set ?_ GE224.out | refine below_set ?_ GE225.out) | exact HB.out)))); have n2_ := Aside0.mk (blk_below (g := gb224) (o := .cells #[.slice Ao14 l0_0.length co14] 28 (0, 0)) (by (with_reducible repeat (first | refine blk_drewN ?_ _ | refine blk_drew ?_ | refine blk_alloc ?_ _)); exact BK224.out) hb); have n3_ := Aside0.mk (blk_below (g := gb225) (o := .cells #[.slice none 0 0] 28 (0, 0)) (by (with_reducible repeat (first | refine blk_drewN ?_ _ | refine blk_drew ?_ | refine blk_alloc ?_ _)); exact BK225.out) hb); have n4_ := Aside0.mk (Kept.below (S := (fun k_ => P0_0_ k_)) (by repeat (first | (with_reducible first | exact HK.out | apply Kept.alloc | apply Kept.drewN | apply Kept.drew | refine Kept.setCell ?_ (.inr GW224.out) _ | refine Kept.setCell ?_ (.inr GW225.out) _) | exact HK.out)) hb); have n5_ := Aside0.mk (below_step (by repeat (first | (with_reducible first | exact HB.out | apply below_alloc | apply pw_below_drewN | apply below_drew1 | refine below_set ?_ GE224.out | refine below_set ?_ GE225.out) | exact HB.out)) hb); clear HO_225000; clear BK224; clear BK225; clear HK; clear HB; have HO_225000 := n0_; have HO229 := n1_; have BK224 := n2_; have BK225 := n3_; have HK := n4_; have HB := n5_; clear n0_ n1_ n2_ n3_ n4_ n5_; (try clear hb); (try clear hb2); (try clear hk); (try clear hi); (try clear ho0); obtain ⟨Ao28, co28, eo28⟩ := Kd.R_slice HO229.out; subst eo28; have hcz29_0 : w27.cell? ⟨gb224, 0, none⟩ = some (.slice Ao14 l0_0.length co14) := (blk_cell BK224.out 0).trans rfl; have hfz29_0 := blk_frozen BK224.out 0; have hcz30_0 : w27.cell? ⟨gb225, 0, none⟩ = some (.slice none 0 0) := (blk_cell BK225.out 0).trans rfl; have hfz30_0 := blk_frozen BK225.out 0))
            refine bodyPost_ret (results_ctt rfl _ _ gb225 28 #[.slice Ao14 l0_0.length co14] (0, 0) _ rfl (by (with_reducible repeat (first | refine blk_drewN ?_ _ | refine blk_drew ?_ | refine blk_alloc ?_ _)); refine blk_put (cs := #[.slice none 0 0]) ?_ 0 _ rfl; (with_reducible repeat (first | refine blk_drewN ?_ _ | refine blk_drew ?_ | refine blk_alloc ?_ _)); exact BK225.out) Try.underlying28 rfl (by kernel_rfl)) rfl ?_
            exact ⟨_, by first | rfl | (simp [errW_none, errW_some] <;> rfl) | (simp [*, errW_none, errW_some] <;> rfl), by (with_reducible repeat (first | apply Kd.R_alloc | apply Kd.R_drewN | apply Kd.R_drew)); exact Kd.R_mono (Kd.R_far (p := ⟨gb225, 0, none⟩) (Kd.R_types HO_225000.out BK225.out (by decide)) (fun _ hk => hk.2) (.slice Ao14 l0_0.length co14)) (fun _ hk => hk.1.1), by repeat (first | (with_reducible first | exact HB.out | apply below_alloc | apply pw_below_drewN | apply below_drew1 | refine below_set ?_ GE224.out | refine below_set ?_ GE225.out) | exact HB.out), by repeat (first | (with_reducible first | exact HK.out | apply Kept.alloc | apply Kept.drewN | apply Kept.drew | refine Kept.setCell ?_ (.inr GW224.out) _ | refine Kept.setCell ?_ (.inr GW225.out) _) | exact HK.out)⟩
          · rw [if_neg c24] at H
            have c24b0 : decide (64 ≤ (t227.length : Int)) = false := decide_eq_false c24
            have c24b1 : decide (64 ≤ t227.length) = false := decide_eq_false (by omega)
            clear c24
            replace H := Option.bind_eq_some_iff.mp H
            obtain ⟨t230, A310, H⟩ := H
            replace H : ((compositorref14_with.f l0_0 ((wrap64 (t230 + 1)) % 4294967296) a1 a2).bind fun t231 => (some (t231, (wrap64 (t230 + 1)) % 4294967296, 0))) = some (r1, r2, r3) := H
            have A31 := Aside0.mk A310
            clear A310
            replace H := Option.bind_eq_some_iff.mp H
            obtain ⟨t231, A320, H⟩ := H
            replace H : (some (t231, (wrap64 (t230 + 1)) % 4294967296, 0)) = some (r1, r2, r3) := H
            have A32 := Aside0.mk A320
            clear A320
            simp only [Option.some.injEq, Prod.mk.injEq] at H
            obtain ⟨rfl, rfl, rfl⟩ := H
            have hnb33 := NB224_225.out
            have hnc33 := NB225_224.out
            have hcz34_0 : wc.cell? ⟨gb224, 0, none⟩ = some (.slice Ao14 l0_0.length co14) := (blk_cell BK224.out 0).trans rfl
            have hfz34_0 := blk_frozen BK224.out 0
            go_wp2_with (first | ((with_reducible refine gate_callee (f := 20) rfl ?_); refine goesL_ (some 28) rfl rfl Try.func20 (by kernel_rfl) rfl #[.agg #[.slice Ao14 l0_0.length co14]] rfl (by (try simp only [List.map_toArray, List.map_cons, List.map_nil]); first | done | rfl | (simp only [List.length_drop, List.length_take]; rfl)) ?_; (with_reducible refine (compositorref14_List.calls kj12 _ _ l0_0 t227 _ ?side1 ?side2 A23.out).mono ?_); (case side1 => repeat (first | exact (Kd.R_reads' HO_225000.out).2.2 | (with_reducible refine Kd.C_alloc ?_ _) | (with_reducible refine Kd.C_drewN ?_ _) | (with_reducible refine Kd.C_drew ?_))); (case side2 => exact (Kd.R_reads' HO_225000.out).2.1); rintro e w35 ⟨v228, rfl, ho0, hb⟩; refine ⟨_, rfl, ?_⟩; have n0_ := Aside0.mk (Kd.R_elder' (by (with_reducible repeat (first | apply Kd.R_alloc | apply Kd.R_drewN | apply Kd.R_drew)); exact HO_225000.out) (Kd.R_base ho0) hb); have n1_ := Aside0.mk (Kd.R_lower (Kd.R_new' (Kd.R_newM (M := fun k_ => (P0_0_ k_ ∨ w.heap.size ≤ k_)) ho0 (by first | exact HK.out.1 | exact (show Kept w _ (fun k_ => P0_0_ k_) from by repeat (first | (with_reducible first | exact HK.out | apply Kept.alloc | apply Kept.drewN | apply Kept.drew | refine Kept.setCell ?_ (.inr GW224.out) _ | refine Kept.setCell ?_ (.inr GW225.out) _) | exact HK.out)).1) (fun k_ h_ => .inr h_)) (Kd.R_lt (by (with_reducible repeat (first | apply Kd.R_alloc | apply Kd.R_drewN | apply Kd.R_drew)); exact HO_225000.out))) (below_size (by repeat (first | (with_reducible first | exact HB.out | apply below_alloc | apply pw_below_drewN | apply below_drew1 | refine below_set ?_ GE224.out | refine below_set ?_ GE225.out) | exact HB.out)))); have n2_ := Aside0.mk (blk_below (g := gb224) (o := .cells #[.slice Ao14 l0_0.length co14] 28 (0, 0)) (by (with_reducible repeat (first | refine blk_drewN ?_ _ | refine blk_drew ?_ | refine blk_alloc ?_ _)); exact BK224.out) hb); have n3_ := Aside0.mk (blk_below (g := gb225) (o := .cells #[.slice none 0 0] 28 (0, 0)) (by (with_reducible repeat (first | refine blk_drewN ?_ _ | refine blk_drew ?_ | refine blk_alloc ?_ _)); exact BK225.out) hb); have n4_ := Aside0.mk (Kept.below (S := (fun k_ => P0_0_ k_)) (by repeat (first | (with_reducible first | exact HK.out | apply Kept.alloc | apply Kept.drewN | apply Kept.drew | refine Kept.setCell ?_ (.inr GW224.out) _ | refine Kept.setCell ?_ (.inr GW225.out) _) | exact HK.out)) hb); have n5_ := Aside0.mk (below_step (by repeat (first | (with_reducible first | exact HB.out | apply below_alloc | apply pw_below_drewN | apply below_drew1 | refine below_set ?_ GE224.out | refine below_set ?_ GE225.out) | exact HB.out)) hb); clear HO_225000; clear BK224; clear BK225; clear HK; clear HB; have HO_225000 := n0_; have HO229 := n1_; have BK224 := n2_; have BK225 := n3_; have HK := n4_; have HB := n5_; clear n0_ n1_ n2_ n3_ n4_ n5_; (try clear hb); (try clear hb2); (try clear hk); (try clear hi); (try clear ho0); obtain ⟨Ao36, co36, eo36⟩ := Kd.R_slice HO229.out; subst eo36; have hcz37_0 : w35.cell? ⟨gb224, 0, none⟩ = some (.slice Ao14 l0_0.length co14) := (blk_cell BK224.out 0).trans rfl; have hfz37_0 := blk_frozen BK224.out 0) | ((with_reducible refine gate_callee (f := 29) rfl ?_); refine goesL_ (some 33) rfl rfl Try.func29 (by kernel_rfl) rfl #[.agg #[.slice Ao14 l0_0.length co14]] rfl (by (try simp only [List.map_toArray, List.map_cons, List.map_nil]); first | done | rfl | (simp only [List.length_drop, List.length_take]; rfl)) ?_; (with_reducible refine (compositorref14_added.calls kj12 _ _ l0_0 t230 _ ?side1 ?side2 A31.out).mono ?_); (case side1 => repeat (first | exact (Kd.R_reads' HO_225000.out).2.2 | (with_reducible refine Kd.C_alloc ?_ _) | (with_reducible refine Kd.C_drewN ?_ _) | (with_reducible refine Kd.C_drew ?_))); (case side2 => exact (Kd.R_reads' HO_225000.out).2.1); rintro e w38 ⟨rfl, hb⟩; refine ⟨_, rfl, ?_⟩; have n0_ := Aside0.mk (Kd.R_below (by (with_reducible repeat (first | apply Kd.R_alloc | apply Kd.R_drewN | apply Kd.R_drew)); exact HO_225000.out) hb); have n1_ := Aside0.mk (Kd.R_below (by (with_reducible repeat (first | apply Kd.R_alloc | apply Kd.R_drewN | apply Kd.R_drew)); exact HO229.out) hb); have n2_ := Aside0.mk (blk_below (g := gb224) (o := .cells #[.slice Ao14 l0_0.length co14] 28 (0, 0)) (by (with_reducible repeat (first | refine blk_drewN ?_ _ | refine blk_drew ?_ | refine blk_alloc ?_ _)); exact BK224.out) hb); have n3_ := Aside0.mk (blk_below (g := gb225) (o := .cells #[.slice none 0 0] 28 (0, 0)) (by (with_reducible repeat (first | refine blk_drewN ?_ _ | refine blk_drew ?_ | refine blk_alloc ?_ _)); exact BK225.out) hb); have n4_ := Aside0.mk (Kept.below (S := (fun k_ => P0_0_ k_)) (by repeat (first | (with_reducible first | exact HK.out | apply Kept.alloc | apply Kept.drewN | apply Kept.drew | refine Kept.setCell ?_ (.inr GW224.out) _ | refine Kept.setCell ?_ (.inr GW225.out) _) | exact HK.out)) hb); have n5_ := Aside0.mk (below_step (by repeat (first | (with_reducible first | exact HB.out | apply below_alloc | apply pw_below_drewN | apply below_drew1 | refine below_set ?_ GE224.out | refine below_set ?_ GE225.out) | exact HB.out)) hb); clear HO_225000; clear HO229; clear BK224; clear BK225; clear HK; clear HB; have HO_225000 := n0_; have HO229 := n1_; have BK224 := n2_; have BK225 := n3_; have HK := n4_; have HB := n5_; clear n0_ n1_ n2_ n3_ n4_ n5_; (try clear hb); (try clear hb2); (try clear hk); (try clear hi); have hcz39_0 : w38.cell? ⟨gb224, 0, none⟩ = some (.slice Ao14 l0_0.length co14) := (blk_cell BK224.out 0).trans rfl; have hfz39_0 := blk_frozen BK224.out 0) | ((with_reducible refine gate_callee (f := 30) rfl ?_); refine goesL_ (some 41) rfl rfl Try.func30 (by kernel_rfl) rfl #[.agg #[.slice Ao14 l0_0.length co14], .agg #[.int .u32 ((wrap64 (t230 + 1)) % 4294967296), .string a1, .int .i64 a2]] rfl (by (try simp only [List.map_toArray, List.map_cons, List.map_nil]); first | done | rfl | (simp only [List.length_drop, List.length_take]; rfl)) ?_; (with_reducible refine (compositorref14_with.calls _ _ l0_0 ((wrap64 (t230 + 1)) % 4294967296) a1 a2 t231 _ ?side1 ?side2 A32.out).mono ?_); (case side1 => repeat (first | exact (Kd.R_reads' HO_225000.out).2.2 | (with_reducible refine Kd.C_alloc ?_ _) | (with_reducible refine Kd.C_drewN ?_ _) | (with_reducible refine Kd.C_drew ?_))); (case side2 => exact (Kd.R_reads' HO_225000.out).2.1); rintro e w40 ⟨v232, rfl, ho0, hb⟩; refine ⟨_, rfl, ?_⟩; have n0_ := Aside0.mk (Kd.R_elder' (by (with_reducible repeat (first | apply Kd.R_alloc | apply Kd.R_drewN | apply Kd.R_drew)); exact HO_225000.out) (Kd.R_base ho0) hb); have n1_ := Aside0.mk (Kd.R_elder' (by (with_reducible repeat (first | apply Kd.R_alloc | apply Kd.R_drewN | apply Kd.R_drew)); exact HO229.out) (Kd.R_base ho0) hb); have n2_ := Aside0.mk (Kd.R_lower (Kd.R_new' (Kd.R_new' (Kd.R_newM (M := fun k_ => (P0_0_ k_ ∨ w.heap.size ≤ k_)) ho0 (by first | exact HK.out.1 | exact (show Kept w _ (fun k_ => P0_0_ k_) from by repeat (first | (with_reducible first | exact HK.out | apply Kept.alloc | apply Kept.drewN | apply Kept.drew | refine Kept.setCell ?_ (.inr GW224.out) _ | refine Kept.setCell ?_ (.inr GW225.out) _) | exact HK.out)).1) (fun k_ h_ => .inr h_)) (Kd.R_lt (by (with_reducible repeat (first | apply Kd.R_alloc | apply Kd.R_drewN | apply Kd.R_drew)); exact HO_225000.out))) (Kd.R_lt (by (with_reducible repeat (first | apply Kd.R_alloc | apply Kd.R_drewN | apply Kd.R_drew)); exact HO229.out))) (below_size (by repeat (first | (with_reducible first | exact HB.out | apply below_alloc | apply pw_below_drewN | apply below_drew1 | refine below_set ?_ GE224.out | refine below_set ?_ GE225.out) | exact HB.out)))); have n3_ := Aside0.mk (blk_below (g := gb224) (o := .cells #[.slice Ao14 l0_0.length co14] 28 (0, 0)) (by (with_reducible repeat (first | refine blk_drewN ?_ _ | refine blk_drew ?_ | refine blk_alloc ?_ _)); exact BK224.out) hb); have n4_ := Aside0.mk (blk_below (g := gb225) (o := .cells #[.slice none 0 0] 28 (0, 0)) (by (with_reducible repeat (first | refine blk_drewN ?_ _ | refine blk_drew ?_ | refine blk_alloc ?_ _)); exact BK225.out) hb); have n5_ := Aside0.mk (Kept.below (S := (fun k_ => P0_0_ k_)) (by repeat (first | (with_reducible first | exact HK.out | apply Kept.alloc | apply Kept.drewN | apply Kept.drew | refine Kept.setCell ?_ (.inr GW224.out) _ | refine Kept.setCell ?_ (.inr GW225.out) _) | exact HK.out)) hb); have n6_ := Aside0.mk (below_step (by repeat (first | (with_reducible first | exact HB.out | apply below_alloc | apply pw_below_drewN | apply below_drew1 | refine below_set ?_ GE224.out | refine below_set ?_ GE225.out) | exact HB.out)) hb); clear HO_225000; clear HO229; clear BK224; clear BK225; clear HK; clear HB; have HO_225000 := n0_; have HO229 := n1_; have HO233 := n2_; have BK224 := n3_; have BK225 := n4_; have HK := n5_; have HB := n6_; clear n0_ n1_ n2_ n3_ n4_ n5_ n6_; (try clear hb); (try clear hb2); (try clear hk); (try clear hi); (try clear ho0); obtain ⟨Ao41, co41, eo41⟩ := Kd.R_slice HO233.out; subst eo41; have hcz42_0 : w40.cell? ⟨gb225, 0, none⟩ = some (.slice none 0 0) := (blk_cell BK225.out 0).trans rfl; have hfz42_0 := blk_frozen BK225.out 0))
            refine bodyPost_ret (results_ctt rfl _ _ gb225 28 #[.slice Ao41 t231.length co41] (0, 0) _ rfl (by (with_reducible repeat (first | refine blk_drewN ?_ _ | refine blk_drew ?_ | refine blk_alloc ?_ _)); refine blk_put (cs := #[.slice none 0 0]) ?_ 0 _ rfl; (with_reducible repeat (first | refine blk_drewN ?_ _ | refine blk_drew ?_ | refine blk_alloc ?_ _)); exact BK225.out) Try.underlying28 rfl (by kernel_rfl)) rfl ?_
            exact ⟨_, by first | rfl | (simp [errW_none, errW_some] <;> rfl) | (simp [*, errW_none, errW_some] <;> rfl), by (with_reducible repeat (first | apply Kd.R_alloc | apply Kd.R_drewN | apply Kd.R_drew)); exact Kd.R_mono (Kd.R_far (p := ⟨gb225, 0, none⟩) (Kd.R_types HO233.out BK225.out (by decide)) (fun _ hk => hk.2) (.slice Ao41 t231.length co41)) (fun _ hk => hk.1.1.1.1), by repeat (first | (with_reducible first | exact HB.out | apply below_alloc | apply pw_below_drewN | apply below_drew1 | refine below_set ?_ GE224.out | refine below_set ?_ GE225.out) | exact HB.out), by repeat (first | (with_reducible first | exact HK.out | apply Kept.alloc | apply Kept.drewN | apply Kept.drew | refine Kept.setCell ?_ (.inr GW224.out) _ | refine Kept.setCell ?_ (.inr GW225.out) _) | exact HK.out)⟩
end Go.Proofs.Ytpedlnebpibgaaa.All
end
section
namespace Go.Proofs.Ytpedlnebpibgaaa.All
open Go.Proofs.YtpedlnebpibgaaaSq
open Go.RowKit Go.Proofs.YtpedlnebpibgaaaW.PrintWords Go.Proofs.YtpedlnebpibgaaaW.PrintLast Go.Proofs.YtpedlnebpibgaaaW.PrintMore
attribute [local go_sem] max2_int min2_int max_two min_two max_three min_three max_four min_four
set_option linter.unusedVariables false
set_option linter.unusedSimpArgs false
mutual
def compositorref14_known.l0 : Nat → Int → Int → Int → List (S49) → Option (Int × ByteArray × Int × Bool)
 | 0, _, _, _, _ => none
 | k + 1, x1, x8, x9, x245000 => if x9 ≥ 0 then (if 0 ≤ x9 then (if x9 < (x245000.length : Int) then (if ((rd_T49 x245000 x9).f2) > 0 then (compositorref14_known.l0 k x1 x8 (wrap64 (x9 - 1)) x245000) else (if ((rd_T49 x245000 x9).f0) = x1 then (compositorref14_known.j1 k x1 (wrap64 (x8 + 1)) x9 (decide ((wrap64 (x8 + 1)) > 16)) x245000) else (compositorref14_known.j1 k x1 (wrap64 (x8 + 1)) x9 true x245000))) else (none)) else (none)) else (some (0, (⟨#[]⟩ : ByteArray), 0, false))
def compositorref14_known.j1 : Nat → Int → Int → Int → Bool → List (S49) → Option (Int × ByteArray × Int × Bool)
 | 0, _, _, _, _, _ => none
 | k + 1, x1, x8, x9, x47, x245000 => if x47 = true then (compositorref14_known.l0 k x1 x8 (wrap64 (x9 - 1)) x245000) else (compositorref14_known.l1 k x1 x8 x9 0 x245000)
def compositorref14_known.l1 : Nat → Int → Int → Int → Int → List (S49) → Option (Int × ByteArray × Int × Bool)
 | 0, _, _, _, _, _ => none
 | k + 1, x1, x8, x9, x10, x245000 => if x10 < x9 then (if 0 ≤ x10 then (if x10 < (x245000.length : Int) then (if ((rd_T49 x245000 x10).f0) = x1 then (some ((rd_T49 x245000 x10).f0, (rd_T49 x245000 x10).f1, (rd_T49 x245000 x10).f2, true)) else (compositorref14_known.l1 k x1 x8 x9 (wrap64 (x10 + 1)) x245000)) else (none)) else (none)) else (compositorref14_known.l0 k x1 x8 (wrap64 (x9 - 1)) x245000)
end
def compositorref14_known.f (k : Nat) (l0_0 : List (S49)) (a1 : Int) : Option (Int × ByteArray × Int × Bool) := (compositorref14_announced.f k l0_0 a1).bind fun bt246 => (if bt246.2.2.2 = true then (some (bt246.1, bt246.2.1, bt246.2.2.1, true)) else (compositorref14_known.l0 k a1 0 (wrap64 ((l0_0.length : Int) - 1)) l0_0))
set_option maxHeartbeats 8000000 in
set_option maxRecDepth 100000 in
theorem compositorref14_known.calls (k : Nat) (A0_0 : Option Addr) (c0_0 : Nat) (l0_0 : List (S49)) (a1 : Int) (r1 : Int) (r2 : ByteArray) (r3 : Int) (r4 : Bool) (w : World) (hr0_0 : Kd.C k49 w A0_0 l0_0.length l0_0) (hc0_0 : l0_0.length ≤ c0_0) (h : compositorref14_known.f k l0_0 a1 = some (r1, r2, r3, r4)) :
  Calls Try.prog 37 #[.agg #[.slice A0_0 l0_0.length c0_0], .int .u32 a1] w fun e w' => e = .returned (.tuple #[.agg #[.int .u32 r1, .string r2, .int .i64 r3], .bool r4]) ∧ Below w.heap.size w w' := by
 have hu28 := Try.underlying28
 have hu49 := Try.underlying49
 have HR0_0 := Aside0.mk hr0_0
 have HC0_0 := Aside0.mk hc0_0
 clear hr0_0 hc0_0
 have HB := Aside0.mk (Below.refl w.heap.size w)
 have H : ((compositorref14_announced.f k l0_0 a1).bind fun bt246 => (if bt246.2.2.2 = true then (some (bt246.1, bt246.2.1, bt246.2.2.1, true)) else (compositorref14_known.l0 k a1 0 (wrap64 ((l0_0.length : Int) - 1)) l0_0))) = some (r1, r2, r3, r4) := h
 clear h
 replace H := Option.bind_eq_some_iff.mp H
 obtain ⟨⟨t246, t247, t248, t249⟩, A30, H⟩ := H
 try dsimp only at H
 have A3 := Aside0.mk A30
 clear A30
 by_cases c4 : t249 = true
 ·
  subst c4
  have H1 : (some (t246, t247, t248, true)) = some (r1, r2, r3, r4) := by rw [if_pos rfl] at H; exact H
  clear H
  have H := H1
  clear H1
  simp only [Option.some.injEq, Prod.mk.injEq] at H
  obtain ⟨rfl, rfl, rfl, rfl⟩ := H
  go_enter Try.func37, Try.ntmps37
  go_wp2_with (first | ((with_reducible refine gate_dst (N := 2) rfl ?_); refine box_event ?hg (N := 2) ?hd (cs := #[.slice A0_0 l0_0.length c0_0]) (t := 28) ?hr ?_; (case hd => rfl); (case hg => rfl); (case hr => first | (go_simp; done) | (go_simp; rfl)); intro gb244 hg w5 hbox hb; have n0_ := hb_ HB hb; have n1_ := Aside0.mk (hbox); have n2_ := Aside0.mk ((by rw [hg]; exact (below_size (hq_ HB)) : w.heap.size ≤ gb244)); have n3_ := Aside0.mk ((by rw [hg]; exact (below_size (hq_ HB)) : w.heap.size ≤ gb244)); clear HB; have HB := n0_; have BK244 := n1_; have GW244 := n2_; have GE244 := n3_; clear n0_ n1_ n2_ n3_; clear hb hbox hg) | ((with_reducible refine gate_dst (N := 4) rfl ?_); refine box_event ?hg (N := 4) ?hd (cs := #[.int .u32 0, .string (⟨#[]⟩ : ByteArray), .int .i64 0]) (t := 49) ?hr ?_; (case hd => rfl); (case hg => rfl); (case hr => first | (go_simp; done) | (go_simp; rfl)); intro gb245 hg w6 hbox hb; have n0_ := bb_ BK244 hb; have n1_ := hb_ HB hb; have n2_ := Aside0.mk (hbox); have n3_ := Aside0.mk ((by rw [hg]; exact (below_size (hq_ HB)) : w.heap.size ≤ gb245)); have n4_ := Aside0.mk ((by rw [hg]; exact (below_size (hq_ HB)) : w.heap.size ≤ gb245)); have n5_ := Aside0.mk ((by rw [hg]; exact Nat.ne_of_lt (blk_lt (g := gb244) (o := .cells #[.slice A0_0 l0_0.length c0_0] 28 (0, 0)) (bq_ BK244)) : gb244 ≠ gb245)); have n6_ := Aside0.mk ((by rw [hg]; exact Nat.ne_of_gt (blk_lt (g := gb244) (o := .cells #[.slice A0_0 l0_0.length c0_0] 28 (0, 0)) (bq_ BK244)) : gb245 ≠ gb244)); clear BK244; clear HB; have BK244 := n0_; have HB := n1_; have BK245 := n2_; have GW245 := n3_; have GE245 := n4_; have NB244_245 := n5_; have NB245_244 := n6_; clear n0_ n1_ n2_ n3_ n4_ n5_ n6_; clear hb hbox hg; have hnb7 := NB244_245.out; have hnc7 := NB245_244.out; have hcz8_0 : w6.cell? ⟨gb244, 0, none⟩ = some (.slice A0_0 l0_0.length c0_0) := (blk_cell BK244.out 0).trans rfl; have hfz8_0 := blk_frozen BK244.out 0) | ((with_reducible refine gate_callee (f := 35) rfl ?_); refine goesL_ (some 14) rfl rfl Try.func35 (by kernel_rfl) rfl #[.agg #[.slice A0_0 l0_0.length c0_0], .int .u32 a1] rfl (by (try simp only [List.map_toArray, List.map_cons, List.map_nil]) <;> rfl) ?_; (with_reducible refine (compositorref14_announced.calls k _ _ l0_0 a1 t246 t247 t248 true _ ?side1 ?side2 A3.out).mono ?_); (case side1 => repeat (first | exact (Kd.C_below HR0_0.out HB.out) | (with_reducible refine Kd.C_alloc ?_ _) | (with_reducible refine Kd.C_drewN ?_ _) | (with_reducible refine Kd.C_drew ?_))); (case side2 => exact HC0_0.out); rintro e w9 ⟨rfl, hb⟩; refine ⟨_, rfl, ?_⟩; have n0_ := bb_ BK244 hb; have n1_ := bb_ BK245 hb; have n2_ := hb_ HB hb; clear BK244; clear BK245; clear HB; have BK244 := n0_; have BK245 := n1_; have HB := n2_; clear n0_ n1_ n2_; (try clear hb); (try clear hb2); (try clear hk); (try clear hi)) | ((with_reducible refine gate_dst (N := 6) rfl ?_); refine box_event ?hg (N := 6) ?hd (cs := #[.int .u32 0, .string (⟨#[]⟩ : ByteArray), .int .i64 0]) (t := 49) ?hr ?_; (case hd => rfl); (case hg => rfl); (case hr => first | (go_simp; done) | (go_simp; rfl)); intro gb250 hg w10 hbox hb; have n0_ := bb_ BK244 hb; have n1_ := bb_ BK245 hb; have n2_ := hb_ HB hb; have n3_ := Aside0.mk (hbox); have n4_ := Aside0.mk ((by rw [hg]; exact (below_size (hq_ HB)) : w.heap.size ≤ gb250)); have n5_ := Aside0.mk ((by rw [hg]; exact (below_size (hq_ HB)) : w.heap.size ≤ gb250)); have n6_ := Aside0.mk ((by rw [hg]; exact Nat.ne_of_lt (blk_lt (g := gb244) (o := .cells #[.slice A0_0 l0_0.length c0_0] 28 (0, 0)) (bq_ BK244)) : gb244 ≠ gb250)); have n7_ := Aside0.mk ((by rw [hg]; exact Nat.ne_of_gt (blk_lt (g := gb244) (o := .cells #[.slice A0_0 l0_0.length c0_0] 28 (0, 0)) (bq_ BK244)) : gb250 ≠ gb244)); have n8_ := Aside0.mk ((by rw [hg]; exact Nat.ne_of_lt (blk_lt (g := gb245) (o := .cells #[.int .u32 0, .string (⟨#[]⟩ : ByteArray), .int .i64 0] 49 (0, 0)) (bq_ BK245)) : gb245 ≠ gb250)); have n9_ := Aside0.mk ((by rw [hg]; exact Nat.ne_of_gt (blk_lt (g := gb245) (o := .cells #[.int .u32 0, .string (⟨#[]⟩ : ByteArray), .int .i64 0] 49 (0, 0)) (bq_ BK245)) : gb250 ≠ gb245)); clear BK244; clear BK245; clear HB; have BK244 := n0_; have BK245 := n1_; have HB := n2_; have BK250 := n3_; have GW250 := n4_; have GE250 := n5_; have NB244_250 := n6_; have NB250_244 := n7_; have NB245_250 := n8_; have NB250_245 := n9_; clear n0_ n1_ n2_ n3_ n4_ n5_ n6_ n7_ n8_ n9_; clear hb hbox hg; have hnb11 := NB250_244.out; have hnc11 := NB244_250.out; have hnb12 := NB250_245.out; have hnc12 := NB245_250.out; have hcz13_0 : w10.cell? ⟨gb250, 0, none⟩ = some (.int .u32 0) := (blk_cell BK250.out 0).trans rfl; have hcz13_1 : w10.cell? ⟨gb250, 1, none⟩ = some (.string (⟨#[]⟩ : ByteArray)) := (blk_cell BK250.out 1).trans rfl; have hcz13_2 : w10.cell? ⟨gb250, 2, none⟩ = some (.int .i64 0) := (blk_cell BK250.out 2).trans rfl; have hfz13_0 := blk_frozen BK250.out 0; have hfz13_1 := blk_frozen BK250.out 1; have hfz13_2 := blk_frozen BK250.out 2; have hcz14_0 : w10.cell? ⟨gb245, 0, none⟩ = some (.int .u32 0) := (blk_cell BK245.out 0).trans rfl; have hcz14_1 : w10.cell? ⟨gb245, 1, none⟩ = some (.string (⟨#[]⟩ : ByteArray)) := (blk_cell BK245.out 1).trans rfl; have hcz14_2 : w10.cell? ⟨gb245, 2, none⟩ = some (.int .i64 0) := (blk_cell BK245.out 2).trans rfl; have hfz14_0 := blk_frozen BK245.out 0; have hfz14_1 := blk_frozen BK245.out 1; have hfz14_2 := blk_frozen BK245.out 2))
  refine bodyPost_ret (results_ct rfl _ _ gb245 49 #[.int .u32 t246, .string t247, .int .i64 t248] (0, 0) _ rfl (by (with_reducible repeat (first | refine blk_drewN ?_ _ | refine blk_drew ?_ | refine blk_alloc ?_ _)); refine blk_put (cs := #[.int .u32 t246, .string t247, .int .i64 0]) ?_ 2 _ rfl; (with_reducible repeat (first | refine blk_drewN ?_ _ | refine blk_drew ?_ | refine blk_alloc ?_ _)); refine blk_put (cs := #[.int .u32 t246, .string (⟨#[]⟩ : ByteArray), .int .i64 0]) ?_ 1 _ rfl; (with_reducible repeat (first | refine blk_drewN ?_ _ | refine blk_drew ?_ | refine blk_alloc ?_ _)); refine blk_put (cs := #[.int .u32 0, .string (⟨#[]⟩ : ByteArray), .int .i64 0]) ?_ 0 _ rfl; (with_reducible repeat (first | refine blk_drewN ?_ _ | refine blk_drew ?_ | refine blk_alloc ?_ _)); refine blk_far ?_ NB245_250.out _; (with_reducible repeat (first | refine blk_drewN ?_ _ | refine blk_drew ?_ | refine blk_alloc ?_ _)); refine blk_far ?_ NB245_250.out _; (with_reducible repeat (first | refine blk_drewN ?_ _ | refine blk_drew ?_ | refine blk_alloc ?_ _)); refine blk_far ?_ NB245_250.out _; (with_reducible repeat (first | refine blk_drewN ?_ _ | refine blk_drew ?_ | refine blk_alloc ?_ _)); exact BK245.out) Try.underlying49 rfl (by kernel_rfl)) rfl ?_
  exact ⟨by first | rfl | (simp [errW_none, errW_some] <;> rfl) | (simp [*, errW_none, errW_some] <;> rfl), by repeat (first | (with_reducible first | exact HB.out | apply below_alloc | apply pw_below_drewN | apply below_drew1 | refine below_set ?_ GE244.out | refine below_set ?_ GE245.out | refine below_set ?_ GE250.out) | exact HB.out)⟩
 ·
  replace c4 := Bool.eq_false_iff.mpr c4
  subst c4
  have H1 : (compositorref14_known.l0 k a1 0 (wrap64 ((l0_0.length : Int) - 1)) l0_0) = some (r1, r2, r3, r4) := by rw [if_neg (show ¬ (false = true) by decide)] at H; exact H
  clear H
  have H := H1
  clear H1
  have H' := Aside0.mk H
  clear H
  go_enter Try.func37, Try.ntmps37
  go_wp2_with (first | ((with_reducible refine gate_dst (N := 2) rfl ?_); refine box_event ?hg (N := 2) ?hd (cs := #[.slice A0_0 l0_0.length c0_0]) (t := 28) ?hr ?_; (case hd => rfl); (case hg => rfl); (case hr => first | (go_simp; done) | (go_simp; rfl)); intro gb244 hg w15 hbox hb; have n0_ := hb_ HB hb; have n1_ := Aside0.mk (hbox); have n2_ := Aside0.mk ((by rw [hg]; exact (below_size (hq_ HB)) : w.heap.size ≤ gb244)); have n3_ := Aside0.mk ((by rw [hg]; exact (below_size (hq_ HB)) : w.heap.size ≤ gb244)); clear HB; have HB := n0_; have BK244 := n1_; have GW244 := n2_; have GE244 := n3_; clear n0_ n1_ n2_ n3_; clear hb hbox hg) | ((with_reducible refine gate_dst (N := 4) rfl ?_); refine box_event ?hg (N := 4) ?hd (cs := #[.int .u32 0, .string (⟨#[]⟩ : ByteArray), .int .i64 0]) (t := 49) ?hr ?_; (case hd => rfl); (case hg => rfl); (case hr => first | (go_simp; done) | (go_simp; rfl)); intro gb245 hg w16 hbox hb; have n0_ := bb_ BK244 hb; have n1_ := hb_ HB hb; have n2_ := Aside0.mk (hbox); have n3_ := Aside0.mk ((by rw [hg]; exact (below_size (hq_ HB)) : w.heap.size ≤ gb245)); have n4_ := Aside0.mk ((by rw [hg]; exact (below_size (hq_ HB)) : w.heap.size ≤ gb245)); have n5_ := Aside0.mk ((by rw [hg]; exact Nat.ne_of_lt (blk_lt (g := gb244) (o := .cells #[.slice A0_0 l0_0.length c0_0] 28 (0, 0)) (bq_ BK244)) : gb244 ≠ gb245)); have n6_ := Aside0.mk ((by rw [hg]; exact Nat.ne_of_gt (blk_lt (g := gb244) (o := .cells #[.slice A0_0 l0_0.length c0_0] 28 (0, 0)) (bq_ BK244)) : gb245 ≠ gb244)); clear BK244; clear HB; have BK244 := n0_; have HB := n1_; have BK245 := n2_; have GW245 := n3_; have GE245 := n4_; have NB244_245 := n5_; have NB245_244 := n6_; clear n0_ n1_ n2_ n3_ n4_ n5_ n6_; clear hb hbox hg; have hnb17 := NB244_245.out; have hnc17 := NB245_244.out; have hcz18_0 : w16.cell? ⟨gb244, 0, none⟩ = some (.slice A0_0 l0_0.length c0_0) := (blk_cell BK244.out 0).trans rfl; have hfz18_0 := blk_frozen BK244.out 0) | ((with_reducible refine gate_callee (f := 35) rfl ?_); refine goesL_ (some 14) rfl rfl Try.func35 (by kernel_rfl) rfl #[.agg #[.slice A0_0 l0_0.length c0_0], .int .u32 a1] rfl (by (try simp only [List.map_toArray, List.map_cons, List.map_nil]) <;> rfl) ?_; (with_reducible refine (compositorref14_announced.calls k _ _ l0_0 a1 t246 t247 t248 false _ ?side1 ?side2 A3.out).mono ?_); (case side1 => repeat (first | exact (Kd.C_below HR0_0.out HB.out) | (with_reducible refine Kd.C_alloc ?_ _) | (with_reducible refine Kd.C_drewN ?_ _) | (with_reducible refine Kd.C_drew ?_))); (case side2 => exact HC0_0.out); rintro e w19 ⟨rfl, hb⟩; refine ⟨_, rfl, ?_⟩; have n0_ := bb_ BK244 hb; have n1_ := bb_ BK245 hb; have n2_ := hb_ HB hb; clear BK244; clear BK245; clear HB; have BK244 := n0_; have BK245 := n1_; have HB := n2_; clear n0_ n1_ n2_; (try clear hb); (try clear hb2); (try clear hk); (try clear hi)) | ((with_reducible refine gate_dst (N := 6) rfl ?_); refine box_event ?hg (N := 6) ?hd (cs := #[.int .u32 0, .string (⟨#[]⟩ : ByteArray), .int .i64 0]) (t := 49) ?hr ?_; (case hd => rfl); (case hg => rfl); (case hr => first | (go_simp; done) | (go_simp; rfl)); intro gb250 hg w20 hbox hb; have n0_ := bb_ BK244 hb; have n1_ := bb_ BK245 hb; have n2_ := hb_ HB hb; have n3_ := Aside0.mk (hbox); have n4_ := Aside0.mk ((by rw [hg]; exact (below_size (hq_ HB)) : w.heap.size ≤ gb250)); have n5_ := Aside0.mk ((by rw [hg]; exact (below_size (hq_ HB)) : w.heap.size ≤ gb250)); have n6_ := Aside0.mk ((by rw [hg]; exact Nat.ne_of_lt (blk_lt (g := gb244) (o := .cells #[.slice A0_0 l0_0.length c0_0] 28 (0, 0)) (bq_ BK244)) : gb244 ≠ gb250)); have n7_ := Aside0.mk ((by rw [hg]; exact Nat.ne_of_gt (blk_lt (g := gb244) (o := .cells #[.slice A0_0 l0_0.length c0_0] 28 (0, 0)) (bq_ BK244)) : gb250 ≠ gb244)); have n8_ := Aside0.mk ((by rw [hg]; exact Nat.ne_of_lt (blk_lt (g := gb245) (o := .cells #[.int .u32 0, .string (⟨#[]⟩ : ByteArray), .int .i64 0] 49 (0, 0)) (bq_ BK245)) : gb245 ≠ gb250)); have n9_ := Aside0.mk ((by rw [hg]; exact Nat.ne_of_gt (blk_lt (g := gb245) (o := .cells #[.int .u32 0, .string (⟨#[]⟩ : ByteArray), .int .i64 0] 49 (0, 0)) (bq_ BK245)) : gb250 ≠ gb245)); clear BK244; clear BK245; clear HB; have BK244 := n0_; have BK245 := n1_; have HB := n2_; have BK250 := n3_; have GW250 := n4_; have GE250 := n5_; have NB244_250 := n6_; have NB250_244 := n7_; have NB245_250 := n8_; have NB250_245 := n9_; clear n0_ n1_ n2_ n3_ n4_ n5_ n6_ n7_ n8_ n9_; clear hb hbox hg; have hnb21 := NB250_244.out; have hnc21 := NB244_250.out; have hnb22 := NB250_245.out; have hnc22 := NB245_250.out; have hcz23_0 : w20.cell? ⟨gb250, 0, none⟩ = some (.int .u32 0) := (blk_cell BK250.out 0).trans rfl; have hcz23_1 : w20.cell? ⟨gb250, 1, none⟩ = some (.string (⟨#[]⟩ : ByteArray)) := (blk_cell BK250.out 1).trans rfl; have hcz23_2 : w20.cell? ⟨gb250, 2, none⟩ = some (.int .i64 0) := (blk_cell BK250.out 2).trans rfl; have hfz23_0 := blk_frozen BK250.out 0; have hfz23_1 := blk_frozen BK250.out 1; have hfz23_2 := blk_frozen BK250.out 2; have hcz24_0 : w20.cell? ⟨gb244, 0, none⟩ = some (.slice A0_0 l0_0.length c0_0) := (blk_cell BK244.out 0).trans rfl; have hfz24_0 := blk_frozen BK244.out 0))
  go_loopg [8, 9] k (fun kq v8 v9 w' => ∃ (x8_1 : Int) (x9_1 : Int) (x246000_1 : Int) (x246001_1 : ByteArray) (x246002_1 : Int), v8 = .int .i64 x8_1 ∧ v9 = .int .i64 x9_1 ∧ Aside0 (compositorref14_known.l0 kq a1 x8_1 x9_1 l0_0 = some (r1, r2, r3, r4)) ∧ Aside0 (kq ≤ k) ∧ Aside0 (w'.heap[gb244]? = some (.cells #[(.slice A0_0 l0_0.length c0_0)] 28 (0, 0))) ∧ Aside0 (w'.heap[gb245]? = some (.cells #[.int .u32 x246000_1, .string x246001_1, .int .i64 x246002_1] 49 (0, 0))) ∧ Aside0 (w'.heap[gb250]? = some (.cells #[.int .u32 t246, .string t247, .int .i64 t248] 49 (0, 0))) ∧ Aside0 (Below w.heap.size w w'))
  case atStart => exact ⟨(0), (wrap64 ((l0_0.length : Int) - 1)), (0), ((⟨#[]⟩ : ByteArray)), (0), (by first | rfl | (simp; done) | (simp [*]; done)), (by first | rfl | (simp; done) | (simp [*]; done)), H', ⟨Nat.le_refl _⟩, bf_ BK244, bf_ BK245, ⟨by (with_reducible repeat (first | refine blk_drewN ?_ _ | refine blk_drew ?_ | refine blk_alloc ?_ _)); refine blk_put (cs := #[.int .u32 t246, .string t247, .int .i64 0]) ?_ 2 _ rfl; (with_reducible repeat (first | refine blk_drewN ?_ _ | refine blk_drew ?_ | refine blk_alloc ?_ _)); refine blk_put (cs := #[.int .u32 t246, .string (⟨#[]⟩ : ByteArray), .int .i64 0]) ?_ 1 _ rfl; (with_reducible repeat (first | refine blk_drewN ?_ _ | refine blk_drew ?_ | refine blk_alloc ?_ _)); refine blk_put (cs := #[.int .u32 0, .string (⟨#[]⟩ : ByteArray), .int .i64 0]) ?_ 0 _ rfl; (with_reducible repeat (first | refine blk_drewN ?_ _ | refine blk_drew ?_ | refine blk_alloc ?_ _)); exact BK250.out⟩, ⟨by repeat (first | (with_reducible first | exact HB.out | apply below_alloc | apply pw_below_drewN | apply below_drew1 | refine below_set ?_ GE244.out | refine below_set ?_ GE245.out | refine below_set ?_ GE250.out) | exact HB.out)⟩⟩
  case round =>
   clear H'
   try clear c1
   try clear c2
   try clear p2
   try clear c3
   try clear c4
   try clear p6
   try clear c7
   try clear c11
   try clear c12
   try clear c17
   try clear c21
   try clear c22
   try clear hcz13_0
   try clear hcz13_1
   try clear hcz13_2
   try clear hcz14_0
   try clear hcz14_1
   try clear hcz14_2
   try clear hcz18_0
   try clear hcz23_0
   try clear hcz23_1
   try clear hcz23_2
   try clear hcz24_0
   try clear hcz8_0
   try clear hfz13_0
   try clear hfz13_1
   try clear hfz13_2
   try clear hfz14_0
   try clear hfz14_1
   try clear hfz14_2
   try clear hfz18_0
   try clear hfz23_0
   try clear hfz23_1
   try clear hfz23_2
   try clear hfz24_0
   try clear hfz8_0
   obtain ⟨x8_1, x9_1, x246000_1, x246001_1, x246002_1, rfl, rfl, HA, HK1, BK244, BK245, BK250, HB⟩ := hrel
   cases gk with
   | zero => exact absurd HA.out (by simp [compositorref14_known.l0])
   | succ k1 =>
    have H := HA.out
    clear HA
    simp only [compositorref14_known.l0] at H
    by_cases c25 : x9_1 ≥ 0
    ·
     rw [if_pos c25] at H
     have c25b0 : decide (0 ≤ x9_1) = true := decide_eq_true c25
     clear c25
     by_cases c26 : 0 ≤ x9_1
     ·
      rw [if_pos c26] at H
      have c26b0 : decide (0 ≤ x9_1) = true := decide_eq_true c26
      clear c26
      by_cases c27 : x9_1 < (l0_0.length : Int)
      ·
       rw [if_pos c27] at H
       have c27b0 : decide (x9_1 < (l0_0.length : Int)) = true := decide_eq_true c27
       clear c27
       by_cases c28 : ((rd_T49 l0_0 x9_1).f2) > 0
       ·
        rw [if_pos c28] at H
        have c28b0 : decide (0 < ((rd_T49 l0_0 x9_1).f2)) = true := decide_eq_true c28
        clear c28
        have H' := Aside0.mk H
        clear H
        have hnb29 := NB244_245.out
        have hnc29 := NB245_244.out
        have hnb30 := NB244_250.out
        have hnc30 := NB250_244.out
        have hcz31_0 : wr.cell? ⟨gb244, 0, none⟩ = some (.slice A0_0 l0_0.length c0_0) := (blk_cell BK244.out 0).trans rfl
        have hfz31_0 := blk_frozen BK244.out 0
        have p251 : 0 ≤ (x9_1 : Int) := of_decide_eq_true (by first | (with_reducible assumption) | assumption)
        have q251 : x9_1 < (l0_0.length : Int) := of_decide_eq_true (by first | (with_reducible assumption) | assumption)
        obtain ⟨ad251, e251, hx251_0, hx251_1, hx251_2⟩ := at_T49 HR0_0.out x9_1 p251 q251
        cases e251
        replace hx251_0 := (HB.out.cell (World.block_lt_of_cell? w _ hx251_0)).trans hx251_0
        replace hx251_1 := (HB.out.cell (World.block_lt_of_cell? w _ hx251_1)).trans hx251_1
        replace hx251_2 := (HB.out.cell (World.block_lt_of_cell? w _ hx251_2)).trans hx251_2
        replace p251 := eq_true p251
        replace q251 := eq_true q251
        go_wp2
        go_roundg k1
        case measure => have := HK1.out; omega
        case rel => exact ⟨(x8_1), (wrap64 (x9_1 - 1)), (x246000_1), (x246001_1), (x246002_1), (by first | rfl | (simp; done) | (simp [*]; done)), (by first | rfl | (simp; done) | (simp [*]; done)), H', ⟨by have := HK1.out; omega⟩, bf_ BK244, bf_ BK245, bf_ BK250, ⟨by repeat (first | (with_reducible first | exact HB.out | apply below_alloc | apply pw_below_drewN | apply below_drew1 | refine below_set ?_ GE244.out | refine below_set ?_ GE245.out | refine below_set ?_ GE250.out) | exact HB.out)⟩⟩
       ·
        rw [if_neg c28] at H
        have c28b0 : decide (0 < ((rd_T49 l0_0 x9_1).f2)) = false := decide_eq_false c28
        clear c28
        have HC32 := Aside0.mk H
        clear H
        have hnb33 := NB244_245.out
        have hnc33 := NB245_244.out
        have hnb34 := NB244_250.out
        have hnc34 := NB250_244.out
        have hcz35_0 : wr.cell? ⟨gb244, 0, none⟩ = some (.slice A0_0 l0_0.length c0_0) := (blk_cell BK244.out 0).trans rfl
        have hfz35_0 := blk_frozen BK244.out 0
        have p251 : 0 ≤ (x9_1 : Int) := of_decide_eq_true (by first | (with_reducible assumption) | assumption)
        have q251 : x9_1 < (l0_0.length : Int) := of_decide_eq_true (by first | (with_reducible assumption) | assumption)
        obtain ⟨ad251, e251, hx251_0, hx251_1, hx251_2⟩ := at_T49 HR0_0.out x9_1 p251 q251
        cases e251
        replace hx251_0 := (HB.out.cell (World.block_lt_of_cell? w _ hx251_0)).trans hx251_0
        replace hx251_1 := (HB.out.cell (World.block_lt_of_cell? w _ hx251_1)).trans hx251_1
        replace hx251_2 := (HB.out.cell (World.block_lt_of_cell? w _ hx251_2)).trans hx251_2
        replace p251 := eq_true p251
        replace q251 := eq_true q251
        go_upto_region 10 with (fail)
        go_cut [47] (fun v47 wc => ∃ (kq : Nat) (x47_31 : Bool), v47 = .bool x47_31 ∧ Aside0 (compositorref14_known.j1 kq a1 (wrap64 (x8_1 + 1)) x9_1 x47_31 l0_0 = some (r1, r2, r3, r4)) ∧ Aside0 (kq ≤ k1) ∧ Aside0 (wc.heap[gb244]? = some (.cells #[(.slice (some ad251) l0_0.length c0_0)] 28 (0, 0))) ∧ Aside0 (wc.heap[gb245]? = some (.cells #[.int .u32 x246000_1, .string x246001_1, .int .i64 x246002_1] 49 (0, 0))) ∧ Aside0 (wc.heap[gb250]? = some (.cells #[.int .u32 t246, .string t247, .int .i64 t248] 49 (0, 0))) ∧ Aside0 (Below w.heap.size w wc))
        case first =>
         have H := HC32.out
         clear HC32
         by_cases c36 : ((rd_T49 l0_0 x9_1).f0) = a1
         ·
          rw [if_pos c36] at H
          have c36b0 : (((rd_T49 l0_0 x9_1).f0) == a1) = true := beq_iff_eq.mpr c36
          have c36b1 : (((rd_T49 l0_0 x9_1).f0) != a1) = false := bne_eq_false_iff_eq.mpr c36
          clear c36
          (first | rw [c36b0] | (simp only [i64_w, i32_w]; rw [c36b0]) | skip)
          have H' := Aside0.mk H
          clear H
          have hnb37 := NB244_245.out
          have hnc37 := NB245_244.out
          have hnb38 := NB244_250.out
          have hnc38 := NB250_244.out
          have hcz39_0 : wr.cell? ⟨gb244, 0, none⟩ = some (.slice (some ad251) l0_0.length c0_0) := (blk_cell BK244.out 0).trans rfl
          have hfz39_0 := blk_frozen BK244.out 0
          have p252 : 0 ≤ (x9_1 : Int) := of_decide_eq_true (by first | (with_reducible assumption) | assumption)
          have q252 : x9_1 < (l0_0.length : Int) := of_decide_eq_true (by first | (with_reducible assumption) | assumption)
          obtain ⟨ad252, e252, hx252_0, hx252_1, hx252_2⟩ := at_T49 HR0_0.out x9_1 p252 q252
          obtain rfl : ad251 = ad252 := (by injection e252)
          replace hx252_0 := (HB.out.cell (World.block_lt_of_cell? w _ hx252_0)).trans hx252_0
          replace hx252_1 := (HB.out.cell (World.block_lt_of_cell? w _ hx252_1)).trans hx252_1
          replace hx252_2 := (HB.out.cell (World.block_lt_of_cell? w _ hx252_2)).trans hx252_2
          replace p252 := eq_true p252
          replace q252 := eq_true q252
          go_wp2
          go_meet
          case rel => exact ⟨_, (decide ((wrap64 (x8_1 + 1)) > 16)), (by first | rfl | (simp; done) | (simp [*]; done)), H', ⟨by have := HK1.out; first | omega | exact Nat.le_refl _⟩, bf_ BK244, bf_ BK245, bf_ BK250, ⟨by repeat (first | (with_reducible first | exact HB.out | apply below_alloc | apply pw_below_drewN | apply below_drew1 | refine below_set ?_ GE244.out | refine below_set ?_ GE245.out | refine below_set ?_ GE250.out) | exact HB.out)⟩⟩
         ·
          rw [if_neg c36] at H
          have c36b0 : (((rd_T49 l0_0 x9_1).f0) == a1) = false := beq_eq_false_iff_ne.mpr c36
          have c36b1 : (((rd_T49 l0_0 x9_1).f0) != a1) = true := bne_iff_ne.mpr c36
          (first | rw [c36b0] | (simp only [i64_w, i32_w]; rw [c36b0]) | skip)
          have H' := Aside0.mk H
          clear H
          have hnb40 := NB244_245.out
          have hnc40 := NB245_244.out
          have hnb41 := NB244_250.out
          have hnc41 := NB250_244.out
          have hcz42_0 : wr.cell? ⟨gb244, 0, none⟩ = some (.slice (some ad251) l0_0.length c0_0) := (blk_cell BK244.out 0).trans rfl
          have hfz42_0 := blk_frozen BK244.out 0
          have p252 : 0 ≤ (x9_1 : Int) := of_decide_eq_true (by first | (with_reducible assumption) | assumption)
          have q252 : x9_1 < (l0_0.length : Int) := of_decide_eq_true (by first | (with_reducible assumption) | assumption)
          obtain ⟨ad252, e252, hx252_0, hx252_1, hx252_2⟩ := at_T49 HR0_0.out x9_1 p252 q252
          obtain rfl : ad251 = ad252 := (by injection e252)
          replace hx252_0 := (HB.out.cell (World.block_lt_of_cell? w _ hx252_0)).trans hx252_0
          replace hx252_1 := (HB.out.cell (World.block_lt_of_cell? w _ hx252_1)).trans hx252_1
          replace hx252_2 := (HB.out.cell (World.block_lt_of_cell? w _ hx252_2)).trans hx252_2
          replace p252 := eq_true p252
          replace q252 := eq_true q252
          go_wp2
          go_meet
          case rel => exact ⟨_, (true), (by first | rfl | (simp; done) | (simp [*]; done)), H', ⟨by have := HK1.out; first | omega | exact Nat.le_refl _⟩, bf_ BK244, bf_ BK245, bf_ BK250, ⟨by repeat (first | (with_reducible first | exact HB.out | apply below_alloc | apply pw_below_drewN | apply below_drew1 | refine below_set ?_ GE244.out | refine below_set ?_ GE245.out | refine below_set ?_ GE250.out) | exact HB.out)⟩⟩
        case rest =>
         clear HC32
         try clear c1
         try clear c2
         try clear p2
         try clear q2
         try clear hx2
         try clear c3
         try clear c4
         try clear p6
         try clear c7
         try clear c11
         try clear c12
         try clear c17
         try clear c21
         try clear c22
         try clear c25
         try clear c25b0
         try clear p25
         try clear q25
         try clear hx25
         try clear c26
         try clear c26b0
         try clear c27
         try clear c27b0
         try clear c28
         try clear c28b0
         try clear c29
         try clear c30
         try clear c33
         try clear c34
         try clear c35
         try clear c36
         try clear c36b0
         try clear c36b1
         try clear c37
         try clear c38
         try clear c40
         try clear c41
         try clear hcz13_0
         try clear hcz13_1
         try clear hcz13_2
         try clear hcz14_0
         try clear hcz14_1
         try clear hcz14_2
         try clear hcz18_0
         try clear hcz23_0
         try clear hcz23_1
         try clear hcz23_2
         try clear hcz24_0
         try clear hcz31_0
         try clear hcz35_0
         try clear hcz39_0
         try clear hcz42_0
         try clear hcz8_0
         try clear hfz13_0
         try clear hfz13_1
         try clear hfz13_2
         try clear hfz14_0
         try clear hfz14_1
         try clear hfz14_2
         try clear hfz18_0
         try clear hfz23_0
         try clear hfz23_1
         try clear hfz23_2
         try clear hfz24_0
         try clear hfz31_0
         try clear hfz35_0
         try clear hfz39_0
         try clear hfz42_0
         try clear hfz8_0
         try clear hx251_0
         try clear hx251_1
         try clear hx251_2
         try clear hx252_0
         try clear hx252_1
         try clear hx252_2
         try clear p2
         try clear p251
         try clear p252
         try clear p6
         try clear q251
         try clear q252
         obtain ⟨kq, x47_31, rfl, HA, HJ31, BK244, BK245, BK250, HB⟩ := hcut
         cases kq with
         | zero => exact absurd HA.out (by simp [compositorref14_known.j1])
         | succ kj31 =>
          have H := HA.out
          clear HA
          simp only [compositorref14_known.j1] at H
          by_cases c43 : x47_31 = true
          ·
           subst c43
           have H1 : (compositorref14_known.l0 kj31 a1 (wrap64 (x8_1 + 1)) (wrap64 (x9_1 - 1)) l0_0) = some (r1, r2, r3, r4) := by rw [if_pos rfl] at H; exact H
           clear H
           have H := H1
           clear H1
           have H' := Aside0.mk H
           clear H
           go_wp2
           go_roundg kj31
           case measure => have := HK1.out; have := HJ31.out; omega
           case rel => exact ⟨((wrap64 (x8_1 + 1))), (wrap64 (x9_1 - 1)), (x246000_1), (x246001_1), (x246002_1), (by first | rfl | (simp; done) | (simp [*]; done)), (by first | rfl | (simp; done) | (simp [*]; done)), H', ⟨by have := HK1.out; have := HJ31.out; omega⟩, bf_ BK244, bf_ BK245, bf_ BK250, ⟨by repeat (first | (with_reducible first | exact HB.out | apply below_alloc | apply pw_below_drewN | apply below_drew1 | refine below_set ?_ GE244.out | refine below_set ?_ GE245.out | refine below_set ?_ GE250.out) | exact HB.out)⟩⟩
          ·
           replace c43 := Bool.eq_false_iff.mpr c43
           subst c43
           have H1 : (compositorref14_known.l1 kj31 a1 (wrap64 (x8_1 + 1)) x9_1 0 l0_0) = some (r1, r2, r3, r4) := by rw [if_neg (show ¬ (false = true) by decide)] at H; exact H
           clear H
           have H := H1
           clear H1
           have H' := Aside0.mk H
           clear H
           go_wp2
           go_loopg [10] kj31 (fun kq v10 w' => ∃ (x10_3 : Int) (x246000_3 : Int) (x246001_3 : ByteArray) (x246002_3 : Int), v10 = .int .i64 x10_3 ∧ Aside0 (compositorref14_known.l1 kq a1 (wrap64 (x8_1 + 1)) x9_1 x10_3 l0_0 = some (r1, r2, r3, r4)) ∧ Aside0 (kq ≤ kj31) ∧ Aside0 (w'.heap[gb244]? = some (.cells #[(.slice (some ad251) l0_0.length c0_0)] 28 (0, 0))) ∧ Aside0 (w'.heap[gb245]? = some (.cells #[.int .u32 x246000_3, .string x246001_3, .int .i64 x246002_3] 49 (0, 0))) ∧ Aside0 (w'.heap[gb250]? = some (.cells #[.int .u32 t246, .string t247, .int .i64 t248] 49 (0, 0))) ∧ Aside0 (Below w.heap.size w w'))
           case atStart => exact ⟨(0), (x246000_1), (x246001_1), (x246002_1), (by first | rfl | (simp; done) | (simp [*]; done)), H', ⟨Nat.le_refl _⟩, bf_ BK244, bf_ BK245, bf_ BK250, ⟨by repeat (first | (with_reducible first | exact HB.out | apply below_alloc | apply pw_below_drewN | apply below_drew1 | refine below_set ?_ GE244.out | refine below_set ?_ GE245.out | refine below_set ?_ GE250.out) | exact HB.out)⟩⟩
           case round =>
            clear H'
            try clear c1
            try clear c2
            try clear p2
            try clear q2
            try clear hx2
            try clear c3
            try clear c4
            try clear p6
            try clear c7
            try clear c11
            try clear c12
            try clear c17
            try clear c21
            try clear c22
            try clear c25
            try clear c25b0
            try clear p25
            try clear q25
            try clear hx25
            try clear c26
            try clear c26b0
            try clear c27
            try clear c27b0
            try clear c28
            try clear c28b0
            try clear c29
            try clear c30
            try clear c33
            try clear c34
            try clear c35
            try clear c36
            try clear c36b0
            try clear c36b1
            try clear c37
            try clear c38
            try clear c40
            try clear c41
            try clear c43
            try clear hcz13_0
            try clear hcz13_1
            try clear hcz13_2
            try clear hcz14_0
            try clear hcz14_1
            try clear hcz14_2
            try clear hcz18_0
            try clear hcz23_0
            try clear hcz23_1
            try clear hcz23_2
            try clear hcz24_0
            try clear hcz31_0
            try clear hcz35_0
            try clear hcz39_0
            try clear hcz42_0
            try clear hcz8_0
            try clear hfz13_0
            try clear hfz13_1
            try clear hfz13_2
            try clear hfz14_0
            try clear hfz14_1
            try clear hfz14_2
            try clear hfz18_0
            try clear hfz23_0
            try clear hfz23_1
            try clear hfz23_2
            try clear hfz24_0
            try clear hfz31_0
            try clear hfz35_0
            try clear hfz39_0
            try clear hfz42_0
            try clear hfz8_0
            try clear hx251_0
            try clear hx251_1
            try clear hx251_2
            try clear hx252_0
            try clear hx252_1
            try clear hx252_2
            try clear p2
            try clear p25
            try clear p251
            try clear p252
            try clear p6
            try clear q2
            try clear q25
            try clear q251
            try clear q252
            obtain ⟨x10_3, x246000_3, x246001_3, x246002_3, rfl, HA, HK3, BK244, BK245, BK250, HB⟩ := hrel
            cases gk with
            | zero => exact absurd HA.out (by simp [compositorref14_known.l1])
            | succ k3 =>
             have H := HA.out
             clear HA
             simp only [compositorref14_known.l1] at H
             by_cases c44 : x10_3 < x9_1
             ·
              rw [if_pos c44] at H
              have c44b0 : decide (x10_3 < x9_1) = true := decide_eq_true c44
              clear c44
              by_cases c45 : 0 ≤ x10_3
              ·
               rw [if_pos c45] at H
               have c45b0 : decide (0 ≤ x10_3) = true := decide_eq_true c45
               clear c45
               by_cases c46 : x10_3 < (l0_0.length : Int)
               ·
                rw [if_pos c46] at H
                have c46b0 : decide (x10_3 < (l0_0.length : Int)) = true := decide_eq_true c46
                clear c46
                by_cases c47 : ((rd_T49 l0_0 x10_3).f0) = a1
                ·
                 rw [if_pos c47] at H
                 have c47b0 : (((rd_T49 l0_0 x10_3).f0) == a1) = true := beq_iff_eq.mpr c47
                 have c47b1 : (((rd_T49 l0_0 x10_3).f0) != a1) = false := bne_eq_false_iff_eq.mpr c47
                 clear c47
                 simp only [Option.some.injEq, Prod.mk.injEq] at H
                 obtain ⟨rfl, rfl, rfl, rfl⟩ := H
                 have hnb48 := NB244_245.out
                 have hnc48 := NB245_244.out
                 have hnb49 := NB244_250.out
                 have hnc49 := NB250_244.out
                 have hcz50_0 : wr.cell? ⟨gb244, 0, none⟩ = some (.slice (some ad251) l0_0.length c0_0) := (blk_cell BK244.out 0).trans rfl
                 have hfz50_0 := blk_frozen BK244.out 0
                 have p253 : 0 ≤ (x10_3 : Int) := of_decide_eq_true (by first | (with_reducible assumption) | assumption)
                 have q253 : x10_3 < (l0_0.length : Int) := of_decide_eq_true (by first | (with_reducible assumption) | assumption)
                 obtain ⟨ad253, e253, hx253_0, hx253_1, hx253_2⟩ := at_T49 HR0_0.out x10_3 p253 q253
                 obtain rfl : ad251 = ad253 := (by injection e253)
                 replace hx253_0 := (HB.out.cell (World.block_lt_of_cell? w _ hx253_0)).trans hx253_0
                 replace hx253_1 := (HB.out.cell (World.block_lt_of_cell? w _ hx253_1)).trans hx253_1
                 replace hx253_2 := (HB.out.cell (World.block_lt_of_cell? w _ hx253_2)).trans hx253_2
                 replace p253 := eq_true p253
                 replace q253 := eq_true q253
                 have p254 : 0 ≤ (x10_3 : Int) := of_decide_eq_true (by first | (with_reducible assumption) | assumption)
                 have q254 : x10_3 < (l0_0.length : Int) := of_decide_eq_true (by first | (with_reducible assumption) | assumption)
                 obtain ⟨ad254, e254, hx254_0, hx254_1, hx254_2⟩ := at_T49 HR0_0.out x10_3 p254 q254
                 obtain rfl : ad251 = ad254 := (by injection e254)
                 replace hx254_0 := (HB.out.cell (World.block_lt_of_cell? w _ hx254_0)).trans hx254_0
                 replace hx254_1 := (HB.out.cell (World.block_lt_of_cell? w _ hx254_1)).trans hx254_1
                 replace hx254_2 := (HB.out.cell (World.block_lt_of_cell? w _ hx254_2)).trans hx254_2
                 replace p254 := eq_true p254
                 replace q254 := eq_true q254
                 have hnb51 := NB245_250.out
                 have hnc51 := NB250_245.out
                 have hcz52_0 : wr.cell? ⟨gb245, 0, none⟩ = some (.int .u32 x246000_3) := (blk_cell BK245.out 0).trans rfl
                 have hcz52_1 : wr.cell? ⟨gb245, 1, none⟩ = some (.string x246001_3) := (blk_cell BK245.out 1).trans rfl
                 have hcz52_2 : wr.cell? ⟨gb245, 2, none⟩ = some (.int .i64 x246002_3) := (blk_cell BK245.out 2).trans rfl
                 have hfz52_0 := blk_frozen BK245.out 0
                 have hfz52_1 := blk_frozen BK245.out 1
                 have hfz52_2 := blk_frozen BK245.out 2
                 go_wp2
                 refine bodyPost_ret (results_ct rfl _ _ gb245 49 #[.int .u32 ((rd_T49 l0_0 x10_3).f0), .string ((rd_T49 l0_0 x10_3).f1), .int .i64 ((rd_T49 l0_0 x10_3).f2)] (0, 0) _ rfl (by (with_reducible repeat (first | refine blk_drewN ?_ _ | refine blk_drew ?_ | refine blk_alloc ?_ _)); refine blk_put (cs := #[.int .u32 ((rd_T49 l0_0 x10_3).f0), .string ((rd_T49 l0_0 x10_3).f1), .int .i64 x246002_3]) ?_ 2 _ rfl; (with_reducible repeat (first | refine blk_drewN ?_ _ | refine blk_drew ?_ | refine blk_alloc ?_ _)); refine blk_put (cs := #[.int .u32 ((rd_T49 l0_0 x10_3).f0), .string x246001_3, .int .i64 x246002_3]) ?_ 1 _ rfl; (with_reducible repeat (first | refine blk_drewN ?_ _ | refine blk_drew ?_ | refine blk_alloc ?_ _)); refine blk_put (cs := #[.int .u32 x246000_3, .string x246001_3, .int .i64 x246002_3]) ?_ 0 _ rfl; (with_reducible repeat (first | refine blk_drewN ?_ _ | refine blk_drew ?_ | refine blk_alloc ?_ _)); exact BK245.out) Try.underlying49 rfl (by kernel_rfl)) rfl ?_
                 exact ⟨by first | rfl | (simp [errW_none, errW_some] <;> rfl) | (simp [*, errW_none, errW_some] <;> rfl), by repeat (first | (with_reducible first | exact HB.out | apply below_alloc | apply pw_below_drewN | apply below_drew1 | refine below_set ?_ GE244.out | refine below_set ?_ GE245.out | refine below_set ?_ GE250.out) | exact HB.out)⟩
                ·
                 rw [if_neg c47] at H
                 have c47b0 : (((rd_T49 l0_0 x10_3).f0) == a1) = false := beq_eq_false_iff_ne.mpr c47
                 have c47b1 : (((rd_T49 l0_0 x10_3).f0) != a1) = true := bne_iff_ne.mpr c47
                 have H' := Aside0.mk H
                 clear H
                 have hnb53 := NB244_245.out
                 have hnc53 := NB245_244.out
                 have hnb54 := NB244_250.out
                 have hnc54 := NB250_244.out
                 have hcz55_0 : wr.cell? ⟨gb244, 0, none⟩ = some (.slice (some ad251) l0_0.length c0_0) := (blk_cell BK244.out 0).trans rfl
                 have hfz55_0 := blk_frozen BK244.out 0
                 have p253 : 0 ≤ (x10_3 : Int) := of_decide_eq_true (by first | (with_reducible assumption) | assumption)
                 have q253 : x10_3 < (l0_0.length : Int) := of_decide_eq_true (by first | (with_reducible assumption) | assumption)
                 obtain ⟨ad253, e253, hx253_0, hx253_1, hx253_2⟩ := at_T49 HR0_0.out x10_3 p253 q253
                 obtain rfl : ad251 = ad253 := (by injection e253)
                 replace hx253_0 := (HB.out.cell (World.block_lt_of_cell? w _ hx253_0)).trans hx253_0
                 replace hx253_1 := (HB.out.cell (World.block_lt_of_cell? w _ hx253_1)).trans hx253_1
                 replace hx253_2 := (HB.out.cell (World.block_lt_of_cell? w _ hx253_2)).trans hx253_2
                 replace p253 := eq_true p253
                 replace q253 := eq_true q253
                 go_wp2
                 go_roundg k3
                 case measure => have := HK1.out; have := HJ31.out; have := HK3.out; omega
                 case rel => exact ⟨(wrap64 (x10_3 + 1)), (x246000_3), (x246001_3), (x246002_3), (by first | rfl | (simp; done) | (simp [*]; done)), H', ⟨by have := HK1.out; have := HJ31.out; have := HK3.out; omega⟩, bf_ BK244, bf_ BK245, bf_ BK250, ⟨by repeat (first | (with_reducible first | exact HB.out | apply below_alloc | apply pw_below_drewN | apply below_drew1 | refine below_set ?_ GE244.out | refine below_set ?_ GE245.out | refine below_set ?_ GE250.out) | exact HB.out)⟩⟩
               ·
                rw [if_neg c46] at H
                exact absurd H (by simp)
              ·
               rw [if_neg c45] at H
               exact absurd H (by simp)
             ·
              rw [if_neg c44] at H
              have c44b0 : decide (x10_3 < x9_1) = false := decide_eq_false c44
              clear c44
              have H' := Aside0.mk H
              clear H
              go_wp2
              go_roundg k3
              case measure => have := HK1.out; have := HJ31.out; have := HK3.out; omega
              case rel => exact ⟨((wrap64 (x8_1 + 1))), (wrap64 (x9_1 - 1)), (x246000_3), (x246001_3), (x246002_3), (by first | rfl | (simp; done) | (simp [*]; done)), (by first | rfl | (simp; done) | (simp [*]; done)), H', ⟨by have := HK1.out; have := HJ31.out; have := HK3.out; omega⟩, bf_ BK244, bf_ BK245, bf_ BK250, ⟨by repeat (first | (with_reducible first | exact HB.out | apply below_alloc | apply pw_below_drewN | apply below_drew1 | refine below_set ?_ GE244.out | refine below_set ?_ GE245.out | refine below_set ?_ GE250.out) | exact HB.out)⟩⟩
      ·
       rw [if_neg c27] at H
       exact absurd H (by simp)
     ·
      rw [if_neg c26] at H
      exact absurd H (by simp)
    ·
     rw [if_neg c25] at H
     have c25b0 : decide (0 ≤ x9_1) = false := decide_eq_false c25
     clear c25
     simp only [Option.some.injEq, Prod.mk.injEq] at H
     obtain ⟨rfl, rfl, rfl, rfl⟩ := H
     have hnb56 := NB245_244.out
     have hnc56 := NB244_245.out
     have hnb57 := NB245_250.out
     have hnc57 := NB250_245.out
     have hcz58_0 : wr.cell? ⟨gb245, 0, none⟩ = some (.int .u32 x246000_1) := (blk_cell BK245.out 0).trans rfl
     have hcz58_1 : wr.cell? ⟨gb245, 1, none⟩ = some (.string x246001_1) := (blk_cell BK245.out 1).trans rfl
     have hcz58_2 : wr.cell? ⟨gb245, 2, none⟩ = some (.int .i64 x246002_1) := (blk_cell BK245.out 2).trans rfl
     have hfz58_0 := blk_frozen BK245.out 0
     have hfz58_1 := blk_frozen BK245.out 1
     have hfz58_2 := blk_frozen BK245.out 2
     go_wp2
     refine bodyPost_ret (results_ct rfl _ _ gb245 49 #[.int .u32 0, .string (⟨#[]⟩ : ByteArray), .int .i64 0] (0, 0) _ rfl (by (with_reducible repeat (first | refine blk_drewN ?_ _ | refine blk_drew ?_ | refine blk_alloc ?_ _)); refine blk_put (cs := #[.int .u32 0, .string (⟨#[]⟩ : ByteArray), .int .i64 x246002_1]) ?_ 2 _ rfl; (with_reducible repeat (first | refine blk_drewN ?_ _ | refine blk_drew ?_ | refine blk_alloc ?_ _)); refine blk_put (cs := #[.int .u32 0, .string x246001_1, .int .i64 x246002_1]) ?_ 1 _ rfl; (with_reducible repeat (first | refine blk_drewN ?_ _ | refine blk_drew ?_ | refine blk_alloc ?_ _)); refine blk_put (cs := #[.int .u32 x246000_1, .string x246001_1, .int .i64 x246002_1]) ?_ 0 _ rfl; (with_reducible repeat (first | refine blk_drewN ?_ _ | refine blk_drew ?_ | refine blk_alloc ?_ _)); exact BK245.out) Try.underlying49 rfl (by kernel_rfl)) rfl ?_
     exact ⟨by first | rfl | (simp [errW_none, errW_some] <;> rfl) | (simp [*, errW_none, errW_some] <;> rfl), by repeat (first | (with_reducible first | exact HB.out | apply below_alloc | apply pw_below_drewN | apply below_drew1 | refine below_set ?_ GE244.out | refine below_set ?_ GE245.out | refine below_set ?_ GE250.out) | exact HB.out)⟩
end Go.Proofs.Ytpedlnebpibgaaa.All
end
section
namespace Go.Proofs.Ytpedlnebpibgaaa.All
open Go.RowKit Go.Proofs.YtpedlnebpibgaaaW.PrintWords Go.Proofs.YtpedlnebpibgaaaW.PrintLast Go.Proofs.YtpedlnebpibgaaaW.PrintMore
attribute [local go_sem] max2_int min2_int max_two min_two max_three min_three max_four min_four
set_option linter.unusedVariables false
set_option linter.unusedSimpArgs false
def compositorref14_Bind.f (k : Nat) (l0_0 : List (S49)) (a1 : Int) (a2 : ByteArray) (a3 : Int) : Option (Int) := (compositorref14_known.f k l0_0 a1).bind fun bt256 => (if bt256.2.2.2 = true then (if bt256.2.1.toList = a2.toList then (if a3 < 1 then (some 11) else (if a3 > bt256.2.2.1 then (some 11) else (some 0))) else (some 9)) else (some 8))
set_option maxHeartbeats 8000000 in
set_option maxRecDepth 100000 in
theorem compositorref14_Bind.calls (k : Nat) (A0_0 : Option Addr) (c0_0 : Nat) (l0_0 : List (S49)) (a1 : Int) (a2 : ByteArray) (a3 : Int) (r : Int) (w : World) (hr0_0 : Kd.C k49 w A0_0 l0_0.length l0_0) (hc0_0 : l0_0.length ≤ c0_0) (h : compositorref14_Bind.f k l0_0 a1 a2 a3 = some r) :
    Calls Try.prog 17 #[.agg #[.slice A0_0 l0_0.length c0_0], .int .u32 a1, .string a2, .int .i64 a3] w fun e w' => e = .returned (.int .i64 r) ∧ Below w.heap.size w w' := by
  have hu28 := Try.underlying28
  have hu49 := Try.underlying49
  have HR0_0 := Aside0.mk hr0_0
  have HC0_0 := Aside0.mk hc0_0
  clear hr0_0 hc0_0
  have HB := Aside0.mk (Below.refl w.heap.size w)
  have H : ((compositorref14_known.f k l0_0 a1).bind fun bt256 => (if bt256.2.2.2 = true then (if bt256.2.1.toList = a2.toList then (if a3 < 1 then (some 11) else (if a3 > bt256.2.2.1 then (some 11) else (some 0))) else (some 9)) else (some 8))) = some r := h
  clear h
  replace H := Option.bind_eq_some_iff.mp H
  obtain ⟨⟨t256, t257, t258, t259⟩, A50, H⟩ := H
  replace H : (if t259 = true then (if t257.toList = a2.toList then (if a3 < 1 then (some 11) else (if a3 > t258 then (some 11) else (some 0))) else (some 9)) else (some 8)) = some r := H
  have A5 := Aside0.mk A50
  clear A50
  by_cases c6 : t259 = true
  · subst c6
    have H1 : (if t257.toList = a2.toList then (if a3 < 1 then (some 11) else (if a3 > t258 then (some 11) else (some 0))) else (some 9)) = some r := by rw [if_pos rfl] at H; exact H
    clear H
    have H := H1
    clear H1
    by_cases c7 : t257.toList = a2.toList
    · rw [if_pos c7] at H
      have c7b0 : (t257.toList == a2.toList) = true := beq_iff_eq.mpr c7
      have c7b1 : (t257.toList != a2.toList) = false := bne_eq_false_iff_eq.mpr c7
      clear c7
      by_cases c8 : a3 < 1
      · rw [if_pos c8] at H
        have c8b0 : decide (a3 < 1) = true := decide_eq_true c8
        clear c8
        obtain rfl := Option.some.inj H
        go_enter Try.func17, Try.ntmps17
        go_wp2_with (first | ((with_reducible refine gate_dst (N := 4) rfl ?_); refine box_event ?hg (N := 4) ?hd (cs := #[.slice A0_0 l0_0.length c0_0]) (t := 28) ?hr ?_; (case hd => rfl); (case hg => rfl); (case hr => first | (go_simp; done) | (go_simp; rfl)); intro gb255 hg w9 hbox hb; have n0_ := Aside0.mk (below_step (by repeat (first | (with_reducible first | exact HB.out | apply below_alloc | apply pw_below_drewN | apply below_drew1) | exact HB.out)) hb); have n1_ := Aside0.mk (hbox); have n2_ := Aside0.mk ((by rw [hg]; exact (below_size (by repeat (first | (with_reducible first | exact HB.out | apply below_alloc | apply pw_below_drewN | apply below_drew1) | exact HB.out))) : w.heap.size ≤ gb255)); have n3_ := Aside0.mk ((by rw [hg]; exact (below_size (by repeat (first | (with_reducible first | exact HB.out | apply below_alloc | apply pw_below_drewN | apply below_drew1) | exact HB.out))) : w.heap.size ≤ gb255)); clear HB; have HB := n0_; have BK255 := n1_; have GW255 := n2_; have GE255 := n3_; clear n0_ n1_ n2_ n3_; clear hb hbox hg; have hcz10_0 : w9.cell? ⟨gb255, 0, none⟩ = some (.slice A0_0 l0_0.length c0_0) := (blk_cell BK255.out 0).trans rfl; have hfz10_0 := blk_frozen BK255.out 0) | ((with_reducible refine gate_callee (f := 37) rfl ?_); refine goesL_ (some 14) rfl rfl Try.func37 (by kernel_rfl) rfl #[.agg #[.slice A0_0 l0_0.length c0_0], .int .u32 a1] rfl (by (try simp only [List.map_toArray, List.map_cons, List.map_nil]); first | done | rfl | (simp only [List.length_drop, List.length_take]; rfl)) ?_; (with_reducible refine (compositorref14_known.calls k _ _ l0_0 a1 t256 t257 t258 true _ ?side1 ?side2 A5.out).mono ?_); (case side1 => repeat (first | exact (Kd.C_below HR0_0.out HB.out) | (with_reducible refine Kd.C_alloc ?_ _) | (with_reducible refine Kd.C_drewN ?_ _) | (with_reducible refine Kd.C_drew ?_))); (case side2 => exact HC0_0.out); rintro e w11 ⟨rfl, hb⟩; refine ⟨_, rfl, ?_⟩; have n0_ := Aside0.mk (blk_below (g := gb255) (o := .cells #[.slice A0_0 l0_0.length c0_0] 28 (0, 0)) (by (with_reducible repeat (first | refine blk_drewN ?_ _ | refine blk_drew ?_ | refine blk_alloc ?_ _)); exact BK255.out) hb); have n1_ := Aside0.mk (below_step (by repeat (first | (with_reducible first | exact HB.out | apply below_alloc | apply pw_below_drewN | apply below_drew1 | refine below_set ?_ GE255.out) | exact HB.out)) hb); clear BK255; clear HB; have BK255 := n0_; have HB := n1_; clear n0_ n1_; (try clear hb); (try clear hb2); (try clear hk); (try clear hi)) | ((with_reducible refine gate_dst (N := 9) rfl ?_); refine box_event ?hg (N := 9) ?hd (cs := #[.int .u32 0, .string (⟨#[]⟩ : ByteArray), .int .i64 0]) (t := 49) ?hr ?_; (case hd => rfl); (case hg => rfl); (case hr => first | (go_simp; done) | (go_simp; rfl)); intro gb260 hg w12 hbox hb; have n0_ := Aside0.mk (blk_below (g := gb255) (o := .cells #[.slice A0_0 l0_0.length c0_0] 28 (0, 0)) (by (with_reducible repeat (first | refine blk_drewN ?_ _ | refine blk_drew ?_ | refine blk_alloc ?_ _)); exact BK255.out) hb); have n1_ := Aside0.mk (below_step (by repeat (first | (with_reducible first | exact HB.out | apply below_alloc | apply pw_below_drewN | apply below_drew1 | refine below_set ?_ GE255.out) | exact HB.out)) hb); have n2_ := Aside0.mk (hbox); have n3_ := Aside0.mk ((by rw [hg]; exact (below_size (by repeat (first | (with_reducible first | exact HB.out | apply below_alloc | apply pw_below_drewN | apply below_drew1 | refine below_set ?_ GE255.out) | exact HB.out))) : w.heap.size ≤ gb260)); have n4_ := Aside0.mk ((by rw [hg]; exact (below_size (by repeat (first | (with_reducible first | exact HB.out | apply below_alloc | apply pw_below_drewN | apply below_drew1 | refine below_set ?_ GE255.out) | exact HB.out))) : w.heap.size ≤ gb260)); have n5_ := Aside0.mk ((by rw [hg]; exact Nat.ne_of_lt (blk_lt (g := gb255) (o := .cells #[.slice A0_0 l0_0.length c0_0] 28 (0, 0)) (by (with_reducible repeat (first | refine blk_drewN ?_ _ | refine blk_drew ?_ | refine blk_alloc ?_ _)); exact BK255.out)) : gb255 ≠ gb260)); have n6_ := Aside0.mk ((by rw [hg]; exact Nat.ne_of_gt (blk_lt (g := gb255) (o := .cells #[.slice A0_0 l0_0.length c0_0] 28 (0, 0)) (by (with_reducible repeat (first | refine blk_drewN ?_ _ | refine blk_drew ?_ | refine blk_alloc ?_ _)); exact BK255.out)) : gb260 ≠ gb255)); clear BK255; clear HB; have BK255 := n0_; have HB := n1_; have BK260 := n2_; have GW260 := n3_; have GE260 := n4_; have NB255_260 := n5_; have NB260_255 := n6_; clear n0_ n1_ n2_ n3_ n4_ n5_ n6_; clear hb hbox hg; have hnb13 := NB260_255.out; have hnc13 := NB255_260.out; have hcz14_0 : w12.cell? ⟨gb260, 0, none⟩ = some (.int .u32 0) := (blk_cell BK260.out 0).trans rfl; have hcz14_1 : w12.cell? ⟨gb260, 1, none⟩ = some (.string (⟨#[]⟩ : ByteArray)) := (blk_cell BK260.out 1).trans rfl; have hcz14_2 : w12.cell? ⟨gb260, 2, none⟩ = some (.int .i64 0) := (blk_cell BK260.out 2).trans rfl; have hfz14_0 := blk_frozen BK260.out 0; have hfz14_1 := blk_frozen BK260.out 1; have hfz14_2 := blk_frozen BK260.out 2))
        go_ret
        exact ⟨by first | rfl | (simp [errW_none, errW_some] <;> rfl) | (simp [*, errW_none, errW_some] <;> rfl), by repeat (first | (with_reducible first | exact HB.out | apply below_alloc | apply pw_below_drewN | apply below_drew1 | refine below_set ?_ GE255.out | refine below_set ?_ GE260.out) | exact HB.out)⟩
      · rw [if_neg c8] at H
        have c8b0 : decide (a3 < 1) = false := decide_eq_false c8
        clear c8
        by_cases c15 : a3 > t258
        · rw [if_pos c15] at H
          have c15b0 : decide (t258 < a3) = true := decide_eq_true c15
          clear c15
          obtain rfl := Option.some.inj H
          go_enter Try.func17, Try.ntmps17
          go_wp2_with (first | ((with_reducible refine gate_dst (N := 4) rfl ?_); refine box_event ?hg (N := 4) ?hd (cs := #[.slice A0_0 l0_0.length c0_0]) (t := 28) ?hr ?_; (case hd => rfl); (case hg => rfl); (case hr => first | (go_simp; done) | (go_simp; rfl)); intro gb255 hg w16 hbox hb; have n0_ := Aside0.mk (below_step (by repeat (first | (with_reducible first | exact HB.out | apply below_alloc | apply pw_below_drewN | apply below_drew1) | exact HB.out)) hb); have n1_ := Aside0.mk (hbox); have n2_ := Aside0.mk ((by rw [hg]; exact (below_size (by repeat (first | (with_reducible first | exact HB.out | apply below_alloc | apply pw_below_drewN | apply below_drew1) | exact HB.out))) : w.heap.size ≤ gb255)); have n3_ := Aside0.mk ((by rw [hg]; exact (below_size (by repeat (first | (with_reducible first | exact HB.out | apply below_alloc | apply pw_below_drewN | apply below_drew1) | exact HB.out))) : w.heap.size ≤ gb255)); clear HB; have HB := n0_; have BK255 := n1_; have GW255 := n2_; have GE255 := n3_; clear n0_ n1_ n2_ n3_; clear hb hbox hg; have hcz17_0 : w16.cell? ⟨gb255, 0, none⟩ = some (.slice A0_0 l0_0.length c0_0) := (blk_cell BK255.out 0).trans rfl; have hfz17_0 := blk_frozen BK255.out 0) | ((with_reducible refine gate_callee (f := 37) rfl ?_); refine goesL_ (some 14) rfl rfl Try.func37 (by kernel_rfl) rfl #[.agg #[.slice A0_0 l0_0.length c0_0], .int .u32 a1] rfl (by (try simp only [List.map_toArray, List.map_cons, List.map_nil]); first | done | rfl | (simp only [List.length_drop, List.length_take]; rfl)) ?_; (with_reducible refine (compositorref14_known.calls k _ _ l0_0 a1 t256 t257 t258 true _ ?side1 ?side2 A5.out).mono ?_); (case side1 => repeat (first | exact (Kd.C_below HR0_0.out HB.out) | (with_reducible refine Kd.C_alloc ?_ _) | (with_reducible refine Kd.C_drewN ?_ _) | (with_reducible refine Kd.C_drew ?_))); (case side2 => exact HC0_0.out); rintro e w18 ⟨rfl, hb⟩; refine ⟨_, rfl, ?_⟩; have n0_ := Aside0.mk (blk_below (g := gb255) (o := .cells #[.slice A0_0 l0_0.length c0_0] 28 (0, 0)) (by (with_reducible repeat (first | refine blk_drewN ?_ _ | refine blk_drew ?_ | refine blk_alloc ?_ _)); exact BK255.out) hb); have n1_ := Aside0.mk (below_step (by repeat (first | (with_reducible first | exact HB.out | apply below_alloc | apply pw_below_drewN | apply below_drew1 | refine below_set ?_ GE255.out) | exact HB.out)) hb); clear BK255; clear HB; have BK255 := n0_; have HB := n1_; clear n0_ n1_; (try clear hb); (try clear hb2); (try clear hk); (try clear hi)) | ((with_reducible refine gate_dst (N := 9) rfl ?_); refine box_event ?hg (N := 9) ?hd (cs := #[.int .u32 0, .string (⟨#[]⟩ : ByteArray), .int .i64 0]) (t := 49) ?hr ?_; (case hd => rfl); (case hg => rfl); (case hr => first | (go_simp; done) | (go_simp; rfl)); intro gb260 hg w19 hbox hb; have n0_ := Aside0.mk (blk_below (g := gb255) (o := .cells #[.slice A0_0 l0_0.length c0_0] 28 (0, 0)) (by (with_reducible repeat (first | refine blk_drewN ?_ _ | refine blk_drew ?_ | refine blk_alloc ?_ _)); exact BK255.out) hb); have n1_ := Aside0.mk (below_step (by repeat (first | (with_reducible first | exact HB.out | apply below_alloc | apply pw_below_drewN | apply below_drew1 | refine below_set ?_ GE255.out) | exact HB.out)) hb); have n2_ := Aside0.mk (hbox); have n3_ := Aside0.mk ((by rw [hg]; exact (below_size (by repeat (first | (with_reducible first | exact HB.out | apply below_alloc | apply pw_below_drewN | apply below_drew1 | refine below_set ?_ GE255.out) | exact HB.out))) : w.heap.size ≤ gb260)); have n4_ := Aside0.mk ((by rw [hg]; exact (below_size (by repeat (first | (with_reducible first | exact HB.out | apply below_alloc | apply pw_below_drewN | apply below_drew1 | refine below_set ?_ GE255.out) | exact HB.out))) : w.heap.size ≤ gb260)); have n5_ := Aside0.mk ((by rw [hg]; exact Nat.ne_of_lt (blk_lt (g := gb255) (o := .cells #[.slice A0_0 l0_0.length c0_0] 28 (0, 0)) (by (with_reducible repeat (first | refine blk_drewN ?_ _ | refine blk_drew ?_ | refine blk_alloc ?_ _)); exact BK255.out)) : gb255 ≠ gb260)); have n6_ := Aside0.mk ((by rw [hg]; exact Nat.ne_of_gt (blk_lt (g := gb255) (o := .cells #[.slice A0_0 l0_0.length c0_0] 28 (0, 0)) (by (with_reducible repeat (first | refine blk_drewN ?_ _ | refine blk_drew ?_ | refine blk_alloc ?_ _)); exact BK255.out)) : gb260 ≠ gb255)); clear BK255; clear HB; have BK255 := n0_; have HB := n1_; have BK260 := n2_; have GW260 := n3_; have GE260 := n4_; have NB255_260 := n5_; have NB260_255 := n6_; clear n0_ n1_ n2_ n3_ n4_ n5_ n6_; clear hb hbox hg; have hnb20 := NB260_255.out; have hnc20 := NB255_260.out; have hcz21_0 : w19.cell? ⟨gb260, 0, none⟩ = some (.int .u32 0) := (blk_cell BK260.out 0).trans rfl; have hcz21_1 : w19.cell? ⟨gb260, 1, none⟩ = some (.string (⟨#[]⟩ : ByteArray)) := (blk_cell BK260.out 1).trans rfl; have hcz21_2 : w19.cell? ⟨gb260, 2, none⟩ = some (.int .i64 0) := (blk_cell BK260.out 2).trans rfl; have hfz21_0 := blk_frozen BK260.out 0; have hfz21_1 := blk_frozen BK260.out 1; have hfz21_2 := blk_frozen BK260.out 2))
          go_ret
          exact ⟨by first | rfl | (simp [errW_none, errW_some] <;> rfl) | (simp [*, errW_none, errW_some] <;> rfl), by repeat (first | (with_reducible first | exact HB.out | apply below_alloc | apply pw_below_drewN | apply below_drew1 | refine below_set ?_ GE255.out | refine below_set ?_ GE260.out) | exact HB.out)⟩
        · rw [if_neg c15] at H
          have c15b0 : decide (t258 < a3) = false := decide_eq_false c15
          clear c15
          obtain rfl := Option.some.inj H
          go_enter Try.func17, Try.ntmps17
          go_wp2_with (first | ((with_reducible refine gate_dst (N := 4) rfl ?_); refine box_event ?hg (N := 4) ?hd (cs := #[.slice A0_0 l0_0.length c0_0]) (t := 28) ?hr ?_; (case hd => rfl); (case hg => rfl); (case hr => first | (go_simp; done) | (go_simp; rfl)); intro gb255 hg w22 hbox hb; have n0_ := Aside0.mk (below_step (by repeat (first | (with_reducible first | exact HB.out | apply below_alloc | apply pw_below_drewN | apply below_drew1) | exact HB.out)) hb); have n1_ := Aside0.mk (hbox); have n2_ := Aside0.mk ((by rw [hg]; exact (below_size (by repeat (first | (with_reducible first | exact HB.out | apply below_alloc | apply pw_below_drewN | apply below_drew1) | exact HB.out))) : w.heap.size ≤ gb255)); have n3_ := Aside0.mk ((by rw [hg]; exact (below_size (by repeat (first | (with_reducible first | exact HB.out | apply below_alloc | apply pw_below_drewN | apply below_drew1) | exact HB.out))) : w.heap.size ≤ gb255)); clear HB; have HB := n0_; have BK255 := n1_; have GW255 := n2_; have GE255 := n3_; clear n0_ n1_ n2_ n3_; clear hb hbox hg; have hcz23_0 : w22.cell? ⟨gb255, 0, none⟩ = some (.slice A0_0 l0_0.length c0_0) := (blk_cell BK255.out 0).trans rfl; have hfz23_0 := blk_frozen BK255.out 0) | ((with_reducible refine gate_callee (f := 37) rfl ?_); refine goesL_ (some 14) rfl rfl Try.func37 (by kernel_rfl) rfl #[.agg #[.slice A0_0 l0_0.length c0_0], .int .u32 a1] rfl (by (try simp only [List.map_toArray, List.map_cons, List.map_nil]); first | done | rfl | (simp only [List.length_drop, List.length_take]; rfl)) ?_; (with_reducible refine (compositorref14_known.calls k _ _ l0_0 a1 t256 t257 t258 true _ ?side1 ?side2 A5.out).mono ?_); (case side1 => repeat (first | exact (Kd.C_below HR0_0.out HB.out) | (with_reducible refine Kd.C_alloc ?_ _) | (with_reducible refine Kd.C_drewN ?_ _) | (with_reducible refine Kd.C_drew ?_))); (case side2 => exact HC0_0.out); rintro e w24 ⟨rfl, hb⟩; refine ⟨_, rfl, ?_⟩; have n0_ := Aside0.mk (blk_below (g := gb255) (o := .cells #[.slice A0_0 l0_0.length c0_0] 28 (0, 0)) (by (with_reducible repeat (first | refine blk_drewN ?_ _ | refine blk_drew ?_ | refine blk_alloc ?_ _)); exact BK255.out) hb); have n1_ := Aside0.mk (below_step (by repeat (first | (with_reducible first | exact HB.out | apply below_alloc | apply pw_below_drewN | apply below_drew1 | refine below_set ?_ GE255.out) | exact HB.out)) hb); clear BK255; clear HB; have BK255 := n0_; have HB := n1_; clear n0_ n1_; (try clear hb); (try clear hb2); (try clear hk); (try clear hi)) | ((with_reducible refine gate_dst (N := 9) rfl ?_); refine box_event ?hg (N := 9) ?hd (cs := #[.int .u32 0, .string (⟨#[]⟩ : ByteArray), .int .i64 0]) (t := 49) ?hr ?_; (case hd => rfl); (case hg => rfl); (case hr => first | (go_simp; done) | (go_simp; rfl)); intro gb260 hg w25 hbox hb; have n0_ := Aside0.mk (blk_below (g := gb255) (o := .cells #[.slice A0_0 l0_0.length c0_0] 28 (0, 0)) (by (with_reducible repeat (first | refine blk_drewN ?_ _ | refine blk_drew ?_ | refine blk_alloc ?_ _)); exact BK255.out) hb); have n1_ := Aside0.mk (below_step (by repeat (first | (with_reducible first | exact HB.out | apply below_alloc | apply pw_below_drewN | apply below_drew1 | refine below_set ?_ GE255.out) | exact HB.out)) hb); have n2_ := Aside0.mk (hbox); have n3_ := Aside0.mk ((by rw [hg]; exact (below_size (by repeat (first | (with_reducible first | exact HB.out | apply below_alloc | apply pw_below_drewN | apply below_drew1 | refine below_set ?_ GE255.out) | exact HB.out))) : w.heap.size ≤ gb260)); have n4_ := Aside0.mk ((by rw [hg]; exact (below_size (by repeat (first | (with_reducible first | exact HB.out | apply below_alloc | apply pw_below_drewN | apply below_drew1 | refine below_set ?_ GE255.out) | exact HB.out))) : w.heap.size ≤ gb260)); have n5_ := Aside0.mk ((by rw [hg]; exact Nat.ne_of_lt (blk_lt (g := gb255) (o := .cells #[.slice A0_0 l0_0.length c0_0] 28 (0, 0)) (by (with_reducible repeat (first | refine blk_drewN ?_ _ | refine blk_drew ?_ | refine blk_alloc ?_ _)); exact BK255.out)) : gb255 ≠ gb260)); have n6_ := Aside0.mk ((by rw [hg]; exact Nat.ne_of_gt (blk_lt (g := gb255) (o := .cells #[.slice A0_0 l0_0.length c0_0] 28 (0, 0)) (by (with_reducible repeat (first | refine blk_drewN ?_ _ | refine blk_drew ?_ | refine blk_alloc ?_ _)); exact BK255.out)) : gb260 ≠ gb255)); clear BK255; clear HB; have BK255 := n0_; have HB := n1_; have BK260 := n2_; have GW260 := n3_; have GE260 := n4_; have NB255_260 := n5_; have NB260_255 := n6_; clear n0_ n1_ n2_ n3_ n4_ n5_ n6_; clear hb hbox hg; have hnb26 := NB260_255.out; have hnc26 := NB255_260.out; have hcz27_0 : w25.cell? ⟨gb260, 0, none⟩ = some (.int .u32 0) := (blk_cell BK260.out 0).trans rfl; have hcz27_1 : w25.cell? ⟨gb260, 1, none⟩ = some (.string (⟨#[]⟩ : ByteArray)) := (blk_cell BK260.out 1).trans rfl; have hcz27_2 : w25.cell? ⟨gb260, 2, none⟩ = some (.int .i64 0) := (blk_cell BK260.out 2).trans rfl; have hfz27_0 := blk_frozen BK260.out 0; have hfz27_1 := blk_frozen BK260.out 1; have hfz27_2 := blk_frozen BK260.out 2))
          go_ret
          exact ⟨by first | rfl | (simp [errW_none, errW_some] <;> rfl) | (simp [*, errW_none, errW_some] <;> rfl), by repeat (first | (with_reducible first | exact HB.out | apply below_alloc | apply pw_below_drewN | apply below_drew1 | refine below_set ?_ GE255.out | refine below_set ?_ GE260.out) | exact HB.out)⟩
    · rw [if_neg c7] at H
      have c7b0 : (t257.toList == a2.toList) = false := beq_eq_false_iff_ne.mpr c7
      have c7b1 : (t257.toList != a2.toList) = true := bne_iff_ne.mpr c7
      obtain rfl := Option.some.inj H
      go_enter Try.func17, Try.ntmps17
      go_wp2_with (first | ((with_reducible refine gate_dst (N := 4) rfl ?_); refine box_event ?hg (N := 4) ?hd (cs := #[.slice A0_0 l0_0.length c0_0]) (t := 28) ?hr ?_; (case hd => rfl); (case hg => rfl); (case hr => first | (go_simp; done) | (go_simp; rfl)); intro gb255 hg w28 hbox hb; have n0_ := Aside0.mk (below_step (by repeat (first | (with_reducible first | exact HB.out | apply below_alloc | apply pw_below_drewN | apply below_drew1) | exact HB.out)) hb); have n1_ := Aside0.mk (hbox); have n2_ := Aside0.mk ((by rw [hg]; exact (below_size (by repeat (first | (with_reducible first | exact HB.out | apply below_alloc | apply pw_below_drewN | apply below_drew1) | exact HB.out))) : w.heap.size ≤ gb255)); have n3_ := Aside0.mk ((by rw [hg]; exact (below_size (by repeat (first | (with_reducible first | exact HB.out | apply below_alloc | apply pw_below_drewN | apply below_drew1) | exact HB.out))) : w.heap.size ≤ gb255)); clear HB; have HB := n0_; have BK255 := n1_; have GW255 := n2_; have GE255 := n3_; clear n0_ n1_ n2_ n3_; clear hb hbox hg; have hcz29_0 : w28.cell? ⟨gb255, 0, none⟩ = some (.slice A0_0 l0_0.length c0_0) := (blk_cell BK255.out 0).trans rfl; have hfz29_0 := blk_frozen BK255.out 0) | ((with_reducible refine gate_callee (f := 37) rfl ?_); refine goesL_ (some 14) rfl rfl Try.func37 (by kernel_rfl) rfl #[.agg #[.slice A0_0 l0_0.length c0_0], .int .u32 a1] rfl (by (try simp only [List.map_toArray, List.map_cons, List.map_nil]); first | done | rfl | (simp only [List.length_drop, List.length_take]; rfl)) ?_; (with_reducible refine (compositorref14_known.calls k _ _ l0_0 a1 t256 t257 t258 true _ ?side1 ?side2 A5.out).mono ?_); (case side1 => repeat (first | exact (Kd.C_below HR0_0.out HB.out) | (with_reducible refine Kd.C_alloc ?_ _) | (with_reducible refine Kd.C_drewN ?_ _) | (with_reducible refine Kd.C_drew ?_))); (case side2 => exact HC0_0.out); rintro e w30 ⟨rfl, hb⟩; refine ⟨_, rfl, ?_⟩; have n0_ := Aside0.mk (blk_below (g := gb255) (o := .cells #[.slice A0_0 l0_0.length c0_0] 28 (0, 0)) (by (with_reducible repeat (first | refine blk_drewN ?_ _ | refine blk_drew ?_ | refine blk_alloc ?_ _)); exact BK255.out) hb); have n1_ := Aside0.mk (below_step (by repeat (first | (with_reducible first | exact HB.out | apply below_alloc | apply pw_below_drewN | apply below_drew1 | refine below_set ?_ GE255.out) | exact HB.out)) hb); clear BK255; clear HB; have BK255 := n0_; have HB := n1_; clear n0_ n1_; (try clear hb); (try clear hb2); (try clear hk); (try clear hi)) | ((with_reducible refine gate_dst (N := 9) rfl ?_); refine box_event ?hg (N := 9) ?hd (cs := #[.int .u32 0, .string (⟨#[]⟩ : ByteArray), .int .i64 0]) (t := 49) ?hr ?_; (case hd => rfl); (case hg => rfl); (case hr => first | (go_simp; done) | (go_simp; rfl)); intro gb260 hg w31 hbox hb; have n0_ := Aside0.mk (blk_below (g := gb255) (o := .cells #[.slice A0_0 l0_0.length c0_0] 28 (0, 0)) (by (with_reducible repeat (first | refine blk_drewN ?_ _ | refine blk_drew ?_ | refine blk_alloc ?_ _)); exact BK255.out) hb); have n1_ := Aside0.mk (below_step (by repeat (first | (with_reducible first | exact HB.out | apply below_alloc | apply pw_below_drewN | apply below_drew1 | refine below_set ?_ GE255.out) | exact HB.out)) hb); have n2_ := Aside0.mk (hbox); have n3_ := Aside0.mk ((by rw [hg]; exact (below_size (by repeat (first | (with_reducible first | exact HB.out | apply below_alloc | apply pw_below_drewN | apply below_drew1 | refine below_set ?_ GE255.out) | exact HB.out))) : w.heap.size ≤ gb260)); have n4_ := Aside0.mk ((by rw [hg]; exact (below_size (by repeat (first | (with_reducible first | exact HB.out | apply below_alloc | apply pw_below_drewN | apply below_drew1 | refine below_set ?_ GE255.out) | exact HB.out))) : w.heap.size ≤ gb260)); have n5_ := Aside0.mk ((by rw [hg]; exact Nat.ne_of_lt (blk_lt (g := gb255) (o := .cells #[.slice A0_0 l0_0.length c0_0] 28 (0, 0)) (by (with_reducible repeat (first | refine blk_drewN ?_ _ | refine blk_drew ?_ | refine blk_alloc ?_ _)); exact BK255.out)) : gb255 ≠ gb260)); have n6_ := Aside0.mk ((by rw [hg]; exact Nat.ne_of_gt (blk_lt (g := gb255) (o := .cells #[.slice A0_0 l0_0.length c0_0] 28 (0, 0)) (by (with_reducible repeat (first | refine blk_drewN ?_ _ | refine blk_drew ?_ | refine blk_alloc ?_ _)); exact BK255.out)) : gb260 ≠ gb255)); clear BK255; clear HB; have BK255 := n0_; have HB := n1_; have BK260 := n2_; have GW260 := n3_; have GE260 := n4_; have NB255_260 := n5_; have NB260_255 := n6_; clear n0_ n1_ n2_ n3_ n4_ n5_ n6_; clear hb hbox hg; have hnb32 := NB260_255.out; have hnc32 := NB255_260.out; have hcz33_0 : w31.cell? ⟨gb260, 0, none⟩ = some (.int .u32 0) := (blk_cell BK260.out 0).trans rfl; have hcz33_1 : w31.cell? ⟨gb260, 1, none⟩ = some (.string (⟨#[]⟩ : ByteArray)) := (blk_cell BK260.out 1).trans rfl; have hcz33_2 : w31.cell? ⟨gb260, 2, none⟩ = some (.int .i64 0) := (blk_cell BK260.out 2).trans rfl; have hfz33_0 := blk_frozen BK260.out 0; have hfz33_1 := blk_frozen BK260.out 1; have hfz33_2 := blk_frozen BK260.out 2))
      go_ret
      exact ⟨by first | rfl | (simp [errW_none, errW_some] <;> rfl) | (simp [*, errW_none, errW_some] <;> rfl), by repeat (first | (with_reducible first | exact HB.out | apply below_alloc | apply pw_below_drewN | apply below_drew1 | refine below_set ?_ GE255.out | refine below_set ?_ GE260.out) | exact HB.out)⟩
  · replace c6 := Bool.eq_false_iff.mpr c6
    subst c6
    have H1 : (some 8) = some r := by rw [if_neg (show ¬ (false = true) by decide)] at H; exact H
    clear H
    have H := H1
    clear H1
    obtain rfl := Option.some.inj H
    go_enter Try.func17, Try.ntmps17
    go_wp2_with (first | ((with_reducible refine gate_dst (N := 4) rfl ?_); refine box_event ?hg (N := 4) ?hd (cs := #[.slice A0_0 l0_0.length c0_0]) (t := 28) ?hr ?_; (case hd => rfl); (case hg => rfl); (case hr => first | (go_simp; done) | (go_simp; rfl)); intro gb255 hg w34 hbox hb; have n0_ := Aside0.mk (below_step (by repeat (first | (with_reducible first | exact HB.out | apply below_alloc | apply pw_below_drewN | apply below_drew1) | exact HB.out)) hb); have n1_ := Aside0.mk (hbox); have n2_ := Aside0.mk ((by rw [hg]; exact (below_size (by repeat (first | (with_reducible first | exact HB.out | apply below_alloc | apply pw_below_drewN | apply below_drew1) | exact HB.out))) : w.heap.size ≤ gb255)); have n3_ := Aside0.mk ((by rw [hg]; exact (below_size (by repeat (first | (with_reducible first | exact HB.out | apply below_alloc | apply pw_below_drewN | apply below_drew1) | exact HB.out))) : w.heap.size ≤ gb255)); clear HB; have HB := n0_; have BK255 := n1_; have GW255 := n2_; have GE255 := n3_; clear n0_ n1_ n2_ n3_; clear hb hbox hg; have hcz35_0 : w34.cell? ⟨gb255, 0, none⟩ = some (.slice A0_0 l0_0.length c0_0) := (blk_cell BK255.out 0).trans rfl; have hfz35_0 := blk_frozen BK255.out 0) | ((with_reducible refine gate_callee (f := 37) rfl ?_); refine goesL_ (some 14) rfl rfl Try.func37 (by kernel_rfl) rfl #[.agg #[.slice A0_0 l0_0.length c0_0], .int .u32 a1] rfl (by (try simp only [List.map_toArray, List.map_cons, List.map_nil]); first | done | rfl | (simp only [List.length_drop, List.length_take]; rfl)) ?_; (with_reducible refine (compositorref14_known.calls k _ _ l0_0 a1 t256 t257 t258 false _ ?side1 ?side2 A5.out).mono ?_); (case side1 => repeat (first | exact (Kd.C_below HR0_0.out HB.out) | (with_reducible refine Kd.C_alloc ?_ _) | (with_reducible refine Kd.C_drewN ?_ _) | (with_reducible refine Kd.C_drew ?_))); (case side2 => exact HC0_0.out); rintro e w36 ⟨rfl, hb⟩; refine ⟨_, rfl, ?_⟩; have n0_ := Aside0.mk (blk_below (g := gb255) (o := .cells #[.slice A0_0 l0_0.length c0_0] 28 (0, 0)) (by (with_reducible repeat (first | refine blk_drewN ?_ _ | refine blk_drew ?_ | refine blk_alloc ?_ _)); exact BK255.out) hb); have n1_ := Aside0.mk (below_step (by repeat (first | (with_reducible first | exact HB.out | apply below_alloc | apply pw_below_drewN | apply below_drew1 | refine below_set ?_ GE255.out) | exact HB.out)) hb); clear BK255; clear HB; have BK255 := n0_; have HB := n1_; clear n0_ n1_; (try clear hb); (try clear hb2); (try clear hk); (try clear hi)) | ((with_reducible refine gate_dst (N := 9) rfl ?_); refine box_event ?hg (N := 9) ?hd (cs := #[.int .u32 0, .string (⟨#[]⟩ : ByteArray), .int .i64 0]) (t := 49) ?hr ?_; (case hd => rfl); (case hg => rfl); (case hr => first | (go_simp; done) | (go_simp; rfl)); intro gb260 hg w37 hbox hb; have n0_ := Aside0.mk (blk_below (g := gb255) (o := .cells #[.slice A0_0 l0_0.length c0_0] 28 (0, 0)) (by (with_reducible repeat (first | refine blk_drewN ?_ _ | refine blk_drew ?_ | refine blk_alloc ?_ _)); exact BK255.out) hb); have n1_ := Aside0.mk (below_step (by repeat (first | (with_reducible first | exact HB.out | apply below_alloc | apply pw_below_drewN | apply below_drew1 | refine below_set ?_ GE255.out) | exact HB.out)) hb); have n2_ := Aside0.mk (hbox); have n3_ := Aside0.mk ((by rw [hg]; exact (below_size (by repeat (first | (with_reducible first | exact HB.out | apply below_alloc | apply pw_below_drewN | apply below_drew1 | refine below_set ?_ GE255.out) | exact HB.out))) : w.heap.size ≤ gb260)); have n4_ := Aside0.mk ((by rw [hg]; exact (below_size (by repeat (first | (with_reducible first | exact HB.out | apply below_alloc | apply pw_below_drewN | apply below_drew1 | refine below_set ?_ GE255.out) | exact HB.out))) : w.heap.size ≤ gb260)); have n5_ := Aside0.mk ((by rw [hg]; exact Nat.ne_of_lt (blk_lt (g := gb255) (o := .cells #[.slice A0_0 l0_0.length c0_0] 28 (0, 0)) (by (with_reducible repeat (first | refine blk_drewN ?_ _ | refine blk_drew ?_ | refine blk_alloc ?_ _)); exact BK255.out)) : gb255 ≠ gb260)); have n6_ := Aside0.mk ((by rw [hg]; exact Nat.ne_of_gt (blk_lt (g := gb255) (o := .cells #[.slice A0_0 l0_0.length c0_0] 28 (0, 0)) (by (with_reducible repeat (first | refine blk_drewN ?_ _ | refine blk_drew ?_ | refine blk_alloc ?_ _)); exact BK255.out)) : gb260 ≠ gb255)); clear BK255; clear HB; have BK255 := n0_; have HB := n1_; have BK260 := n2_; have GW260 := n3_; have GE260 := n4_; have NB255_260 := n5_; have NB260_255 := n6_; clear n0_ n1_ n2_ n3_ n4_ n5_ n6_; clear hb hbox hg; have hnb38 := NB260_255.out; have hnc38 := NB255_260.out; have hcz39_0 : w37.cell? ⟨gb260, 0, none⟩ = some (.int .u32 0) := (blk_cell BK260.out 0).trans rfl; have hcz39_1 : w37.cell? ⟨gb260, 1, none⟩ = some (.string (⟨#[]⟩ : ByteArray)) := (blk_cell BK260.out 1).trans rfl; have hcz39_2 : w37.cell? ⟨gb260, 2, none⟩ = some (.int .i64 0) := (blk_cell BK260.out 2).trans rfl; have hfz39_0 := blk_frozen BK260.out 0; have hfz39_1 := blk_frozen BK260.out 1; have hfz39_2 := blk_frozen BK260.out 2))
    go_ret
    exact ⟨by first | rfl | (simp [errW_none, errW_some] <;> rfl) | (simp [*, errW_none, errW_some] <;> rfl), by repeat (first | (with_reducible first | exact HB.out | apply below_alloc | apply pw_below_drewN | apply below_drew1 | refine below_set ?_ GE255.out | refine below_set ?_ GE260.out) | exact HB.out)⟩
end Go.Proofs.Ytpedlnebpibgaaa.All
end
section
namespace Go.Proofs.Ytpedlnebpibgaaa.All
open Go.RowKit Go.Proofs.YtpedlnebpibgaaaW.PrintWords Go.Proofs.YtpedlnebpibgaaaW.PrintLast Go.Proofs.YtpedlnebpibgaaaW.PrintMore
attribute [local go_sem] max2_int min2_int max_two min_two max_three min_three max_four min_four
set_option linter.unusedVariables false
set_option linter.unusedSimpArgs false
theorem eqA49 (d : Nat) (w : World) (x0 y0 : Int) (x1 y1 : ByteArray) (x2 y2 : Int) :
    (Op.equalIn (d + 2) 49 (.agg #[.int .u32 x0, .string x1, .int .i64 x2]) (.agg #[.int .u32 y0, .string y1, .int .i64 y2])).run Try.prog w = .ok (x0 == y0 && (x1.toList == y1.toList && (x2 == y2))) w := by
  refine eqA_of Try.underlying49 (by kernel_rfl) ?_
  refine eqf_cons (by rfl) (by go_simp; rfl) (by go_simp; rfl) (by go_simp) ?_
  refine eqf_cons (by rfl) (by go_simp; rfl) (by go_simp; rfl) (by go_simp) ?_
  exact eqf_last (by rfl) (by go_simp; rfl) (by go_simp; rfl) (by go_simp)
end Go.Proofs.Ytpedlnebpibgaaa.All
end
section
namespace Go.Proofs.Ytpedlnebpibgaaa.All
open Go.RowKit Go.Proofs.YtpedlnebpibgaaaW.PrintWords Go.Proofs.YtpedlnebpibgaaaW.PrintLast Go.Proofs.YtpedlnebpibgaaaW.PrintMore
attribute [local go_sem] max2_int min2_int max_two min_two max_three min_three max_four min_four
set_option linter.unusedVariables false
set_option linter.unusedSimpArgs false
attribute [local go_sem high] eqA49
def compositorref14_Same.l0 : Nat → List (S49) → List (S49) → Int → Option (Bool)
  | 0, _, _, _ => none
  | k + 1, x0, x1, x5 => if x5 < (x0.length : Int) then (if 0 ≤ x5 then (if x5 < (x1.length : Int) then (if (!(((rd_T49 x0 x5).f0) == ((rd_T49 x1 x5).f0)) || (!((((rd_T49 x0 x5).f1).toList) == (((rd_T49 x1 x5).f1).toList)) || (!(((rd_T49 x0 x5).f2) == ((rd_T49 x1 x5).f2))))) = true then (some false) else (compositorref14_Same.l0 k x0 x1 (wrap64 (x5 + 1)))) else (none)) else (none)) else (some true)
def compositorref14_Same.f (k : Nat) (l0 : List (S49)) (l1 : List (S49)) : Option (Bool) := if (l0.length : Int) = (l1.length : Int) then (compositorref14_Same.l0 k l0 l1 0) else (some false)
set_option maxHeartbeats 8000000 in
set_option maxRecDepth 100000 in
theorem compositorref14_Same.calls (k : Nat) (A0 : Option Addr) (c0 : Nat) (l0 : List (S49)) (A1 : Option Addr) (c1 : Nat) (l1 : List (S49)) (r : Bool) (w : World) (hr0 : Kd.C k49 w A0 l0.length l0) (hc0 : l0.length ≤ c0) (hr1 : Kd.C k49 w A1 l1.length l1) (hc1 : l1.length ≤ c1) (h : compositorref14_Same.f k l0 l1 = some r) :
    Calls Try.prog 18 #[.slice A0 l0.length c0, .slice A1 l1.length c1] w fun e w' => e = .returned (.bool r) ∧ Drawn0 w w' := by
  have hu49 := Try.underlying49
  have HR0 := Aside0.mk hr0
  have HC0 := Aside0.mk hc0
  clear hr0 hc0
  have HR1 := Aside0.mk hr1
  have HC1 := Aside0.mk hc1
  clear hr1 hc1
  have H : (if (l0.length : Int) = (l1.length : Int) then (compositorref14_Same.l0 k l0 l1 0) else (some false)) = some r := h
  clear h
  by_cases c3 : (l0.length : Int) = (l1.length : Int)
  · rw [if_pos c3] at H
    have c3b0 : ((l0.length : Int) == (l1.length : Int)) = true := beq_iff_eq.mpr c3
    have c3b1 : ((l0.length : Int) != (l1.length : Int)) = false := bne_eq_false_iff_eq.mpr c3
    have c3b2 : (l0.length == l1.length) = true := by first | simpa using c3 | (simp at c3 ⊢; omega)
    clear c3
    have H' := Aside0.mk H
    clear H
    go_enter Try.func18, Try.ntmps18
    go_wp2
    repeat (go_quiet (fail); try go_wp2)
    go_loopg [5] k (fun kq v5 w' => ∃ (x5_1 : Int), v5 = .int .i64 x5_1 ∧ Aside0 (compositorref14_Same.l0 kq l0 l1 x5_1 = some r) ∧ Aside0 (kq ≤ k) ∧ Drawn0 w w')
    case atStart => exact ⟨(0), (by first | rfl | (simp; done) | (simp [*]; done)), H', ⟨Nat.le_refl _⟩, by repeat (first | exact Drawn0.refl _ | apply Drawn0.step)⟩
    case round =>
      clear H'
      try clear c1
      try clear p2
      try clear c3
      try clear c3b0
      try clear c3b1
      try clear c3b2
      obtain ⟨x5_1, rfl, HA, HK1, ⟨m1, rfl⟩⟩ := hrel
      cases gk with
      | zero => exact absurd HA.out (by simp [compositorref14_Same.l0])
      | succ k1 =>
        have H := HA.out
        clear HA
        simp only [compositorref14_Same.l0] at H
        by_cases c4 : x5_1 < (l0.length : Int)
        · rw [if_pos c4] at H
          have c4b0 : decide (x5_1 < (l0.length : Int)) = true := decide_eq_true c4
          clear c4
          by_cases c5 : 0 ≤ x5_1
          · rw [if_pos c5] at H
            have c5b0 : decide (0 ≤ x5_1) = true := decide_eq_true c5
            clear c5
            by_cases c6 : x5_1 < (l1.length : Int)
            · rw [if_pos c6] at H
              have c6b0 : decide (x5_1 < (l1.length : Int)) = true := decide_eq_true c6
              clear c6
              by_cases c7 : (!(((rd_T49 l0 x5_1).f0) == ((rd_T49 l1 x5_1).f0)) || (!((((rd_T49 l0 x5_1).f1).toList) == (((rd_T49 l1 x5_1).f1).toList)) || (!(((rd_T49 l0 x5_1).f2) == ((rd_T49 l1 x5_1).f2))))) = true
              · rw [if_pos c7] at H
                have c7b0 : (!(((rd_T49 l0 x5_1).f0) == ((rd_T49 l1 x5_1).f0)) || (!((((rd_T49 l0 x5_1).f1).toList) == (((rd_T49 l1 x5_1).f1).toList)) || (!(((rd_T49 l0 x5_1).f2) == ((rd_T49 l1 x5_1).f2))))) = true := c7
                clear c7
                obtain rfl := Option.some.inj H
                have p261 : 0 ≤ (x5_1 : Int) := of_decide_eq_true (by first | (with_reducible assumption) | assumption)
                have q261 : x5_1 < (l0.length : Int) := of_decide_eq_true (by first | (with_reducible assumption) | assumption)
                obtain ⟨ad261, e261, hx261_0, hx261_1, hx261_2⟩ := at_T49 HR0.out x5_1 p261 q261
                cases e261
                replace p261 := eq_true p261
                replace q261 := eq_true q261
                have p262 : 0 ≤ (x5_1 : Int) := of_decide_eq_true (by first | (with_reducible assumption) | assumption)
                have q262 : x5_1 < (l1.length : Int) := of_decide_eq_true (by first | (with_reducible assumption) | assumption)
                obtain ⟨ad262, e262, hx262_0, hx262_1, hx262_2⟩ := at_T49 HR1.out x5_1 p262 q262
                cases e262
                replace p262 := eq_true p262
                replace q262 := eq_true q262
                go_wp2
                repeat (go_quiet (fail); try go_wp2)
                go_ret
                exact ⟨by first | rfl | (simp; done) | (simp [*]; done), by repeat (first | exact Drawn0.refl _ | apply Drawn0.step)⟩
              · rw [if_neg c7] at H
                have c7b0 : (!(((rd_T49 l0 x5_1).f0) == ((rd_T49 l1 x5_1).f0)) || (!((((rd_T49 l0 x5_1).f1).toList) == (((rd_T49 l1 x5_1).f1).toList)) || (!(((rd_T49 l0 x5_1).f2) == ((rd_T49 l1 x5_1).f2))))) = false := by simpa using c7
                clear c7
                have H' := Aside0.mk H
                clear H
                have p261 : 0 ≤ (x5_1 : Int) := of_decide_eq_true (by first | (with_reducible assumption) | assumption)
                have q261 : x5_1 < (l0.length : Int) := of_decide_eq_true (by first | (with_reducible assumption) | assumption)
                obtain ⟨ad261, e261, hx261_0, hx261_1, hx261_2⟩ := at_T49 HR0.out x5_1 p261 q261
                cases e261
                replace p261 := eq_true p261
                replace q261 := eq_true q261
                have p262 : 0 ≤ (x5_1 : Int) := of_decide_eq_true (by first | (with_reducible assumption) | assumption)
                have q262 : x5_1 < (l1.length : Int) := of_decide_eq_true (by first | (with_reducible assumption) | assumption)
                obtain ⟨ad262, e262, hx262_0, hx262_1, hx262_2⟩ := at_T49 HR1.out x5_1 p262 q262
                cases e262
                replace p262 := eq_true p262
                replace q262 := eq_true q262
                go_wp2
                repeat (go_quiet (fail); try go_wp2)
                go_roundg k1
                case measure => have := HK1.out; omega
                case rel => exact ⟨(wrap64 (x5_1 + 1)), (by first | rfl | (simp; done) | (simp [*]; done)), H', ⟨by have := HK1.out; omega⟩, by repeat (first | exact Drawn0.refl _ | apply Drawn0.step)⟩
            · rw [if_neg c6] at H
              exact absurd H (by simp)
          · rw [if_neg c5] at H
            exact absurd H (by simp)
        · rw [if_neg c4] at H
          have c4b0 : decide (x5_1 < (l0.length : Int)) = false := decide_eq_false c4
          clear c4
          obtain rfl := Option.some.inj H
          go_wp2
          repeat (go_quiet (fail); try go_wp2)
          go_ret
          exact ⟨by first | rfl | (simp; done) | (simp [*]; done), by repeat (first | exact Drawn0.refl _ | apply Drawn0.step)⟩
  · rw [if_neg c3] at H
    have c3b0 : ((l0.length : Int) == (l1.length : Int)) = false := beq_eq_false_iff_ne.mpr c3
    have c3b1 : ((l0.length : Int) != (l1.length : Int)) = true := bne_iff_ne.mpr c3
    have c3b2 : (l0.length == l1.length) = false := by first | simpa using c3 | (simp at c3 ⊢; omega)
    obtain rfl := Option.some.inj H
    go_enter Try.func18, Try.ntmps18
    go_wp2
    repeat (go_quiet (fail); try go_wp2)
    go_ret
    exact ⟨by first | rfl | (simp; done) | (simp [*]; done), by repeat (first | exact Drawn0.refl _ | apply Drawn0.step)⟩
end Go.Proofs.Ytpedlnebpibgaaa.All
end
section
namespace Go.Proofs.Ytpedlnebpibgaaa.All
open Go.RowKit Go.Proofs.YtpedlnebpibgaaaW.PrintWords Go.Proofs.YtpedlnebpibgaaaW.PrintLast Go.Proofs.YtpedlnebpibgaaaW.PrintMore
attribute [local go_sem] max2_int min2_int max_two min_two max_three min_three max_four min_four
set_option linter.unusedVariables false
set_option linter.unusedSimpArgs false
def compositorref14_Log.f (l0_0 : List (S49)) : Option ((List (S49))) := some l0_0
set_option maxHeartbeats 8000000 in
set_option maxRecDepth 100000 in
theorem compositorref14_Log.calls (P0_0_ : Nat → Prop) (u9000_ : Value) (l0_0 : List (S49)) (r : List (S49)) (w0 w : World) (hB : Below w0.heap.size w0 w) (ho0_0 : Kd.R k49 49 w w0.heap.size P0_0_ u9000_ l0_0) (h : compositorref14_Log.f l0_0 = some r) :
    Calls Try.prog 22 #[.agg #[u9000_]] w fun e w' => ∃ v0_ : Value, e = .returned (v0_) ∧ Kd.R k49 49 w' w0.heap.size (fun k_ => (P0_0_ k_ ∨ w.heap.size ≤ k_)) v0_ r ∧ Below w0.heap.size w0 w' ∧ Kept w w' (fun k_ => P0_0_ k_) := by
  have hu28 := Try.underlying28
  have HO0_0 := Aside0.mk (show Kd.R k49 49 w w0.heap.size (fun k_ => (P0_0_ k_ ∨ w.heap.size ≤ k_)) u9000_ l0_0 from Kd.R_mono ho0_0 (fun k_ hk => (.inl hk)))
  have HK := Aside0.mk (Kept.refl w (fun k_ => P0_0_ k_))
  have HW0 := Aside0.mk hB.size
  have HB := Aside0.mk hB
  clear hB
  have H : (some l0_0) = some r := h
  clear h
  obtain rfl := Option.some.inj H
  obtain ⟨Ao2, co2, eo2⟩ := Kd.R_slice HO0_0.out
  subst eo2
  go_enter Try.func22, Try.ntmps22
  go_wp2_with (first | ((with_reducible refine gate_dst (N := 1) rfl ?_); refine box_event ?hg (N := 1) ?hd (cs := #[.slice Ao2 l0_0.length co2]) (t := 28) ?hr ?_; (case hd => rfl); (case hg => rfl); (case hr => first | (go_simp; done) | (go_simp; rfl)); intro gb263 hg w3 hbox hb; have n0_ := Aside0.mk (Kd.R_below (by (with_reducible repeat (first | apply Kd.R_alloc | apply Kd.R_drewN | apply Kd.R_drew)); exact HO0_0.out) hb); have n1_ := Aside0.mk (Kept.below (S := (fun k_ => P0_0_ k_)) (by repeat (first | (with_reducible first | exact HK.out | apply Kept.alloc | apply Kept.drewN | apply Kept.drew) | exact HK.out)) hb); have n2_ := Aside0.mk (below_step (by repeat (first | (with_reducible first | exact HB.out | apply below_alloc | apply pw_below_drewN | apply below_drew1) | exact HB.out)) hb); have n3_ := Aside0.mk (hbox); have n4_ := Aside0.mk ((by rw [hg]; exact (by first | exact HK.out.1 | exact (show Kept w _ (fun k_ => P0_0_ k_) from by repeat (first | (with_reducible first | exact HK.out | apply Kept.alloc | apply Kept.drewN | apply Kept.drew) | exact HK.out)).1) : w.heap.size ≤ gb263)); have n5_ := Aside0.mk ((by rw [hg]; exact (below_size (by repeat (first | (with_reducible first | exact HB.out | apply below_alloc | apply pw_below_drewN | apply below_drew1) | exact HB.out))) : w0.heap.size ≤ gb263)); clear HO0_0; clear HK; clear HB; have HO0_0 := n0_; have HK := n1_; have HB := n2_; have BK263 := n3_; have GW263 := n4_; have GE263 := n5_; clear n0_ n1_ n2_ n3_ n4_ n5_; clear hb hbox hg; have hcz4_0 : w3.cell? ⟨gb263, 0, none⟩ = some (.slice Ao2 l0_0.length co2) := (blk_cell BK263.out 0).trans rfl; have hfz4_0 := blk_frozen BK263.out 0))
  go_ret
  exact ⟨_, by first | rfl | (simp [errW_none, errW_some] <;> rfl) | (simp [*, errW_none, errW_some] <;> rfl), by (with_reducible repeat (first | apply Kd.R_alloc | apply Kd.R_drewN | apply Kd.R_drew)); exact HO0_0.out, by repeat (first | (with_reducible first | exact HB.out | apply below_alloc | apply pw_below_drewN | apply below_drew1 | refine below_set ?_ GE263.out) | exact HB.out), by repeat (first | (with_reducible first | exact HK.out | apply Kept.alloc | apply Kept.drewN | apply Kept.drew | refine Kept.setCell ?_ (.inr GW263.out) _) | exact HK.out)⟩
end Go.Proofs.Ytpedlnebpibgaaa.All
end
section
namespace Go.Proofs.Ytpedlnebpibgaaa.All
open Go.Proofs.YtpedlnebpibgaaaSq
open Go.RowKit Go.Proofs.YtpedlnebpibgaaaW.PrintWords Go.Proofs.YtpedlnebpibgaaaW.PrintLast Go.Proofs.YtpedlnebpibgaaaW.PrintMore
attribute [local go_sem] max2_int min2_int max_two min_two max_three min_three max_four min_four
set_option linter.unusedVariables false
set_option linter.unusedSimpArgs false
section
open Go.Proofs.YtpedlnebpibgaaaHand Go.Proofs.YtpedlnebpibgaaaSq
structure S32 where
  f0 : Int
  f1 : Int
  f2 : ByteArray
  f3 : Int
def z32 : S32 := ⟨(0 : Int), (0 : Int), (⟨#[]⟩ : ByteArray), (0 : Int)⟩
def k32 : Kd S32 := Kd.iso (Kd.pair (Kd.int .i64) (Kd.pair (Kd.int .u32) (Kd.pair Kd.string (Kd.int .i64)))) (fun x : S32 => (x.f0, x.f1, x.f2, x.f3))
theorem k32_open {w : World} {x : S32} {cs : List Value} (h : k32.K w x cs) : cs = [.int .i64 x.f0, .int .u32 x.f1, .string x.f2, .int .i64 x.f3] := by
  obtain ⟨_, _, rfl, rfl, ⟨_, _, rfl, rfl, ⟨_, _, rfl, rfl, rfl⟩⟩⟩ := h
  exact rfl
def rd_T32 (xs : List S32) (i : Int) : S32 := xs.getD i.toNat z32
theorem at_T32 {w : World} {A : Option Addr} {n : Nat} {xs : List S32} (h : Kd.C k32 w A n xs) (i : Int) (h0 : 0 ≤ i) (h1 : i < n) : ∃ ad , A = some ad ∧ w.cell? (ad.add (i.toNat * 4)) = some (.int .i64 (rd_T32 xs i).f0) ∧ w.cell? ⟨(ad.add (i.toNat * 4)).block, (ad.add (i.toNat * 4)).off + 1, none⟩ = some (.int .u32 (rd_T32 xs i).f1) ∧ w.cell? ⟨(ad.add (i.toNat * 4)).block, (ad.add (i.toNat * 4)).off + 2, none⟩ = some (.string (rd_T32 xs i).f2) ∧ w.cell? ⟨(ad.add (i.toNat * 4)).block, (ad.add (i.toNat * 4)).off + 3, none⟩ = some (.int .i64 (rd_T32 xs i).f3) := by
  obtain ⟨ad, c, e, _, hK, hc0⟩ := Kd.C_get h z32 i h0 h1
  have hc : ∀ j u, c[j]? = some u → w.cell? (ad.add (i.toNat * 4 + j)) = some u := hc0
  obtain rfl := k32_open hK
  exact ⟨ad, e, hc 0 _ rfl, by rw [← add_field _ _ 1 (by omega)]; exact hc 1 _ rfl, by rw [← add_field _ _ 2 (by omega)]; exact hc 2 _ rfl, by rw [← add_field _ _ 3 (by omega)]; exact hc 3 _ rfl⟩
structure Fr where
  K : Nat → Prop
  W : World
structure RegZ (Z : Fr) (w0 w : World) (g : Nat) (last : Int) (va vr vl : Value) (qa qr ql : List S49) : Prop where
  reg : Reg w0 w g last va vr vl qa qr ql
  kp : ∀ k, Z.K k → (∃ o, w.heap[k]? = some o ∧ Z.W.heap[k]? = some o) ∧ k ≠ g ∧ va.ownBlock ≠ some k ∧ vr.ownBlock ≠ some k ∧ vl.ownBlock ≠ some k
section
variable {Z : Fr} {w0 w : World} {g : Nat} {last : Int} {va vr vl : Value} {qa qr ql : List S49}
theorem RegZ.blk (h : RegZ Z w0 w g last va vr vl qa qr ql) : w.heap[g]? = some (.cells #[.bool true, .int .u32 last, va, vr, vl] 60 (0, 0)) := h.reg.blk
theorem RegZ.low (h : RegZ Z w0 w g last va vr vl qa qr ql) : w0.heap.size ≤ g := h.reg.low
theorem RegZ.a (h : RegZ Z w0 w g last va vr vl qa qr ql) : Kd.R k49 49 w w0.heap.size (fun _ => True) va qa := h.reg.a
theorem RegZ.r (h : RegZ Z w0 w g last va vr vl qa qr ql) : Rem w w0.heap.size vr qr := h.reg.r
theorem RegZ.l (h : RegZ Z w0 w g last va vr vl qa qr ql) : Kd.R k49 49 w w0.heap.size (fun _ => True) vl ql := h.reg.l
theorem RegZ.nal (h : RegZ Z w0 w g last va vr vl qa qr ql) : ∀ k, va.ownBlock = some k → vl.ownBlock ≠ some k := h.reg.nal
theorem RegZ.nar (h : RegZ Z w0 w g last va vr vl qa qr ql) : ∀ k, va.ownBlock = some k → vr.ownBlock ≠ some k := h.reg.nar
theorem RegZ.nrl (h : RegZ Z w0 w g last va vr vl qa qr ql) : ∀ k, vr.ownBlock = some k → vl.ownBlock ≠ some k := h.reg.nrl
theorem RegZ.below (h : RegZ Z w0 w g last va vr vl qa qr ql) : Below w0.heap.size w0 w := h.reg.below
theorem RegZ.cells (h : RegZ Z w0 w g last va vr vl qa qr ql) : (w.cell? ⟨g, 0, none⟩ = some (.bool true) ∧ w.frozen? ⟨g, 0, none⟩ = false) ∧ (w.cell? ⟨g, 1, none⟩ = some (.int .u32 last) ∧ w.frozen? ⟨g, 1, none⟩ = false) ∧ (w.cell? ⟨g, 2, none⟩ = some va ∧ w.frozen? ⟨g, 2, none⟩ = false) ∧ (w.cell? ⟨g, 3, none⟩ = some vr ∧ w.frozen? ⟨g, 3, none⟩ = false) ∧ (w.cell? ⟨g, 4, none⟩ = some vl ∧ w.frozen? ⟨g, 4, none⟩ = false) := h.reg.cells
theorem RegZ.off (h : RegZ Z w0 w g last va vr vl qa qr ql) : va.ownBlock ≠ some g ∧ vr.ownBlock ≠ some g ∧ vl.ownBlock ≠ some g := h.reg.off
theorem lt_of_get {w : World} {k : Nat} {o : Obj} (h : w.heap[k]? = some o) : k < w.heap.size := by
  rw [Array.getElem?_eq_some_iff] at h
  exact h.1
theorem RegZ.kplt (h : RegZ Z w0 w g last va vr vl qa qr ql) : ∀ k, Z.K k → k < w.heap.size := by
  intro k hk
  obtain ⟨⟨o, h1, _⟩, _⟩ := h.kp k hk
  exact lt_of_get h1
theorem RegZ.after {w1 : World} (h : RegZ Z w0 w g last va vr vl qa qr ql) (hb : Below w.heap.size w w1) : RegZ Z w0 w1 g last va vr vl qa qr ql :=
  ⟨h.reg.after hb, fun k hk => by
    obtain ⟨⟨o, h1, h2⟩, h3⟩ := h.kp k hk
    exact ⟨⟨o, (hb.block k (lt_of_get h1)).trans h1, h2⟩, h3⟩⟩
theorem RegZ.drewN (h : RegZ Z w0 w g last va vr vl qa qr ql) (n : Nat) : RegZ Z w0 (w.drewN n) g last va vr vl qa qr ql := h.after (pw_below_drewN (Below.refl _ _) n)
theorem RegZ.drew (h : RegZ Z w0 w g last va vr vl qa qr ql) : RegZ Z w0 w.drew g last va vr vl qa qr ql := h.after (below_drew1 (Below.refl _ _))
theorem kp_new {w : World} {v v1 : Value} {k : Nat} (hk : v.ownBlock ≠ some k) (hlt : k < w.heap.size) (hat : v1.ownBlock = v.ownBlock ∨ ∃ b, v1.ownBlock = some b ∧ w.heap.size ≤ b) : v1.ownBlock ≠ some k := by
  intro e
  rcases hat with h | ⟨b, hb, hle⟩
  · exact hk (h.symm.trans e)
  · rw [e] at hb
    injection hb with hb
    omega
theorem RegZ.appA {w1 : World} {v1 : Value} {q1 : List S49} (h : RegZ Z w0 w g last va vr vl qa qr ql) (ho : Kd.R k49 49 w1 w0.heap.size (fun _ => True) v1 q1) (hb : Below w0.heap.size w0 w1) (hg : w.grownBy w1 va.ownBlock) (hat : v1.ownBlock = va.ownBlock ∨ ∃ b, v1.ownBlock = some b ∧ w.heap.size ≤ b) : RegZ Z w0 (w1.setCell ⟨g, 2, none⟩ v1) g last v1 vr vl q1 qr ql :=
  ⟨h.reg.appA ho hb hg hat, fun k hk => by
    obtain ⟨⟨o, h1, h2⟩, h3, h4, h5, h6⟩ := h.kp k hk
    exact ⟨⟨o, (set_same h3).trans ((hg.block k (lt_of_get h1) (fun e => h4 e.symm)).trans h1), h2⟩, h3, kp_new h4 (lt_of_get h1) hat, h5, h6⟩⟩
theorem RegZ.appL {w1 : World} {v1 : Value} {q1 : List S49} (h : RegZ Z w0 w g last va vr vl qa qr ql) (ho : Kd.R k49 49 w1 w0.heap.size (fun _ => True) v1 q1) (hb : Below w0.heap.size w0 w1) (hg : w.grownBy w1 vl.ownBlock) (hat : v1.ownBlock = vl.ownBlock ∨ ∃ b, v1.ownBlock = some b ∧ w.heap.size ≤ b) : RegZ Z w0 (w1.setCell ⟨g, 4, none⟩ v1) g last va vr v1 qa qr q1 :=
  ⟨h.reg.appL ho hb hg hat, fun k hk => by
    obtain ⟨⟨o, h1, h2⟩, h3, h4, h5, h6⟩ := h.kp k hk
    exact ⟨⟨o, (set_same h3).trans ((hg.block k (lt_of_get h1) (fun e => h6 e.symm)).trans h1), h2⟩, h3, h4, h5, kp_new h6 (lt_of_get h1) hat⟩⟩
theorem RegZ.appR {w1 : World} {v1 : Value} {q1 : List S49} (h : RegZ Z w0 w g last va vr vl qa qr ql) (ho : Kd.R k49 49 w1 w0.heap.size (fun _ => True) v1 q1) (hb : Below w0.heap.size w0 w1) (hg : w.grownBy w1 vr.ownBlock) (hat : v1.ownBlock = vr.ownBlock ∨ ∃ b, v1.ownBlock = some b ∧ w.heap.size ≤ b) : RegZ Z w0 (w1.setCell ⟨g, 3, none⟩ v1) g last va v1 vl qa q1 ql :=
  ⟨h.reg.appR ho hb hg hat, fun k hk => by
    obtain ⟨⟨o, h1, h2⟩, h3, h4, h5, h6⟩ := h.kp k hk
    exact ⟨⟨o, (set_same h3).trans ((hg.block k (lt_of_get h1) (fun e => h5 e.symm)).trans h1), h2⟩, h3, h4, kp_new h5 (lt_of_get h1) hat, h6⟩⟩
theorem RegZ.setA {v1 : Value} {q1 : List S49} (h : RegZ Z w0 w g last va vr vl qa qr ql) (ho : Kd.R k49 49 w w0.heap.size (fun _ => True) v1 q1) (h1 : ∀ k, v1.ownBlock = some k → vl.ownBlock ≠ some k ∧ vr.ownBlock ≠ some k) (h2 : ∀ k, v1.ownBlock = some k → ¬ Z.K k) : RegZ Z w0 (w.setCell ⟨g, 2, none⟩ v1) g last v1 vr vl q1 qr ql :=
  ⟨h.reg.setA ho h1, fun k hk => by
    obtain ⟨⟨o, e1, e2⟩, h3, h4, h5, h6⟩ := h.kp k hk
    exact ⟨⟨o, (set_same h3).trans e1, e2⟩, h3, fun e => h2 k e hk, h5, h6⟩⟩
theorem RegZ.setLast (h : RegZ Z w0 w g last va vr vl qa qr ql) (n : Int) : RegZ Z w0 (w.setCell ⟨g, 1, none⟩ (.int .u32 n)) g n va vr vl qa qr ql :=
  ⟨h.reg.setLast n, fun k hk => by
    obtain ⟨⟨o, e1, e2⟩, h3, h4, h5, h6⟩ := h.kp k hk
    exact ⟨⟨o, (set_same h3).trans e1, e2⟩, h3, h4, h5, h6⟩⟩
theorem RegZ.cutR (h : RegZ Z w0 w g last va vr vl qa qr ql) (hR : Kd.R k49 49 w w0.heap.size (fun _ => True) vr qr) (hl : qr.length = 17) : ∃ gb c, vr = .slice (some ⟨gb, 0, none⟩) 17 c ∧ 17 ≤ c ∧ RegZ Z w0 (w.setCell ⟨g, 3, none⟩ (.slice (some ⟨gb, 3, none⟩) 16 16)) g last va (.slice (some ⟨gb, 3, none⟩) 16 16) vl qa (qr.drop 1) ql := by
  obtain ⟨gb, c, e, hc, h1⟩ := h.reg.cutR hR hl
  refine ⟨gb, c, e, hc, h1, fun k hk => ?_⟩
  obtain ⟨⟨o, e1, e2⟩, h3, h4, h5, h6⟩ := h.kp k hk
  exact ⟨⟨o, (set_same h3).trans e1, e2⟩, h3, h4, by rw [e] at h5; simpa [Value.ownBlock] using h5, h6⟩
end
section
variable {Z : Fr} {w0 w : World} {g : Nat} {last : Int} {va vr vl : Value} {qa qr ql : List S49}
theorem RegZ.offNew {w1 : World} {k : Nat} (h : RegZ Z w0 w g last va vr vl qa qr ql) (hle : w.heap.size ≤ k) (h1 : ∃ o, w1.heap[k]? = some o) : (∃ o, w1.heap[k]? = some o) ∧ k ≠ g ∧ va.ownBlock ≠ some k ∧ vr.ownBlock ≠ some k ∧ vl.ownBlock ≠ some k :=
  ⟨h1, fun e => Nat.lt_irrefl _ (Nat.lt_of_lt_of_le (blk_lt h.blk) (e ▸ hle)), fun e => Nat.lt_irrefl _ (Nat.lt_of_lt_of_le (Kd.R_lt h.a k e) hle), fun e => Nat.lt_irrefl _ (Nat.lt_of_lt_of_le (h.r.base k e).2.1 hle), fun e => Nat.lt_irrefl _ (Nat.lt_of_lt_of_le (Kd.R_lt h.l k e) hle)⟩
end
set_option maxHeartbeats 8000000 in
set_option maxRecDepth 100000 in
theorem add_errZ (Z : Fr) (w0 w : World) (g : Nat) (last : Int) (va vr vl : Value) (qa qr ql : List S49) (s : ByteArray) (v : Int) (k : Nat) (r : Int) (hK : RegZ Z w0 w g last va vr vl qa qr ql) (hv : iface_Version.f k s = some r) (he : addErr r v qa.length ≠ 0) : Calls Try.prog 12 #[.pointer (some ⟨g, 0, none⟩), .string s, .int .i64 v] w fun e w' => e = .returned (.tuple #[.int .u32 0, .int .i64 (addErr r v qa.length)]) ∧ RegZ Z w0 w' g last va vr vl qa qr ql := by
  have hu60 := Try.underlying60
  have hu49 := Try.underlying49
  obtain ⟨Aa, ca, rfl⟩ := Kd.R_slice hK.a
  have hh := Aside0.mk hK.cells
  have HK := Aside0.mk hK
  have hV := Aside0.mk hv
  unfold addErr at he ⊢
  by_cases h1 : r = 0
  · rw [if_pos h1] at he ⊢
    have d1 : (r == 0) = true := by rw [h1]; rfl
    have hr := Aside0.mk h1
    clear he h1
    clear hK hv
    go_enter Try.func12, Try.ntmps12
    go_wp2_with (first | (go_at_call 27; (with_reducible refine (usable_is _ g true (by exact hh.out.1.1) (by exact hh.out.1.2)).mono ?_); rintro e w' ⟨rfl, ⟨nd, rfl⟩⟩))
    refine (iface_Version.calls k s r _ hV.out).mono ?_
    rintro e w2 ⟨rfl, hb2⟩
    have HK2 := Aside0.mk (HK.out.after (below_step (pw_below_drewN (Below.refl _ _) _) hb2))
    clear hb2 hh HK
    go_wp2_with fail
    go_ret2
    exact ⟨rfl, HK2.out⟩
  · rw [if_neg h1] at he ⊢
    have d1 : (r == 0) = false := beq_false_of_ne h1
    by_cases h2 : v < 1 ∨ v > r
    · rw [if_pos h2] at he ⊢
      by_cases h3 : v < 1
      · have d2 : decide (v < 1) = true := decide_eq_true h3
        clear he h2 h3
        clear hK hv
        go_enter Try.func12, Try.ntmps12
        go_wp2_with (first | (go_at_call 27; (with_reducible refine (usable_is _ g true (by exact hh.out.1.1) (by exact hh.out.1.2)).mono ?_); rintro e w' ⟨rfl, ⟨nd, rfl⟩⟩))
        refine (iface_Version.calls k s r _ hV.out).mono ?_
        rintro e w2 ⟨rfl, hb2⟩
        have HK2 := Aside0.mk (HK.out.after (below_step (pw_below_drewN (Below.refl _ _) _) hb2))
        clear hb2 hh HK
        go_wp2_with fail
        go_ret2
        exact ⟨rfl, HK2.out⟩
      · have d2 : decide (v < 1) = false := decide_eq_false h3
        have d3 : decide (r < v) = true := decide_eq_true (h2.resolve_left h3)
        clear he h2 h3
        clear hK hv
        go_enter Try.func12, Try.ntmps12
        go_wp2_with (first | (go_at_call 27; (with_reducible refine (usable_is _ g true (by exact hh.out.1.1) (by exact hh.out.1.2)).mono ?_); rintro e w' ⟨rfl, ⟨nd, rfl⟩⟩))
        refine (iface_Version.calls k s r _ hV.out).mono ?_
        rintro e w2 ⟨rfl, hb2⟩
        have HK2 := Aside0.mk (HK.out.after (below_step (pw_below_drewN (Below.refl _ _) _) hb2))
        clear hb2 hh HK
        go_wp2_with fail
        go_ret2
        exact ⟨rfl, HK2.out⟩
    · rw [if_neg h2] at he ⊢
      have d2 : decide (v < 1) = false := decide_eq_false (fun h => h2 (.inl h))
      have d3 : decide (r < v) = false := decide_eq_false (fun h => h2 (.inr h))
      by_cases h3 : (qa.length : Int) ≥ 64
      · rw [if_pos h3] at he ⊢
        have d4 : decide (64 ≤ qa.length) = true := decide_eq_true (by omega)
        have d5 : decide (64 ≤ (qa.length : Int)) = true := decide_eq_true (by omega)
        clear he h2 h3
        clear hK hv
        go_enter Try.func12, Try.ntmps12
        go_wp2_with (first | (go_at_call 27; (with_reducible refine (usable_is _ g true (by exact hh.out.1.1) (by exact hh.out.1.2)).mono ?_); rintro e w' ⟨rfl, ⟨nd, rfl⟩⟩))
        refine (iface_Version.calls k s r _ hV.out).mono ?_
        rintro e w2 ⟨rfl, hb2⟩
        have HK2 := Aside0.mk (HK.out.after (below_step (pw_below_drewN (Below.refl _ _) _) hb2))
        clear hb2 hh HK
        have z1 := HK2.out.cells.2.2.1.1
        go_wp2_with fail
        go_ret2
        exact ⟨rfl, HK2.out⟩
      · rw [if_neg h3] at he
        exact absurd rfl he
set_option maxHeartbeats 8000000 in
set_option maxRecDepth 100000 in
theorem add_okZ (Z : Fr) (w0 w : World) (g : Nat) (last : Int) (va vr vl : Value) (qa qr ql : List S49) (s : ByteArray) (v : Int) (k : Nat) (r : Int) (hK : RegZ Z w0 w g last va vr vl qa qr ql) (hv : iface_Version.f k s = some r) (he : addErr r v qa.length = 0) (hlast : 0 ≤ last) (hlast2 : last ≤ 1000000) (hq : qa.length ≤ 100000 ∧ qr.length ≤ 100000 ∧ ql.length ≤ 100000) : Calls Try.prog 12 #[.pointer (some ⟨g, 0, none⟩), .string s, .int .i64 v] w fun e w' => e = .returned (.tuple #[.int .u32 (last + 1), .int .i64 0]) ∧ ∃ va' vl', RegZ Z w0 w' g (last + 1) va' vr vl' (qa ++ [⟨last + 1, s, v⟩]) qr (ql ++ [⟨last + 1, s, v⟩]) := by
  have hu60 := Try.underlying60
  have hu49 := Try.underlying49
  obtain ⟨Aa, ca, rfl⟩ := Kd.R_slice hK.a
  have hh := Aside0.mk hK.cells
  have HK := Aside0.mk hK
  have hV := Aside0.mk hv
  unfold addErr at he
  by_cases h1 : r = 0
  · rw [if_pos h1] at he
    cases he
  rw [if_neg h1] at he
  by_cases h2 : v < 1 ∨ v > r
  · rw [if_pos h2] at he
    cases he
  rw [if_neg h2] at he
  by_cases h3 : (qa.length : Int) ≥ 64
  · rw [if_pos h3] at he
    cases he
  have d1 : (r == 0) = false := beq_false_of_ne h1
  have d2 : decide (v < 1) = false := decide_eq_false (fun h => h2 (.inl h))
  have d3 : decide (r < v) = false := decide_eq_false (fun h => h2 (.inr h))
  have d4 : decide (64 ≤ qa.length) = false := decide_eq_false (by omega)
  have d5 : decide (64 ≤ (qa.length : Int)) = false := decide_eq_false (by omega)
  have lw : (last + 1) % 4294967296 = last + 1 := by omega
  have HQ : Aside0 (qa.length ≤ 100000 ∧ qr.length ≤ 100000 ∧ ql.length ≤ 100000) := ⟨hq⟩
  clear he h1 h2 h3 hq
  clear hK hv
  go_enter Try.func12, Try.ntmps12
  go_wp2_with (first | (go_at_call 27; (with_reducible refine (usable_is _ g true (by exact hh.out.1.1) (by exact hh.out.1.2)).mono ?_); rintro e w' ⟨rfl, ⟨nd, rfl⟩⟩))
  refine (iface_Version.calls k s r _ hV.out).mono ?_
  rintro e w2 ⟨rfl, hb2⟩
  have HK2 := Aside0.mk (HK.out.after (below_step (pw_below_drewN (Below.refl _ _) _) hb2))
  clear hb2 hh HK
  have z1 := HK2.out.cells.2.2.1.1
  have z2 := HK2.out.cells.2.1.1
  have z3 := HK2.out.cells.2.1.2
  go_wp2_with fail
  have hsz : (w2.setCell ⟨g, 1, none⟩ (.int .u32 (last + 1))).heap.size = w2.heap.size := by simp [World.setCell]
  have HK3 := Aside0.mk (HK2.out.setLast (last + 1))
  obtain ⟨hR4, hb4⟩ := allocs1 (w2.setCell ⟨g, 1, none⟩ (.int .u32 (last + 1))) (Obj.cells #[.int .u32 (last + 1), .string s, .int .i64 v] 49)
  have HK5 := Aside0.mk (HK3.out.after hb4)
  rw [hsz] at hR4
  have hgz2 : Aside0 (some w2.heap.size ≠ (Value.slice Aa qa.length ca).ownBlock) := ⟨fun e => Nat.lt_irrefl _ (Kd.R_lt HK2.out.a _ e.symm)⟩
  have hgz4 : Aside0 (some w2.heap.size ≠ vl.ownBlock) := ⟨fun e => Nat.lt_irrefl _ (Kd.R_lt HK2.out.l _ e.symm)⟩
  have hgg : Aside0 (w2.heap.size ≠ g) := ⟨fun e => Nat.lt_irrefl _ (e ▸ blk_lt HK2.out.blk)⟩
  generalize (w2.setCell ⟨g, 1, none⟩ (.int .u32 (last + 1))).alloc (Obj.cells #[.int .u32 (last + 1), .string s, .int .i64 v] 49) = w5 at hR4 hb4 HK5 ⊢
  generalize w2.heap.size = gz at hR4 hgz2 hgz4 hgg ⊢
  have HG5 := Aside0.mk hR4
  clear hR4 hb4 HK3 HK2 z1 z2 z3 hsz
  have HK5d := Aside0.mk HK5.out.drew
  have HG5d := Aside0.mk (blk_drew HG5.out)
  refine start_ (n := 11) (S := fun w' => w'.cell? ⟨g, 2, none⟩ = some (.slice Aa qa.length ca) ∧ w'.frozen? ⟨g, 2, none⟩ = false ∧ w'.cell? ⟨gz, 0, none⟩ = some (.int .u32 (last + 1)) ∧ w'.cell? ⟨gz, 1, none⟩ = some (.string s) ∧ w'.cell? ⟨gz, 2, none⟩ = some (.int .i64 v)) (ds := [10]) #[false, false, false, false, false, false, false, false, false, false, false] (by kernel_rfl) rfl rfl ⟨HK5d.out.cells.2.2.1.1, HK5d.out.cells.2.2.1.2, (blk_cell HG5d.out 0).trans rfl, (blk_cell HG5d.out 1).trans rfl, (blk_cell HG5d.out 2).trans rfl⟩ (fun hHeld => ?_)
  clear HK5 HG5
  generalize w5.drew = W at HK5d HG5d hHeld ⊢
  have HT_ : Aside0 (rtab .any (opsOf Try.f12 12) = rtab .any (opsOf Try.f12 12)) := ⟨rfl⟩
  refine pv_ 0 47 #[true, false, false, false, false, false, false, false, false, false, false] HT_ ?_
  refine pv_ 1 48 #[true, true, false, false, false, false, false, false, false, false, false] HT_ ?_
  refine pv_ 2 49 #[true, true, true, false, false, false, false, false, false, false, false] HT_ ?_
  refine pv_ 3 50 #[true, true, true, true, false, false, false, false, false, false, false] HT_ ?_
  refine take_ (i := 4) (N := some 51) (v := ?_) (a' := ?_) #[true, true, true, true, true, false, false, false, false, false, false] rfl rfl (take_of HT_.out (by kernel_rfl)) (fun _ _ _ h => h) (Or.inl ⟨by rfl, ?_⟩) hHeld ?_ ?_
  rotate_left
  · rintro w' ⟨s0, s1, s2, s3, s4⟩
    go_simp
    with_reducible rfl
  rotate_left
  · simp only [Act.put, List.setIfInBounds_toArray, List.set_cons_zero, List.set_cons_succ, i64_w, i32_w]
    rfl
  refine take_ (i := 5) (N := some 52) (v := ?_) (a' := ?_) #[true, true, true, true, true, true, false, false, false, false, false] rfl rfl (take_of HT_.out (by kernel_rfl)) (fun _ _ _ h => h) (Or.inl ⟨by rfl, ?_⟩) hHeld ?_ ?_
  rotate_left
  · rintro w' ⟨s0, s1, s2, s3, s4⟩
    go_simp
    with_reducible rfl
  rotate_left
  · simp only [Act.put, List.setIfInBounds_toArray, List.set_cons_zero, List.set_cons_succ, i64_w, i32_w]
    rfl
  refine one_ (i := 6) (N := some 53) #[true, true, true, true, true, true, true, false, false, false, false] rfl rfl (one_of HT_.out (by kernel_rfl)) (by decide) (fun K hK => ?_)
  refine event_step (by rfl) (v := .slice (some ⟨W.heap.size, 0, none⟩) 1 1) (w1 := W.alloc (.cells #[.int .u32 ((⟨last + 1, s, v⟩ : S49)).f0, .string ((⟨last + 1, s, v⟩ : S49)).f1, .int .i64 ((⟨last + 1, s, v⟩ : S49)).f2] 49 (0, 0))) ?hr ?_
  case hr => first | (go_simp; done) | (go_simp; rfl)
  have HKb := Aside0.mk (HK5d.out.after (below_alloc (Below.refl _ _) (.cells #[.int .u32 ((⟨last + 1, s, v⟩ : S49)).f0, .string ((⟨last + 1, s, v⟩ : S49)).f1, .int .i64 ((⟨last + 1, s, v⟩ : S49)).f2] 49 (0, 0))))
  have HGb := Aside0.mk (blk_alloc HG5d.out (.cells #[.int .u32 ((⟨last + 1, s, v⟩ : S49)).f0, .string ((⟨last + 1, s, v⟩ : S49)).f1, .int .i64 ((⟨last + 1, s, v⟩ : S49)).f2] 49 (0, 0)))
  refine hK.out _ _ ⟨HKb.out.cells.2.2.1.1, HKb.out.cells.2.2.1.2, (blk_cell HGb.out 0).trans rfl, (blk_cell HGb.out 1).trans rfl, (blk_cell HGb.out 2).trans rfl⟩ (fun hHeld => ?_)
  clear hK K HKb HGb
  refine norm_ (a' := ?_) ?_ ?_
  rotate_left
  · show Act.put _ (some 53) _ = _
    simp only [Act.put, List.setIfInBounds_toArray, List.set_cons_zero, List.set_cons_succ, i64_w, i32_w]
    rfl
  refine one_ (i := 7) (N := some 54) #[true, true, true, true, true, true, true, true, false, false, false] rfl rfl (one_of HT_.out (by kernel_rfl)) (by decide) (fun K hK => ?_)
  refine Kd.R_append_step k49 (w0 := w0) w0.heap.size (by rfl) (.tmp 51) (.tmp 53) 26 49 (.agg #[(.int .u32 0), (.string ⟨#[]⟩), (.int .i64 0)]) 32 (by rfl) Try.underlying26 info49 rfl (by decide) (by omega) (.slice Aa qa.length ca) qa (⟨last + 1, s, v⟩ : S49) [.int .u32 ((⟨last + 1, s, v⟩ : S49)).f0, .string ((⟨last + 1, s, v⟩ : S49)).f1, .int .i64 ((⟨last + 1, s, v⟩ : S49)).f2] (fun _ => True) (fun _ => False) rfl rfl (k49_mkM _ _ _ (⟨last + 1, s, v⟩ : S49)) (fun _ hk => hk.elim) (fun _ _ => trivial) HK5d.out.a HK5d.out.below HK5d.out.below.size (by have := HQ.out; omega) ?_
  intro v3 w3 ho hb hg hat
  have HRA := Aside0.mk ho
  have HGA : Aside0 (w3.heap[gz]? = _) := ⟨blk_grown HG5d.out hg (hgz2.out)⟩
  have BKA := Aside0.mk (blk_grown HK5d.out.blk hg (Ne.symm HK5d.out.off.1))
  obtain ⟨A3, c3, e3⟩ := Kd.R_slice ho
  subst e3
  have HKA := Aside0.mk (HK5d.out.appA ho hb hg hat)
  have hatA := Aside0.mk hat
  have hszA := Aside0.mk hg.size
  have fz := blk_frozen BKA.out 2
  have cz : w3.cell? ⟨g, 2, none⟩ = some (.slice Aa qa.length ca) := (blk_cell BKA.out 2).trans rfl
  refine hK.out _ _ ⟨cz, fz, (blk_cell HGA.out 0).trans rfl, (blk_cell HGA.out 1).trans rfl, (blk_cell HGA.out 2).trans rfl⟩ (fun hHeld => ?_)
  clear hK K ho hb hg hat HK5d HG5d cz fz
  refine norm_ (a' := ?_) ?_ ?_
  rotate_left
  · show Act.put _ (some 54) _ = _
    simp only [Act.put, List.setIfInBounds_toArray, List.set_cons_zero, List.set_cons_succ, i64_w, i32_w]
    rfl
  refine pv_ 8 55 #[true, true, true, true, true, true, true, true, true, false, false] HT_ ?_
  refine pv_ 9 56 #[true, true, true, true, true, true, true, true, true, true, false] HT_ ?_
  refine last_ (i := 10) (N := none) #[true, true, true, true, true, true, true, true, true, true, true] rfl rfl (one_of HT_.out (by kernel_rfl)) (by decide) (fun K hK => ?_)
  have fz := blk_frozen BKA.out 2
  have cz : w3.cell? ⟨g, 2, none⟩ = some (.slice Aa qa.length ca) := (blk_cell BKA.out 2).trans rfl
  have HRB := HRA.out
  have HKB := HKA.out
  simp only [List.length_append, List.length_cons, List.length_nil, Nat.zero_add] at HRB HKB
  have HKC := Aside0.mk HKB
  have HRC := Aside0.mk HRB
  clear HKA HRA HRB HKB
  refine skip_ (w1 := ?_) (by rfl) rfl ?_ ?_
  rotate_left
  · go_simp
    rfl
  refine hK.out _ _ ?_
  clear hK K cz fz BKA
  refine done_ (done_of HT_.out (by kernel_rfl)) ?_
  have hne : gz ≠ g := fun e => hgg.out e
  have HG6 := Aside0.mk (blk_far HGA.out (p := ⟨g, 2, none⟩) hne (.slice A3 (qa.length + 1) c3))
  have HK6 := HKC
  clear HKC HRC HGA hatA hszA hne
  generalize w3.setCell ⟨g, 2, none⟩ (.slice A3 (qa.length + 1) c3) = w6 at HG6 HK6 ⊢
  go_wp2_with fail
  have HK6d := Aside0.mk HK6.out.drew
  have HG6d := Aside0.mk (blk_drew HG6.out)
  refine start_ (n := 11) (S := fun w' => w'.cell? ⟨g, 4, none⟩ = some vl ∧ w'.frozen? ⟨g, 4, none⟩ = false ∧ w'.cell? ⟨gz, 0, none⟩ = some (.int .u32 (last + 1)) ∧ w'.cell? ⟨gz, 1, none⟩ = some (.string s) ∧ w'.cell? ⟨gz, 2, none⟩ = some (.int .i64 v)) (ds := [10]) #[false, false, false, false, false, false, false, false, false, false, false] (by kernel_rfl) rfl rfl ⟨HK6d.out.cells.2.2.2.2.1, HK6d.out.cells.2.2.2.2.2, (blk_cell HG6d.out 0).trans rfl, (blk_cell HG6d.out 1).trans rfl, (blk_cell HG6d.out 2).trans rfl⟩ (fun hHeld => ?_)
  clear HK6 HG6
  generalize w6.drew = W at HK6d HG6d hHeld ⊢
  have HT_ : Aside0 (rtab .any (opsOf Try.f12 13) = rtab .any (opsOf Try.f12 13)) := ⟨rfl⟩
  refine pv_ 0 57 #[true, false, false, false, false, false, false, false, false, false, false] HT_ ?_
  refine pv_ 1 58 #[true, true, false, false, false, false, false, false, false, false, false] HT_ ?_
  refine pv_ 2 59 #[true, true, true, false, false, false, false, false, false, false, false] HT_ ?_
  refine pv_ 3 60 #[true, true, true, true, false, false, false, false, false, false, false] HT_ ?_
  refine take_ (i := 4) (N := some 61) (v := ?_) (a' := ?_) #[true, true, true, true, true, false, false, false, false, false, false] rfl rfl (take_of HT_.out (by kernel_rfl)) (fun _ _ _ h => h) (Or.inl ⟨by rfl, ?_⟩) hHeld ?_ ?_
  rotate_left
  · rintro w' ⟨s0, s1, s2, s3, s4⟩
    go_simp
    with_reducible rfl
  rotate_left
  · simp only [Act.put, List.setIfInBounds_toArray, List.set_cons_zero, List.set_cons_succ, i64_w, i32_w]
    rfl
  refine take_ (i := 5) (N := some 62) (v := ?_) (a' := ?_) #[true, true, true, true, true, true, false, false, false, false, false] rfl rfl (take_of HT_.out (by kernel_rfl)) (fun _ _ _ h => h) (Or.inl ⟨by rfl, ?_⟩) hHeld ?_ ?_
  rotate_left
  · rintro w' ⟨s0, s1, s2, s3, s4⟩
    go_simp
    with_reducible rfl
  rotate_left
  · simp only [Act.put, List.setIfInBounds_toArray, List.set_cons_zero, List.set_cons_succ, i64_w, i32_w]
    rfl
  refine one_ (i := 6) (N := some 63) #[true, true, true, true, true, true, true, false, false, false, false] rfl rfl (one_of HT_.out (by kernel_rfl)) (by decide) (fun K hK => ?_)
  refine event_step (by rfl) (v := .slice (some ⟨W.heap.size, 0, none⟩) 1 1) (w1 := W.alloc (.cells #[.int .u32 ((⟨last + 1, s, v⟩ : S49)).f0, .string ((⟨last + 1, s, v⟩ : S49)).f1, .int .i64 ((⟨last + 1, s, v⟩ : S49)).f2] 49 (0, 0))) ?hr ?_
  case hr => first | (go_simp; done) | (go_simp; rfl)
  have HKb := Aside0.mk (HK6d.out.after (below_alloc (Below.refl _ _) (.cells #[.int .u32 ((⟨last + 1, s, v⟩ : S49)).f0, .string ((⟨last + 1, s, v⟩ : S49)).f1, .int .i64 ((⟨last + 1, s, v⟩ : S49)).f2] 49 (0, 0))))
  have HGb := Aside0.mk (blk_alloc HG6d.out (.cells #[.int .u32 ((⟨last + 1, s, v⟩ : S49)).f0, .string ((⟨last + 1, s, v⟩ : S49)).f1, .int .i64 ((⟨last + 1, s, v⟩ : S49)).f2] 49 (0, 0)))
  refine hK.out _ _ ⟨HKb.out.cells.2.2.2.2.1, HKb.out.cells.2.2.2.2.2, (blk_cell HGb.out 0).trans rfl, (blk_cell HGb.out 1).trans rfl, (blk_cell HGb.out 2).trans rfl⟩ (fun hHeld => ?_)
  clear hK K HKb HGb
  refine norm_ (a' := ?_) ?_ ?_
  rotate_left
  · show Act.put _ (some 63) _ = _
    simp only [Act.put, List.setIfInBounds_toArray, List.set_cons_zero, List.set_cons_succ, i64_w, i32_w]
    rfl
  refine one_ (i := 7) (N := some 64) #[true, true, true, true, true, true, true, true, false, false, false] rfl rfl (one_of HT_.out (by kernel_rfl)) (by decide) (fun K hK => ?_)
  refine Kd.R_append_step k49 (w0 := w0) w0.heap.size (by rfl) (.tmp 61) (.tmp 63) 26 49 (.agg #[(.int .u32 0), (.string ⟨#[]⟩), (.int .i64 0)]) 32 (by rfl) Try.underlying26 info49 rfl (by decide) (by omega) vl ql (⟨last + 1, s, v⟩ : S49) [.int .u32 ((⟨last + 1, s, v⟩ : S49)).f0, .string ((⟨last + 1, s, v⟩ : S49)).f1, .int .i64 ((⟨last + 1, s, v⟩ : S49)).f2] (fun _ => True) (fun _ => False) rfl rfl (k49_mkM _ _ _ (⟨last + 1, s, v⟩ : S49)) (fun _ hk => hk.elim) (fun _ _ => trivial) HK6d.out.l HK6d.out.below HK6d.out.below.size (by have := HQ.out; omega) ?_
  intro v3 w3 ho hb hg hat
  have HRA := Aside0.mk ho
  have HGA : Aside0 (w3.heap[gz]? = _) := ⟨blk_grown HG6d.out hg (hgz4.out)⟩
  have BKA := Aside0.mk (blk_grown HK6d.out.blk hg (Ne.symm HK6d.out.off.2.2))
  obtain ⟨A3, c3, e3⟩ := Kd.R_slice ho
  subst e3
  have HKA := Aside0.mk (HK6d.out.appL ho hb hg hat)
  have hatA := Aside0.mk hat
  have hszA := Aside0.mk hg.size
  have fz := blk_frozen BKA.out 4
  have cz : w3.cell? ⟨g, 4, none⟩ = some vl := (blk_cell BKA.out 4).trans rfl
  refine hK.out _ _ ⟨cz, fz, (blk_cell HGA.out 0).trans rfl, (blk_cell HGA.out 1).trans rfl, (blk_cell HGA.out 2).trans rfl⟩ (fun hHeld => ?_)
  clear hK K ho hb hg hat HK6d HG6d cz fz
  refine norm_ (a' := ?_) ?_ ?_
  rotate_left
  · show Act.put _ (some 64) _ = _
    simp only [Act.put, List.setIfInBounds_toArray, List.set_cons_zero, List.set_cons_succ, i64_w, i32_w]
    rfl
  refine pv_ 8 65 #[true, true, true, true, true, true, true, true, true, false, false] HT_ ?_
  refine pv_ 9 66 #[true, true, true, true, true, true, true, true, true, true, false] HT_ ?_
  refine last_ (i := 10) (N := none) #[true, true, true, true, true, true, true, true, true, true, true] rfl rfl (one_of HT_.out (by kernel_rfl)) (by decide) (fun K hK => ?_)
  have fz := blk_frozen BKA.out 4
  have cz : w3.cell? ⟨g, 4, none⟩ = some vl := (blk_cell BKA.out 4).trans rfl
  have HRB := HRA.out
  have HKB := HKA.out
  simp only [List.length_append, List.length_cons, List.length_nil, Nat.zero_add] at HRB HKB
  have HKC := Aside0.mk HKB
  have HRC := Aside0.mk HRB
  clear HKA HRA HRB HKB
  refine skip_ (w1 := ?_) (by rfl) rfl ?_ ?_
  rotate_left
  · go_simp
    rfl
  refine hK.out _ _ ?_
  clear hK K cz fz BKA
  refine done_ (done_of HT_.out (by kernel_rfl)) ?_
  have hne : gz ≠ g := fun e => hgg.out e
  have HG7 := Aside0.mk (blk_far HGA.out (p := ⟨g, 4, none⟩) hne (.slice A3 (ql.length + 1) c3))
  clear HGA hatA hszA hne
  generalize w3.setCell ⟨g, 4, none⟩ (.slice A3 (ql.length + 1) c3) = w7 at HG7 HKC ⊢
  have z0 := (blk_cell HG7.out 0).trans rfl
  go_wp2_with fail
  go_ret2
  exact ⟨rfl, _, _, HKC.out⟩
set_option maxHeartbeats 8000000 in
set_option maxRecDepth 100000 in
theorem remove_errZ (Z : Fr) (w0 w : World) (g : Nat) (last nm : Int) (va vr vl : Value) (qa qr ql : List S49) (hK : RegZ Z w0 w g last va vr vl qa qr ql) (hq : qa.length ≤ 100000 ∧ qr.length ≤ 100000 ∧ ql.length ≤ 100000) (hn : (qa.any fun x => x.f0 == nm) = false) : Calls Try.prog 14 #[.pointer (some ⟨g, 0, none⟩), .int .u32 nm] w fun e w' => e = .returned (.int .i64 8) ∧ RegZ Z w0 w' g last va vr vl qa qr ql := by
  have hu60 := Try.underlying60
  have hu49 := Try.underlying49
  have hu26 := Try.underlying26
  obtain ⟨Aa, ca, rfl⟩ := Kd.R_slice hK.a
  have hh := Aside0.mk hK.cells
  have HK := Aside0.mk hK
  have HQ : Aside0 (qa.length ≤ 100000 ∧ qr.length ≤ 100000 ∧ ql.length ≤ 100000) := ⟨hq⟩
  have hi := Aside0.mk (idx_none (fun x : S49 => x.f0 == nm) qa 0 hn)
  clear hK hq hn
  have z1 := hh.out.2.2.1.1
  go_enter Try.func14, Try.ntmps14
  go_wp2_with (first | (go_at_call 27; (with_reducible refine (usable_is _ g true (by exact hh.out.1.1) (by exact hh.out.1.2)).mono ?_); rintro e w' ⟨rfl, ⟨nd, rfl⟩⟩))
  have HK1 := Aside0.mk (HK.out.drewN nd)
  generalize w.drewN nd = w1 at HK1 ⊢
  clear hh HK z1
  refine (find_ok Aa ca qa nm w1 (Kd.R_reads' HK1.out.a).2.2 (by have := HQ.out; omega)).mono ?_
  rintro e w2 ⟨rfl, hb2⟩
  have HK2 := Aside0.mk (HK1.out.after hb2)
  clear hb2 HK1
  rw [hi.out]
  go_wp2_with fail
  go_ret
  exact ⟨rfl, HK2.out⟩
set_option maxHeartbeats 8000000 in
set_option maxRecDepth 100000 in
theorem remove_okZ (Z : Fr) (w0 w : World) (g : Nat) (last nm : Int) (va vr vl : Value) (qa qr ql : List S49) (hK : RegZ Z w0 w g last va vr vl qa qr ql) (hq : qa.length ≤ 100000 ∧ qr.length ≤ 100000 ∧ ql.length ≤ 100000) (x : S49) (at_ : Nat) (hi0 : idxOf (fun x : S49 => x.f0 == nm) qa 0 = (at_ : Int)) (hat0 : at_ < qa.length) (hx0 : rd_T49 qa (at_ : Int) = x) (hr16 : qr.length ≤ 16) : Calls Try.prog 14 #[.pointer (some ⟨g, 0, none⟩), .int .u32 nm] w fun e w' => e = .returned (.int .i64 0) ∧ ∃ va' vr' vl', RegZ Z w0 w' g last va' vr' vl' (qa.filter fun y => !eqB y x) (keep16 (qr ++ [x])) (ql ++ [⟨x.f0, x.f1, 0⟩]) := by
  have hu60 := Try.underlying60
  have hu49 := Try.underlying49
  have hu26 := Try.underlying26
  obtain ⟨Aa, ca, rfl⟩ := Kd.R_slice hK.a
  have hh := Aside0.mk hK.cells
  have HK := Aside0.mk hK
  have HQ : Aside0 (qa.length ≤ 100000 ∧ qr.length ≤ 100000 ∧ ql.length ≤ 100000) := ⟨hq⟩
  have hi := Aside0.mk hi0
  have hA := Aside0.mk (And.intro hat0 hx0)
  have hr := Aside0.mk hr16
  have hil : (at_ : Int) < (qa.length : Int) := by omega
  clear hK hq hi0 hat0 hx0 hr16
  have z1 := hh.out.2.2.1.1
  go_enter Try.func14, Try.ntmps14
  go_wp2_with (first | (go_at_call 27; (with_reducible refine (usable_is _ g true (by exact hh.out.1.1) (by exact hh.out.1.2)).mono ?_); rintro e w' ⟨rfl, ⟨nd, rfl⟩⟩))
  have HK1 := Aside0.mk (HK.out.drewN nd)
  generalize w.drewN nd = w1 at HK1 ⊢
  clear hh HK z1
  refine (find_ok Aa ca qa nm w1 (Kd.R_reads' HK1.out.a).2.2 (by have := HQ.out; omega)).mono ?_
  rintro e w2 ⟨rfl, hb2⟩
  have HK2 := Aside0.mk (HK1.out.after hb2)
  clear hb2 HK1
  rw [hi.out]
  obtain ⟨ad, e0, x0, x1, x2⟩ := at_T49 (Kd.R_reads' HK2.out.a).2.2 (at_ : Int) (by omega) hil
  subst e0
  rw [hA.out.2] at x0 x1 x2
  simp only [Int.toNat_natCast] at x0 x1 x2
  have z2 := HK2.out.cells.2.2.1.1
  obtain ⟨hR3, hb3⟩ := allocs1 w2 (Obj.cells #[.int .u32 x.f0, .string x.f1, .int .i64 x.f2] 49)
  have HK3 := Aside0.mk (HK2.out.after hb3)
  have HG3 := Aside0.mk hR3
  have hgg : Aside0 (w2.heap.size ≠ g) := ⟨fun e => Nat.lt_irrefl _ (e ▸ blk_lt HK2.out.blk)⟩
  have hgz3 : Aside0 (some w2.heap.size ≠ vr.ownBlock) := ⟨fun e => Nat.lt_irrefl _ (HK2.out.r.base _ e.symm).2.1⟩
  have hgz4 : Aside0 (some w2.heap.size ≠ vl.ownBlock) := ⟨fun e => Nat.lt_irrefl _ (Kd.R_lt HK2.out.l _ e.symm)⟩
  have z3 : (w2.alloc (Obj.cells #[.int .u32 x.f0, .string x.f1, .int .i64 x.f2] 49)).cell? ⟨g, 2, none⟩ = some (.slice (some ad) qa.length ca) := HK3.out.cells.2.2.1.1
  have dat : decide ((at_ : Int) < 0) = false := decide_eq_false (by omega)
  clear hR3 hb3
  go_wp2_with fail
  generalize w2.alloc (Obj.cells #[.int .u32 x.f0, .string x.f1, .int .i64 x.f2] 49) = w3 at HK3 HG3 z3 ⊢
  clear z2 z3 x0 x1 x2 HK2
  generalize w2.heap.size = gz at HG3 hgg hgz3 hgz4 ⊢
  refine (clone_ok (some ad) ca qa w3 (Kd.R_reads' HK3.out.a).2.2 (Kd.R_reads' HK3.out.a).2.1 (by have := HQ.out; omega)).mono ?_
  rintro e w4 ⟨v4, rfl, hR4, hb4⟩
  obtain ⟨A4, c4, e4⟩ := Kd.R_slice hR4
  subst e4
  have HR4 := Aside0.mk hR4
  have HB4 := Aside0.mk hb4
  clear hR4 hb4
  go_wp2_with fail
  have hmem : x ∈ qa := by
    have h := hA.out.2
    rw [rd49_get qa at_ hA.out.1] at h
    rw [← h]
    exact List.getElem_mem _
  have hany : qa.any (fun y => eqB y x) = true := List.any_eq_true.2 ⟨x, hmem, by simp [eqB]⟩
  refine (delete_calls 34 Try.f34 #[.pointer (some ⟨gz, 0, none⟩)] Try.func34 (by kernel_rfl) rfl w3 w4 A4 c4 qa HR4.out HB4.out (by have := HQ.out; omega) (fun y => eqB y x) hany (fun y W hW => rem1_ok W gz y x (blk_below HG3.out hW))).mono ?_
  clear hany hmem
  rintro e w5 ⟨v5, rfl, hR5, hb5⟩
  obtain ⟨A5, c5, e5⟩ := Kd.R_slice hR5
  subst e5
  have hsep : Aside0 (∀ k, (Value.slice A5 (qa.filter fun y => !eqB y x).length c5).ownBlock = some k → vl.ownBlock ≠ some k ∧ vr.ownBlock ≠ some k) := ⟨fun k hk => ⟨fun e => Nat.lt_irrefl _ (Nat.lt_of_lt_of_le (Kd.R_lt HK3.out.l k e) (Kd.R_base hR5 k hk)), fun e => Nat.lt_irrefl _ (Nat.lt_of_lt_of_le (HK3.out.r.base k e).2.1 (Kd.R_base hR5 k hk))⟩⟩
  have hsepZ : Aside0 (∀ k, (Value.slice A5 (qa.filter fun y => !eqB y x).length c5).ownBlock = some k → ¬ Z.K k) := ⟨fun k hk e => Nat.lt_irrefl _ (Nat.lt_of_lt_of_le (HK3.out.kplt k e) (Kd.R_base hR5 k hk))⟩
  have HKs := Aside0.mk (HK3.out.after hb5)
  have HG4 := Aside0.mk (blk_below HG3.out hb5)
  have HR5 := Aside0.mk (Kd.R_lower hR5 HK3.out.below.size)
  have z4 := HKs.out.cells.2.2.1
  obtain ⟨z5, z6⟩ := z4
  clear hR5 hb5 HR4 HB4 HK3 HG3
  have HK5 := Aside0.mk (HKs.out.setA HR5.out hsep.out hsepZ.out)
  have HG5 := Aside0.mk (blk_far HG4.out (p := ⟨g, 2, none⟩) hgg.out (.slice A5 (qa.filter fun y => !eqB y x).length c5))
  obtain ⟨qf, hqf⟩ : ∃ qf, qf = qa.filter (fun y => !eqB y x) := ⟨_, rfl⟩
  rw [← hqf] at HK5 HG5 HR5 hsep ⊢
  have HQF := Aside0.mk hqf
  clear hqf
  go_wp2_with fail
  generalize w5.setCell ⟨g, 2, none⟩ (.slice A5 qf.length c5) = w6 at HK5 HG5 ⊢
  clear z5 z6 HKs HG4 HR5 hsep
  have HK5d := Aside0.mk HK5.out.drew
  have HG5d := Aside0.mk (blk_drew HG5.out)
  refine start_ (n := 11) (S := fun w' => w'.cell? ⟨g, 3, none⟩ = some vr ∧ w'.frozen? ⟨g, 3, none⟩ = false ∧ w'.cell? ⟨gz, 0, none⟩ = some (.int .u32 x.f0) ∧ w'.cell? ⟨gz, 1, none⟩ = some (.string x.f1) ∧ w'.cell? ⟨gz, 2, none⟩ = some (.int .i64 x.f2)) (ds := [10]) #[false, false, false, false, false, false, false, false, false, false, false] (by kernel_rfl) rfl rfl ⟨HK5d.out.cells.2.2.2.1.1, HK5d.out.cells.2.2.2.1.2, (blk_cell HG5d.out 0).trans rfl, (blk_cell HG5d.out 1).trans rfl, (blk_cell HG5d.out 2).trans rfl⟩ (fun hHeld => ?_)
  clear HK5 HG5
  generalize w6.drew = W at HK5d HG5d hHeld ⊢
  have HT_ : Aside0 (rtab .any (opsOf Try.f14 8) = rtab .any (opsOf Try.f14 8)) := ⟨rfl⟩
  refine pv_ 0 36 #[true, false, false, false, false, false, false, false, false, false, false] HT_ ?_
  refine pv_ 1 37 #[true, true, false, false, false, false, false, false, false, false, false] HT_ ?_
  refine pv_ 2 38 #[true, true, true, false, false, false, false, false, false, false, false] HT_ ?_
  refine pv_ 3 39 #[true, true, true, true, false, false, false, false, false, false, false] HT_ ?_
  refine take_ (i := 4) (N := some 40) (v := ?_) (a' := ?_) #[true, true, true, true, true, false, false, false, false, false, false] rfl rfl (take_of HT_.out (by kernel_rfl)) (fun _ _ _ h => h) (Or.inl ⟨by rfl, ?_⟩) hHeld ?_ ?_
  rotate_left
  · rintro w' ⟨s0, s1, s2, s3, s4⟩
    go_simp
    with_reducible rfl
  rotate_left
  · simp only [Act.put, List.setIfInBounds_toArray, List.set_cons_zero, List.set_cons_succ, i64_w, i32_w]
    rfl
  refine take_ (i := 5) (N := some 41) (v := ?_) (a' := ?_) #[true, true, true, true, true, true, false, false, false, false, false] rfl rfl (take_of HT_.out (by kernel_rfl)) (fun _ _ _ h => h) (Or.inl ⟨by rfl, ?_⟩) hHeld ?_ ?_
  rotate_left
  · rintro w' ⟨s0, s1, s2, s3, s4⟩
    go_simp
    with_reducible rfl
  rotate_left
  · simp only [Act.put, List.setIfInBounds_toArray, List.set_cons_zero, List.set_cons_succ, i64_w, i32_w]
    rfl
  refine one_ (i := 6) (N := some 42) #[true, true, true, true, true, true, true, false, false, false, false] rfl rfl (one_of HT_.out (by kernel_rfl)) (by decide) (fun K hK => ?_)
  refine event_step (by rfl) (v := .slice (some ⟨W.heap.size, 0, none⟩) 1 1) (w1 := W.alloc (.cells #[.int .u32 (x).f0, .string (x).f1, .int .i64 (x).f2] 49 (0, 0))) ?hr ?_
  case hr => first | (go_simp; done) | (go_simp; rfl)
  have HKb := Aside0.mk (HK5d.out.after (below_alloc (Below.refl _ _) (.cells #[.int .u32 (x).f0, .string (x).f1, .int .i64 (x).f2] 49 (0, 0))))
  have HGb := Aside0.mk (blk_alloc HG5d.out (.cells #[.int .u32 (x).f0, .string (x).f1, .int .i64 (x).f2] 49 (0, 0)))
  refine hK.out _ _ ⟨HKb.out.cells.2.2.2.1.1, HKb.out.cells.2.2.2.1.2, (blk_cell HGb.out 0).trans rfl, (blk_cell HGb.out 1).trans rfl, (blk_cell HGb.out 2).trans rfl⟩ (fun hHeld => ?_)
  clear hK K HKb HGb
  refine norm_ (a' := ?_) ?_ ?_
  rotate_left
  · show Act.put _ (some 42) _ = _
    simp only [Act.put, List.setIfInBounds_toArray, List.set_cons_zero, List.set_cons_succ, i64_w, i32_w]
    rfl
  refine one_ (i := 7) (N := some 43) #[true, true, true, true, true, true, true, true, false, false, false] rfl rfl (one_of HT_.out (by kernel_rfl)) (by decide) (fun K hK => ?_)
  refine Rem_append_step (w0 := w0) (by rfl) (.tmp 40) (.tmp 42) (by rfl) vr qr x rfl rfl HK5d.out.r HK5d.out.below (by have := HQ.out; omega) ?_
  intro v3 w3 ho hb hg hat
  have HRA := Aside0.mk ho
  have HGA : Aside0 (w3.heap[gz]? = _) := ⟨blk_grown HG5d.out hg (hgz3.out)⟩
  have BKA := Aside0.mk (blk_grown HK5d.out.blk hg (Ne.symm HK5d.out.off.2.1))
  obtain ⟨A3, c3, e3⟩ := Kd.R_slice ho
  subst e3
  have HKA := Aside0.mk (HK5d.out.appR ho hb hg hat)
  have hatA := Aside0.mk hat
  have hszA := Aside0.mk hg.size
  have fz := blk_frozen BKA.out 3
  have cz : w3.cell? ⟨g, 3, none⟩ = some vr := (blk_cell BKA.out 3).trans rfl
  refine hK.out _ _ ⟨cz, fz, (blk_cell HGA.out 0).trans rfl, (blk_cell HGA.out 1).trans rfl, (blk_cell HGA.out 2).trans rfl⟩ (fun hHeld => ?_)
  clear hK K ho hb hg hat HK5d HG5d cz fz
  refine norm_ (a' := ?_) ?_ ?_
  rotate_left
  · show Act.put _ (some 43) _ = _
    simp only [Act.put, List.setIfInBounds_toArray, List.set_cons_zero, List.set_cons_succ, i64_w, i32_w]
    rfl
  refine pv_ 8 44 #[true, true, true, true, true, true, true, true, true, false, false] HT_ ?_
  refine pv_ 9 45 #[true, true, true, true, true, true, true, true, true, true, false] HT_ ?_
  refine last_ (i := 10) (N := none) #[true, true, true, true, true, true, true, true, true, true, true] rfl rfl (one_of HT_.out (by kernel_rfl)) (by decide) (fun K hK => ?_)
  have fz := blk_frozen BKA.out 3
  have cz : w3.cell? ⟨g, 3, none⟩ = some vr := (blk_cell BKA.out 3).trans rfl
  have HRB := HRA.out
  have HKB := HKA.out
  simp only [List.length_append, List.length_cons, List.length_nil, Nat.zero_add] at HRB HKB
  have HKC := Aside0.mk HKB
  have HRC := Aside0.mk HRB
  clear HKA HRA HRB HKB
  refine skip_ (w1 := ?_) (by rfl) rfl ?_ ?_
  rotate_left
  · go_simp
    rfl
  refine hK.out _ _ ?_
  clear hK K cz fz BKA
  refine done_ (done_of HT_.out (by kernel_rfl)) ?_
  have HG7 := Aside0.mk (blk_far HGA.out (p := ⟨g, 3, none⟩) hgg.out (.slice A3 (qr.length + 1) c3))
  have HRR : Aside0 (Kd.R k49 49 (w3.setCell ⟨g, 3, none⟩ (.slice A3 (qr.length + 1) c3)) w0.heap.size (fun _ => True) (.slice A3 (qr.length + 1) c3) (qr ++ [x])) := ⟨R_same HRC.out (fun k hk => set_same (fun e => HKC.out.off.2.1 (e ▸ hk)))⟩
  clear HGA hatA hszA HRC
  generalize w3.setCell ⟨g, 3, none⟩ (.slice A3 (qr.length + 1) c3) = w7 at HG7 HKC HRR ⊢
  have z0 := HKC.out.cells.2.2.2.1.1
  have z1 := HKC.out.cells.2.2.2.1.2
  by_cases h16 : qr.length = 16
  · obtain ⟨gb, c, hv3, h17, hcut⟩ := HKC.out.cutR HRR.out (by rw [List.length_append, h16]; rfl)
    have e17 : qr.length + 1 = 17 := by omega
    rw [e17] at hv3 z0 HKC HRR
    injection hv3 with hA3 _ hc3
    subst hA3
    have HC := Aside0.mk hcut
    have HG9 := Aside0.mk (blk_far HG7.out (p := ⟨g, 3, none⟩) hgg.out (.slice (some ⟨gb, 3, none⟩) 16 16))
    have h17' : ¬ c3 < 17 := by omega
    have h17a : 17 ≤ c3 := by omega
    have hk16 : Aside0 (keep16 (qr ++ [x]) = (qr ++ [x]).drop 1) := ⟨by unfold keep16; rw [if_pos (by rw [List.length_append, h16, List.length_singleton]; decide)]⟩
    clear hcut HKC HRR HG7 h17 hc3 e17 h16
    go_wp2_with fail
    generalize w7.setCell ⟨g, 3, none⟩ (.slice (some ⟨gb, 3, none⟩) 16 16) = w9 at HC HG9 ⊢
    have HK9 := HC
    clear HC z0 z1 h17' h17a
    have HK9d := Aside0.mk HK9.out.drew
    have HG9d := Aside0.mk (blk_drew HG9.out)
    refine start_ (n := 15) (S := fun w' => w'.cell? ⟨g, 4, none⟩ = some vl ∧ w'.frozen? ⟨g, 4, none⟩ = false ∧ w'.cell? ⟨gz, 0, none⟩ = some (.int .u32 x.f0) ∧ w'.cell? ⟨gz, 1, none⟩ = some (.string x.f1) ∧ w'.cell? ⟨gz, 2, none⟩ = some (.int .i64 x.f2)) (ds := [14]) #[false, false, false, false, false, false, false, false, false, false, false, false, false, false, false] (by kernel_rfl) rfl rfl ⟨HK9d.out.cells.2.2.2.2.1, HK9d.out.cells.2.2.2.2.2, (blk_cell HG9d.out 0).trans rfl, (blk_cell HG9d.out 1).trans rfl, (blk_cell HG9d.out 2).trans rfl⟩ (fun hHeld => ?_)
    clear HK9 HG9
    generalize w9.drew = W at HK9d HG9d hHeld ⊢
    have HT_ : Aside0 (rtab .any (opsOf Try.f14 12) = rtab .any (opsOf Try.f14 12)) := ⟨rfl⟩
    refine pv_ 0 65 #[true, false, false, false, false, false, false, false, false, false, false, false, false, false, false] HT_ ?_
    refine pv_ 1 66 #[true, true, false, false, false, false, false, false, false, false, false, false, false, false, false] HT_ ?_
    refine pv_ 2 67 #[true, true, true, false, false, false, false, false, false, false, false, false, false, false, false] HT_ ?_
    refine pv_ 3 68 #[true, true, true, true, false, false, false, false, false, false, false, false, false, false, false] HT_ ?_
    refine take_ (i := 4) (N := some 69) (v := ?_) (a' := ?_) #[true, true, true, true, true, false, false, false, false, false, false, false, false, false, false] rfl rfl (take_of HT_.out (by kernel_rfl)) (fun _ _ _ h => h) (Or.inl ⟨by rfl, ?_⟩) hHeld ?_ ?_
    rotate_left
    · rintro w' ⟨s0, s1, s2, s3, s4⟩
      go_simp
      with_reducible rfl
    rotate_left
    · simp only [Act.put, List.setIfInBounds_toArray, List.set_cons_zero, List.set_cons_succ, i64_w, i32_w]
      rfl
    refine pv_ 5 70 #[true, true, true, true, true, true, false, false, false, false, false, false, false, false, false] HT_ ?_
    refine take_ (i := 6) (N := some 71) (v := ?_) (a' := ?_) #[true, true, true, true, true, true, true, false, false, false, false, false, false, false, false] rfl rfl (take_of HT_.out (by kernel_rfl)) (fun _ _ _ h => h) (Or.inl ⟨by rfl, ?_⟩) hHeld ?_ ?_
    rotate_left
    · rintro w' ⟨s0, s1, s2, s3, s4⟩
      go_simp
      with_reducible rfl
    rotate_left
    · simp only [Act.put, List.setIfInBounds_toArray, List.set_cons_zero, List.set_cons_succ, i64_w, i32_w]
      rfl
    refine pv_ 7 72 #[true, true, true, true, true, true, true, true, false, false, false, false, false, false, false] HT_ ?_
    refine take_ (i := 8) (N := some 73) (v := ?_) (a' := ?_) #[true, true, true, true, true, true, true, true, true, false, false, false, false, false, false] rfl rfl (take_of HT_.out (by kernel_rfl)) (fun _ _ _ h => h) (Or.inl ⟨by rfl, ?_⟩) hHeld ?_ ?_
    rotate_left
    · rintro w' ⟨s0, s1, s2, s3, s4⟩
      go_simp
      with_reducible rfl
    rotate_left
    · simp only [Act.put, List.setIfInBounds_toArray, List.set_cons_zero, List.set_cons_succ, i64_w, i32_w]
      rfl
    refine pv_ 9 74 #[true, true, true, true, true, true, true, true, true, true, false, false, false, false, false] HT_ ?_
    refine one_ (i := 10) (N := some 75) #[true, true, true, true, true, true, true, true, true, true, true, false, false, false, false] rfl rfl (one_of HT_.out (by kernel_rfl)) (by decide) (fun K hK => ?_)
    refine event_step (by rfl) (v := .slice (some ⟨W.heap.size, 0, none⟩) 1 1) (w1 := W.alloc (.cells #[.int .u32 ((⟨x.f0, x.f1, 0⟩ : S49)).f0, .string ((⟨x.f0, x.f1, 0⟩ : S49)).f1, .int .i64 ((⟨x.f0, x.f1, 0⟩ : S49)).f2] 49 (0, 0))) ?hr ?_
    case hr => first | (go_simp; done) | (go_simp; rfl)
    have HKb := Aside0.mk (HK9d.out.after (below_alloc (Below.refl _ _) (.cells #[.int .u32 ((⟨x.f0, x.f1, 0⟩ : S49)).f0, .string ((⟨x.f0, x.f1, 0⟩ : S49)).f1, .int .i64 ((⟨x.f0, x.f1, 0⟩ : S49)).f2] 49 (0, 0))))
    have HGb := Aside0.mk (blk_alloc HG9d.out (.cells #[.int .u32 ((⟨x.f0, x.f1, 0⟩ : S49)).f0, .string ((⟨x.f0, x.f1, 0⟩ : S49)).f1, .int .i64 ((⟨x.f0, x.f1, 0⟩ : S49)).f2] 49 (0, 0)))
    refine hK.out _ _ ⟨HKb.out.cells.2.2.2.2.1, HKb.out.cells.2.2.2.2.2, (blk_cell HGb.out 0).trans rfl, (blk_cell HGb.out 1).trans rfl, (blk_cell HGb.out 2).trans rfl⟩ (fun hHeld => ?_)
    clear hK K HKb HGb
    refine norm_ (a' := ?_) ?_ ?_
    rotate_left
    · show Act.put _ (some 75) _ = _
      simp only [Act.put, List.setIfInBounds_toArray, List.set_cons_zero, List.set_cons_succ, i64_w, i32_w]
      rfl
    refine one_ (i := 11) (N := some 76) #[true, true, true, true, true, true, true, true, true, true, true, true, false, false, false] rfl rfl (one_of HT_.out (by kernel_rfl)) (by decide) (fun K hK => ?_)
    refine Kd.R_append_step k49 (w0 := w0) w0.heap.size (by rfl) (.tmp 69) (.tmp 75) 26 49 (.agg #[(.int .u32 0), (.string ⟨#[]⟩), (.int .i64 0)]) 32 (by rfl) Try.underlying26 info49 rfl (by decide) (by omega) vl ql (⟨x.f0, x.f1, 0⟩ : S49) [.int .u32 ((⟨x.f0, x.f1, 0⟩ : S49)).f0, .string ((⟨x.f0, x.f1, 0⟩ : S49)).f1, .int .i64 ((⟨x.f0, x.f1, 0⟩ : S49)).f2] (fun _ => True) (fun _ => False) rfl rfl (k49_mkM _ _ _ (⟨x.f0, x.f1, 0⟩ : S49)) (fun _ hk => hk.elim) (fun _ _ => trivial) HK9d.out.l HK9d.out.below HK9d.out.below.size (by have := HQ.out; omega) ?_
    intro v3 w3 ho hb hg hat
    have HRA := Aside0.mk ho
    have HGA : Aside0 (w3.heap[gz]? = _) := ⟨blk_grown HG9d.out hg (hgz4.out)⟩
    have BKA := Aside0.mk (blk_grown HK9d.out.blk hg (Ne.symm HK9d.out.off.2.2))
    obtain ⟨A3, c3, e3⟩ := Kd.R_slice ho
    subst e3
    have HKA := Aside0.mk (HK9d.out.appL ho hb hg hat)
    have hatA := Aside0.mk hat
    have hszA := Aside0.mk hg.size
    have fz := blk_frozen BKA.out 4
    have cz : w3.cell? ⟨g, 4, none⟩ = some vl := (blk_cell BKA.out 4).trans rfl
    refine hK.out _ _ ⟨cz, fz, (blk_cell HGA.out 0).trans rfl, (blk_cell HGA.out 1).trans rfl, (blk_cell HGA.out 2).trans rfl⟩ (fun hHeld => ?_)
    clear hK K ho hb hg hat HK9d HG9d cz fz
    refine norm_ (a' := ?_) ?_ ?_
    rotate_left
    · show Act.put _ (some 76) _ = _
      simp only [Act.put, List.setIfInBounds_toArray, List.set_cons_zero, List.set_cons_succ, i64_w, i32_w]
      rfl
    refine pv_ 12 77 #[true, true, true, true, true, true, true, true, true, true, true, true, true, false, false] HT_ ?_
    refine pv_ 13 78 #[true, true, true, true, true, true, true, true, true, true, true, true, true, true, false] HT_ ?_
    refine last_ (i := 14) (N := none) #[true, true, true, true, true, true, true, true, true, true, true, true, true, true, true] rfl rfl (one_of HT_.out (by kernel_rfl)) (by decide) (fun K hK => ?_)
    have fz := blk_frozen BKA.out 4
    have cz : w3.cell? ⟨g, 4, none⟩ = some vl := (blk_cell BKA.out 4).trans rfl
    have HRB := HRA.out
    have HKB := HKA.out
    simp only [List.length_append, List.length_cons, List.length_nil, Nat.zero_add] at HRB HKB
    have HKC := Aside0.mk HKB
    have HRC := Aside0.mk HRB
    clear HKA HRA HRB HKB
    refine skip_ (w1 := ?_) (by rfl) rfl ?_ ?_
    rotate_left
    · go_simp
      rfl
    refine hK.out _ _ ?_
    clear hK K cz fz BKA
    refine done_ (done_of HT_.out (by kernel_rfl)) ?_
    generalize w3.setCell ⟨g, 4, none⟩ (.slice A3 (ql.length + 1) c3) = wz at HKC ⊢
    go_wp2_with fail
    go_ret
    exact ⟨rfl, _, _, _, by rw [hk16.out, ← HQF.out]; exact HKC.out⟩
  · have d1 : decide (16 < qr.length + 1) = false := decide_eq_false (by have := hr.out; omega)
    have d2 : decide ((16 : Int) < (qr.length : Int) + 1) = false := decide_eq_false (by have := hr.out; omega)
    have d3 : decide ((16 : Int) < ((qr.length + 1 : Nat) : Int)) = false := decide_eq_false (by have := hr.out; omega)
    have hk16 : Aside0 (keep16 (qr ++ [x]) = qr ++ [x]) := ⟨by unfold keep16; rw [if_neg (by rw [List.length_append, List.length_singleton]; have := hr.out; omega)]⟩
    clear h16 HRR
    go_wp2_with fail
    have HK9 := HKC
    have HG9 := HG7
    clear HKC HG7 z0 z1 d1 d2 d3
    have HK9d := Aside0.mk HK9.out.drew
    have HG9d := Aside0.mk (blk_drew HG9.out)
    refine start_ (n := 15) (S := fun w' => w'.cell? ⟨g, 4, none⟩ = some vl ∧ w'.frozen? ⟨g, 4, none⟩ = false ∧ w'.cell? ⟨gz, 0, none⟩ = some (.int .u32 x.f0) ∧ w'.cell? ⟨gz, 1, none⟩ = some (.string x.f1) ∧ w'.cell? ⟨gz, 2, none⟩ = some (.int .i64 x.f2)) (ds := [14]) #[false, false, false, false, false, false, false, false, false, false, false, false, false, false, false] (by kernel_rfl) rfl rfl ⟨HK9d.out.cells.2.2.2.2.1, HK9d.out.cells.2.2.2.2.2, (blk_cell HG9d.out 0).trans rfl, (blk_cell HG9d.out 1).trans rfl, (blk_cell HG9d.out 2).trans rfl⟩ (fun hHeld => ?_)
    clear HK9 HG9
    generalize w7.drew = W at HK9d HG9d hHeld ⊢
    have HT_ : Aside0 (rtab .any (opsOf Try.f14 12) = rtab .any (opsOf Try.f14 12)) := ⟨rfl⟩
    refine pv_ 0 65 #[true, false, false, false, false, false, false, false, false, false, false, false, false, false, false] HT_ ?_
    refine pv_ 1 66 #[true, true, false, false, false, false, false, false, false, false, false, false, false, false, false] HT_ ?_
    refine pv_ 2 67 #[true, true, true, false, false, false, false, false, false, false, false, false, false, false, false] HT_ ?_
    refine pv_ 3 68 #[true, true, true, true, false, false, false, false, false, false, false, false, false, false, false] HT_ ?_
    refine take_ (i := 4) (N := some 69) (v := ?_) (a' := ?_) #[true, true, true, true, true, false, false, false, false, false, false, false, false, false, false] rfl rfl (take_of HT_.out (by kernel_rfl)) (fun _ _ _ h => h) (Or.inl ⟨by rfl, ?_⟩) hHeld ?_ ?_
    rotate_left
    · rintro w' ⟨s0, s1, s2, s3, s4⟩
      go_simp
      with_reducible rfl
    rotate_left
    · simp only [Act.put, List.setIfInBounds_toArray, List.set_cons_zero, List.set_cons_succ, i64_w, i32_w]
      rfl
    refine pv_ 5 70 #[true, true, true, true, true, true, false, false, false, false, false, false, false, false, false] HT_ ?_
    refine take_ (i := 6) (N := some 71) (v := ?_) (a' := ?_) #[true, true, true, true, true, true, true, false, false, false, false, false, false, false, false] rfl rfl (take_of HT_.out (by kernel_rfl)) (fun _ _ _ h => h) (Or.inl ⟨by rfl, ?_⟩) hHeld ?_ ?_
    rotate_left
    · rintro w' ⟨s0, s1, s2, s3, s4⟩
      go_simp
      with_reducible rfl
    rotate_left
    · simp only [Act.put, List.setIfInBounds_toArray, List.set_cons_zero, List.set_cons_succ, i64_w, i32_w]
      rfl
    refine pv_ 7 72 #[true, true, true, true, true, true, true, true, false, false, false, false, false, false, false] HT_ ?_
    refine take_ (i := 8) (N := some 73) (v := ?_) (a' := ?_) #[true, true, true, true, true, true, true, true, true, false, false, false, false, false, false] rfl rfl (take_of HT_.out (by kernel_rfl)) (fun _ _ _ h => h) (Or.inl ⟨by rfl, ?_⟩) hHeld ?_ ?_
    rotate_left
    · rintro w' ⟨s0, s1, s2, s3, s4⟩
      go_simp
      with_reducible rfl
    rotate_left
    · simp only [Act.put, List.setIfInBounds_toArray, List.set_cons_zero, List.set_cons_succ, i64_w, i32_w]
      rfl
    refine pv_ 9 74 #[true, true, true, true, true, true, true, true, true, true, false, false, false, false, false] HT_ ?_
    refine one_ (i := 10) (N := some 75) #[true, true, true, true, true, true, true, true, true, true, true, false, false, false, false] rfl rfl (one_of HT_.out (by kernel_rfl)) (by decide) (fun K hK => ?_)
    refine event_step (by rfl) (v := .slice (some ⟨W.heap.size, 0, none⟩) 1 1) (w1 := W.alloc (.cells #[.int .u32 ((⟨x.f0, x.f1, 0⟩ : S49)).f0, .string ((⟨x.f0, x.f1, 0⟩ : S49)).f1, .int .i64 ((⟨x.f0, x.f1, 0⟩ : S49)).f2] 49 (0, 0))) ?hr ?_
    case hr => first | (go_simp; done) | (go_simp; rfl)
    have HKb := Aside0.mk (HK9d.out.after (below_alloc (Below.refl _ _) (.cells #[.int .u32 ((⟨x.f0, x.f1, 0⟩ : S49)).f0, .string ((⟨x.f0, x.f1, 0⟩ : S49)).f1, .int .i64 ((⟨x.f0, x.f1, 0⟩ : S49)).f2] 49 (0, 0))))
    have HGb := Aside0.mk (blk_alloc HG9d.out (.cells #[.int .u32 ((⟨x.f0, x.f1, 0⟩ : S49)).f0, .string ((⟨x.f0, x.f1, 0⟩ : S49)).f1, .int .i64 ((⟨x.f0, x.f1, 0⟩ : S49)).f2] 49 (0, 0)))
    refine hK.out _ _ ⟨HKb.out.cells.2.2.2.2.1, HKb.out.cells.2.2.2.2.2, (blk_cell HGb.out 0).trans rfl, (blk_cell HGb.out 1).trans rfl, (blk_cell HGb.out 2).trans rfl⟩ (fun hHeld => ?_)
    clear hK K HKb HGb
    refine norm_ (a' := ?_) ?_ ?_
    rotate_left
    · show Act.put _ (some 75) _ = _
      simp only [Act.put, List.setIfInBounds_toArray, List.set_cons_zero, List.set_cons_succ, i64_w, i32_w]
      rfl
    refine one_ (i := 11) (N := some 76) #[true, true, true, true, true, true, true, true, true, true, true, true, false, false, false] rfl rfl (one_of HT_.out (by kernel_rfl)) (by decide) (fun K hK => ?_)
    refine Kd.R_append_step k49 (w0 := w0) w0.heap.size (by rfl) (.tmp 69) (.tmp 75) 26 49 (.agg #[(.int .u32 0), (.string ⟨#[]⟩), (.int .i64 0)]) 32 (by rfl) Try.underlying26 info49 rfl (by decide) (by omega) vl ql (⟨x.f0, x.f1, 0⟩ : S49) [.int .u32 ((⟨x.f0, x.f1, 0⟩ : S49)).f0, .string ((⟨x.f0, x.f1, 0⟩ : S49)).f1, .int .i64 ((⟨x.f0, x.f1, 0⟩ : S49)).f2] (fun _ => True) (fun _ => False) rfl rfl (k49_mkM _ _ _ (⟨x.f0, x.f1, 0⟩ : S49)) (fun _ hk => hk.elim) (fun _ _ => trivial) HK9d.out.l HK9d.out.below HK9d.out.below.size (by have := HQ.out; omega) ?_
    intro v3 w3 ho hb hg hat
    have HRA := Aside0.mk ho
    have HGA : Aside0 (w3.heap[gz]? = _) := ⟨blk_grown HG9d.out hg (hgz4.out)⟩
    have BKA := Aside0.mk (blk_grown HK9d.out.blk hg (Ne.symm HK9d.out.off.2.2))
    obtain ⟨A3, c3, e3⟩ := Kd.R_slice ho
    subst e3
    have HKA := Aside0.mk (HK9d.out.appL ho hb hg hat)
    have hatA := Aside0.mk hat
    have hszA := Aside0.mk hg.size
    have fz := blk_frozen BKA.out 4
    have cz : w3.cell? ⟨g, 4, none⟩ = some vl := (blk_cell BKA.out 4).trans rfl
    refine hK.out _ _ ⟨cz, fz, (blk_cell HGA.out 0).trans rfl, (blk_cell HGA.out 1).trans rfl, (blk_cell HGA.out 2).trans rfl⟩ (fun hHeld => ?_)
    clear hK K ho hb hg hat HK9d HG9d cz fz
    refine norm_ (a' := ?_) ?_ ?_
    rotate_left
    · show Act.put _ (some 76) _ = _
      simp only [Act.put, List.setIfInBounds_toArray, List.set_cons_zero, List.set_cons_succ, i64_w, i32_w]
      rfl
    refine pv_ 12 77 #[true, true, true, true, true, true, true, true, true, true, true, true, true, false, false] HT_ ?_
    refine pv_ 13 78 #[true, true, true, true, true, true, true, true, true, true, true, true, true, true, false] HT_ ?_
    refine last_ (i := 14) (N := none) #[true, true, true, true, true, true, true, true, true, true, true, true, true, true, true] rfl rfl (one_of HT_.out (by kernel_rfl)) (by decide) (fun K hK => ?_)
    have fz := blk_frozen BKA.out 4
    have cz : w3.cell? ⟨g, 4, none⟩ = some vl := (blk_cell BKA.out 4).trans rfl
    have HRB := HRA.out
    have HKB := HKA.out
    simp only [List.length_append, List.length_cons, List.length_nil, Nat.zero_add] at HRB HKB
    have HKC := Aside0.mk HKB
    have HRC := Aside0.mk HRB
    clear HKA HRA HRB HKB
    refine skip_ (w1 := ?_) (by rfl) rfl ?_ ?_
    rotate_left
    · go_simp
      rfl
    refine hK.out _ _ ?_
    clear hK K cz fz BKA
    refine done_ (done_of HT_.out (by kernel_rfl)) ?_
    generalize w3.setCell ⟨g, 4, none⟩ (.slice A3 (ql.length + 1) c3) = wz at HKC ⊢
    go_wp2_with fail
    go_ret
    exact ⟨rfl, _, _, _, by rw [hk16.out, ← HQF.out]; exact HKC.out⟩
set_option maxHeartbeats 8000000 in
set_option maxRecDepth 100000 in
theorem bind_okZ (Z : Fr) (w0 w : World) (g : Nat) (last nm v : Int) (s : ByteArray) (va vr vl : Value) (qa qr ql : List S49) (hK : RegZ Z w0 w g last va vr vl qa qr ql) (hq : qa.length ≤ 10000 ∧ qr.length ≤ 10000) : Calls Try.prog 16 #[.pointer (some ⟨g, 0, none⟩), .int .u32 nm, .string s, .int .i64 v] w fun e w' => e = .returned (.int .i64 (bindErr (idxOf (fun x : S49 => x.f0 == nm) (qa ++ qr) 0) (rd_T49 (qa ++ qr) (idxOf (fun x : S49 => x.f0 == nm) (qa ++ qr) 0)) s v)) ∧ RegZ Z w0 w' g last va vr vl qa qr ql := by
  have hu60 := Try.underlying60
  have hu49 := Try.underlying49
  have hu26 := Try.underlying26
  obtain ⟨Aa, ca, rfl⟩ := Kd.R_slice hK.a
  obtain ⟨Ar, cr, rfl, hcr, hCr⟩ := hK.r.reads
  have hh := Aside0.mk hK.cells
  have HK := Aside0.mk hK
  have HQ := Aside0.mk hq
  have z1 := hh.out.2.2.1.1
  have z2 := hh.out.2.2.2.1.1
  have HC := Aside0.mk (And.intro hcr hCr)
  obtain ⟨be, hbe⟩ : ∃ be, be = bindErr (idxOf (fun x : S49 => x.f0 == nm) (qa ++ qr) 0) (rd_T49 (qa ++ qr) (idxOf (fun x : S49 => x.f0 == nm) (qa ++ qr) 0)) s v := ⟨_, rfl⟩
  rw [← hbe]
  have HBE := Aside0.mk hbe
  clear hbe
  clear hK hq hcr hCr
  go_enter Try.func16, Try.ntmps16
  go_wp2_with (first | (go_at_call 27; (with_reducible refine (usable_is _ g true (by exact hh.out.1.1) (by exact hh.out.1.2)).mono ?_); rintro e w' ⟨rfl, ⟨nd, rfl⟩⟩))
  have hlit := Aside0.mk (fun (W : World) => allocs1 W (Obj.cells #[.slice Aa qa.length ca, .slice Ar qr.length cr] 26))
  have hbb : Aside0 (Below w.heap.size w ((w.drewN (nd + 1)).alloc (Obj.cells #[.slice Aa qa.length ca, .slice Ar qr.length cr] 26))) := ⟨below_alloc (pw_below_drewN (Below.refl _ _) _) _⟩
  go_region_held3 (fun w' => w'.cell? ⟨g, 2, none⟩ = some (.slice Aa qa.length ca) ∧ w'.cell? ⟨g, 3, none⟩ = some (.slice Ar qr.length cr)) (first | exact ⟨hh.out.2.2.1.1, hh.out.2.2.2.1.1⟩ | exact ⟨HK2.out.cells.2.2.1.1, HK2.out.cells.2.2.2.1.1⟩ | exact ⟨(HK.out.after hbb.out).cells.2.2.1.1, (HK.out.after hbb.out).cells.2.2.2.1.1⟩) (first | (go_at_call 36; refine (concat_ok Aa Ar ca cr qa qr w.heap.size _ (hlit.out (w.drewN (nd + 1))).1 (Kd.C_below (Kd.R_reads' HK.out.a).2.2 hbb.out) (Kd.C_below HC.out.2 hbb.out) (Kd.R_reads' HK.out.a).2.1 HC.out.1 (by have := HQ.out; omega)).mono ?_; rintro e w2 ⟨v2, rfl, hR, hB⟩; have HR2 := Aside0.mk hR; have HK2 := Aside0.mk (HK.out.after (below_step hbb.out hB)); clear hR hB))
  obtain ⟨A2, c2, e2⟩ := Kd.R_slice HR2.out
  subst e2
  clear hlit hbb hh HK HC z1 z2
  rename_i hHeld_
  clear hHeld_
  have HQ2 : Aside0 ((qa ++ qr).length ≤ 20000) := ⟨by rw [List.length_append]; have := HQ.out; omega⟩
  obtain ⟨Q, hQ⟩ : ∃ Q, Q = qa ++ qr := ⟨_, rfl⟩
  rw [← hQ] at HR2 HQ2 HBE ⊢
  clear hQ
  go_wp2_with fail
  refine (find_ok A2 c2 Q nm w2 (Kd.R_reads' HR2.out).2.2 (by have := HQ2.out; omega)).mono ?_
  rintro e w3 ⟨rfl, hb3⟩
  have HK3 := Aside0.mk (HK2.out.after hb3)
  have HR3 := Aside0.mk (Kd.R_below HR2.out hb3)
  clear hb3 HK2 HR2
  cases hany : Q.any (fun x : S49 => x.f0 == nm) with
  | false =>
    have hi := Aside0.mk (idx_none (fun x : S49 => x.f0 == nm) Q 0 hany)
    clear hany
    rw [hi.out] at HBE ⊢
    have hb8 : Aside0 (be = 8) := ⟨by rw [HBE.out]; unfold bindErr; rw [if_pos (by decide)]⟩
    go_wp2_with fail
    go_ret
    exact ⟨by rw [hb8.out]; first | done | rfl, HK3.out⟩
  | true =>
    obtain ⟨k, e0, hk, hp, _⟩ := idx_some (fun x : S49 => x.f0 == nm) Q 0 hany
    rw [Nat.zero_add] at e0
    rw [e0] at HBE ⊢
    clear hany e0 hp
    have hk' : (k : Int) < (Q.length : Int) := by omega
    have d0 : decide ((k : Int) < 0) = false := decide_eq_false (by omega)
    obtain ⟨ad, e1, x0, x1, x2⟩ := at_T49 (Kd.R_reads' HR3.out).2.2 (k : Int) (by omega) hk'
    subst e1
    simp only [Int.toNat_natCast] at x0 x1 x2
    generalize rd_T49 Q (k : Int) = x at x0 x1 x2 HBE
    have hbe : Aside0 (be = if x.f1.toList ≠ s.toList then 9 else if v < 1 ∨ v > x.f2 then 11 else 0) := ⟨by rw [HBE.out]; unfold bindErr; rw [if_neg (by omega)]⟩
    clear HBE
    by_cases h1 : x.f1.toList = s.toList
    · rw [if_neg (by intro h; exact h h1)] at hbe
      by_cases h2 : v < 1 ∨ v > x.f2
      · rw [if_pos h2] at hbe
        by_cases h3 : v < 1
        · have d2 : decide (v < 1) = true := decide_eq_true h3
          clear h2 h3
          go_wp2_with fail
          go_ret
          exact ⟨by rw [hbe.out]; first | done | rfl, HK3.out⟩
        · have d2 : decide (v < 1) = false := decide_eq_false h3
          have d3 : decide (x.f2 < v) = true := decide_eq_true (h2.resolve_left h3)
          clear h2 h3
          go_wp2_with fail
          go_ret
          exact ⟨by rw [hbe.out]; first | done | rfl, HK3.out⟩
      · rw [if_neg h2] at hbe
        have d2 : decide (v < 1) = false := decide_eq_false (fun h => h2 (.inl h))
        have d3 : decide (x.f2 < v) = false := decide_eq_false (fun h => h2 (.inr h))
        clear h2
        go_wp2_with fail
        go_ret
        exact ⟨by rw [hbe.out]; first | done | rfl, HK3.out⟩
    · rw [if_pos h1] at hbe
      have d8 : (x.f1.toList == s.toList) = false := beq_false_of_ne h1
      have d9 : decide (x.f1.toList = s.toList) = false := decide_eq_false h1
      go_wp2_with fail
      go_ret
      exact ⟨by rw [hbe.out]; first | done | rfl, HK3.out⟩
theorem tab_some : (iface_table.f).map List.length = some 15 := by kernel_rfl
structure Own3 (w0 w : World) (g : Nat) (last : Int) (va vr vl : Value) (qa qr ql : List S49) (v4 v5 v6 : Value) (l4 l5 l6 : List S49) : Prop where
  reg : RegZ ⟨fun k => v4.ownBlock = some k ∨ v5.ownBlock = some k ∨ v6.ownBlock = some k, w⟩ w0 w g last va vr vl qa qr ql
  r4 : Kd.R k49 49 w w0.heap.size (fun _ => True) v4 l4
  r5 : Kd.R k49 49 w w0.heap.size (fun _ => True) v5 l5
  r6 : Kd.R k49 49 w w0.heap.size (fun _ => True) v6 l6
  n45 : ∀ k, v4.ownBlock = some k → v5.ownBlock ≠ some k
  n46 : ∀ k, v4.ownBlock = some k → v6.ownBlock ≠ some k
  n56 : ∀ k, v5.ownBlock = some k → v6.ownBlock ≠ some k
section
variable {w0 w w1 : World} {g : Nat} {last last' : Int} {va vr vl va' vr' vl' v4 v5 v6 : Value} {qa qr ql qa' qr' ql' l4 l5 l6 : List S49}
theorem get_of_lt {w : World} {k : Nat} (h : k < w.heap.size) : ∃ o, w.heap[k]? = some o := ⟨_, Array.getElem?_eq_getElem h⟩
theorem Own3.below (h : Own3 w0 w g last va vr vl qa qr ql v4 v5 v6 l4 l5 l6) : Below w0.heap.size w0 w := h.reg.below
theorem Own3.call (h : Own3 w0 w g last va vr vl qa qr ql v4 v5 v6 l4 l5 l6) (h1 : RegZ ⟨fun k => v4.ownBlock = some k ∨ v5.ownBlock = some k ∨ v6.ownBlock = some k, w⟩ w0 w1 g last' va' vr' vl' qa' qr' ql') : Own3 w0 w1 g last' va' vr' vl' qa' qr' ql' v4 v5 v6 l4 l5 l6 := by
  have hs : ∀ k, (v4.ownBlock = some k ∨ v5.ownBlock = some k ∨ v6.ownBlock = some k) → w1.heap[k]? = w.heap[k]? := fun k hk => by
    obtain ⟨⟨o, e1, e2⟩, _⟩ := h1.kp k hk
    exact e1.trans e2.symm
  exact ⟨⟨h1.reg, fun k hk => by
    obtain ⟨⟨o, e1, e2⟩, h3⟩ := h1.kp k hk
    exact ⟨⟨o, e1, e1⟩, h3⟩⟩, R_same h.r4 (fun k hk => hs k (.inl hk)), R_same h.r5 (fun k hk => hs k (.inr (.inl hk))), R_same h.r6 (fun k hk => hs k (.inr (.inr hk))), h.n45, h.n46, h.n56⟩
theorem Own3.after (h : Own3 w0 w g last va vr vl qa qr ql v4 v5 v6 l4 l5 l6) (hb : Below w.heap.size w w1) : Own3 w0 w1 g last va vr vl qa qr ql v4 v5 v6 l4 l5 l6 := h.call (h.reg.after hb)
theorem Own3.drew (h : Own3 w0 w g last va vr vl qa qr ql v4 v5 v6 l4 l5 l6) : Own3 w0 w.drew g last va vr vl qa qr ql v4 v5 v6 l4 l5 l6 := h.after (below_drew1 (Below.refl _ _))
theorem Own3.drewN (h : Own3 w0 w g last va vr vl qa qr ql v4 v5 v6 l4 l5 l6) (n : Nat) : Own3 w0 (w.drewN n) g last va vr vl qa qr ql v4 v5 v6 l4 l5 l6 := h.after (pw_below_drewN (Below.refl _ _) n)
theorem Own3.start (h : Reg w0 w g last va vr vl qa qr ql) : Own3 w0 w g last va vr vl qa qr ql (.slice none 0 0) (.slice none 0 0) (.slice none 0 0) [] [] [] :=
  ⟨⟨h, fun k hk => by simp [Value.ownBlock] at hk⟩, Kd.R_nil _ _ _ _ _, Kd.R_nil _ _ _ _ _, Kd.R_nil _ _ _ _ _, fun k hk => by simp [Value.ownBlock] at hk, fun k hk => by simp [Value.ownBlock] at hk, fun k hk => by simp [Value.ownBlock] at hk⟩
end
def Inc (last : Int) (q : List S49) : Prop := q.Pairwise (fun a b => a.f0 < b.f0) ∧ ∀ x ∈ q, 1 ≤ x.f0 ∧ x.f0 ≤ last
theorem Inc.add {last : Int} {q : List S49} (h : Inc last q) (h0 : 0 ≤ last) (s : ByteArray) (v : Int) : Inc (last + 1) (q ++ [⟨last + 1, s, v⟩]) := by
  refine ⟨List.pairwise_append.2 ⟨h.1, List.pairwise_singleton _ _, fun a ha b hb => ?_⟩, fun x hx => ?_⟩
  · have h1 := h.2 a ha
    rw [List.mem_singleton] at hb
    rw [hb]
    show a.f0 < last + 1
    omega
  · rcases List.mem_append.1 hx with hx | hx
    · have := h.2 x hx
      omega
    · rw [List.mem_singleton] at hx
      rw [hx]
      show 1 ≤ last + 1 ∧ last + 1 ≤ last + 1
      omega
theorem Inc.filter {last : Int} {q : List S49} (h : Inc last q) (p : S49 → Bool) : Inc last (q.filter p) :=
  ⟨h.1.filter p, fun x hx => h.2 x ((List.mem_filter.1 hx).1)⟩
theorem inc_one : ∀ (q : List S49), q.Pairwise (fun a b => a.f0 < b.f0) → ∀ x ∈ q, q.filter (fun y => y.f0 == x.f0) = [x] ∧ (q.filter (fun y => !(y.f0 == x.f0))).length + 1 = q.length
  | [], _, _, hx => by simp at hx
  | a :: t, h, x, hx => by
    obtain ⟨h1, h2⟩ := List.pairwise_cons.1 h
    rcases List.mem_cons.1 hx with e | hx
    · subst e
      have hn : ∀ y ∈ t, (y.f0 == x.f0) = false := fun y hy => by
        have := h1 y hy
        rw [beq_eq_false_iff_ne]
        omega
      have e1 : t.filter (fun y => y.f0 == x.f0) = [] := List.filter_eq_nil_iff.2 (fun y hy => by rw [hn y hy]; decide)
      have e2 : t.filter (fun y => !(y.f0 == x.f0)) = t := List.filter_eq_self.2 (fun y hy => by rw [hn y hy]; rfl)
      rw [List.filter_cons_of_pos (by simp), List.filter_cons_of_neg (by simp), e1, e2]
      exact ⟨rfl, rfl⟩
    · have hne : (a.f0 == x.f0) = false := by
        have := h1 x hx
        rw [beq_eq_false_iff_ne]
        omega
      obtain ⟨i1, i2⟩ := inc_one t h2 x hx
      rw [List.filter_cons_of_neg (by rw [hne]; decide), List.filter_cons_of_pos (by rw [hne]; rfl), i1]
      exact ⟨rfl, by simp only [List.length_cons]; omega⟩
theorem inc_eq {q : List S49} (h : q.Pairwise (fun a b => a.f0 < b.f0)) {x : S49} (hx : x ∈ q) : (q.filter fun y => !eqB y x) = q.filter (fun y => !(y.f0 == x.f0)) := by
  apply List.filter_congr
  intro y hy
  congr 1
  by_cases e : y.f0 = x.f0
  · have h1 : y ∈ q.filter (fun y => y.f0 == x.f0) := List.mem_filter.2 ⟨hy, by simp [e]⟩
    rw [(inc_one q h x hx).1, List.mem_singleton] at h1
    rw [h1]
    simp [eqB]
  · simp [eqB, e]
theorem keep16_len (l : List S49) (h : l.length ≤ 16) (x : S49) : (keep16 (l ++ [x])).length ≤ 16 := by
  unfold keep16
  split
  · rw [List.length_drop, List.length_append]
    simp only [List.length_cons, List.length_nil]
    omega
  · omega
theorem mem_rd {q : List S49} {k : Nat} {x : S49} (h : k < q.length) (e : rd_T49 q (k : Int) = x) : x ∈ q := by
  rw [← e, rd49_get q k h]
  exact List.getElem_mem _
theorem same_loop : ∀ (n k : Nat) (l : List S49) (i : Nat), l.length - i = n → n < k → l.length ≤ 100000 → compositorref14_Same.l0 k l l (i : Int) = some true
  | n, 0, _, _, _, h, _ => by omega
  | n, k + 1, l, i, h1, h2, h3 => by
    unfold compositorref14_Same.l0
    by_cases hi : (i : Int) < (l.length : Int)
    · rw [if_pos hi, if_pos (by omega), if_pos hi, if_neg (by simp)]
      have e : wrap64 ((i : Int) + 1) = ((i + 1 : Nat) : Int) := by unfold wrap64; omega
      rw [e]
      exact same_loop (n - 1) k l (i + 1) (by omega) (by omega) h3
    · rw [if_neg hi]
theorem same_self (l : List S49) (h : l.length ≤ 100000) : compositorref14_Same.f 100001 l l = some true := by
  unfold compositorref14_Same.f
  rw [if_pos rfl]
  exact same_loop l.length 100001 l 0 (by omega) (by omega) h
theorem size_alloc1 (w : World) (o : Obj) : (w.alloc o).heap.size = w.heap.size + 1 := by simp
end
end Go.Proofs.Ytpedlnebpibgaaa.All
end
