-- The texts behind this claim's law, put together by a program of this session (shake.py): what no text uses is left out. Its words are print.sh's.
import Derived.Test.YtmkhphkkpdiliaaSPresentPlays14
section
namespace Go.Proofs.Ytmkhphkkpdiliaa.All
open Go.Proofs.YtmkhphkkpdiliaaSq
open Go.RowKit Go.Proofs.YtmkhphkkpdiliaaW.PrintWords Go.Proofs.YtmkhphkkpdiliaaW.PrintLast Go.Proofs.YtmkhphkkpdiliaaW.PrintMore
attribute [local go_sem] max2_int min2_int max_two min_two max_three min_three max_four min_four
set_option linter.unusedVariables false
set_option linter.unusedSimpArgs false
section
open Go.Proofs.YtmkhphkkpdiliaaHand Go.Proofs.YtmkhphkkpdiliaaSq
theorem usable_nil (w : World) : Calls Try.prog 36 #[.pointer none] w fun e w' => e = .returned (.bool false) ∧ ∃ nd, w' = w.drewN nd := by
  have hu69 := Try.underlying69
  go_enter Try.func36, Try.ntmps36
  go_wp2_with fail
  go_ret
  exact ⟨rfl, 0, rfl⟩
theorem usable_ok (w : World) (g : Nat) (iv : Int) (h0 : w.cell? ⟨g, 0, none⟩ = some (.int .i64 iv)) (hf : w.frozen? ⟨g, 0, none⟩ = false) (hiv : 1 ≤ iv) : Calls Try.prog 36 #[.pointer (some ⟨g, 0, none⟩)] w fun e w' => e = .returned (.bool true) ∧ ∃ nd, w' = w.drewN nd := by
  have hu69 := Try.underlying69
  have d0 : decide (0 < iv) = true := decide_eq_true (by omega)
  go_enter Try.func36, Try.ntmps36
  go_wp2_with fail
  go_ret
  exact ⟨rfl, 0, rfl⟩
theorem next_nil (w : World) (n : Int) : Calls Try.prog 13 #[.pointer none, .int .i64 n] w fun e w' => e = .returned (.int .i64 0) ∧ ∃ nd, w' = w.drewN nd := by
  go_enter Try.func13, Try.ntmps13
  go_wp2_with (first | (go_at_call 36; (with_reducible refine (usable_nil _).mono ?_); rintro e w' ⟨rfl, ⟨nd, rfl⟩⟩))
  go_ret
  exact ⟨rfl, _, rfl⟩
theorem commit_nil (w : World) (n : Int) (v : Value) : Calls Try.prog 16 #[.pointer none, .int .i64 n, v] w fun e w' => e = .returned (.int .i64 1) ∧ ∃ nd, w' = w.drewN nd := by
  go_enter Try.func16, Try.ntmps16
  go_wp2_with (first | (go_at_call 36; (with_reducible refine (usable_nil _).mono ?_); rintro e w' ⟨rfl, ⟨nd, rfl⟩⟩))
  go_ret
  exact ⟨rfl, _, rfl⟩
theorem discard_nil (w : World) (n : Int) : Calls Try.prog 25 #[.pointer none, .int .i64 n] w fun e w' => e = .returned (.slice none 0 0) ∧ ∃ nd, w' = w.drewN nd := by
  go_enter Try.func25, Try.ntmps25
  go_wp2_with (first | (go_at_call 36; (with_reducible refine (usable_nil _).mono ?_); rintro e w' ⟨rfl, ⟨nd, rfl⟩⟩))
  go_ret
  exact ⟨rfl, _, rfl⟩
theorem tick_nil (w : World) (n : Int) : Calls Try.prog 18 #[.pointer none, .int .i64 n] w fun e w' => e = .returned (.slice none 0 0) ∧ ∃ nd, w' = w.drewN nd := by
  go_enter Try.func18, Try.ntmps18
  go_wp2_with (first | (go_at_call 36; (with_reducible refine (usable_nil _).mono ?_); rintro e w' ⟨rfl, ⟨nd, rfl⟩⟩))
  go_ret
  exact ⟨rfl, _, rfl⟩
theorem sequence_nil (w : World) : Calls Try.prog 19 #[.pointer none] w fun e w' => e = .returned (.int .i64 0) ∧ ∃ nd, w' = w.drewN nd := by
  go_enter Try.func19, Try.ntmps19
  go_wp2_with (first | (go_at_call 36; (with_reducible refine (usable_nil _).mono ?_); rintro e w' ⟨rfl, ⟨nd, rfl⟩⟩))
  go_ret
  exact ⟨rfl, _, rfl⟩
theorem pending_nil (w : World) : Calls Try.prog 17 #[.pointer none] w fun e w' => e = .returned (.int .i64 0) ∧ ∃ nd, w' = w.drewN nd := by
  go_enter Try.func17, Try.ntmps17
  go_wp2_with (first | (go_at_call 36; (with_reducible refine (usable_nil _).mono ?_); rintro e w' ⟨rfl, ⟨nd, rfl⟩⟩))
  go_ret
  exact ⟨rfl, _, rfl⟩
theorem clamp_ok (w : World) (a0 : Int) : Calls Try.prog 37 #[.int .i64 a0] w fun e w' => e = .returned (.int .i64 (mn (mx a0 0) 4611686018427387904)) ∧ ∃ nd, w' = w.drewN nd := by
  obtain ⟨ji2, hji2⟩ : ∃ j_ : Int, (mx a0 0) = j_ := ⟨_, rfl⟩
  have hji2_ : (if a0 < 0 then 0 else a0) = ji2 := hji2
  obtain ⟨ji3, hji3⟩ : ∃ j_ : Int, (mn (ji2) 4611686018427387904) = j_ := ⟨_, rfl⟩
  have hji3_ : (if 4611686018427387904 < (ji2) then 4611686018427387904 else (ji2)) = ji3 := hji3
  rw [hji2, hji3]
  go_enter Try.func37, Try.ntmps37
  go_wp2
  go_ret
  exact ⟨rfl, 0, rfl⟩
def nextOf (iv now : Int) : Int := wrap64 ((wrap64 ((wrap64 (Int.tdiv (mn (mx now 0) 4611686018427387904) iv)) + 1)) * iv)
theorem next_ok (w : World) (g : Nat) (iv now : Int) (h0 : w.cell? ⟨g, 0, none⟩ = some (.int .i64 iv)) (hf : w.frozen? ⟨g, 0, none⟩ = false) (hiv : 1 ≤ iv) : Calls Try.prog 13 #[.pointer (some ⟨g, 0, none⟩), .int .i64 now] w fun e w' => e = .returned (.int .i64 (nextOf iv now)) ∧ ∃ nd, w' = w.drewN nd := by
  have hu69 := Try.underlying69
  have hi0 : ¬ iv = 0 := by omega
  have hh := Aside0.mk h0
  have hhf := Aside0.mk hf
  have hiv' := Aside0.mk hiv
  go_enter Try.func13, Try.ntmps13
  go_wp2_with (first | (go_at_call 36; (with_reducible refine (usable_ok _ g iv (by exact hh.out) (by exact hhf.out) hiv'.out).mono ?_); rintro e w' ⟨rfl, ⟨nd, rfl⟩⟩) | (go_at_call 37; (with_reducible refine (clamp_ok _ now).mono ?_); rintro e w' ⟨rfl, ⟨nd, rfl⟩⟩))
  have hh1 : (w.drewN nd).drew.cell? ⟨g, 0, none⟩ = some (.int .i64 iv) := hh.out
  have hh2 : (w.drewN nd).drew.frozen? ⟨g, 0, none⟩ = false := hhf.out
  go_region_held3 (fun w' => w'.cell? ⟨g, 0, none⟩ = some (.int .i64 iv)) (exact hh.out) (first | (go_at_call 37; (with_reducible refine (clamp_ok _ now).mono ?_); rintro e w' ⟨rfl, ⟨nd2, rfl⟩⟩))
  go_wp2
  go_ret
  exact ⟨by simp only [nextOf, i64_w]; rfl, _, rfl⟩
theorem sequence_ok (w : World) (g : Nat) (iv now : Int) (h0 : w.cell? ⟨g, 0, none⟩ = some (.int .i64 iv)) (hf : w.frozen? ⟨g, 0, none⟩ = false) (h1 : w.cell? ⟨g, 1, none⟩ = some (.int .i64 now)) (hf1 : w.frozen? ⟨g, 1, none⟩ = false) (hiv : 1 ≤ iv) : Calls Try.prog 19 #[.pointer (some ⟨g, 0, none⟩)] w fun e w' => e = .returned (.int .i64 (wrap64 (Int.tdiv now iv))) ∧ ∃ nd, w' = w.drewN nd := by
  have hu69 := Try.underlying69
  have hi0 : ¬ iv = 0 := by omega
  have hh := Aside0.mk h0
  have hhf := Aside0.mk hf
  have hg := Aside0.mk h1
  have hgf := Aside0.mk hf1
  have hiv' := Aside0.mk hiv
  go_enter Try.func19, Try.ntmps19
  go_wp2_with (first | (go_at_call 36; (with_reducible refine (usable_ok _ g iv (by exact hh.out) (by exact hhf.out) hiv'.out).mono ?_); rintro e w' ⟨rfl, ⟨nd, rfl⟩⟩))
  have hh1 : (w.drewN nd).drew.cell? ⟨g, 0, none⟩ = some (.int .i64 iv) := hh.out
  have hh2 : (w.drewN nd).drew.frozen? ⟨g, 0, none⟩ = false := hhf.out
  have hh3 : (w.drewN nd).drew.cell? ⟨g, 1, none⟩ = some (.int .i64 now) := hg.out
  have hh4 : (w.drewN nd).drew.frozen? ⟨g, 1, none⟩ = false := hgf.out
  go_region_held3 (fun w' => w'.cell? ⟨g, 0, none⟩ = some (.int .i64 iv) ∧ w'.cell? ⟨g, 1, none⟩ = some (.int .i64 now)) (exact ⟨hh.out, hg.out⟩) (fail)
  go_wp2
  go_ret
  exact ⟨by simp only [i64_w]; rfl, nd + 1, rfl⟩
theorem pending_ok (w : World) (g : Nat) (iv : Int) (A : Option Addr) (n c : Nat) (h0 : w.cell? ⟨g, 0, none⟩ = some (.int .i64 iv)) (hf : w.frozen? ⟨g, 0, none⟩ = false) (h1 : w.cell? ⟨g, 2, none⟩ = some (.slice A n c)) (hf1 : w.frozen? ⟨g, 2, none⟩ = false) (hiv : 1 ≤ iv) : Calls Try.prog 17 #[.pointer (some ⟨g, 0, none⟩)] w fun e w' => e = .returned (.int .i64 n) ∧ ∃ nd, w' = w.drewN nd := by
  have hu69 := Try.underlying69
  have hh := Aside0.mk h0
  have hhf := Aside0.mk hf
  have hg := Aside0.mk h1
  have hgf := Aside0.mk hf1
  have hiv' := Aside0.mk hiv
  go_enter Try.func17, Try.ntmps17
  go_wp2_with (first | (go_at_call 36; (with_reducible refine (usable_ok _ g iv (by exact hh.out) (by exact hhf.out) hiv'.out).mono ?_); rintro e w' ⟨rfl, ⟨nd, rfl⟩⟩))
  go_ret
  exact ⟨rfl, _, rfl⟩
set_option maxHeartbeats 8000000 in
set_option maxRecDepth 100000 in
theorem new_bad (a0_0 : ByteArray) (a0_1 a0_2 a0_3 a0_4 a0_5 a0_6 a0_7 : Int) (r : Int) (w : World) (h : output_Check.f a0_0 a0_1 a0_2 a0_3 a0_4 a0_5 a0_6 a0_7 = some r) (hr : r ≠ 0) :
    Calls Try.prog 10 #[.agg #[.string a0_0, .int .i64 a0_1, .int .i64 a0_2, .int .i64 a0_3, .int .i64 a0_4, .int .i64 a0_5, .int .i64 a0_6, .int .i64 a0_7]] w fun e w' => e = .returned (.tuple #[.pointer none, .int .i64 r]) ∧ Below w.heap.size w w' := by
  have hu23 := Try.underlying23
  have hu69 := Try.underlying69
  have HB := Aside0.mk (Below.refl w.heap.size w)
  have hC := Aside0.mk h
  clear h
  go_enter Try.func10, Try.ntmps10
  go_wp2_with (first | ((with_reducible refine gate_dst (N := 1) rfl ?_); refine box_event ?hg (N := 1) ?hd (cs := #[.string a0_0, .int .i64 a0_1, .int .i64 a0_2, .int .i64 a0_3, .int .i64 a0_4, .int .i64 a0_5, .int .i64 a0_6, .int .i64 a0_7]) (t := 23) ?hr ?_; (case hd => rfl); (case hg => rfl); (case hr => first | (go_simp; done) | (go_simp; rfl)); intro gB hg w9 hbox hb; have n0_ := Aside0.mk (below_step (by repeat (first | (with_reducible first | exact HB.out | apply below_alloc | apply pw_below_drewN | apply below_drew1) | exact HB.out)) hb); clear HB; have HB := n0_; clear n0_; have BK := Aside0.mk hbox; clear hb hbox hg; have hcz_0 : w9.cell? ⟨gB, 0, none⟩ = some (.string a0_0) := (blk_cell BK.out 0).trans rfl; have fcz_0 := blk_frozen BK.out 0; have hcz_1 : w9.cell? ⟨gB, 1, none⟩ = some (.int .i64 a0_1) := (blk_cell BK.out 1).trans rfl; have fcz_1 := blk_frozen BK.out 1; have hcz_2 : w9.cell? ⟨gB, 2, none⟩ = some (.int .i64 a0_2) := (blk_cell BK.out 2).trans rfl; have fcz_2 := blk_frozen BK.out 2; have hcz_3 : w9.cell? ⟨gB, 3, none⟩ = some (.int .i64 a0_3) := (blk_cell BK.out 3).trans rfl; have fcz_3 := blk_frozen BK.out 3; have hcz_4 : w9.cell? ⟨gB, 4, none⟩ = some (.int .i64 a0_4) := (blk_cell BK.out 4).trans rfl; have fcz_4 := blk_frozen BK.out 4; have hcz_5 : w9.cell? ⟨gB, 5, none⟩ = some (.int .i64 a0_5) := (blk_cell BK.out 5).trans rfl; have fcz_5 := blk_frozen BK.out 5; have hcz_6 : w9.cell? ⟨gB, 6, none⟩ = some (.int .i64 a0_6) := (blk_cell BK.out 6).trans rfl; have fcz_6 := blk_frozen BK.out 6; have hcz_7 : w9.cell? ⟨gB, 7, none⟩ = some (.int .i64 a0_7) := (blk_cell BK.out 7).trans rfl; have fcz_7 := blk_frozen BK.out 7) | (go_at_call 31; (with_reducible refine (output_Check.calls a0_0 a0_1 a0_2 a0_3 a0_4 a0_5 a0_6 a0_7 _ _ hC.out).mono ?_); rintro e w10 ⟨rfl, hb⟩; have n0_ := Aside0.mk (below_step (by repeat (first | (with_reducible first | exact HB.out | apply below_alloc | apply pw_below_drewN | apply below_drew1) | exact HB.out)) hb); have n1_ := Aside0.mk (blk_below (g := gB) (o := .cells #[.string a0_0, .int .i64 a0_1, .int .i64 a0_2, .int .i64 a0_3, .int .i64 a0_4, .int .i64 a0_5, .int .i64 a0_6, .int .i64 a0_7] 23 (0, 0)) (by ((with_reducible repeat (first | refine blk_drewN ?_ _ | refine blk_drew ?_ | refine blk_alloc ?_ _)); exact BK.out)) hb); clear HB BK; have HB := n0_; have BK := n1_; clear n0_ n1_ hb; have hca_0 : w10.cell? ⟨gB, 0, none⟩ = some (.string a0_0) := (blk_cell BK.out 0).trans rfl; have fca_0 := blk_frozen BK.out 0; have hca_1 : w10.cell? ⟨gB, 1, none⟩ = some (.int .i64 a0_1) := (blk_cell BK.out 1).trans rfl; have fca_1 := blk_frozen BK.out 1; have hca_2 : w10.cell? ⟨gB, 2, none⟩ = some (.int .i64 a0_2) := (blk_cell BK.out 2).trans rfl; have fca_2 := blk_frozen BK.out 2; have hca_3 : w10.cell? ⟨gB, 3, none⟩ = some (.int .i64 a0_3) := (blk_cell BK.out 3).trans rfl; have fca_3 := blk_frozen BK.out 3; have hca_4 : w10.cell? ⟨gB, 4, none⟩ = some (.int .i64 a0_4) := (blk_cell BK.out 4).trans rfl; have fca_4 := blk_frozen BK.out 4; have hca_5 : w10.cell? ⟨gB, 5, none⟩ = some (.int .i64 a0_5) := (blk_cell BK.out 5).trans rfl; have fca_5 := blk_frozen BK.out 5; have hca_6 : w10.cell? ⟨gB, 6, none⟩ = some (.int .i64 a0_6) := (blk_cell BK.out 6).trans rfl; have fca_6 := blk_frozen BK.out 6; have hca_7 : w10.cell? ⟨gB, 7, none⟩ = some (.int .i64 a0_7) := (blk_cell BK.out 7).trans rfl; have fca_7 := blk_frozen BK.out 7))
  go_ret2
  exact ⟨rfl, (by repeat (first | (with_reducible first | exact HB.out | apply below_alloc | apply pw_below_drewN | apply below_drew1) | exact HB.out))⟩
set_option maxHeartbeats 8000000 in
set_option maxRecDepth 100000 in
theorem new_ok (a0_0 : ByteArray) (a0_1 a0_2 a0_3 a0_4 a0_5 a0_6 a0_7 : Int) (iv : Int) (w : World) (h : output_Check.f a0_0 a0_1 a0_2 a0_3 a0_4 a0_5 a0_6 a0_7 = some 0) (hi : output_Interval.f a0_0 a0_1 a0_2 a0_3 a0_4 a0_5 a0_6 a0_7 = some iv) :
    Calls Try.prog 10 #[.agg #[.string a0_0, .int .i64 a0_1, .int .i64 a0_2, .int .i64 a0_3, .int .i64 a0_4, .int .i64 a0_5, .int .i64 a0_6, .int .i64 a0_7]] w fun e w' => ∃ g, e = .returned (.tuple #[.pointer (some ⟨g, 0, none⟩), .int .i64 0]) ∧ w'.heap[g]? = some (.cells #[.int .i64 iv, .int .i64 0, .slice none 0 0] 69 (0, 0)) ∧ w.heap.size ≤ g ∧ Below w.heap.size w w' := by
  have hu23 := Try.underlying23
  have hu69 := Try.underlying69
  have HB := Aside0.mk (Below.refl w.heap.size w)
  have hC := Aside0.mk h
  have hI := Aside0.mk hi
  clear h hi
  go_enter Try.func10, Try.ntmps10
  go_wp2_with (first | ((with_reducible refine gate_dst (N := 1) rfl ?_); refine box_event ?hg (N := 1) ?hd (cs := #[.string a0_0, .int .i64 a0_1, .int .i64 a0_2, .int .i64 a0_3, .int .i64 a0_4, .int .i64 a0_5, .int .i64 a0_6, .int .i64 a0_7]) (t := 23) ?hr ?_; (case hd => rfl); (case hg => rfl); (case hr => first | (go_simp; done) | (go_simp; rfl)); intro gB hg w9 hbox hb; have n0_ := Aside0.mk (below_step (by repeat (first | (with_reducible first | exact HB.out | apply below_alloc | apply pw_below_drewN | apply below_drew1) | exact HB.out)) hb); clear HB; have HB := n0_; clear n0_; have BK := Aside0.mk hbox; clear hb hbox hg; have hcz_0 : w9.cell? ⟨gB, 0, none⟩ = some (.string a0_0) := (blk_cell BK.out 0).trans rfl; have fcz_0 := blk_frozen BK.out 0; have hcz_1 : w9.cell? ⟨gB, 1, none⟩ = some (.int .i64 a0_1) := (blk_cell BK.out 1).trans rfl; have fcz_1 := blk_frozen BK.out 1; have hcz_2 : w9.cell? ⟨gB, 2, none⟩ = some (.int .i64 a0_2) := (blk_cell BK.out 2).trans rfl; have fcz_2 := blk_frozen BK.out 2; have hcz_3 : w9.cell? ⟨gB, 3, none⟩ = some (.int .i64 a0_3) := (blk_cell BK.out 3).trans rfl; have fcz_3 := blk_frozen BK.out 3; have hcz_4 : w9.cell? ⟨gB, 4, none⟩ = some (.int .i64 a0_4) := (blk_cell BK.out 4).trans rfl; have fcz_4 := blk_frozen BK.out 4; have hcz_5 : w9.cell? ⟨gB, 5, none⟩ = some (.int .i64 a0_5) := (blk_cell BK.out 5).trans rfl; have fcz_5 := blk_frozen BK.out 5; have hcz_6 : w9.cell? ⟨gB, 6, none⟩ = some (.int .i64 a0_6) := (blk_cell BK.out 6).trans rfl; have fcz_6 := blk_frozen BK.out 6; have hcz_7 : w9.cell? ⟨gB, 7, none⟩ = some (.int .i64 a0_7) := (blk_cell BK.out 7).trans rfl; have fcz_7 := blk_frozen BK.out 7) | (go_at_call 31; (with_reducible refine (output_Check.calls a0_0 a0_1 a0_2 a0_3 a0_4 a0_5 a0_6 a0_7 _ _ hC.out).mono ?_); rintro e w10 ⟨rfl, hb⟩; have n0_ := Aside0.mk (below_step (by repeat (first | (with_reducible first | exact HB.out | apply below_alloc | apply pw_below_drewN | apply below_drew1) | exact HB.out)) hb); have n1_ := Aside0.mk (blk_below (g := gB) (o := .cells #[.string a0_0, .int .i64 a0_1, .int .i64 a0_2, .int .i64 a0_3, .int .i64 a0_4, .int .i64 a0_5, .int .i64 a0_6, .int .i64 a0_7] 23 (0, 0)) (by ((with_reducible repeat (first | refine blk_drewN ?_ _ | refine blk_drew ?_ | refine blk_alloc ?_ _)); exact BK.out)) hb); clear HB BK; have HB := n0_; have BK := n1_; clear n0_ n1_ hb; have hca_0 : w10.cell? ⟨gB, 0, none⟩ = some (.string a0_0) := (blk_cell BK.out 0).trans rfl; have fca_0 := blk_frozen BK.out 0; have hca_1 : w10.cell? ⟨gB, 1, none⟩ = some (.int .i64 a0_1) := (blk_cell BK.out 1).trans rfl; have fca_1 := blk_frozen BK.out 1; have hca_2 : w10.cell? ⟨gB, 2, none⟩ = some (.int .i64 a0_2) := (blk_cell BK.out 2).trans rfl; have fca_2 := blk_frozen BK.out 2; have hca_3 : w10.cell? ⟨gB, 3, none⟩ = some (.int .i64 a0_3) := (blk_cell BK.out 3).trans rfl; have fca_3 := blk_frozen BK.out 3; have hca_4 : w10.cell? ⟨gB, 4, none⟩ = some (.int .i64 a0_4) := (blk_cell BK.out 4).trans rfl; have fca_4 := blk_frozen BK.out 4; have hca_5 : w10.cell? ⟨gB, 5, none⟩ = some (.int .i64 a0_5) := (blk_cell BK.out 5).trans rfl; have fca_5 := blk_frozen BK.out 5; have hca_6 : w10.cell? ⟨gB, 6, none⟩ = some (.int .i64 a0_6) := (blk_cell BK.out 6).trans rfl; have fca_6 := blk_frozen BK.out 6; have hca_7 : w10.cell? ⟨gB, 7, none⟩ = some (.int .i64 a0_7) := (blk_cell BK.out 7).trans rfl; have fca_7 := blk_frozen BK.out 7) | (go_at_call 32; (with_reducible refine (output_Interval.calls a0_0 a0_1 a0_2 a0_3 a0_4 a0_5 a0_6 a0_7 _ _ hI.out).mono ?_); rintro e w11 ⟨rfl, hb⟩; have n0_ := Aside0.mk (below_step (by repeat (first | (with_reducible first | exact HB.out | apply below_alloc | apply pw_below_drewN | apply below_drew1) | exact HB.out)) hb); clear HB; have HB := n0_; clear n0_ hb) | ((with_reducible refine gate_dst (N := 13) rfl ?_); refine box_event ?hg (N := 13) ?hd (cs := #[.int .i64 iv, .int .i64 0, .slice none 0 0]) (t := 69) ?hr ?_; (case hd => rfl); (case hg => rfl); (case hr => first | (go_simp; done) | (go_simp; rfl)); intro gC hg w12 hbox hb; have n1_ := Aside0.mk ((by rw [hg]; exact (below_size (by repeat (first | (with_reducible first | exact HB.out | apply below_alloc | apply pw_below_drewN | apply below_drew1) | exact HB.out))) : w.heap.size ≤ gC)); have n0_ := Aside0.mk (below_step (by repeat (first | (with_reducible first | exact HB.out | apply below_alloc | apply pw_below_drewN | apply below_drew1) | exact HB.out)) hb); clear HB; have HB := n0_; clear n0_; have CK := Aside0.mk hbox; clear hb hbox hg))
  go_ret2
  exact ⟨gC, rfl, CK.out, n1_.out, HB.out⟩
theorem info75 : (Try.prog.info? 75).map (fun i => (i.zero, i.size, i.bytes)) = some (some (.agg #[(.int .i64 0), (.slice none 0 0)]), 2, 32) := by kernel_rfl
structure Clk (w0 w : World) (g : Nat) (iv now : Int) (vq : Value) (q : List S78) : Prop where
  blk : w.heap[g]? = some (.cells #[.int .i64 iv, .int .i64 now, vq] 69 (0, 0))
  low : w0.heap.size ≤ g
  own : Kd.N k78 75 w w0.heap.size (fun k => w0.heap.size ≤ k ∧ k ≠ g) vq q
  below : Below w0.heap.size w0 w
def Stp (w w' : World) (g : Nat) (vq vq' : Value) : Prop := Kept w w' (fun k => k = g ∨ some k = vq.ownBlock) ∧ (vq'.ownBlock = vq.ownBlock ∨ vq'.ownBlock = none ∨ ∃ b, vq'.ownBlock = some b ∧ w.heap.size ≤ b)
theorem Clk.cells {w0 w : World} {g : Nat} {iv now : Int} {vq : Value} {q : List S78} (h : Clk w0 w g iv now vq q) : (w.cell? ⟨g, 0, none⟩ = some (.int .i64 iv) ∧ w.frozen? ⟨g, 0, none⟩ = false) ∧ (w.cell? ⟨g, 1, none⟩ = some (.int .i64 now) ∧ w.frozen? ⟨g, 1, none⟩ = false) ∧ (w.cell? ⟨g, 2, none⟩ = some vq ∧ w.frozen? ⟨g, 2, none⟩ = false) :=
  ⟨⟨(blk_cell h.blk 0).trans rfl, blk_frozen h.blk 0⟩, ⟨(blk_cell h.blk 1).trans rfl, blk_frozen h.blk 1⟩, (blk_cell h.blk 2).trans rfl, blk_frozen h.blk 2⟩
theorem Clk.drewN {w0 w : World} {g : Nat} {iv now : Int} {vq : Value} {q : List S78} (h : Clk w0 w g iv now vq q) (n : Nat) : Clk w0 (w.drewN n) g iv now vq q := ⟨blk_drewN h.blk n, h.low, Kd.N_drewN h.own n, pw_below_drewN h.below n⟩
theorem Clk.drew {w0 w : World} {g : Nat} {iv now : Int} {vq : Value} {q : List S78} (h : Clk w0 w g iv now vq q) : Clk w0 w.drew g iv now vq q := ⟨blk_drew h.blk, h.low, Kd.N_drew h.own, below_drew1 h.below⟩
theorem below_thru {w0 w w1 : World} (h : Below w0.heap.size w0 w) (hb : Below w.heap.size w w1) : Below w0.heap.size w0 w1 := below_step h hb
theorem Clk.after {w0 w w1 : World} {g : Nat} {iv now : Int} {vq : Value} {q : List S78} (h : Clk w0 w g iv now vq q) (hb : Below w.heap.size w w1) : Clk w0 w1 g iv now vq q := ⟨blk_below h.blk hb, h.low, Kd.N_below h.own hb, below_thru h.below hb⟩
theorem commit_range (w0 w : World) (g : Nat) (iv now s : Int) (vq v : Value) (q : List S78) (hK : Clk w0 w g iv now vq q) (hiv : 1 ≤ iv) (hs : s < 1) : Calls Try.prog 16 #[.pointer (some ⟨g, 0, none⟩), .int .i64 s, v] w fun e w' => e = .returned (.int .i64 6) ∧ ∃ nd, w' = w.drewN nd := by
  have hu69 := Try.underlying69
  have hh := Aside0.mk hK.cells
  have hiv' := Aside0.mk hiv
  have d0 : decide (s < 1) = true := decide_eq_true hs
  clear hK hs
  go_enter Try.func16, Try.ntmps16
  go_wp2_with (first | (go_at_call 36; (with_reducible refine (usable_ok _ g iv (by exact hh.out.1.1) (by exact hh.out.1.2) hiv'.out).mono ?_); rintro e w' ⟨rfl, ⟨nd, rfl⟩⟩))
  go_ret
  exact ⟨rfl, _, rfl⟩
theorem commit_limit (w0 w : World) (g : Nat) (iv now s : Int) (vq : Value) (q : List S78) (A2 : Option Addr) (n2 c2 : Nat) (hK : Clk w0 w g iv now vq q) (hiv : 1 ≤ iv) (hs : 1 ≤ s) (hl : 256 ≤ q.length ∨ 256 < n2) : Calls Try.prog 16 #[.pointer (some ⟨g, 0, none⟩), .int .i64 s, .slice A2 n2 c2] w fun e w' => e = .returned (.int .i64 5) ∧ ∃ nd, w' = w.drewN nd := by
  have hu69 := Try.underlying69
  obtain ⟨Aq, cq, rfl⟩ := Kd.N_slice hK.own
  have hh := Aside0.mk hK.cells
  have c2 := hh.out.2.2.1
  have f2 := hh.out.2.2.2
  have hiv' := Aside0.mk hiv
  have d0 : decide (s < 1) = false := decide_eq_false (by omega)
  clear hK hs
  by_cases h1 : 256 ≤ q.length
  · have d1 : decide (256 ≤ q.length) = true := decide_eq_true h1
    have d2 : decide (256 ≤ (q.length : Int)) = true := decide_eq_true (by omega)
    clear hl
    go_enter Try.func16, Try.ntmps16
    go_wp2_with (first | (go_at_call 36; (with_reducible refine (usable_ok _ g iv (by exact hh.out.1.1) (by exact hh.out.1.2) hiv'.out).mono ?_); rintro e w' ⟨rfl, ⟨nd, rfl⟩⟩))
    go_ret
    exact ⟨rfl, _, rfl⟩
  · have h2 : 256 < n2 := hl.resolve_left h1
    have d1 : decide (256 ≤ q.length) = false := decide_eq_false h1
    have d2 : decide (256 ≤ (q.length : Int)) = false := decide_eq_false (by omega)
    have d3 : decide (256 < n2) = true := decide_eq_true h2
    have d4 : decide (256 < (n2 : Int)) = true := decide_eq_true (by omega)
    clear hl
    go_enter Try.func16, Try.ntmps16
    go_wp2_with (first | (go_at_call 36; (with_reducible refine (usable_ok _ g iv (by exact hh.out.1.1) (by exact hh.out.1.2) hiv'.out).mono ?_); rintro e w' ⟨rfl, ⟨nd, rfl⟩⟩))
    go_ret
    exact ⟨rfl, _, rfl⟩
set_option maxHeartbeats 8000000 in
set_option maxRecDepth 100000 in
theorem commit_ok (w0 w : World) (g : Nat) (iv now s : Int) (vq : Value) (q : List S78) (A2 : Option Addr) (c2 : Nat) (l2 : List Int) (hK : Clk w0 w g iv now vq q) (hiv : 1 ≤ iv) (hs : 1 ≤ s) (hq : q.length < 256) (hl : l2.length ≤ 256) (hr2 : Kd.C (Kd.int .u32) w A2 l2.length l2) (hc2 : l2.length ≤ c2) :
    Calls Try.prog 16 #[.pointer (some ⟨g, 0, none⟩), .int .i64 s, .slice A2 l2.length c2] w fun e w' => e = .returned (.int .i64 0) ∧ ∃ vq', Clk w0 w' g iv now vq' (q ++ [⟨s, l2⟩]) ∧ Stp w w' g vq vq' := by
  have hu69 := Try.underlying69
  obtain ⟨Aq, cq, rfl⟩ := Kd.N_slice hK.own
  have hh := Aside0.mk hK.cells
  have c2_ := hh.out.2.2.1
  have f2_ := hh.out.2.2.2
  have HK := Aside0.mk hK
  have HR2 := Aside0.mk (And.intro hr2 hc2)
  have hiv' := Aside0.mk hiv
  have HQ := Aside0.mk (And.intro hq hl)
  have d0 : decide (s < 1) = false := decide_eq_false (by omega)
  have d1 : decide (256 ≤ q.length) = false := decide_eq_false (by omega)
  have d2 : decide (256 ≤ (q.length : Int)) = false := decide_eq_false (by omega)
  have d3 : decide (256 < l2.length) = false := decide_eq_false (by omega)
  have d4 : decide (256 < (l2.length : Int)) = false := decide_eq_false (by omega)
  clear hK hs hq hl hr2 hc2
  go_enter Try.func16, Try.ntmps16
  go_wp2_with (first | (go_at_call 36; (with_reducible refine (usable_ok _ g iv (by exact hh.out.1.1) (by exact hh.out.1.2) hiv'.out).mono ?_); rintro e w' ⟨rfl, ⟨nd, rfl⟩⟩))
  clear c2_ f2_
  obtain ⟨W, hW⟩ : ∃ W, W = (w.drewN nd).drew := ⟨_, rfl⟩
  have hbW : Aside0 (Below w.heap.size w W) := ⟨by rw [hW]; exact below_drew1 (pw_below_drewN (Below.refl _ _) _)⟩
  have HKW : Aside0 (Clk w0 W g iv now (.slice Aq q.length cq) q) := ⟨by rw [hW]; exact (HK.out.drewN nd).drew⟩
  refine start_ (n := 14) (S := fun w' => w'.cell? ⟨g, 2, none⟩ = some (.slice Aq q.length cq) ∧ w'.frozen? ⟨g, 2, none⟩ = false) (ds := [13]) #[false, false, false, false, false, false, false, false, false, false, false, false, false, false] (by kernel_rfl) rfl rfl (by rw [← hW]; exact ⟨HKW.out.cells.2.2.1, HKW.out.cells.2.2.2⟩) (fun hHeld => ?_)
  rw [← hW] at hHeld ⊢
  have HT_ : Aside0 (rtab .any (opsOf Try.f16 7) = rtab .any (opsOf Try.f16 7)) := ⟨rfl⟩
  refine pv_ 0 26 #[true, false, false, false, false, false, false, false, false, false, false, false, false, false] HT_ ?_
  refine pv_ 1 27 #[true, true, false, false, false, false, false, false, false, false, false, false, false, false] HT_ ?_
  refine pv_ 2 28 #[true, true, true, false, false, false, false, false, false, false, false, false, false, false] HT_ ?_
  refine pv_ 3 29 #[true, true, true, true, false, false, false, false, false, false, false, false, false, false] HT_ ?_
  refine pv_ 5 31 #[true, true, true, true, false, true, false, false, false, false, false, false, false, false] HT_ ?_
  refine pv_ 6 32 #[true, true, true, true, false, true, true, false, false, false, false, false, false, false] HT_ ?_
  refine take_ (i := 4) (N := some 30) (v := ?_) (a' := ?_) #[true, true, true, true, true, true, true, false, false, false, false, false, false, false] rfl rfl (take_of HT_.out (by kernel_rfl)) (fun _ _ _ h => h) (Or.inl ⟨by rfl, ?_⟩) hHeld ?_ ?_
  rotate_left
  · rintro w' ⟨s0, s1⟩
    go_simp
    with_reducible rfl
  rotate_left
  · simp only [Act.put, List.setIfInBounds_toArray, List.set_cons_zero, List.set_cons_succ, i64_w, i32_w]
    rfl
  refine one_ (i := 7) (N := some 33) #[true, true, true, true, true, true, true, true, false, false, false, false, false, false] rfl rfl (one_of HT_.out (by kernel_rfl)) (by decide) (fun K hK => ?_)
  refine Kd.R_append_rows_step (Kd.int .u32) (w0 := w) w.heap.size (by rfl) (.const (.slice none 0 0)) (.tmp 32) 37 36 (.int .u32 0) 4 rfl Try.underlying37 info36 rfl (by decide) (by omega) (.slice none 0 0) [] l2 A2 l2.length c2 (fun k => w.heap.size ≤ k) (fun _ => False) rfl rfl (Kd.R_nil _ _ _ _ _) (Kd.C_below HR2.out.1 hbW.out) (fun x cs h => h) (fun _ h => h.elim) (fun k hk => Nat.le_trans hbW.out.size hk) hbW.out hbW.out.size (by have := HQ.out.2; rw [List.length_nil]; omega) ?_
  rw [List.nil_append]
  intro v1 w1 hv1 hb1 _ hat1
  obtain ⟨A1, c1, e1⟩ := Kd.R_slice hv1
  subst e1
  have HV1 := Aside0.mk hv1
  have HB1 := Aside0.mk hb1
  have HK1 := Aside0.mk (HK.out.after hb1)
  clear hv1 hb1 hat1
  refine hK.out _ _ ⟨HK1.out.cells.2.2.1, HK1.out.cells.2.2.2⟩ (fun hHeld => ?_)
  clear hK K
  refine norm_ (a' := ?_) ?_ ?_
  rotate_left
  · show Act.put _ (some 33) _ = _
    simp only [Act.put, List.setIfInBounds_toArray, List.set_cons_zero, List.set_cons_succ, i64_w, i32_w]
    rfl
  refine pv_ 8 34 #[true, true, true, true, true, true, true, true, true, false, false, false, false, false] HT_ ?_
  refine one_ (i := 9) (N := some 35) #[true, true, true, true, true, true, true, true, true, true, false, false, false, false] rfl rfl (one_of HT_.out (by kernel_rfl)) (by decide) (fun K hK => ?_)
  refine event_step (by rfl) (v := .slice (some ⟨w1.heap.size, 0, none⟩) 1 1) (w1 := w1.alloc (.cells #[.int .i64 s, .slice A1 l2.length c1] 75 (0, 0))) ?hr ?_
  case hr => first | (go_simp; done) | (go_simp; rfl)
  refine hK.out _ _ ⟨(HK1.out.after (below_alloc (Below.refl _ _) _)).cells.2.2.1, (HK1.out.after (below_alloc (Below.refl _ _) _)).cells.2.2.2⟩ (fun hHeld => ?_)
  clear hK K
  refine norm_ (a' := ?_) ?_ ?_
  rotate_left
  · show Act.put _ (some 35) _ = _
    simp only [Act.put, List.setIfInBounds_toArray, List.set_cons_zero, List.set_cons_succ, i64_w, i32_w]
    rfl
  refine one_ (i := 10) (N := some 36) #[true, true, true, true, true, true, true, true, true, true, true, false, false, false] rfl rfl (one_of HT_.out (by kernel_rfl)) (by decide) (fun K hK => ?_)
  refine Kd.N_append_step k78 (w0 := w0) w0.heap.size (by rfl) (.tmp 30) (.tmp 35) 67 75 (.agg #[(.int .i64 0), (.slice none 0 0)]) 32 rfl Try.underlying67 info75 rfl (by decide) (by omega) (.slice Aq q.length cq) q (⟨s, l2⟩ : S78) [.int .i64 s, .slice A1 l2.length c1] (fun k => w0.heap.size ≤ k ∧ k ≠ g) (fun k => w.heap.size ≤ k) rfl rfl (k78_mkF _ _ (⟨s, l2⟩ : S78) (Kd.R_reads' HV1.out).2.1 (Kd.R_F HV1.out)) ?hokp ?hfr HK1.out.own HK1.out.below HK1.out.below.size (by have := HQ.out.1; omega) ?_
  case hokp =>
    intro k hk
    refine ⟨⟨Nat.le_trans HK.out.below.size hk, fun e => ?_⟩, fun e => ?_⟩
    · have := blk_lt HK.out.blk
      omega
    · have := Kd.N_lt HK.out.own k e.symm
      omega
  case hfr =>
    intro k hk
    refine ⟨Nat.le_trans HK1.out.below.size hk, fun e => ?_⟩
    have := blk_lt HK1.out.blk
    omega
  intro v3 w3 hv3 hb3 hg3 hat3
  have hgn : some g ≠ (Value.slice Aq q.length cq).ownBlock := fun e => (HK.out.own.1 g e.symm).2 rfl
  have HK3 : Aside0 (Clk w0 w3 g iv now (.slice Aq q.length cq) q → True) := ⟨fun _ => trivial⟩
  have BK3 := Aside0.mk (blk_grown HK1.out.blk hg3 hgn)
  have HV3 := Aside0.mk hv3
  have HB3 := Aside0.mk hb3
  have KP3 : Aside0 (Kept w w3 (fun k => k = g ∨ some k = (Value.slice Aq q.length cq).ownBlock)) := ⟨Kept.of_grown hg3 (Kept.of_below HB1.out _) (fun k hk => Or.inl (Or.inr hk.symm))⟩
  have HAT : Aside0 (v3.ownBlock = (Value.slice Aq q.length cq).ownBlock ∨ ∃ b, v3.ownBlock = some b ∧ w.heap.size ≤ b) := ⟨hat3.elim Or.inl (fun ⟨b, h1, h2⟩ => Or.inr ⟨b, h1, Nat.le_trans HB1.out.size h2⟩)⟩
  clear hv3 hb3 hg3 hat3 hgn HK3
  refine hK.out _ _ ⟨(blk_cell BK3.out 2).trans rfl, blk_frozen BK3.out 2⟩ (fun hHeld => ?_)
  clear hK K
  refine norm_ (a' := ?_) ?_ ?_
  rotate_left
  · show Act.put _ (some 36) _ = _
    simp only [Act.put, List.setIfInBounds_toArray, List.set_cons_zero, List.set_cons_succ, i64_w, i32_w]
    rfl
  refine pv_ 11 37 #[true, true, true, true, true, true, true, true, true, true, true, true, false, false] HT_ ?_
  refine pv_ 12 38 #[true, true, true, true, true, true, true, true, true, true, true, true, true, false] HT_ ?_
  refine last_ (i := 13) (N := none) #[true, true, true, true, true, true, true, true, true, true, true, true, true, true] rfl rfl (one_of HT_.out (by kernel_rfl)) (by decide) (fun K hK => ?_)
  have cs2 : w3.cell? ⟨g, 2, none⟩ = some (.slice Aq q.length cq) := (blk_cell BK3.out 2).trans rfl
  have fs2 := blk_frozen BK3.out 2
  obtain ⟨A3, c3, e3⟩ := Kd.N_slice HV3.out
  subst e3
  have HV4 := HV3.out
  simp only [List.length_append, List.length_cons, List.length_nil, Nat.zero_add] at HV4
  have HV5 := Aside0.mk HV4
  clear HV4 HV3
  simp only [List.length_append, List.length_cons, List.length_nil, Nat.zero_add] at HAT
  refine skip_ (w1 := ?_) (by rfl) rfl ?_ ?_
  rotate_left
  · go_simp
    rfl
  refine hK.out _ _ ?_
  clear hK K
  refine done_ (done_of HT_.out (by kernel_rfl)) ?_
  go_wp2
  go_ret
  refine ⟨rfl, _, ⟨blk_put (cs := #[.int .i64 iv, .int .i64 now, .slice Aq q.length cq]) BK3.out 2 _ rfl, HK.out.low, Kd.N_far (p := ⟨g, 2, none⟩) HV5.out (fun _ hk => hk.2) _, below_set HB3.out HK.out.low⟩, Kept.setCell KP3.out (Or.inl (Or.inl rfl)) _, ?_⟩
  exact HAT.out.elim Or.inl (fun h => Or.inr (Or.inr h))
theorem addr_add (a : Addr) (m n : Nat) : (a.add m).add n = a.add (m + n) := by
  unfold Addr.add
  by_cases hm : m = 0 <;> by_cases hn : n = 0 <;> simp [hm, hn, Nat.add_assoc]
theorem w1_ {k : Nat} (h : k ≤ 256) : wrap64 ((k : Int) + 1) = ((k + 1 : Nat) : Int) := by unfold wrap64; omega
def sup (q : List S78) (i : Nat) : Bool := (q.drop (i + 1)).any fun x => x.f0 == (rd_T78 q (i : Int)).f0
theorem sup_step (q : List S78) (i j : Nat) (hj : i + 1 + j < q.length) : (q.drop (i + 1 + j)).any (fun x => x.f0 == (rd_T78 q (i : Int)).f0) = ((rd_T78 q ((i + 1 + j : Nat) : Int)).f0 == (rd_T78 q (i : Int)).f0 || (q.drop (i + 1 + (j + 1))).any fun x => x.f0 == (rd_T78 q (i : Int)).f0) := by
  rw [List.drop_eq_getElem_cons hj, List.any_cons]
  have e : rd_T78 q ((i + 1 + j : Nat) : Int) = q[i + 1 + j] := by
    unfold rd_T78
    rw [Int.toNat_natCast, List.getD_eq_getElem?_getD, List.getElem?_eq_getElem hj]
    rfl
  rw [e]
  rfl
set_option maxHeartbeats 8000000 in
theorem superseded_ok (w0 w : World) (g : Nat) (iv now : Int) (vq : Value) (q : List S78) (i : Nat) (hK : Clk w0 w g iv now vq q) (hi : i < q.length) (hq : q.length ≤ 256) : Calls Try.prog 39 #[.pointer (some ⟨g, 0, none⟩), .int .i64 i] w fun e w' => e = .returned (.bool (sup q i)) ∧ Below w.heap.size w w' := by
  have hu69 := Try.underlying69
  have hu67 := Try.underlying67
  have hu75 := Try.underlying75
  obtain ⟨Aq, cq, rfl⟩ := Kd.N_slice hK.own
  obtain ⟨_, hcq, hC⟩ := Kd.N_reads' hK.own
  have hh := Aside0.mk hK.cells
  have c2_ := hh.out.2.2.1
  have f2_ := hh.out.2.2.2
  have HK := Aside0.mk hK
  have HC := Aside0.mk hC
  obtain ⟨ad, A1, c1, e0, x0, x1, _⟩ := at_T78 hC (i : Int) (by omega) (by omega)
  subst e0
  simp only [Int.toNat_natCast] at x0 x1
  have hX := Aside0.mk x0
  have hI := Aside0.mk (And.intro hi (And.intro hq hcq))
  have ew : wrap64 ((i : Int) + 1) = ((i + 1 : Nat) : Int) := by unfold wrap64; omega
  clear hK hC x0 x1 hi hq
  have hle : i + 1 ≤ q.length := hI.out.1
  by_cases hcap : cq = i + 1
  · have hz : q.length = i + 1 := by have := hI.out.1; have := hI.out.2.2; omega
    have hf : Aside0 (sup q i = false) := ⟨by unfold sup; rw [← hz, List.drop_length]; rfl⟩
    subst hcap
    go_enter Try.func39, Try.ntmps39
    go_wp2
    go_step3
    go_wp2
    go_step3
    go_wp2
    clear c2_ f2_
    go_loopw [5, 16] (fun v5 v w' => v5 = .bool false ∧ v = .int .i64 0 ∧ Aside0 (Below w.heap.size w w')) (fun _ v _ => 0)
    case atStart => exact ⟨rfl, rfl, ⟨Below.refl _ _⟩⟩
    case round =>
      obtain ⟨rfl, rfl, hb⟩ := hrel
      go_wp2
      rw [Exit.noGoto_ret]
      go_ret
      exact ⟨by rw [hf.out]; rfl, hb.out⟩
  · go_enter Try.func39, Try.ntmps39
    go_wp2
    go_step3
    go_wp2
    go_step3
    go_wp2
    clear c2_ f2_
    go_loopw [5, 16] (fun v5 v w' => ∃ k : Nat, k ≤ q.length - (i + 1) ∧ v5 = .bool false ∧ v = .int .i64 k ∧ Aside0 (sup q i = (q.drop (i + 1 + k)).any fun x => x.f0 == (rd_T78 q (i : Int)).f0) ∧ Aside0 (Below w.heap.size w w')) (fun _ v _ => q.length - (intOf v).toNat)
    case atStart => exact ⟨0, Nat.zero_le _, rfl, rfl, ⟨rfl⟩, ⟨Below.refl _ _⟩⟩
    case round =>
      obtain ⟨k, hk, rfl, rfl, he, hb⟩ := hrel
      by_cases hlt : k < q.length - (i + 1)
      · obtain ⟨ad', A1, c1, e0, x0, x1, _⟩ := at_T78 HC.out ((i + 1 + k : Nat) : Int) (by omega) (by omega)
        cases e0
        simp only [Int.toNat_natCast] at x0 x1
        replace x0 := (hb.out.cell (World.block_lt_of_cell? w _ x0)).trans x0
        replace x1 := (hb.out.cell (World.block_lt_of_cell? w _ x1)).trans x1
        have ea : (ad.add ((i + 1) * 2)).add (k * 2) = ad.add ((i + 1 + k) * 2) := by rw [addr_add, Nat.add_mul (i + 1) k 2]
        have hlt' : (k : Int) < ((q.length - (i + 1) : Nat) : Int) := by omega
        have hs := sup_step q i k (by omega)
        rw [hs] at he
        clear hs
        have ew2 : Aside0 (wrap64 ((k : Int) + 1) = ((k + 1 : Nat) : Int)) := ⟨w1_ (Nat.le_trans (Nat.le_of_lt hlt) (Nat.le_trans (Nat.sub_le _ _) hI.out.2.1))⟩
        generalize rd_T78 q ((i + 1 + k : Nat) : Int) = x at x0 x1 he
        go_wp2_with fail
        obtain ⟨hR0, hb0⟩ := allocs1 wr (Obj.cells #[Value.int IntKind.i64 x.f0, Value.slice A1 x.f1.length c1] 75)
        generalize hgz : wr.heap.size = gz at *
        generalize wr.alloc (Obj.cells #[Value.int IntKind.i64 x.f0, Value.slice A1 x.f1.length c1] 75) = W at hR0 hb0 ⊢
        have hbW : Aside0 (Below w.heap.size w W) := ⟨below_step hb.out (by rw [← hgz] at hb0; exact hb0)⟩
        have HW := Aside0.mk (HK.out.after hbW.out)
        have hXW : Aside0 (W.cell? (ad.add (i * 2)) = some (.int .i64 (rd_T78 q (i : Int)).f0)) := ⟨(hbW.out.cell (World.block_lt_of_cell? w _ hX.out)).trans hX.out⟩
        have hRW := Aside0.mk hR0
        have y0 : W.drew.cell? ⟨gz, 0, none⟩ = some (.int .i64 x.f0) := (blk_cell hR0 0).trans rfl
        have y1 : W.drew.cell? ⟨g, 2, none⟩ = some (.slice (some ad) q.length cq) := HW.out.cells.2.2.1
        have y2 : W.drew.cell? (ad.add (i * 2)) = some (.int .i64 (rd_T78 q (i : Int)).f0) := hXW.out
        have hiq : (i : Int) < (q.length : Int) := by have := hI.out.1; omega
        clear hb0 hR0 x0 x1 hgz
        go_region_held3 (fun w' => w'.cell? ⟨gz, 0, none⟩ = some (.int .i64 x.f0) ∧ w'.cell? ⟨g, 2, none⟩ = some (.slice (some ad) q.length cq) ∧ w'.cell? (ad.add (i * 2)) = some (.int .i64 (rd_T78 q (i : Int)).f0)) (exact ⟨(blk_cell hRW.out 0).trans rfl, HW.out.cells.2.2.1, hXW.out⟩) (fail)
        have hbD : Aside0 (Below w.heap.size w W.drew) := ⟨below_drew1 hbW.out⟩
        clear y0 y1 y2 HW hXW hRW hb hbW
        by_cases hk2 : (x.f0 == (rd_T78 q (i : Int)).f0) = true
        · rw [hk2] at he ⊢
          rw [Bool.true_or] at he
          go_wp2
          rw [Exit.noGoto_ret]
          go_ret
          exact ⟨by rw [he.out]; rfl, hbD.out⟩
        · replace hk2 := Bool.eq_false_iff.mpr hk2
          rw [hk2] at he ⊢
          rw [Bool.false_or] at he
          go_wp2
          go_roundw
          case rel => exact ⟨k + 1, by omega, rfl, by simp only [ew2.out], he, hbD⟩
          case measure =>
            clear he hbD
            rw [ew2.out]
            simp only [intOf, Int.toNat_natCast]
            omega
      · obtain rfl : k = q.length - (i + 1) := by omega
        have hf : Aside0 (sup q i = false) := ⟨by rw [he.out, show i + 1 + (q.length - (i + 1)) = q.length by omega, List.drop_length]; rfl⟩
        go_wp2
        rw [Exit.noGoto_ret]
        go_ret
        exact ⟨by rw [hf.out]; rfl, hb.out⟩
structure Out (u w : World) (go : Nat) (vo : Value) (l : List S42) : Prop where
  blk : w.heap[go]? = some (.cells #[vo] 39 (0, 0))
  low : u.heap.size ≤ go
  own : Kd.R k42 42 w u.heap.size (fun k => u.heap.size ≤ k ∧ k ≠ go) vo l
  below : Below u.heap.size u w
theorem Out.drewN {u w : World} {go : Nat} {vo : Value} {l : List S42} (h : Out u w go vo l) (n : Nat) : Out u (w.drewN n) go vo l := ⟨blk_drewN h.blk n, h.low, Kd.R_drewN h.own n, pw_below_drewN h.below n⟩
theorem Out.drew {u w : World} {go : Nat} {vo : Value} {l : List S42} (h : Out u w go vo l) : Out u w.drew go vo l := ⟨blk_drew h.blk, h.low, Kd.R_drew h.own, below_drew1 h.below⟩
theorem Out.after {u w w1 : World} {go : Nat} {vo : Value} {l : List S42} (h : Out u w go vo l) (hb : Below w.heap.size w w1) : Out u w1 go vo l := ⟨blk_below h.blk hb, h.low, Kd.R_below h.own hb, below_step h.below hb⟩
theorem report_ok (u w : World) (go : Nat) (vo : Value) (l : List S42) (s kd tm cd : Int) (hO : Out u w go vo l) (hl : l.length ≤ 1000000) : Calls Try.prog 38 #[.int .i64 s, .int .i64 kd, .int .i64 tm, .int .i64 cd, .pointer (some ⟨go, 0, none⟩)] w fun e w' => e = .returned (.tuple #[]) ∧ (∀ (k : Nat) (cs : Array Value), w.heap[k]? = some (Obj.cells cs 75 (0, 0)) → w'.heap[k]? = some (Obj.cells cs 75 (0, 0))) ∧ ∃ vo', Out u w' go vo' (l ++ [⟨0, s, kd, tm, 0, 0, cd, 0, 0⟩]) := by
  obtain ⟨Ao, co, rfl⟩ := Kd.R_slice hO.own
  have HO := Aside0.mk hO
  have HL := Aside0.mk hl
  have hc0 : w.cell? ⟨go, 0, none⟩ = some (.slice Ao l.length co) := (blk_cell hO.blk 0).trans rfl
  have hf0 := blk_frozen hO.blk 0
  clear hO hl
  go_enter Try.func38, Try.ntmps38
  go_wp2_with (first | ((with_reducible refine gate_builtin (b := .append) (xs := #[.tmp 9, .tmp 15]) rfl ?_); at_builtin; refine Kd.R_append k42 (w0 := u) u.heap.size rfl (.tmp 9) (.tmp 15) 39 42 (.agg #[(.int .i64 0), (.int .i64 0), (.int .i64 0), (.int .i64 0), (.int .i64 0), (.int .i64 0), (.int .i64 0), (.int .i64 0), (.int .u32 0)]) 72 rfl Try.underlying39 info42 rfl (by decide) (by omega) (.slice Ao l.length co) l (⟨0, s, kd, tm, 0, 0, cd, 0, 0⟩ : S42) [.int .i64 0, .int .i64 s, .int .i64 kd, .int .i64 tm, .int .i64 0, .int .i64 0, .int .i64 cd, .int .i64 0, .int .u32 0] (fun k => u.heap.size ≤ k ∧ k ≠ go) (fun _ => False) rfl rfl ?aP (fun _ hk => hk.elim) ?aF ?aO ?aB ?aS ?aL ?_; (case aP => exact k42_mkM _ _ _ (⟨0, s, kd, tm, 0, 0, cd, 0, 0⟩ : S42)); (case aB => exact HO.out.below); (case aF => exact (fun k hk => ⟨Nat.le_trans HO.out.below.size hk, fun e => Nat.lt_irrefl _ (Nat.lt_of_lt_of_le (blk_lt HO.out.blk) (e ▸ hk))⟩)); (case aO => exact HO.out.own); (case aS => exact HO.out.below.size); (case aL => have := HL.out; omega); intro v1 w1 ho hb hg hat; have hv1 := Aside0.mk ho; have hB1 := Aside0.mk hb; have hbk := Aside0.mk (blk_grown HO.out.blk hg (fun e => (HO.out.own.1 go e.symm).2 rfl)); have hkp : Aside0 (∀ (k : Nat) (cs : Array Value), w.heap[k]? = some (Obj.cells cs 75 (0, 0)) → w1.heap[k]? = some (Obj.cells cs 75 (0, 0))) := ⟨fun k cs hk => blk_grown hk hg (Kd.R_ne HO.out.own hk (by decide))⟩; clear ho hb hg hat; have hc1 : w1.cell? ⟨go, 0, none⟩ = some (.slice Ao l.length co) := (blk_cell hbk.out 0).trans rfl; have hf1 := blk_frozen hbk.out 0; obtain ⟨A1, c1, e1⟩ := Kd.R_slice hv1.out; subst e1))
  have hv2 := hv1.out
  rw [List.length_append, List.length_singleton] at hv2
  exact bodyPost_end (results_none rfl _ _ _) rfl ⟨rfl, fun k cs hk => blk_far (hkp.out k cs hk) (fun e => by subst e; exact absurd (hk.symm.trans HO.out.blk) (by simp)) _, _, blk_put (cs := #[.slice Ao l.length co]) hbk.out 0 _ rfl, HO.out.low, Kd.R_far (p := ⟨go, 0, none⟩) hv2 (fun _ hk => hk.2) _, below_set hB1.out HO.out.low⟩
def clampOf (n : Int) : Int := mn (mx n 0) 4611686018427387904
def dlOf (b iv : Int) (q : List S78) (i : Nat) : List S42 :=
  (rd_T78 q (i : Int)).f1.map (fun n => (⟨0, (rd_T78 q (i : Int)).f0, 19, wrap64 (Int.tdiv b 1000000), 0, 0, wrap64 n, 0, 0⟩ : S42)) ++ [if sup q i = true then ⟨0, (rd_T78 q (i : Int)).f0, 23, 0, 0, 0, 0, 0, 0⟩ else ⟨0, (rd_T78 q (i : Int)).f0, 22, wrap64 (Int.tdiv b 1000), 0, 0, wrap64 (Int.tdiv b iv), 0, 0⟩]
def dlAll (b iv : Int) (q : List S78) (n : Nat) : List S42 := (List.range n).flatMap (dlOf b iv q)
set_option maxHeartbeats 8000000 in
set_option maxRecDepth 100000 in
theorem tick_early (w0 w : World) (g : Nat) (iv now n : Int) (vq : Value) (q : List S78) (hK : Clk w0 w g iv now vq q) (hiv : 1 ≤ iv) (hb : mx now (clampOf n) < nextOf iv now) :
    Calls Try.prog 18 #[.pointer (some ⟨g, 0, none⟩), .int .i64 n] w fun e w' => e = .returned (.slice none 0 0) ∧ Clk w0 w' g iv (mx now (clampOf n)) vq q ∧ Kept w w' (fun k => k = g) := by
  have hu69 := Try.underlying69
  have HK := Aside0.mk hK
  have hh := Aside0.mk hK.cells
  have c1_ := hh.out.2.1.1
  have f1_ := hh.out.2.1.2
  have hiv' := Aside0.mk hiv
  have hB := Aside0.mk hb
  clear hK hb
  obtain ⟨M, hM⟩ : ∃ M, mx now (clampOf n) = M := ⟨_, rfl⟩
  rw [hM] at hB ⊢
  have hM_ : (if now < clampOf n then clampOf n else now) = M := hM
  obtain ⟨C, hC⟩ : ∃ C, clampOf n = C := ⟨_, rfl⟩
  rw [hC] at hM_
  have hC' : mn (mx n 0) 4611686018427387904 = C := hC
  go_enter Try.func18, Try.ntmps18
  go_wp2_with (first | (go_at_call 36; (with_reducible refine (usable_ok _ g iv (by exact hh.out.1.1) (by exact hh.out.1.2) hiv'.out).mono ?_); rintro e w' ⟨rfl, ⟨nd, rfl⟩⟩) | (go_at_call 13; (with_reducible refine (next_ok _ g iv now ?hx ?hy hiv'.out).mono ?_); (case hx => exact hh.out.1.1); (case hy => exact hh.out.1.2); rintro e w' ⟨rfl, ⟨nd2, rfl⟩⟩))
  clear c1_ f1_
  obtain ⟨W, hW⟩ : ∃ W, W = (w.drewN (nd + nd2)).drew := ⟨_, rfl⟩
  have HKW : Aside0 (Clk w0 W g iv now vq q) := ⟨by rw [hW]; exact (HK.out.drewN _).drew⟩
  have KPW : Aside0 (Kept w W (fun k => k = g)) := ⟨by rw [hW]; exact Kept.drew (Kept.drewN (Kept.refl _ _) _)⟩
  refine start_ (n := 11) (S := fun w' => w'.cell? ⟨g, 1, none⟩ = some (.int .i64 now) ∧ w'.frozen? ⟨g, 1, none⟩ = false) (ds := [10]) #[false, false, false, false, false, false, false, false, false, false, false] (by kernel_rfl) rfl rfl (by rw [← hW]; exact ⟨HKW.out.cells.2.1.1, HKW.out.cells.2.1.2⟩) (fun hHeld => ?_)
  rw [← hW] at hHeld ⊢
  clear hW
  have HT_ : Aside0 (rtab .any (opsOf Try.f18 4) = rtab .any (opsOf Try.f18 4)) := ⟨rfl⟩
  refine pv_ 0 21 #[true, false, false, false, false, false, false, false, false, false, false] HT_ ?_
  refine pv_ 1 22 #[true, true, false, false, false, false, false, false, false, false, false] HT_ ?_
  refine pv_ 2 23 #[true, true, true, false, false, false, false, false, false, false, false] HT_ ?_
  refine pv_ 3 24 #[true, true, true, true, false, false, false, false, false, false, false] HT_ ?_
  refine pv_ 5 26 #[true, true, true, true, false, true, false, false, false, false, false] HT_ ?_
  refine take_ (i := 4) (N := some 25) (v := ?_) (a' := ?_) #[true, true, true, true, true, true, false, false, false, false, false] rfl rfl (take_of HT_.out (by kernel_rfl)) (fun _ _ _ h => h) (Or.inl ⟨by rfl, ?_⟩) hHeld ?_ ?_
  rotate_left
  · rintro w' ⟨s0, s1⟩
    go_simp
    with_reducible rfl
  rotate_left
  · simp only [Act.put, List.setIfInBounds_toArray, List.set_cons_zero, List.set_cons_succ, i64_w, i32_w]
    rfl
  refine one_ (i := 6) (N := some 27) #[true, true, true, true, true, true, true, false, false, false, false] rfl rfl (one_of HT_.out (by kernel_rfl)) (by decide) (fun K hK => ?_)
  refine goes_ Try.func37 (by kernel_rfl) rfl #[.int .i64 n] (by rfl) rfl rfl (by (try simp only [List.map_toArray, List.map_cons, List.map_nil]) <;> rfl) ?_
  refine (clamp_ok _ n).mono ?_
  rintro e w' ⟨rfl, ⟨nd3, rfl⟩⟩
  refine ⟨_, rfl, ?_⟩
  rw [hC']
  have HK3 := Aside0.mk (HKW.out.drewN nd3)
  refine hK.out _ _ ⟨HK3.out.cells.2.1.1, HK3.out.cells.2.1.2⟩ (fun hHeld => ?_)
  clear hK K
  refine norm_ (a' := ?_) ?_ ?_
  rotate_left
  · show Act.put _ (some 27) _ = _
    simp only [Act.put, List.setIfInBounds_toArray, List.set_cons_zero, List.set_cons_succ, i64_w, i32_w]
    rfl
  refine pv_ 7 28 #[true, true, true, true, true, true, true, true, false, false, false] HT_ ?_
  refine pv_ 8 29 #[true, true, true, true, true, true, true, true, true, false, false] HT_ ?_
  refine pv_ 9 30 #[true, true, true, true, true, true, true, true, true, true, false] HT_ ?_
  refine last_ (i := 10) (N := none) #[true, true, true, true, true, true, true, true, true, true, true] rfl rfl (one_of HT_.out (by kernel_rfl)) (by decide) (fun K hK => ?_)
  have cs1 : (W.drewN nd3).cell? ⟨g, 1, none⟩ = some (.int .i64 now) := HK3.out.cells.2.1.1
  have fs1 : (W.drewN nd3).frozen? ⟨g, 1, none⟩ = false := HK3.out.cells.2.1.2
  refine skip_ (w1 := ?_) (by rfl) rfl ?_ ?_
  rotate_left
  · go_simp
    rfl
  refine hK.out _ _ ?_
  clear hK K
  refine done_ (done_of HT_.out (by kernel_rfl)) ?_
  have HK4 : Aside0 (Clk w0 ((W.drewN nd3).setCell ⟨g, 1, none⟩ (.int .i64 M)) g iv M vq q) := ⟨⟨blk_put (cs := #[.int .i64 iv, .int .i64 now, vq]) HK3.out.blk 1 _ rfl, HK3.out.low, Kd.N_far (p := ⟨g, 1, none⟩) HK3.out.own (fun _ hk => hk.2) _, below_set HK3.out.below HK3.out.low⟩⟩
  have KP4 : Aside0 (Kept w ((W.drewN nd3).setCell ⟨g, 1, none⟩ (.int .i64 M)) (fun k => k = g)) := ⟨Kept.setCell (Kept.drewN KPW.out _) (Or.inl rfl) _⟩
  generalize (W.drewN nd3).setCell ⟨g, 1, none⟩ (.int .i64 M) = U at HK4 KP4 ⊢
  have u1 := HK4.out.cells.2.1.1
  have v1 := HK4.out.cells.2.1.2
  have dB : decide (M < nextOf iv now) = true := decide_eq_true hB.out
  clear cs1 fs1
  go_wp2
  go_ret
  exact ⟨rfl, HK4.out, KP4.out⟩
theorem meas_ {n k : Nat} (h : k < n) : n - (intOf (.int .i64 ((k + 1 : Nat) : Int))).toNat < n - (intOf (.int .i64 (k : Int))).toNat := by
  simp only [intOf, Int.toNat_natCast]
  omega
theorem lim_ {a b c d e : Nat} (h1 : a ≤ b * 257) (h2 : c ≤ 256) (h3 : d ≤ 256) (hb : b ≤ d) (he : e ≤ c) : a + e ≤ 1000000 := by
  have : b * 257 ≤ 256 * 257 := Nat.mul_le_mul_right _ (Nat.le_trans hb h3)
  omega
theorem at_u32 {w : World} {A : Option Addr} {n : Nat} {xs : List Int} (h : Kd.C (Kd.int .u32) w A n xs) (i : Int) (h0 : 0 ≤ i) (h1 : i < n) : ∃ ad, A = some ad ∧ w.cell? (ad.add i.toNat) = some (.int .u32 (xs.getD i.toNat 0)) := by
  obtain ⟨ad, c, e, _, hK, hc0⟩ := Kd.C_get h (0 : Int) i h0 h1
  have hc : ∀ j u, c[j]? = some u → w.cell? (ad.add (i.toNat * 1 + j)) = some u := hc0
  have hk : c = [.int .u32 (xs.getD i.toNat 0)] := hK
  subst hk
  exact ⟨ad, e, by have hq := hc 0 _ rfl; rwa [Nat.mul_one, Nat.add_zero] at hq⟩
theorem dl_len (b iv : Int) (q : List S78) (hq : ∀ x ∈ q, x.f1.length ≤ 256) : ∀ k, k ≤ q.length → (dlAll b iv q k).length ≤ k * 257 := by
  intro k
  induction k with
  | zero => intro _; simp [dlAll]
  | succ k ih =>
    intro hk
    have h1 := ih (by omega)
    have hm : rd_T78 q (k : Int) ∈ q := by
      unfold rd_T78
      rw [Int.toNat_natCast, List.getD_eq_getElem?_getD, List.getElem?_eq_getElem (show k < q.length by omega)]
      exact List.getElem_mem _
    have h2 := hq _ hm
    have h3 : (dlOf b iv q k).length = (rd_T78 q (k : Int)).f1.length + 1 := by
      unfold dlOf
      rw [List.length_append, List.length_map, List.length_singleton]
    unfold dlAll at h1 ⊢
    rw [List.range_succ, List.flatMap_append, List.length_append, List.flatMap_cons, List.flatMap_nil, List.append_nil, h3, Nat.succ_mul]
    omega
theorem dl_succ (b iv : Int) (q : List S78) (k : Nat) : dlAll b iv q (k + 1) = dlAll b iv q k ++ dlOf b iv q k := by
  unfold dlAll
  rw [List.range_succ, List.flatMap_append, List.flatMap_cons, List.flatMap_nil, List.append_nil]
set_option maxHeartbeats 8000000 in
set_option maxRecDepth 100000 in
theorem tick_full (w0 w : World) (g : Nat) (iv now n : Int) (vq : Value) (q : List S78) (hK : Clk w0 w g iv now vq q) (hiv : 1 ≤ iv) (hq : q.length ≤ 256) (hcb : ∀ x ∈ q, x.f1.length ≤ 256) (hb : ¬ mx now (clampOf n) < nextOf iv now) :
    Calls Try.prog 18 #[.pointer (some ⟨g, 0, none⟩), .int .i64 n] w fun e w' => ∃ v, e = .returned v ∧ Kd.R k42 42 w' w.heap.size (fun k => w.heap.size ≤ k) v (dlAll (nextOf iv now) iv q q.length) ∧ Clk w0 w' g iv (mx now (clampOf n)) (.slice none 0 0) [] ∧ Kept w w' (fun k => k = g) := by
  have hu69 := Try.underlying69
  have HK := Aside0.mk hK
  have hh := Aside0.mk hK.cells
  have c1_ := hh.out.2.1.1
  have f1_ := hh.out.2.1.2
  have hiv' := Aside0.mk hiv
  have hB := Aside0.mk hb
  have hQ := Aside0.mk (And.intro hq hcb)
  clear hK hb hq hcb
  obtain ⟨M, hM⟩ : ∃ M, mx now (clampOf n) = M := ⟨_, rfl⟩
  rw [hM] at hB ⊢
  have hM_ : (if now < clampOf n then clampOf n else now) = M := hM
  obtain ⟨C, hC⟩ : ∃ C, clampOf n = C := ⟨_, rfl⟩
  rw [hC] at hM_
  have hC' : mn (mx n 0) 4611686018427387904 = C := hC
  go_enter Try.func18, Try.ntmps18
  go_wp2_with (first | (go_at_call 36; (with_reducible refine (usable_ok _ g iv (by exact hh.out.1.1) (by exact hh.out.1.2) hiv'.out).mono ?_); rintro e w' ⟨rfl, ⟨nd, rfl⟩⟩) | (go_at_call 13; (with_reducible refine (next_ok _ g iv now ?hx ?hy hiv'.out).mono ?_); (case hx => exact hh.out.1.1); (case hy => exact hh.out.1.2); rintro e w' ⟨rfl, ⟨nd2, rfl⟩⟩))
  clear c1_ f1_
  obtain ⟨W, hW⟩ : ∃ W, W = (w.drewN (nd + nd2)).drew := ⟨_, rfl⟩
  have HKW : Aside0 (Clk w0 W g iv now vq q) := ⟨by rw [hW]; exact (HK.out.drewN _).drew⟩
  have KPW : Aside0 (Kept w W (fun k => k = g)) := ⟨by rw [hW]; exact Kept.drew (Kept.drewN (Kept.refl _ _) _)⟩
  refine start_ (n := 11) (S := fun w' => w'.cell? ⟨g, 1, none⟩ = some (.int .i64 now) ∧ w'.frozen? ⟨g, 1, none⟩ = false) (ds := [10]) #[false, false, false, false, false, false, false, false, false, false, false] (by kernel_rfl) rfl rfl (by rw [← hW]; exact ⟨HKW.out.cells.2.1.1, HKW.out.cells.2.1.2⟩) (fun hHeld => ?_)
  rw [← hW] at hHeld ⊢
  clear hW
  have HT_ : Aside0 (rtab .any (opsOf Try.f18 4) = rtab .any (opsOf Try.f18 4)) := ⟨rfl⟩
  refine pv_ 0 21 #[true, false, false, false, false, false, false, false, false, false, false] HT_ ?_
  refine pv_ 1 22 #[true, true, false, false, false, false, false, false, false, false, false] HT_ ?_
  refine pv_ 2 23 #[true, true, true, false, false, false, false, false, false, false, false] HT_ ?_
  refine pv_ 3 24 #[true, true, true, true, false, false, false, false, false, false, false] HT_ ?_
  refine pv_ 5 26 #[true, true, true, true, false, true, false, false, false, false, false] HT_ ?_
  refine take_ (i := 4) (N := some 25) (v := ?_) (a' := ?_) #[true, true, true, true, true, true, false, false, false, false, false] rfl rfl (take_of HT_.out (by kernel_rfl)) (fun _ _ _ h => h) (Or.inl ⟨by rfl, ?_⟩) hHeld ?_ ?_
  rotate_left
  · rintro w' ⟨s0, s1⟩
    go_simp
    with_reducible rfl
  rotate_left
  · simp only [Act.put, List.setIfInBounds_toArray, List.set_cons_zero, List.set_cons_succ, i64_w, i32_w]
    rfl
  refine one_ (i := 6) (N := some 27) #[true, true, true, true, true, true, true, false, false, false, false] rfl rfl (one_of HT_.out (by kernel_rfl)) (by decide) (fun K hK => ?_)
  refine goes_ Try.func37 (by kernel_rfl) rfl #[.int .i64 n] (by rfl) rfl rfl (by (try simp only [List.map_toArray, List.map_cons, List.map_nil]) <;> rfl) ?_
  refine (clamp_ok _ n).mono ?_
  rintro e w' ⟨rfl, ⟨nd3, rfl⟩⟩
  refine ⟨_, rfl, ?_⟩
  rw [hC']
  have HK3 := Aside0.mk (HKW.out.drewN nd3)
  refine hK.out _ _ ⟨HK3.out.cells.2.1.1, HK3.out.cells.2.1.2⟩ (fun hHeld => ?_)
  clear hK K
  refine norm_ (a' := ?_) ?_ ?_
  rotate_left
  · show Act.put _ (some 27) _ = _
    simp only [Act.put, List.setIfInBounds_toArray, List.set_cons_zero, List.set_cons_succ, i64_w, i32_w]
    rfl
  refine pv_ 7 28 #[true, true, true, true, true, true, true, true, false, false, false] HT_ ?_
  refine pv_ 8 29 #[true, true, true, true, true, true, true, true, true, false, false] HT_ ?_
  refine pv_ 9 30 #[true, true, true, true, true, true, true, true, true, true, false] HT_ ?_
  refine last_ (i := 10) (N := none) #[true, true, true, true, true, true, true, true, true, true, true] rfl rfl (one_of HT_.out (by kernel_rfl)) (by decide) (fun K hK => ?_)
  have cs1 : (W.drewN nd3).cell? ⟨g, 1, none⟩ = some (.int .i64 now) := HK3.out.cells.2.1.1
  have fs1 : (W.drewN nd3).frozen? ⟨g, 1, none⟩ = false := HK3.out.cells.2.1.2
  refine skip_ (w1 := ?_) (by rfl) rfl ?_ ?_
  rotate_left
  · go_simp
    rfl
  refine hK.out _ _ ?_
  clear hK K
  refine done_ (done_of HT_.out (by kernel_rfl)) ?_
  have HK4 : Aside0 (Clk w0 ((W.drewN nd3).setCell ⟨g, 1, none⟩ (.int .i64 M)) g iv M vq q) := ⟨⟨blk_put (cs := #[.int .i64 iv, .int .i64 now, vq]) HK3.out.blk 1 _ rfl, HK3.out.low, Kd.N_far (p := ⟨g, 1, none⟩) HK3.out.own (fun _ hk => hk.2) _, below_set HK3.out.below HK3.out.low⟩⟩
  have KP4 : Aside0 (Kept w ((W.drewN nd3).setCell ⟨g, 1, none⟩ (.int .i64 M)) (fun k => k = g)) := ⟨Kept.setCell (Kept.drewN KPW.out _) (Or.inl rfl) _⟩
  generalize (W.drewN nd3).setCell ⟨g, 1, none⟩ (.int .i64 M) = U at HK4 KP4 ⊢
  have u1 := HK4.out.cells.2.1.1
  have v1 := HK4.out.cells.2.1.2
  have dB : decide (M < nextOf iv now) = false := decide_eq_false (by have := hB.out; omega)
  clear cs1 fs1
  obtain ⟨Aq, cq, rfl⟩ := Kd.N_slice HK4.out.own
  have u2 := HK4.out.cells.2.2.1
  have v2 := HK4.out.cells.2.2.2
  generalize hbl : nextOf iv now = b at *
  go_wp2_with (first | ((with_reducible refine gate_dst (N := 6) rfl ?_); refine box_event ?hg (N := 6) ?hd (cs := #[.slice none 0 0]) (t := 39) ?hr ?_; (case hd => rfl); (case hg => rfl); (case hr => first | (go_simp; done) | (go_simp; rfl)); intro gO hgO V hbox hb; have HO : Aside0 (Out U V gO (.slice none 0 0) []) := ⟨⟨hbox, by rw [hgO]; exact Nat.le_refl _, Kd.R_nil _ _ _ _ _, hb⟩⟩; have u3 := (HK4.out.after hb).cells.2.2.1; have v3 := (HK4.out.after hb).cells.2.2.2; clear hbox hb hgO u1 v1 u2 v2))
  obtain ⟨_, hcq, hCu⟩ := Kd.N_reads' HK4.out.own
  have HCu := Aside0.mk (And.intro hcq hCu)
  clear u3 v3 hcq hCu
  go_loopw [43] (fun v w' => ∃ (k : Nat) (vo : Value), k ≤ q.length ∧ v = .int .i64 k ∧ Aside0 (Out U w' gO vo (dlAll b iv q k))) (fun v _ => q.length - (intOf v).toNat)
  case atStart => exact ⟨0, _, Nat.zero_le _, rfl, HO⟩
  case round =>
    obtain ⟨k, vo, hk, rfl, hO⟩ := hrel
    by_cases hlt : k < q.length
    · obtain ⟨ad, A1, c1, e0, x0, x1, l1, g1⟩ := at_T78 HCu.out.2 (k : Int) (by omega) (by omega)
      subst e0
      simp only [Int.toNat_natCast] at x0 x1
      replace x0 := (hO.out.below.cell (World.block_lt_of_cell? U _ x0)).trans x0
      replace x1 := (hO.out.below.cell (World.block_lt_of_cell? U _ x1)).trans x1
      have hX : Aside0 (rd_T78 q (k : Int) ∈ q) := ⟨by unfold rd_T78; rw [Int.toNat_natCast, List.getD_eq_getElem?_getD, List.getElem?_eq_getElem hlt]; exact List.getElem_mem hlt⟩
      obtain ⟨x, hx⟩ : ∃ x, x = rd_T78 q (k : Int) := ⟨_, rfl⟩
      rw [← hx] at x0 x1 l1 g1 hX
      have hx' := Aside0.mk hx
      have hG := Aside0.mk (And.intro l1 g1)
      have hlt' : (k : Int) < (q.length : Int) := by omega
      clear hx l1 g1
      go_wp2_with fail
      obtain ⟨hR0, hb0⟩ := allocs1 wr (Obj.cells #[Value.int IntKind.i64 x.f0, Value.slice A1 x.f1.length c1] 75)
      generalize hgz : wr.heap.size = gz at *
      generalize wr.alloc (Obj.cells #[Value.int IntKind.i64 x.f0, Value.slice A1 x.f1.length c1] 75) = W2 at hR0 hb0 ⊢
      have hO2 : Aside0 (Out U W2 gO vo (dlAll b iv q k)) := ⟨hO.out.after (by rw [← hgz] at hb0; exact hb0)⟩
      have hX2 := Aside0.mk hR0
      clear hb0 hR0 hgz x0 x1 hO
      go_loopw [51] (fun v w' => ∃ (j : Nat) (vo : Value), j ≤ x.f1.length ∧ v = .int .i64 j ∧ Aside0 (Out U w' gO vo (dlAll b iv q k ++ (x.f1.take j).map (fun n => (⟨0, x.f0, 19, wrap64 (Int.tdiv b 1000000), 0, 0, wrap64 n, 0, 0⟩ : S42)))) ∧ Aside0 (w'.heap[gz]? = some (Obj.cells #[Value.int IntKind.i64 x.f0, Value.slice A1 x.f1.length c1] 75 (0, 0)))) (fun v _ => x.f1.length - (intOf v).toNat)
      case atStart => exact ⟨0, vo, Nat.zero_le _, rfl, ⟨by rw [List.take_zero, List.map_nil, List.append_nil]; exact hO2.out⟩, hX2⟩
      case round =>
        obtain ⟨j, vo2, hj, rfl, hO3, hX3⟩ := hrel
        by_cases hjt : j < x.f1.length
        · obtain ⟨aq, e1, y0⟩ := at_u32 (Kd.C_below hG.out.2 hO3.out.below) (j : Int) (by omega) (by omega)
          rw [Int.toNat_natCast] at y0
          have z0 : wr.cell? ⟨gz, 0, none⟩ = some (.int .i64 x.f0) := (blk_cell hX3.out 0).trans rfl
          subst e1
          have hjt' : (j : Int) < (x.f1.length : Int) := by omega
          have hll : Aside0 ((dlAll b iv q k ++ (x.f1.take j).map (fun n => (⟨0, x.f0, 19, wrap64 (Int.tdiv b 1000000), 0, 0, wrap64 n, 0, 0⟩ : S42))).length ≤ 1000000) := ⟨by rw [List.length_append, List.length_map, List.length_take]; exact lim_ (dl_len b iv q hQ.out.2 k hk) (hQ.out.2 x hX.out) hQ.out.1 hk (Nat.min_le_right _ _)⟩
          obtain ⟨y, hy⟩ : ∃ y, y = x.f1.getD j 0 := ⟨_, rfl⟩
          rw [← hy] at y0
          have hy' := Aside0.mk hy
          clear hy
          go_wp2_with (first | (go_at_call 38; (with_reducible refine (report_ok U wr gO vo2 _ _ _ _ _ hO3.out hll.out).mono ?_); rintro e w3 ⟨rfl, hkp, vo3, ho3⟩))
          have hj2 : x.f1.take (j + 1) = x.f1.take j ++ [y] := by
            rw [List.take_add_one, List.getElem?_eq_getElem hjt, hy'.out, List.getD_eq_getElem?_getD, List.getElem?_eq_getElem hjt]
            rfl
          have hjw : wrap64 ((j : Int) + 1) = ((j + 1 : Nat) : Int) := w1_ (Nat.le_trans (Nat.le_of_lt hjt) (hQ.out.2 x hX.out))
          refine ⟨⟨j + 1, vo3, hjt, by rw [hjw], ⟨?_⟩, ⟨hkp _ _ hX3.out⟩⟩, ?_⟩
          · rw [hj2, List.map_append, ← List.append_assoc]
            exact ho3
          · rw [hjw]
            exact meas_ hjt
        · obtain rfl : j = x.f1.length := by omega
          have hOe : Aside0 (Out U wr gO vo2 (dlAll b iv q k ++ x.f1.map (fun n => (⟨0, x.f0, 19, wrap64 (Int.tdiv b 1000000), 0, 0, wrap64 n, 0, 0⟩ : S42)))) := ⟨by have h := hO3.out; rwa [List.take_length] at h⟩
          have hll : Aside0 ((dlAll b iv q k ++ x.f1.map (fun n => (⟨0, x.f0, 19, wrap64 (Int.tdiv b 1000000), 0, 0, wrap64 n, 0, 0⟩ : S42))).length ≤ 1000000) := ⟨by rw [List.length_append, List.length_map]; exact lim_ (dl_len b iv q hQ.out.2 k hk) (hQ.out.2 x hX.out) hQ.out.1 hk (Nat.le_refl _)⟩
          have HKr := Aside0.mk (HK4.out.after hOe.out.below)
          clear hO3
          by_cases hsp : sup q k = true
          · have hs' := Aside0.mk hsp
            go_wp2_with (first | (go_at_call 39; (with_reducible refine (superseded_ok w0 _ g iv M _ q k HKr.out hlt hQ.out.1).mono ?_); rintro e w3 ⟨rfl, hb3⟩; rw [hs'.out]; have hO4 := Aside0.mk (hOe.out.after hb3); have hX4 := Aside0.mk (blk_below hX3.out hb3); clear hb3; have z0 : w3.cell? ⟨gz, 0, none⟩ = some (.int .i64 x.f0) := (blk_cell hX4.out 0).trans rfl) | (go_at_call 38; (with_reducible refine (report_ok U _ gO vo2 _ _ _ _ _ hO4.out hll.out).mono ?_); rintro e w5 ⟨rfl, hkp, vo5, ho5⟩))
            have hkw : wrap64 ((k : Int) + 1) = ((k + 1 : Nat) : Int) := w1_ (Nat.le_trans (Nat.le_of_lt hlt) hQ.out.1)
            refine ⟨⟨k + 1, vo5, hlt, by rw [hkw], ⟨?_⟩⟩, ?_⟩
            · rw [dl_succ, dlOf, if_pos hs'.out, ← hx'.out, ← List.append_assoc]
              exact ho5
            · rw [hkw]
              exact meas_ hlt
          · replace hsp := Bool.eq_false_iff.mpr hsp
            have hs' := Aside0.mk hsp
            go_wp2_with (first | (go_at_call 39; (with_reducible refine (superseded_ok w0 _ g iv M _ q k HKr.out hlt hQ.out.1).mono ?_); rintro e w3 ⟨rfl, hb3⟩; rw [hs'.out]; have hO4 := Aside0.mk (hOe.out.after hb3); have hX4 := Aside0.mk (blk_below hX3.out hb3); clear hb3))
            have hO4d := Aside0.mk hO4.out.drew
            have hX4d : Aside0 (w3.drew.heap[gz]? = some (Obj.cells #[Value.int IntKind.i64 x.f0, Value.slice A1 x.f1.length c1] 75 (0, 0))) := ⟨blk_drew hX4.out⟩
            have y0 : w3.drew.cell? ⟨gz, 0, none⟩ = some (.int .i64 x.f0) := (blk_cell hX4d.out 0).trans rfl
            have y1 : w3.drew.cell? ⟨g, 0, none⟩ = some (.int .i64 iv) := (HK4.out.after hO4d.out.below).cells.1.1
            have y0s := Aside0.mk (And.intro y0 y1)
            have hiv0 : ¬ iv = 0 := by have := hiv'.out; omega
            go_region_held3 (fun w' => w'.cell? ⟨gz, 0, none⟩ = some (.int .i64 x.f0) ∧ w'.cell? ⟨g, 0, none⟩ = some (.int .i64 iv)) (first | exact y0s.out | exact z5.out) (first | (go_at_call 38; (with_reducible refine (report_ok U _ gO vo2 _ _ _ _ _ hO4d.out hll.out).mono ?_); rintro e w5 ⟨rfl, hkp, vo5, ho5⟩; have z5 : Aside0 (w5.cell? ⟨gz, 0, none⟩ = some (.int .i64 x.f0) ∧ w5.cell? ⟨g, 0, none⟩ = some (.int .i64 iv)) := ⟨⟨(blk_cell (hkp _ _ hX4d.out) 0).trans rfl, (HK4.out.after ho5.below).cells.1.1⟩⟩))
            go_wp2
            have hkw : wrap64 ((k : Int) + 1) = ((k + 1 : Nat) : Int) := w1_ (Nat.le_trans (Nat.le_of_lt hlt) hQ.out.1)
            refine ⟨⟨k + 1, vo5, hlt, by rw [hkw], ⟨?_⟩⟩, ?_⟩
            · rw [dl_succ, dlOf, if_neg (by rw [hs'.out]; decide), ← hx'.out, ← List.append_assoc]
              simp only [i64_w] at ho5
              exact ho5
            · rw [hkw]
              exact meas_ hlt
    · obtain rfl : k = q.length := by omega
      have HKr := Aside0.mk (HK4.out.after hO.out.below)
      have u5 := HKr.out.cells.2.2.1
      have v5 := HKr.out.cells.2.2.2
      have hgo : gO ≠ g := fun e => Nat.lt_irrefl _ (Nat.lt_of_lt_of_le (blk_lt HK4.out.blk) (e ▸ hO.out.low))
      have o5 : wr.cell? ⟨gO, 0, none⟩ = some vo := (blk_cell hO.out.blk 0).trans rfl
      have o6 : (wr.setCell ⟨g, 2, none⟩ (.slice none 0 0)).cell? ⟨gO, 0, none⟩ = some vo := (blk_cell (blk_far hO.out.blk (p := ⟨g, 2, none⟩) hgo (.slice none 0 0)) 0).trans rfl
      go_wp2
      go_ret
      have hlow : w.heap.size ≤ U.heap.size := KP4.out.1
      refine ⟨_, rfl, Kd.R_lower (Kd.R_mono (Kd.R_far (p := ⟨g, 2, none⟩) hO.out.own (fun j hj e => Nat.lt_irrefl g (Nat.lt_of_lt_of_le (blk_lt HK4.out.blk) (by have h := hj.1; rw [show j = g from e] at h; exact h))) _) (fun j hj => Nat.le_trans hlow hj.1)) hlow, ⟨blk_put (cs := #[.int .i64 iv, .int .i64 M, .slice Aq q.length cq]) HKr.out.blk 2 _ rfl, HK.out.low, Kd.N_nil _ _ _ _ _, below_set HKr.out.below HK.out.low⟩, Kept.setCell (Kept.below KP4.out hO.out.below) (Or.inl rfl) _⟩
theorem ex_check : output_Check.f (⟨#[111]⟩ : ByteArray) 1 1 1000 1 0 0 0 = some 0 := by kernel_rfl
theorem ex_int : output_Interval.f (⟨#[111]⟩ : ByteArray) 1 1 1000 1 0 0 0 = some 1000000000 := by kernel_rfl
theorem ex_e0 : mx 0 (clampOf 999999999) = 999999999 := by kernel_rfl
theorem ex_e1 : mx 999999999 (clampOf 2000000005) = 2000000005 := by kernel_rfl
theorem ex_e2 : mx 2000000005 (clampOf 3000000000) = 3000000000 := by kernel_rfl
theorem ex_n3 : nextOf 1000000000 2000000005 = 3000000000 := by kernel_rfl
theorem ex_d1 : dlAll (nextOf 1000000000 999999999) 1000000000 [⟨5, [7, 8]⟩] 1 = [⟨0, 5, 19, 1000, 0, 0, 7, 0, 0⟩, ⟨0, 5, 19, 1000, 0, 0, 8, 0, 0⟩, ⟨0, 5, 22, 1000000, 0, 0, 1, 0, 0⟩] := by kernel_rfl
theorem ex_d2 : dlAll (nextOf 1000000000 2000000005) 1000000000 [⟨5, []⟩, ⟨5, []⟩] 2 = [⟨0, 5, 23, 0, 0, 0, 0, 0, 0⟩, ⟨0, 5, 22, 3000000, 0, 0, 3, 0, 0⟩] := by kernel_rfl
theorem ex_n0 : nextOf 1000000000 0 = 1000000000 := by kernel_rfl
theorem ex_n1 : nextOf 1000000000 999999999 = 1000000000 := by kernel_rfl
theorem ex_n2 : nextOf 1000000000 1000000000 = 2000000000 := by kernel_rfl
theorem at42 {w : World} {A : Option Addr} {n : Nat} {xs : List S42} (h : Kd.C k42 w A n xs) (i k : Nat) (p0 p1 p2 p3 p4 p5 p6 p7 p8 : Int) (hx : xs[i]? = some ⟨p0, p1, p2, p3, p4, p5, p6, p7, p8⟩) (hk : i * 9 = k) (hk0 : k ≠ 0) : ∃ ad, A = some ad ∧ w.cell? ⟨ad.block, ad.off + k, none⟩ = some (.int .i64 p0) ∧ w.cell? ⟨ad.block, ad.off + k + 1, none⟩ = some (.int .i64 p1) ∧ w.cell? ⟨ad.block, ad.off + k + 2, none⟩ = some (.int .i64 p2) ∧ w.cell? ⟨ad.block, ad.off + k + 3, none⟩ = some (.int .i64 p3) ∧ w.cell? ⟨ad.block, ad.off + k + 4, none⟩ = some (.int .i64 p4) ∧ w.cell? ⟨ad.block, ad.off + k + 5, none⟩ = some (.int .i64 p5) ∧ w.cell? ⟨ad.block, ad.off + k + 6, none⟩ = some (.int .i64 p6) ∧ w.cell? ⟨ad.block, ad.off + k + 7, none⟩ = some (.int .i64 p7) ∧ w.cell? ⟨ad.block, ad.off + k + 8, none⟩ = some (.int .u32 p8) := by
  have hl := (List.getElem?_eq_some_iff.1 hx).1
  have hn := h.1
  obtain ⟨ad, e0, a0, a1, a2, a3, a4, a5, a6, a7, a8⟩ := at_T42 h (i : Int) (by omega) (by omega)
  have e : rd_T42 xs (i : Int) = ⟨p0, p1, p2, p3, p4, p5, p6, p7, p8⟩ := by
    unfold rd_T42
    rw [Int.toNat_natCast, List.getD_eq_getElem?_getD, hx]
    rfl
  rw [e, Int.toNat_natCast, hk] at a0 a1 a2 a3 a4 a5 a6 a7 a8
  have key : ad.add k = ⟨ad.block, ad.off + k, none⟩ := by unfold Addr.add; simp [hk0]
  rw [key] at a0 a1 a2 a3 a4 a5 a6 a7 a8
  exact ⟨ad, e0, a0, a1, a2, a3, a4, a5, a6, a7, a8⟩
theorem lit_u32 {w : World} {g : Nat} {cs : Array Value} (xs : List Int) (h : w.heap[g]? = some (.cells cs 36 (0, 0))) (hc : cs = (xs.map (Value.int .u32)).toArray) (hl : xs.length ≤ 1000000) : Kd.C (Kd.int .u32) w (some ⟨g, 0, none⟩) xs.length xs := by
  subst hc
  refine ⟨rfl, by omega, fun _ => ⟨_, rfl, fun j p hp => ⟨[.int .u32 p], rfl, rfl, fun i u hi => ?_⟩⟩⟩
  rcases i with _ | i
  · simp only [List.getElem?_cons_zero, Option.some.injEq] at hi
    subst hi
    rw [Addr.add_lit]
    refine (blk_cell h _).trans ?_
    simp only [Kd.int, Kd.scalar, Nat.zero_add, Nat.mul_one, Nat.add_zero, List.getElem?_toArray, List.getElem?_map, hp, Option.map_some]
  · simp at hi
set_option maxHeartbeats 8000000 in
set_option maxRecDepth 100000 in
theorem example30 (w : World) : Calls Try.prog 12 #[] w fun e w' => e = .returned (.bool true) ∧ Below w.heap.size w w' := by
  have hu24 := Try.underlying24
  have hu42 := Try.underlying42
  go_enter Try.func12, Try.ntmps12
  go_wp2_with fail
  refine (compositorlaw30_slow.calls _ _ _ _ _ _ _ _ w rfl).mono ?_
  rintro e w1 ⟨rfl, hb1⟩
  go_wp2_with fail
  refine (new_ok _ _ _ _ _ _ _ _ _ w1 ex_check ex_int).mono ?_
  rintro e w2 ⟨g, rfl, hblk, hlow, hb2⟩
  have HK := Aside0.mk (show Clk w w2 g 1000000000 0 (.slice none 0 0) [] from ⟨hblk, Nat.le_trans hb1.size hlow, Kd.N_nil _ _ _ _ _, below_step hb1 hb2⟩)
  clear hblk hlow hb2 hb1
  go_wp2_with fail
  refine (next_ok _ g _ _ HK.out.cells.1.1 HK.out.cells.1.2 (by decide)).mono ?_
  rintro e w' ⟨rfl, ⟨nd, rfl⟩⟩
  rw [ex_n0]
  replace HK := Aside0.mk (HK.out.drewN nd)
  generalize w2.drewN nd = w3 at HK ⊢
  go_wp2_with fail
  refine (next_ok _ g _ _ HK.out.cells.1.1 HK.out.cells.1.2 (by decide)).mono ?_
  rintro e w' ⟨rfl, ⟨nd1, rfl⟩⟩
  rw [ex_n1]
  replace HK := Aside0.mk (HK.out.drewN nd1)
  generalize w3.drewN nd1 = w4 at HK ⊢
  go_wp2_with fail
  refine (next_ok _ g _ _ HK.out.cells.1.1 HK.out.cells.1.2 (by decide)).mono ?_
  rintro e w' ⟨rfl, ⟨nd2, rfl⟩⟩
  rw [ex_n2]
  replace HK := Aside0.mk (HK.out.drewN nd2)
  generalize w4.drewN nd2 = w5 at HK ⊢
  go_wp2_with fail
  obtain ⟨hR5, hb5⟩ := allocs1 w5 (Obj.cells #[Value.int IntKind.u32 7, Value.int IntKind.u32 8] 36)
  generalize w5.alloc (Obj.cells #[Value.int IntKind.u32 7, Value.int IntKind.u32 8] 36) = w6 at hR5 hb5 ⊢
  have HK6 := Aside0.mk (HK.out.after hb5)
  clear hb5
  generalize w5.heap.size = g5 at hR5 ⊢
  refine (commit_ok w w6 g 1000000000 0 5 (.slice none 0 0) [] (some ⟨g5, 0, none⟩) 2 [7, 8] HK6.out (by decide) (by decide) (by decide) (by decide) (lit_u32 [7, 8] hR5 rfl (by decide)) (Nat.le_refl _)).mono ?_
  rintro e w7 ⟨rfl, vq7, hK7, _⟩
  replace HK := Aside0.mk hK7
  clear hK7 hR5 HK6
  go_wp2_with fail
  refine (tick_early w w7 g 1000000000 0 999999999 vq7 [⟨5, [7, 8]⟩] HK.out (by decide) (by rw [ex_e0, ex_n0]; decide)).mono ?_
  rintro e w8 ⟨rfl, hK8, _⟩
  rw [ex_e0] at hK8
  replace HK := Aside0.mk hK8
  clear hK8
  go_wp2_with fail
  refine (tick_full w w8 g 1000000000 999999999 2000000005 vq7 [⟨5, [7, 8]⟩] HK.out (by decide) (by decide) (by decide) (by rw [ex_e1, ex_n1]; decide)).mono ?_
  rintro e w9 ⟨v9, rfl, hR9, hK9, _⟩
  rw [ex_e1] at hK9
  rw [show [(⟨5, [7, 8]⟩ : S78)].length = 1 from rfl, ex_d1] at hR9
  replace HK := Aside0.mk hK9
  clear hK9
  obtain ⟨A9, c9, e9⟩ := Kd.R_slice hR9
  subst e9
  obtain ⟨ad, e0, a0, a1, a2, a3, a4, a5, a6, a7, a8⟩ := at42 (Kd.R_reads' hR9).2.2 1 9 _ _ _ _ _ _ _ _ _ rfl rfl (by decide)
  subst e0
  obtain ⟨ad', e0, b0, b1, b2, b3, b4, b5, b6, b7, b8⟩ := at42 (Kd.R_reads' hR9).2.2 2 18 _ _ _ _ _ _ _ _ _ rfl rfl (by decide)
  cases e0
  clear hR9
  have s1 := HK.out.cells.1.1
  go_wp2_with fail
  refine (sequence_ok w9 g 1000000000 2000000005 HK.out.cells.1.1 HK.out.cells.1.2 HK.out.cells.2.1.1 HK.out.cells.2.1.2 (by decide)).mono ?_
  rintro e w' ⟨rfl, ⟨nd9, rfl⟩⟩
  rw [show wrap64 (Int.tdiv 2000000005 1000000000) = 2 from by kernel_rfl]
  replace HK := Aside0.mk (HK.out.drewN nd9)
  generalize w9.drewN nd9 = wa at HK ⊢
  clear a0 a1 a2 a3 a4 a5 a6 a7 a8 b0 b1 b2 b3 b4 b5 b6 b7 b8 s1
  go_wp2_with fail
  refine (commit_ok w wa g 1000000000 2000000005 5 (.slice none 0 0) [] none 0 [] HK.out (by decide) (by decide) (by decide) (by decide) ⟨rfl, by decide, fun h => absurd h (Nat.lt_irrefl _)⟩ (Nat.le_refl _)).mono ?_
  rintro e wb ⟨rfl, vqb, hKb, _⟩
  replace HK := Aside0.mk hKb
  clear hKb
  go_wp2_with fail
  refine (commit_ok w wb g 1000000000 2000000005 5 vqb [⟨5, []⟩] none 0 [] HK.out (by decide) (by decide) (by decide) (by decide) ⟨rfl, by decide, fun h => absurd h (Nat.lt_irrefl _)⟩ (Nat.le_refl _)).mono ?_
  rintro e wc ⟨rfl, vqc, hKc, _⟩
  replace HK := Aside0.mk hKc
  clear hKc
  go_wp2_with fail
  refine (tick_full w wc g 1000000000 2000000005 3000000000 vqc [⟨5, []⟩, ⟨5, []⟩] HK.out (by decide) (by decide) (by decide) (by rw [ex_e2, ex_n3]; decide)).mono ?_
  rintro e wd ⟨vd, rfl, hRd, hKd, _⟩
  rw [show [(⟨5, []⟩ : S78), ⟨5, []⟩].length = 2 from rfl, ex_d2] at hRd
  replace HK := Aside0.mk hKd
  clear hKd
  obtain ⟨Ad, cd, ed⟩ := Kd.R_slice hRd
  subst ed
  obtain ⟨ad2, e0, a0, a1, a2, a3, a4, a5, a6, a7, a8⟩ := at_T42 (Kd.R_reads' hRd).2.2 0 (by decide) (by decide)
  subst e0
  obtain ⟨ad', e0, b0, b1, b2, b3, b4, b5, b6, b7, b8⟩ := at42 (Kd.R_reads' hRd).2.2 1 9 _ _ _ _ _ _ _ _ _ rfl rfl (by decide)
  cases e0
  clear hRd
  have a2' : wd.cell? ⟨ad2.block, ad2.off + 2, none⟩ = some (.int .i64 23) := a2
  clear a0 a1 a2 a3 a4 a5 a6 a7 a8
  go_wp2_with fail
  go_ret
  exact ⟨rfl, HK.out.below⟩
end
end Go.Proofs.Ytmkhphkkpdiliaa.All
end
section
namespace Go.Proofs.Ytmkhphkkpdiliaa.All
open Go.Proofs.YtmkhphkkpdiliaaSq
open Go.RowKit Go.Proofs.YtmkhphkkpdiliaaW.PrintWords Go.Proofs.YtmkhphkkpdiliaaW.PrintLast Go.Proofs.YtmkhphkkpdiliaaW.PrintMore
attribute [local go_sem] max2_int min2_int max_two min_two max_three min_three max_four min_four
set_option linter.unusedVariables false
set_option linter.unusedSimpArgs false
def compositorref23_Interval.f (k : Nat) (a0_0 : ByteArray) (a0_1 : Int) (a0_2 : Int) (a0_3 : Int) (a0_4 : Int) (a0_5 : Int) (a0_6 : Int) (a0_7 : Int) : Option (Int) := (compositorref23_Check.f k a0_0 a0_1 a0_2 a0_3 a0_4 a0_5 a0_6 a0_7).bind fun t127 => (if t127 = 0 then (if (wrap64 (2 * a0_3)) = 0 then (none) else (some (wrap64 (Int.tdiv (wrap64 (2000000000000 + a0_3)) (wrap64 (2 * a0_3)))))) else (some 0))
set_option maxHeartbeats 8000000 in
set_option maxRecDepth 100000 in
theorem compositorref23_Interval.calls (k : Nat) (a0_0 : ByteArray) (a0_1 : Int) (a0_2 : Int) (a0_3 : Int) (a0_4 : Int) (a0_5 : Int) (a0_6 : Int) (a0_7 : Int) (r : Int) (w : World) (h : compositorref23_Interval.f k a0_0 a0_1 a0_2 a0_3 a0_4 a0_5 a0_6 a0_7 = some r) :
    Calls Try.prog 14 #[.agg #[.string a0_0, .int .i64 a0_1, .int .i64 a0_2, .int .i64 a0_3, .int .i64 a0_4, .int .i64 a0_5, .int .i64 a0_6, .int .i64 a0_7]] w fun e w' => e = .returned (.int .i64 r) ∧ Below w.heap.size w w' := by
  have hu23 := Try.underlying23
  have HB := Aside0.mk (Below.refl w.heap.size w)
  have H : ((compositorref23_Check.f k a0_0 a0_1 a0_2 a0_3 a0_4 a0_5 a0_6 a0_7).bind fun t127 => (if t127 = 0 then (if (wrap64 (2 * a0_3)) = 0 then (none) else (some (wrap64 (Int.tdiv (wrap64 (2000000000000 + a0_3)) (wrap64 (2 * a0_3)))))) else (some 0))) = some r := h
  clear h
  replace H := Option.bind_eq_some_iff.mp H
  obtain ⟨t127, A20, H⟩ := H
  replace H : (if t127 = 0 then (if (wrap64 (2 * a0_3)) = 0 then (none) else (some (wrap64 (Int.tdiv (wrap64 (2000000000000 + a0_3)) (wrap64 (2 * a0_3)))))) else (some 0)) = some r := H
  have A2 := Aside0.mk A20
  clear A20
  by_cases c3 : t127 = 0
  · rw [if_pos c3] at H
    have c3b0 : (t127 == 0) = true := beq_iff_eq.mpr c3
    have c3b1 : (t127 != 0) = false := bne_eq_false_iff_eq.mpr c3
    clear c3
    by_cases c4 : (wrap64 (2 * a0_3)) = 0
    · rw [if_pos c4] at H
      exact absurd H (by simp)
    · rw [if_neg c4] at H
      have c4b0 : ((wrap64 (2 * a0_3)) == 0) = false := beq_eq_false_iff_ne.mpr c4
      have c4b1 : ((wrap64 (2 * a0_3)) != 0) = true := bne_iff_ne.mpr c4
      obtain rfl := Option.some.inj H
      go_enter Try.func14, Try.ntmps14
      go_wp2_with (first | ((with_reducible refine gate_dst (N := 1) rfl ?_); refine box_event ?hg (N := 1) ?hd (cs := #[.string a0_0, .int .i64 a0_1, .int .i64 a0_2, .int .i64 a0_3, .int .i64 a0_4, .int .i64 a0_5, .int .i64 a0_6, .int .i64 a0_7]) (t := 23) ?hr ?_; (case hd => rfl); (case hg => rfl); (case hr => first | (go_simp; done) | (go_simp; rfl)); intro gb126 hg w5 hbox hb; have n0_ := Aside0.mk (below_step (by repeat (first | (with_reducible first | exact HB.out | apply below_alloc | apply pw_below_drewN | apply below_drew1) | exact HB.out)) hb); have n1_ := Aside0.mk (hbox); have n2_ := Aside0.mk ((by rw [hg]; exact (below_size (by repeat (first | (with_reducible first | exact HB.out | apply below_alloc | apply pw_below_drewN | apply below_drew1) | exact HB.out))) : w.heap.size ≤ gb126)); have n3_ := Aside0.mk ((by rw [hg]; exact (below_size (by repeat (first | (with_reducible first | exact HB.out | apply below_alloc | apply pw_below_drewN | apply below_drew1) | exact HB.out))) : w.heap.size ≤ gb126)); clear HB; have HB := n0_; have BK126 := n1_; have GW126 := n2_; have GE126 := n3_; clear n0_ n1_ n2_ n3_; clear hb hbox hg; have hcz6_0 : w5.cell? ⟨gb126, 0, none⟩ = some (.string a0_0) := (blk_cell BK126.out 0).trans rfl; have hcz6_1 : w5.cell? ⟨gb126, 1, none⟩ = some (.int .i64 a0_1) := (blk_cell BK126.out 1).trans rfl; have hcz6_2 : w5.cell? ⟨gb126, 2, none⟩ = some (.int .i64 a0_2) := (blk_cell BK126.out 2).trans rfl; have hcz6_3 : w5.cell? ⟨gb126, 3, none⟩ = some (.int .i64 a0_3) := (blk_cell BK126.out 3).trans rfl; have hcz6_4 : w5.cell? ⟨gb126, 4, none⟩ = some (.int .i64 a0_4) := (blk_cell BK126.out 4).trans rfl; have hcz6_5 : w5.cell? ⟨gb126, 5, none⟩ = some (.int .i64 a0_5) := (blk_cell BK126.out 5).trans rfl; have hcz6_6 : w5.cell? ⟨gb126, 6, none⟩ = some (.int .i64 a0_6) := (blk_cell BK126.out 6).trans rfl; have hcz6_7 : w5.cell? ⟨gb126, 7, none⟩ = some (.int .i64 a0_7) := (blk_cell BK126.out 7).trans rfl; have hfz6_0 := blk_frozen BK126.out 0; have hfz6_1 := blk_frozen BK126.out 1; have hfz6_2 := blk_frozen BK126.out 2; have hfz6_3 := blk_frozen BK126.out 3; have hfz6_4 := blk_frozen BK126.out 4; have hfz6_5 := blk_frozen BK126.out 5; have hfz6_6 := blk_frozen BK126.out 6; have hfz6_7 := blk_frozen BK126.out 7) | ((with_reducible refine gate_callee (f := 11) rfl ?_); refine goesL_ (some 4) rfl rfl Try.func11 (by kernel_rfl) rfl #[.agg #[.string a0_0, .int .i64 a0_1, .int .i64 a0_2, .int .i64 a0_3, .int .i64 a0_4, .int .i64 a0_5, .int .i64 a0_6, .int .i64 a0_7]] rfl (by (try simp only [List.map_toArray, List.map_cons, List.map_nil]); first | done | rfl | (simp only [List.length_drop, List.length_take]; rfl)) ?_; (with_reducible refine (compositorref23_Check.calls k a0_0 a0_1 a0_2 a0_3 a0_4 a0_5 a0_6 a0_7 t127 _ A2.out).mono ?_); rintro e w7 ⟨rfl, hb⟩; refine ⟨_, rfl, ?_⟩; have n0_ := Aside0.mk (blk_below (g := gb126) (o := .cells #[.string a0_0, .int .i64 a0_1, .int .i64 a0_2, .int .i64 a0_3, .int .i64 a0_4, .int .i64 a0_5, .int .i64 a0_6, .int .i64 a0_7] 23 (0, 0)) (by (with_reducible repeat (first | refine blk_drewN ?_ _ | refine blk_drew ?_ | refine blk_alloc ?_ _)); exact BK126.out) hb); have n1_ := Aside0.mk (below_step (by repeat (first | (with_reducible first | exact HB.out | apply below_alloc | apply pw_below_drewN | apply below_drew1 | refine below_set ?_ GE126.out) | exact HB.out)) hb); clear BK126; clear HB; have BK126 := n0_; have HB := n1_; clear n0_ n1_; (try clear hb); (try clear hb2); (try clear hk); (try clear hi); have hcz8_0 : w7.cell? ⟨gb126, 0, none⟩ = some (.string a0_0) := (blk_cell BK126.out 0).trans rfl; have hcz8_1 : w7.cell? ⟨gb126, 1, none⟩ = some (.int .i64 a0_1) := (blk_cell BK126.out 1).trans rfl; have hcz8_2 : w7.cell? ⟨gb126, 2, none⟩ = some (.int .i64 a0_2) := (blk_cell BK126.out 2).trans rfl; have hcz8_3 : w7.cell? ⟨gb126, 3, none⟩ = some (.int .i64 a0_3) := (blk_cell BK126.out 3).trans rfl; have hcz8_4 : w7.cell? ⟨gb126, 4, none⟩ = some (.int .i64 a0_4) := (blk_cell BK126.out 4).trans rfl; have hcz8_5 : w7.cell? ⟨gb126, 5, none⟩ = some (.int .i64 a0_5) := (blk_cell BK126.out 5).trans rfl; have hcz8_6 : w7.cell? ⟨gb126, 6, none⟩ = some (.int .i64 a0_6) := (blk_cell BK126.out 6).trans rfl; have hcz8_7 : w7.cell? ⟨gb126, 7, none⟩ = some (.int .i64 a0_7) := (blk_cell BK126.out 7).trans rfl; have hfz8_0 := blk_frozen BK126.out 0; have hfz8_1 := blk_frozen BK126.out 1; have hfz8_2 := blk_frozen BK126.out 2; have hfz8_3 := blk_frozen BK126.out 3; have hfz8_4 := blk_frozen BK126.out 4; have hfz8_5 := blk_frozen BK126.out 5; have hfz8_6 := blk_frozen BK126.out 6; have hfz8_7 := blk_frozen BK126.out 7))
      go_ret
      exact ⟨by first | rfl | (simp [errW_none, errW_some] <;> rfl) | (simp [*, errW_none, errW_some] <;> rfl), by repeat (first | (with_reducible first | exact HB.out | apply below_alloc | apply pw_below_drewN | apply below_drew1 | refine below_set ?_ GE126.out) | exact HB.out)⟩
  · rw [if_neg c3] at H
    have c3b0 : (t127 == 0) = false := beq_eq_false_iff_ne.mpr c3
    have c3b1 : (t127 != 0) = true := bne_iff_ne.mpr c3
    obtain rfl := Option.some.inj H
    go_enter Try.func14, Try.ntmps14
    go_wp2_with (first | ((with_reducible refine gate_dst (N := 1) rfl ?_); refine box_event ?hg (N := 1) ?hd (cs := #[.string a0_0, .int .i64 a0_1, .int .i64 a0_2, .int .i64 a0_3, .int .i64 a0_4, .int .i64 a0_5, .int .i64 a0_6, .int .i64 a0_7]) (t := 23) ?hr ?_; (case hd => rfl); (case hg => rfl); (case hr => first | (go_simp; done) | (go_simp; rfl)); intro gb126 hg w9 hbox hb; have n0_ := Aside0.mk (below_step (by repeat (first | (with_reducible first | exact HB.out | apply below_alloc | apply pw_below_drewN | apply below_drew1) | exact HB.out)) hb); have n1_ := Aside0.mk (hbox); have n2_ := Aside0.mk ((by rw [hg]; exact (below_size (by repeat (first | (with_reducible first | exact HB.out | apply below_alloc | apply pw_below_drewN | apply below_drew1) | exact HB.out))) : w.heap.size ≤ gb126)); have n3_ := Aside0.mk ((by rw [hg]; exact (below_size (by repeat (first | (with_reducible first | exact HB.out | apply below_alloc | apply pw_below_drewN | apply below_drew1) | exact HB.out))) : w.heap.size ≤ gb126)); clear HB; have HB := n0_; have BK126 := n1_; have GW126 := n2_; have GE126 := n3_; clear n0_ n1_ n2_ n3_; clear hb hbox hg; have hcz10_0 : w9.cell? ⟨gb126, 0, none⟩ = some (.string a0_0) := (blk_cell BK126.out 0).trans rfl; have hcz10_1 : w9.cell? ⟨gb126, 1, none⟩ = some (.int .i64 a0_1) := (blk_cell BK126.out 1).trans rfl; have hcz10_2 : w9.cell? ⟨gb126, 2, none⟩ = some (.int .i64 a0_2) := (blk_cell BK126.out 2).trans rfl; have hcz10_3 : w9.cell? ⟨gb126, 3, none⟩ = some (.int .i64 a0_3) := (blk_cell BK126.out 3).trans rfl; have hcz10_4 : w9.cell? ⟨gb126, 4, none⟩ = some (.int .i64 a0_4) := (blk_cell BK126.out 4).trans rfl; have hcz10_5 : w9.cell? ⟨gb126, 5, none⟩ = some (.int .i64 a0_5) := (blk_cell BK126.out 5).trans rfl; have hcz10_6 : w9.cell? ⟨gb126, 6, none⟩ = some (.int .i64 a0_6) := (blk_cell BK126.out 6).trans rfl; have hcz10_7 : w9.cell? ⟨gb126, 7, none⟩ = some (.int .i64 a0_7) := (blk_cell BK126.out 7).trans rfl; have hfz10_0 := blk_frozen BK126.out 0; have hfz10_1 := blk_frozen BK126.out 1; have hfz10_2 := blk_frozen BK126.out 2; have hfz10_3 := blk_frozen BK126.out 3; have hfz10_4 := blk_frozen BK126.out 4; have hfz10_5 := blk_frozen BK126.out 5; have hfz10_6 := blk_frozen BK126.out 6; have hfz10_7 := blk_frozen BK126.out 7) | ((with_reducible refine gate_callee (f := 11) rfl ?_); refine goesL_ (some 4) rfl rfl Try.func11 (by kernel_rfl) rfl #[.agg #[.string a0_0, .int .i64 a0_1, .int .i64 a0_2, .int .i64 a0_3, .int .i64 a0_4, .int .i64 a0_5, .int .i64 a0_6, .int .i64 a0_7]] rfl (by (try simp only [List.map_toArray, List.map_cons, List.map_nil]); first | done | rfl | (simp only [List.length_drop, List.length_take]; rfl)) ?_; (with_reducible refine (compositorref23_Check.calls k a0_0 a0_1 a0_2 a0_3 a0_4 a0_5 a0_6 a0_7 t127 _ A2.out).mono ?_); rintro e w11 ⟨rfl, hb⟩; refine ⟨_, rfl, ?_⟩; have n0_ := Aside0.mk (blk_below (g := gb126) (o := .cells #[.string a0_0, .int .i64 a0_1, .int .i64 a0_2, .int .i64 a0_3, .int .i64 a0_4, .int .i64 a0_5, .int .i64 a0_6, .int .i64 a0_7] 23 (0, 0)) (by (with_reducible repeat (first | refine blk_drewN ?_ _ | refine blk_drew ?_ | refine blk_alloc ?_ _)); exact BK126.out) hb); have n1_ := Aside0.mk (below_step (by repeat (first | (with_reducible first | exact HB.out | apply below_alloc | apply pw_below_drewN | apply below_drew1 | refine below_set ?_ GE126.out) | exact HB.out)) hb); clear BK126; clear HB; have BK126 := n0_; have HB := n1_; clear n0_ n1_; (try clear hb); (try clear hb2); (try clear hk); (try clear hi)))
    go_ret
    exact ⟨by first | rfl | (simp [errW_none, errW_some] <;> rfl) | (simp [*, errW_none, errW_some] <;> rfl), by repeat (first | (with_reducible first | exact HB.out | apply below_alloc | apply pw_below_drewN | apply below_drew1 | refine below_set ?_ GE126.out) | exact HB.out)⟩
section
open Go.Proofs.YtmkhphkkpdiliaaHand Go.Proofs.YtmkhphkkpdiliaaSq
end
end Go.Proofs.Ytmkhphkkpdiliaa.All
end
section
namespace Go.Proofs.Ytmkhphkkpdiliaa.All
open Go.RowKit Go.Proofs.YtmkhphkkpdiliaaW.PrintWords Go.Proofs.YtmkhphkkpdiliaaW.PrintLast Go.Proofs.YtmkhphkkpdiliaaW.PrintMore
attribute [local go_sem] max2_int min2_int max_two min_two max_three min_three max_four min_four
set_option linter.unusedVariables false
set_option linter.unusedSimpArgs false
def compositorlaw30_heavy.l0 : Nat → List (S55) → Int → Option (Bool)
  | 0, _, _ => none
  | k + 1, x0, x3 => if x3 < (x0.length : Int) then (if 0 ≤ x3 then (if (((rd_T55 x0 x3).f2).length : Int) > 300 then (some true) else (if x3 > 60 then (if (((rd_T55 x0 x3).f2).length : Int) > 2 then (some true) else (compositorlaw30_heavy.l0 k x0 (wrap64 (x3 + 1)))) else (compositorlaw30_heavy.l0 k x0 (wrap64 (x3 + 1))))) else (none)) else (some false)
def compositorlaw30_heavy.f (k : Nat) (l0 : List (S55)) : Option (Bool) := if (l0.length : Int) > 400 then (some true) else (compositorlaw30_heavy.l0 k l0 0)
set_option maxHeartbeats 8000000 in
set_option maxRecDepth 100000 in
theorem compositorlaw30_heavy.calls (k : Nat) (A0 : Option Addr) (c0 : Nat) (l0 : List (S55)) (r : Bool) (w : World) (hr0 : Kd.C k55 w A0 l0.length l0) (hc0 : l0.length ≤ c0) (h : compositorlaw30_heavy.f k l0 = some r) :
    Calls Try.prog 20 #[.slice A0 l0.length c0] w fun e w' => e = .returned (.bool r) ∧ Drawn0 w w' := by
  have HR0 := Aside0.mk hr0
  have HC0 := Aside0.mk hc0
  clear hr0 hc0
  have H : (if (l0.length : Int) > 400 then (some true) else (compositorlaw30_heavy.l0 k l0 0)) = some r := h
  clear h
  by_cases c2 : (l0.length : Int) > 400
  · rw [if_pos c2] at H
    have c2b0 : decide (400 < (l0.length : Int)) = true := decide_eq_true c2
    have c2b1 : decide (400 < l0.length) = true := decide_eq_true (by omega)
    clear c2
    obtain rfl := Option.some.inj H
    go_enter Try.func20, Try.ntmps20
    go_wp2
    go_ret
    exact ⟨by first | rfl | (simp; done) | (simp [*]; done), by repeat (first | exact Drawn0.refl _ | apply Drawn0.step)⟩
  · rw [if_neg c2] at H
    have c2b0 : decide (400 < (l0.length : Int)) = false := decide_eq_false c2
    have c2b1 : decide (400 < l0.length) = false := decide_eq_false (by omega)
    clear c2
    have H' := Aside0.mk H
    clear H
    go_enter Try.func20, Try.ntmps20
    go_wp2
    go_loopg [3] k (fun kq v3 w' => ∃ (x3_1 : Int), v3 = .int .i64 x3_1 ∧ Aside0 (compositorlaw30_heavy.l0 kq l0 x3_1 = some r) ∧ Aside0 (kq ≤ k) ∧ Drawn0 w w')
    case atStart => exact ⟨(0), (by first | rfl | (simp; done) | (simp [*]; done)), H', ⟨Nat.le_refl _⟩, by repeat (first | exact Drawn0.refl _ | apply Drawn0.step)⟩
    case round =>
      clear H'
      try clear c2
      try clear c2b0
      try clear c2b1
      try clear p2
      obtain ⟨x3_1, rfl, HA, HK1, ⟨m1, rfl⟩⟩ := hrel
      cases gk with
      | zero => exact absurd HA.out (by simp [compositorlaw30_heavy.l0])
      | succ k1 =>
        have H := HA.out
        clear HA
        simp only [compositorlaw30_heavy.l0] at H
        by_cases c3 : x3_1 < (l0.length : Int)
        · rw [if_pos c3] at H
          have c3b0 : decide (x3_1 < (l0.length : Int)) = true := decide_eq_true c3
          clear c3
          by_cases c4 : 0 ≤ x3_1
          · rw [if_pos c4] at H
            have c4b0 : decide (0 ≤ x3_1) = true := decide_eq_true c4
            clear c4
            by_cases c5 : (((rd_T55 l0 x3_1).f2).length : Int) > 300
            · rw [if_pos c5] at H
              have c5b0 : decide (300 < (((rd_T55 l0 x3_1).f2).length : Int)) = true := decide_eq_true c5
              have c5b1 : decide (300 < ((rd_T55 l0 x3_1).f2).length) = true := decide_eq_true (by omega)
              clear c5
              obtain rfl := Option.some.inj H
              have p128 : 0 ≤ (x3_1 : Int) := of_decide_eq_true (by first | (with_reducible assumption) | assumption)
              have q128 : x3_1 < (l0.length : Int) := of_decide_eq_true (by first | (with_reducible assumption) | assumption)
              obtain ⟨ad128, A128_2, c128_2, e128, hx128_0, hx128_1, hx128_2, hl128_2, hi128_2⟩ := at_T55 HR0.out x3_1 p128 q128
              cases e128
              have HR128_2 := Aside0.mk hi128_2
              have HC128_2 := Aside0.mk hl128_2
              clear hi128_2 hl128_2
              replace p128 := eq_true p128
              replace q128 := eq_true q128
              go_wp2
              go_ret
              exact ⟨by first | rfl | (simp; done) | (simp [*]; done), by repeat (first | exact Drawn0.refl _ | apply Drawn0.step)⟩
            · rw [if_neg c5] at H
              have c5b0 : decide (300 < (((rd_T55 l0 x3_1).f2).length : Int)) = false := decide_eq_false c5
              have c5b1 : decide (300 < ((rd_T55 l0 x3_1).f2).length) = false := decide_eq_false (by omega)
              clear c5
              by_cases c6 : x3_1 > 60
              · rw [if_pos c6] at H
                have c6b0 : decide (60 < x3_1) = true := decide_eq_true c6
                clear c6
                by_cases c7 : (((rd_T55 l0 x3_1).f2).length : Int) > 2
                · rw [if_pos c7] at H
                  have c7b0 : decide (2 < (((rd_T55 l0 x3_1).f2).length : Int)) = true := decide_eq_true c7
                  have c7b1 : decide (2 < ((rd_T55 l0 x3_1).f2).length) = true := decide_eq_true (by omega)
                  clear c7
                  obtain rfl := Option.some.inj H
                  have p128 : 0 ≤ (x3_1 : Int) := of_decide_eq_true (by first | (with_reducible assumption) | assumption)
                  have q128 : x3_1 < (l0.length : Int) := of_decide_eq_true (by first | (with_reducible assumption) | assumption)
                  obtain ⟨ad128, A128_2, c128_2, e128, hx128_0, hx128_1, hx128_2, hl128_2, hi128_2⟩ := at_T55 HR0.out x3_1 p128 q128
                  cases e128
                  have HR128_2 := Aside0.mk hi128_2
                  have HC128_2 := Aside0.mk hl128_2
                  clear hi128_2 hl128_2
                  replace p128 := eq_true p128
                  replace q128 := eq_true q128
                  have p129 : 0 ≤ (x3_1 : Int) := of_decide_eq_true (by first | (with_reducible assumption) | assumption)
                  have q129 : x3_1 < (l0.length : Int) := of_decide_eq_true (by first | (with_reducible assumption) | assumption)
                  obtain ⟨ad129, A129_2, c129_2, e129, hx129_0, hx129_1, hx129_2, hl129_2, hi129_2⟩ := at_T55 HR0.out x3_1 p129 q129
                  obtain rfl : ad128 = ad129 := (by injection e129)
                  have HR129_2 := Aside0.mk hi129_2
                  have HC129_2 := Aside0.mk hl129_2
                  clear hi129_2 hl129_2
                  replace p129 := eq_true p129
                  replace q129 := eq_true q129
                  have ea_ := Option.some.inj (hx128_2.symm.trans hx129_2)
                  injection ea_ with ea_ en_ ec_
                  subst ea_
                  subst ec_
                  clear en_
                  go_wp2
                  go_ret
                  exact ⟨by first | rfl | (simp; done) | (simp [*]; done), by repeat (first | exact Drawn0.refl _ | apply Drawn0.step)⟩
                · rw [if_neg c7] at H
                  have c7b0 : decide (2 < (((rd_T55 l0 x3_1).f2).length : Int)) = false := decide_eq_false c7
                  have c7b1 : decide (2 < ((rd_T55 l0 x3_1).f2).length) = false := decide_eq_false (by omega)
                  clear c7
                  have H' := Aside0.mk H
                  clear H
                  have p128 : 0 ≤ (x3_1 : Int) := of_decide_eq_true (by first | (with_reducible assumption) | assumption)
                  have q128 : x3_1 < (l0.length : Int) := of_decide_eq_true (by first | (with_reducible assumption) | assumption)
                  obtain ⟨ad128, A128_2, c128_2, e128, hx128_0, hx128_1, hx128_2, hl128_2, hi128_2⟩ := at_T55 HR0.out x3_1 p128 q128
                  cases e128
                  have HR128_2 := Aside0.mk hi128_2
                  have HC128_2 := Aside0.mk hl128_2
                  clear hi128_2 hl128_2
                  replace p128 := eq_true p128
                  replace q128 := eq_true q128
                  have p129 : 0 ≤ (x3_1 : Int) := of_decide_eq_true (by first | (with_reducible assumption) | assumption)
                  have q129 : x3_1 < (l0.length : Int) := of_decide_eq_true (by first | (with_reducible assumption) | assumption)
                  obtain ⟨ad129, A129_2, c129_2, e129, hx129_0, hx129_1, hx129_2, hl129_2, hi129_2⟩ := at_T55 HR0.out x3_1 p129 q129
                  obtain rfl : ad128 = ad129 := (by injection e129)
                  have HR129_2 := Aside0.mk hi129_2
                  have HC129_2 := Aside0.mk hl129_2
                  clear hi129_2 hl129_2
                  replace p129 := eq_true p129
                  replace q129 := eq_true q129
                  have ea_ := Option.some.inj (hx128_2.symm.trans hx129_2)
                  injection ea_ with ea_ en_ ec_
                  subst ea_
                  subst ec_
                  clear en_
                  go_wp2
                  go_roundg k1
                  case measure => have := HK1.out; omega
                  case rel => exact ⟨(wrap64 (x3_1 + 1)), (by first | rfl | (simp; done) | (simp [*]; done)), H', ⟨by have := HK1.out; omega⟩, by repeat (first | exact Drawn0.refl _ | apply Drawn0.step)⟩
              · rw [if_neg c6] at H
                have c6b0 : decide (60 < x3_1) = false := decide_eq_false c6
                clear c6
                have H' := Aside0.mk H
                clear H
                have p128 : 0 ≤ (x3_1 : Int) := of_decide_eq_true (by first | (with_reducible assumption) | assumption)
                have q128 : x3_1 < (l0.length : Int) := of_decide_eq_true (by first | (with_reducible assumption) | assumption)
                obtain ⟨ad128, A128_2, c128_2, e128, hx128_0, hx128_1, hx128_2, hl128_2, hi128_2⟩ := at_T55 HR0.out x3_1 p128 q128
                cases e128
                have HR128_2 := Aside0.mk hi128_2
                have HC128_2 := Aside0.mk hl128_2
                clear hi128_2 hl128_2
                replace p128 := eq_true p128
                replace q128 := eq_true q128
                go_wp2
                go_roundg k1
                case measure => have := HK1.out; omega
                case rel => exact ⟨(wrap64 (x3_1 + 1)), (by first | rfl | (simp; done) | (simp [*]; done)), H', ⟨by have := HK1.out; omega⟩, by repeat (first | exact Drawn0.refl _ | apply Drawn0.step)⟩
          · rw [if_neg c4] at H
            exact absurd H (by simp)
        · rw [if_neg c3] at H
          have c3b0 : decide (x3_1 < (l0.length : Int)) = false := decide_eq_false c3
          clear c3
          obtain rfl := Option.some.inj H
          go_wp2
          go_ret
          exact ⟨by first | rfl | (simp; done) | (simp [*]; done), by repeat (first | exact Drawn0.refl _ | apply Drawn0.step)⟩
end Go.Proofs.Ytmkhphkkpdiliaa.All
end
section
namespace Go.Proofs.Ytmkhphkkpdiliaa.All
open Go.RowKit Go.Proofs.YtmkhphkkpdiliaaW.PrintWords Go.Proofs.YtmkhphkkpdiliaaW.PrintLast Go.Proofs.YtmkhphkkpdiliaaW.PrintMore
attribute [local go_sem] max2_int min2_int max_two min_two max_three min_three max_four min_four
set_option linter.unusedVariables false
set_option linter.unusedSimpArgs false
def compositorref30_New.f (k : Nat) (a0_0 : ByteArray) (a0_1 : Int) (a0_2 : Int) (a0_3 : Int) (a0_4 : Int) (a0_5 : Int) (a0_6 : Int) (a0_7 : Int) : Option (Bool × Int × Int × (List (S78)) × Int) := (compositorref23_Check.f k a0_0 a0_1 a0_2 a0_3 a0_4 a0_5 a0_6 a0_7).bind fun t132 => (if t132 = 0 then ((compositorref23_Interval.f k a0_0 a0_1 a0_2 a0_3 a0_4 a0_5 a0_6 a0_7).bind fun t133 => (some (true, t133, 0, ([] : List (S78)), 0))) else (some (false, 0, 0, ([] : List (S78)), t132)))
set_option maxHeartbeats 8000000 in
set_option maxRecDepth 100000 in
theorem compositorref30_New.calls (k : Nat) (a0_0 : ByteArray) (a0_1 : Int) (a0_2 : Int) (a0_3 : Int) (a0_4 : Int) (a0_5 : Int) (a0_6 : Int) (a0_7 : Int) (r1 : Bool) (r2 : Int) (r3 : Int) (r4 : List (S78)) (r5 : Int) (w : World) (h : compositorref30_New.f k a0_0 a0_1 a0_2 a0_3 a0_4 a0_5 a0_6 a0_7 = some (r1, r2, r3, r4, r5)) :
    Calls Try.prog 21 #[.agg #[.string a0_0, .int .i64 a0_1, .int .i64 a0_2, .int .i64 a0_3, .int .i64 a0_4, .int .i64 a0_5, .int .i64 a0_6, .int .i64 a0_7]] w fun e w' => ∃ v3_ : Value, e = .returned (.tuple #[.agg #[.bool r1, .int .i64 r2, .int .i64 r3, v3_], .int .i64 r5]) ∧ Kd.S k78 78 w' w.heap.size (fun _ => True) v3_ r4 ∧ Below w.heap.size w w' := by
  have hu23 := Try.underlying23
  have hu51 := Try.underlying51
  have HB := Aside0.mk (Below.refl w.heap.size w)
  have H : ((compositorref23_Check.f k a0_0 a0_1 a0_2 a0_3 a0_4 a0_5 a0_6 a0_7).bind fun t132 => (if t132 = 0 then ((compositorref23_Interval.f k a0_0 a0_1 a0_2 a0_3 a0_4 a0_5 a0_6 a0_7).bind fun t133 => (some (true, t133, 0, ([] : List (S78)), 0))) else (some (false, 0, 0, ([] : List (S78)), t132)))) = some (r1, r2, r3, r4, r5) := h
  clear h
  replace H := Option.bind_eq_some_iff.mp H
  obtain ⟨t132, A20, H⟩ := H
  replace H : (if t132 = 0 then ((compositorref23_Interval.f k a0_0 a0_1 a0_2 a0_3 a0_4 a0_5 a0_6 a0_7).bind fun t133 => (some (true, t133, 0, ([] : List (S78)), 0))) else (some (false, 0, 0, ([] : List (S78)), t132))) = some (r1, r2, r3, r4, r5) := H
  have A2 := Aside0.mk A20
  clear A20
  by_cases c3 : t132 = 0
  · rw [if_pos c3] at H
    have c3b0 : (t132 == 0) = true := beq_iff_eq.mpr c3
    have c3b1 : (t132 != 0) = false := bne_eq_false_iff_eq.mpr c3
    clear c3
    replace H := Option.bind_eq_some_iff.mp H
    obtain ⟨t133, A40, H⟩ := H
    replace H : (some (true, t133, 0, ([] : List (S78)), 0)) = some (r1, r2, r3, r4, r5) := H
    have A4 := Aside0.mk A40
    clear A40
    simp only [Option.some.injEq, Prod.mk.injEq] at H
    obtain ⟨rfl, rfl, rfl, rfl, rfl⟩ := H
    go_enter Try.func21, Try.ntmps21
    go_wp2_with (first | ((with_reducible refine gate_dst (N := 1) rfl ?_); refine box_event ?hg (N := 1) ?hd (cs := #[.string a0_0, .int .i64 a0_1, .int .i64 a0_2, .int .i64 a0_3, .int .i64 a0_4, .int .i64 a0_5, .int .i64 a0_6, .int .i64 a0_7]) (t := 23) ?hr ?_; (case hd => rfl); (case hg => rfl); (case hr => first | (go_simp; done) | (go_simp; rfl)); intro gb130 hg w5 hbox hb; have n0_ := Aside0.mk (below_step (by repeat (first | (with_reducible first | exact HB.out | apply below_alloc | apply pw_below_drewN | apply below_drew1) | exact HB.out)) hb); have n1_ := Aside0.mk (hbox); have n2_ := Aside0.mk ((by rw [hg]; exact (below_size (by repeat (first | (with_reducible first | exact HB.out | apply below_alloc | apply pw_below_drewN | apply below_drew1) | exact HB.out))) : w.heap.size ≤ gb130)); have n3_ := Aside0.mk ((by rw [hg]; exact (below_size (by repeat (first | (with_reducible first | exact HB.out | apply below_alloc | apply pw_below_drewN | apply below_drew1) | exact HB.out))) : w.heap.size ≤ gb130)); clear HB; have HB := n0_; have BK130 := n1_; have GW130 := n2_; have GE130 := n3_; clear n0_ n1_ n2_ n3_; clear hb hbox hg) | ((with_reducible refine gate_dst (N := 2) rfl ?_); refine box_event ?hg (N := 2) ?hd (cs := #[.bool false, .int .i64 0, .int .i64 0, .slice none 0 0]) (t := 51) ?hr ?_; (case hd => rfl); (case hg => rfl); (case hr => first | (go_simp; done) | (go_simp; rfl)); intro gb131 hg w6 hbox hb; have n0_ := Aside0.mk (blk_below (g := gb130) (o := .cells #[.string a0_0, .int .i64 a0_1, .int .i64 a0_2, .int .i64 a0_3, .int .i64 a0_4, .int .i64 a0_5, .int .i64 a0_6, .int .i64 a0_7] 23 (0, 0)) (by (with_reducible repeat (first | refine blk_drewN ?_ _ | refine blk_drew ?_ | refine blk_alloc ?_ _)); exact BK130.out) hb); have n1_ := Aside0.mk (below_step (by repeat (first | (with_reducible first | exact HB.out | apply below_alloc | apply pw_below_drewN | apply below_drew1 | refine below_set ?_ GE130.out) | exact HB.out)) hb); have n2_ := Aside0.mk (hbox); have n3_ := Aside0.mk ((by rw [hg]; exact (below_size (by repeat (first | (with_reducible first | exact HB.out | apply below_alloc | apply pw_below_drewN | apply below_drew1 | refine below_set ?_ GE130.out) | exact HB.out))) : w.heap.size ≤ gb131)); have n4_ := Aside0.mk ((by rw [hg]; exact (below_size (by repeat (first | (with_reducible first | exact HB.out | apply below_alloc | apply pw_below_drewN | apply below_drew1 | refine below_set ?_ GE130.out) | exact HB.out))) : w.heap.size ≤ gb131)); have n5_ := Aside0.mk ((by rw [hg]; exact Nat.ne_of_lt (blk_lt (g := gb130) (o := .cells #[.string a0_0, .int .i64 a0_1, .int .i64 a0_2, .int .i64 a0_3, .int .i64 a0_4, .int .i64 a0_5, .int .i64 a0_6, .int .i64 a0_7] 23 (0, 0)) (by (with_reducible repeat (first | refine blk_drewN ?_ _ | refine blk_drew ?_ | refine blk_alloc ?_ _)); exact BK130.out)) : gb130 ≠ gb131)); have n6_ := Aside0.mk ((by rw [hg]; exact Nat.ne_of_gt (blk_lt (g := gb130) (o := .cells #[.string a0_0, .int .i64 a0_1, .int .i64 a0_2, .int .i64 a0_3, .int .i64 a0_4, .int .i64 a0_5, .int .i64 a0_6, .int .i64 a0_7] 23 (0, 0)) (by (with_reducible repeat (first | refine blk_drewN ?_ _ | refine blk_drew ?_ | refine blk_alloc ?_ _)); exact BK130.out)) : gb131 ≠ gb130)); clear BK130; clear HB; have BK130 := n0_; have HB := n1_; have BK131 := n2_; have GW131 := n3_; have GE131 := n4_; have NB130_131 := n5_; have NB131_130 := n6_; clear n0_ n1_ n2_ n3_ n4_ n5_ n6_; clear hb hbox hg; have hnb7 := NB130_131.out; have hnc7 := NB131_130.out; have hcz8_0 : w6.cell? ⟨gb130, 0, none⟩ = some (.string a0_0) := (blk_cell BK130.out 0).trans rfl; have hcz8_1 : w6.cell? ⟨gb130, 1, none⟩ = some (.int .i64 a0_1) := (blk_cell BK130.out 1).trans rfl; have hcz8_2 : w6.cell? ⟨gb130, 2, none⟩ = some (.int .i64 a0_2) := (blk_cell BK130.out 2).trans rfl; have hcz8_3 : w6.cell? ⟨gb130, 3, none⟩ = some (.int .i64 a0_3) := (blk_cell BK130.out 3).trans rfl; have hcz8_4 : w6.cell? ⟨gb130, 4, none⟩ = some (.int .i64 a0_4) := (blk_cell BK130.out 4).trans rfl; have hcz8_5 : w6.cell? ⟨gb130, 5, none⟩ = some (.int .i64 a0_5) := (blk_cell BK130.out 5).trans rfl; have hcz8_6 : w6.cell? ⟨gb130, 6, none⟩ = some (.int .i64 a0_6) := (blk_cell BK130.out 6).trans rfl; have hcz8_7 : w6.cell? ⟨gb130, 7, none⟩ = some (.int .i64 a0_7) := (blk_cell BK130.out 7).trans rfl; have hfz8_0 := blk_frozen BK130.out 0; have hfz8_1 := blk_frozen BK130.out 1; have hfz8_2 := blk_frozen BK130.out 2; have hfz8_3 := blk_frozen BK130.out 3; have hfz8_4 := blk_frozen BK130.out 4; have hfz8_5 := blk_frozen BK130.out 5; have hfz8_6 := blk_frozen BK130.out 6; have hfz8_7 := blk_frozen BK130.out 7) | ((with_reducible refine gate_callee (f := 11) rfl ?_); refine goesL_ (some 6) rfl rfl Try.func11 (by kernel_rfl) rfl #[.agg #[.string a0_0, .int .i64 a0_1, .int .i64 a0_2, .int .i64 a0_3, .int .i64 a0_4, .int .i64 a0_5, .int .i64 a0_6, .int .i64 a0_7]] rfl (by (try simp only [List.map_toArray, List.map_cons, List.map_nil]); first | done | rfl | (simp only [List.length_drop, List.length_take]; rfl)) ?_; (with_reducible refine (compositorref23_Check.calls k a0_0 a0_1 a0_2 a0_3 a0_4 a0_5 a0_6 a0_7 t132 _ A2.out).mono ?_); rintro e w9 ⟨rfl, hb⟩; refine ⟨_, rfl, ?_⟩; have n0_ := Aside0.mk (blk_below (g := gb130) (o := .cells #[.string a0_0, .int .i64 a0_1, .int .i64 a0_2, .int .i64 a0_3, .int .i64 a0_4, .int .i64 a0_5, .int .i64 a0_6, .int .i64 a0_7] 23 (0, 0)) (by (with_reducible repeat (first | refine blk_drewN ?_ _ | refine blk_drew ?_ | refine blk_alloc ?_ _)); exact BK130.out) hb); have n1_ := Aside0.mk (blk_below (g := gb131) (o := .cells #[.bool false, .int .i64 0, .int .i64 0, .slice none 0 0] 51 (0, 0)) (by (with_reducible repeat (first | refine blk_drewN ?_ _ | refine blk_drew ?_ | refine blk_alloc ?_ _)); exact BK131.out) hb); have n2_ := Aside0.mk (below_step (by repeat (first | (with_reducible first | exact HB.out | apply below_alloc | apply pw_below_drewN | apply below_drew1 | refine below_set ?_ GE130.out | refine below_set ?_ GE131.out) | exact HB.out)) hb); clear BK130; clear BK131; clear HB; have BK130 := n0_; have BK131 := n1_; have HB := n2_; clear n0_ n1_ n2_; (try clear hb); (try clear hb2); (try clear hk); (try clear hi); have hcz10_0 : w9.cell? ⟨gb130, 0, none⟩ = some (.string a0_0) := (blk_cell BK130.out 0).trans rfl; have hcz10_1 : w9.cell? ⟨gb130, 1, none⟩ = some (.int .i64 a0_1) := (blk_cell BK130.out 1).trans rfl; have hcz10_2 : w9.cell? ⟨gb130, 2, none⟩ = some (.int .i64 a0_2) := (blk_cell BK130.out 2).trans rfl; have hcz10_3 : w9.cell? ⟨gb130, 3, none⟩ = some (.int .i64 a0_3) := (blk_cell BK130.out 3).trans rfl; have hcz10_4 : w9.cell? ⟨gb130, 4, none⟩ = some (.int .i64 a0_4) := (blk_cell BK130.out 4).trans rfl; have hcz10_5 : w9.cell? ⟨gb130, 5, none⟩ = some (.int .i64 a0_5) := (blk_cell BK130.out 5).trans rfl; have hcz10_6 : w9.cell? ⟨gb130, 6, none⟩ = some (.int .i64 a0_6) := (blk_cell BK130.out 6).trans rfl; have hcz10_7 : w9.cell? ⟨gb130, 7, none⟩ = some (.int .i64 a0_7) := (blk_cell BK130.out 7).trans rfl; have hfz10_0 := blk_frozen BK130.out 0; have hfz10_1 := blk_frozen BK130.out 1; have hfz10_2 := blk_frozen BK130.out 2; have hfz10_3 := blk_frozen BK130.out 3; have hfz10_4 := blk_frozen BK130.out 4; have hfz10_5 := blk_frozen BK130.out 5; have hfz10_6 := blk_frozen BK130.out 6; have hfz10_7 := blk_frozen BK130.out 7) | ((with_reducible refine gate_callee (f := 14) rfl ?_); refine goesL_ (some 12) rfl rfl Try.func14 (by kernel_rfl) rfl #[.agg #[.string a0_0, .int .i64 a0_1, .int .i64 a0_2, .int .i64 a0_3, .int .i64 a0_4, .int .i64 a0_5, .int .i64 a0_6, .int .i64 a0_7]] rfl (by (try simp only [List.map_toArray, List.map_cons, List.map_nil]); first | done | rfl | (simp only [List.length_drop, List.length_take]; rfl)) ?_; (with_reducible refine (compositorref23_Interval.calls k a0_0 a0_1 a0_2 a0_3 a0_4 a0_5 a0_6 a0_7 t133 _ A4.out).mono ?_); rintro e w11 ⟨rfl, hb⟩; refine ⟨_, rfl, ?_⟩; have n0_ := Aside0.mk (blk_below (g := gb130) (o := .cells #[.string a0_0, .int .i64 a0_1, .int .i64 a0_2, .int .i64 a0_3, .int .i64 a0_4, .int .i64 a0_5, .int .i64 a0_6, .int .i64 a0_7] 23 (0, 0)) (by (with_reducible repeat (first | refine blk_drewN ?_ _ | refine blk_drew ?_ | refine blk_alloc ?_ _)); exact BK130.out) hb); have n1_ := Aside0.mk (blk_below (g := gb131) (o := .cells #[.bool false, .int .i64 0, .int .i64 0, .slice none 0 0] 51 (0, 0)) (by (with_reducible repeat (first | refine blk_drewN ?_ _ | refine blk_drew ?_ | refine blk_alloc ?_ _)); exact BK131.out) hb); have n2_ := Aside0.mk (below_step (by repeat (first | (with_reducible first | exact HB.out | apply below_alloc | apply pw_below_drewN | apply below_drew1 | refine below_set ?_ GE130.out | refine below_set ?_ GE131.out) | exact HB.out)) hb); clear BK130; clear BK131; clear HB; have BK130 := n0_; have BK131 := n1_; have HB := n2_; clear n0_ n1_ n2_; (try clear hb); (try clear hb2); (try clear hk); (try clear hi); have hcz12_0 : w11.cell? ⟨gb131, 0, none⟩ = some (.bool false) := (blk_cell BK131.out 0).trans rfl; have hcz12_1 : w11.cell? ⟨gb131, 1, none⟩ = some (.int .i64 0) := (blk_cell BK131.out 1).trans rfl; have hcz12_2 : w11.cell? ⟨gb131, 2, none⟩ = some (.int .i64 0) := (blk_cell BK131.out 2).trans rfl; have hcz12_3 : w11.cell? ⟨gb131, 3, none⟩ = some (.slice none 0 0) := (blk_cell BK131.out 3).trans rfl; have hfz12_0 := blk_frozen BK131.out 0; have hfz12_1 := blk_frozen BK131.out 1; have hfz12_2 := blk_frozen BK131.out 2; have hfz12_3 := blk_frozen BK131.out 3))
    refine bodyPost_ret (results_ct rfl _ _ gb131 51 #[.bool true, .int .i64 t133, .int .i64 0, .slice none 0 0] (0, 0) _ rfl (by (with_reducible repeat (first | refine blk_drewN ?_ _ | refine blk_drew ?_ | refine blk_alloc ?_ _)); refine blk_put (cs := #[.bool true, .int .i64 t133, .int .i64 0, .slice none 0 0]) ?_ 3 _ rfl; (with_reducible repeat (first | refine blk_drewN ?_ _ | refine blk_drew ?_ | refine blk_alloc ?_ _)); refine blk_put (cs := #[.bool true, .int .i64 t133, .int .i64 0, .slice none 0 0]) ?_ 2 _ rfl; (with_reducible repeat (first | refine blk_drewN ?_ _ | refine blk_drew ?_ | refine blk_alloc ?_ _)); refine blk_put (cs := #[.bool true, .int .i64 0, .int .i64 0, .slice none 0 0]) ?_ 1 _ rfl; (with_reducible repeat (first | refine blk_drewN ?_ _ | refine blk_drew ?_ | refine blk_alloc ?_ _)); refine blk_put (cs := #[.bool false, .int .i64 0, .int .i64 0, .slice none 0 0]) ?_ 0 _ rfl; (with_reducible repeat (first | refine blk_drewN ?_ _ | refine blk_drew ?_ | refine blk_alloc ?_ _)); exact BK131.out) Try.underlying51 rfl (by kernel_rfl)) rfl ?_
    exact ⟨_, by first | rfl | (simp [errW_none, errW_some] <;> rfl) | (simp [*, errW_none, errW_some] <;> rfl), by first | exact Kd.S_nil _ _ _ _ _ | exact Kd.N_nil _ _ _ _ _ | exact Kd.V_nil _ _ _ _ _ | exact Kd.Q_nil _ _ _ _ _ | exact Kd.R_nil _ _ _ _ _, by repeat (first | (with_reducible first | exact HB.out | apply below_alloc | apply pw_below_drewN | apply below_drew1 | refine below_set ?_ GE130.out | refine below_set ?_ GE131.out) | exact HB.out)⟩
  · rw [if_neg c3] at H
    have c3b0 : (t132 == 0) = false := beq_eq_false_iff_ne.mpr c3
    have c3b1 : (t132 != 0) = true := bne_iff_ne.mpr c3
    simp only [Option.some.injEq, Prod.mk.injEq] at H
    obtain ⟨rfl, rfl, rfl, rfl, rfl⟩ := H
    go_enter Try.func21, Try.ntmps21
    go_wp2_with (first | ((with_reducible refine gate_dst (N := 1) rfl ?_); refine box_event ?hg (N := 1) ?hd (cs := #[.string a0_0, .int .i64 a0_1, .int .i64 a0_2, .int .i64 a0_3, .int .i64 a0_4, .int .i64 a0_5, .int .i64 a0_6, .int .i64 a0_7]) (t := 23) ?hr ?_; (case hd => rfl); (case hg => rfl); (case hr => first | (go_simp; done) | (go_simp; rfl)); intro gb130 hg w13 hbox hb; have n0_ := Aside0.mk (below_step (by repeat (first | (with_reducible first | exact HB.out | apply below_alloc | apply pw_below_drewN | apply below_drew1) | exact HB.out)) hb); have n1_ := Aside0.mk (hbox); have n2_ := Aside0.mk ((by rw [hg]; exact (below_size (by repeat (first | (with_reducible first | exact HB.out | apply below_alloc | apply pw_below_drewN | apply below_drew1) | exact HB.out))) : w.heap.size ≤ gb130)); have n3_ := Aside0.mk ((by rw [hg]; exact (below_size (by repeat (first | (with_reducible first | exact HB.out | apply below_alloc | apply pw_below_drewN | apply below_drew1) | exact HB.out))) : w.heap.size ≤ gb130)); clear HB; have HB := n0_; have BK130 := n1_; have GW130 := n2_; have GE130 := n3_; clear n0_ n1_ n2_ n3_; clear hb hbox hg) | ((with_reducible refine gate_dst (N := 2) rfl ?_); refine box_event ?hg (N := 2) ?hd (cs := #[.bool false, .int .i64 0, .int .i64 0, .slice none 0 0]) (t := 51) ?hr ?_; (case hd => rfl); (case hg => rfl); (case hr => first | (go_simp; done) | (go_simp; rfl)); intro gb131 hg w14 hbox hb; have n0_ := Aside0.mk (blk_below (g := gb130) (o := .cells #[.string a0_0, .int .i64 a0_1, .int .i64 a0_2, .int .i64 a0_3, .int .i64 a0_4, .int .i64 a0_5, .int .i64 a0_6, .int .i64 a0_7] 23 (0, 0)) (by (with_reducible repeat (first | refine blk_drewN ?_ _ | refine blk_drew ?_ | refine blk_alloc ?_ _)); exact BK130.out) hb); have n1_ := Aside0.mk (below_step (by repeat (first | (with_reducible first | exact HB.out | apply below_alloc | apply pw_below_drewN | apply below_drew1 | refine below_set ?_ GE130.out) | exact HB.out)) hb); have n2_ := Aside0.mk (hbox); have n3_ := Aside0.mk ((by rw [hg]; exact (below_size (by repeat (first | (with_reducible first | exact HB.out | apply below_alloc | apply pw_below_drewN | apply below_drew1 | refine below_set ?_ GE130.out) | exact HB.out))) : w.heap.size ≤ gb131)); have n4_ := Aside0.mk ((by rw [hg]; exact (below_size (by repeat (first | (with_reducible first | exact HB.out | apply below_alloc | apply pw_below_drewN | apply below_drew1 | refine below_set ?_ GE130.out) | exact HB.out))) : w.heap.size ≤ gb131)); have n5_ := Aside0.mk ((by rw [hg]; exact Nat.ne_of_lt (blk_lt (g := gb130) (o := .cells #[.string a0_0, .int .i64 a0_1, .int .i64 a0_2, .int .i64 a0_3, .int .i64 a0_4, .int .i64 a0_5, .int .i64 a0_6, .int .i64 a0_7] 23 (0, 0)) (by (with_reducible repeat (first | refine blk_drewN ?_ _ | refine blk_drew ?_ | refine blk_alloc ?_ _)); exact BK130.out)) : gb130 ≠ gb131)); have n6_ := Aside0.mk ((by rw [hg]; exact Nat.ne_of_gt (blk_lt (g := gb130) (o := .cells #[.string a0_0, .int .i64 a0_1, .int .i64 a0_2, .int .i64 a0_3, .int .i64 a0_4, .int .i64 a0_5, .int .i64 a0_6, .int .i64 a0_7] 23 (0, 0)) (by (with_reducible repeat (first | refine blk_drewN ?_ _ | refine blk_drew ?_ | refine blk_alloc ?_ _)); exact BK130.out)) : gb131 ≠ gb130)); clear BK130; clear HB; have BK130 := n0_; have HB := n1_; have BK131 := n2_; have GW131 := n3_; have GE131 := n4_; have NB130_131 := n5_; have NB131_130 := n6_; clear n0_ n1_ n2_ n3_ n4_ n5_ n6_; clear hb hbox hg; have hnb15 := NB130_131.out; have hnc15 := NB131_130.out; have hcz16_0 : w14.cell? ⟨gb130, 0, none⟩ = some (.string a0_0) := (blk_cell BK130.out 0).trans rfl; have hcz16_1 : w14.cell? ⟨gb130, 1, none⟩ = some (.int .i64 a0_1) := (blk_cell BK130.out 1).trans rfl; have hcz16_2 : w14.cell? ⟨gb130, 2, none⟩ = some (.int .i64 a0_2) := (blk_cell BK130.out 2).trans rfl; have hcz16_3 : w14.cell? ⟨gb130, 3, none⟩ = some (.int .i64 a0_3) := (blk_cell BK130.out 3).trans rfl; have hcz16_4 : w14.cell? ⟨gb130, 4, none⟩ = some (.int .i64 a0_4) := (blk_cell BK130.out 4).trans rfl; have hcz16_5 : w14.cell? ⟨gb130, 5, none⟩ = some (.int .i64 a0_5) := (blk_cell BK130.out 5).trans rfl; have hcz16_6 : w14.cell? ⟨gb130, 6, none⟩ = some (.int .i64 a0_6) := (blk_cell BK130.out 6).trans rfl; have hcz16_7 : w14.cell? ⟨gb130, 7, none⟩ = some (.int .i64 a0_7) := (blk_cell BK130.out 7).trans rfl; have hfz16_0 := blk_frozen BK130.out 0; have hfz16_1 := blk_frozen BK130.out 1; have hfz16_2 := blk_frozen BK130.out 2; have hfz16_3 := blk_frozen BK130.out 3; have hfz16_4 := blk_frozen BK130.out 4; have hfz16_5 := blk_frozen BK130.out 5; have hfz16_6 := blk_frozen BK130.out 6; have hfz16_7 := blk_frozen BK130.out 7) | ((with_reducible refine gate_callee (f := 11) rfl ?_); refine goesL_ (some 6) rfl rfl Try.func11 (by kernel_rfl) rfl #[.agg #[.string a0_0, .int .i64 a0_1, .int .i64 a0_2, .int .i64 a0_3, .int .i64 a0_4, .int .i64 a0_5, .int .i64 a0_6, .int .i64 a0_7]] rfl (by (try simp only [List.map_toArray, List.map_cons, List.map_nil]); first | done | rfl | (simp only [List.length_drop, List.length_take]; rfl)) ?_; (with_reducible refine (compositorref23_Check.calls k a0_0 a0_1 a0_2 a0_3 a0_4 a0_5 a0_6 a0_7 t132 _ A2.out).mono ?_); rintro e w17 ⟨rfl, hb⟩; refine ⟨_, rfl, ?_⟩; have n0_ := Aside0.mk (blk_below (g := gb130) (o := .cells #[.string a0_0, .int .i64 a0_1, .int .i64 a0_2, .int .i64 a0_3, .int .i64 a0_4, .int .i64 a0_5, .int .i64 a0_6, .int .i64 a0_7] 23 (0, 0)) (by (with_reducible repeat (first | refine blk_drewN ?_ _ | refine blk_drew ?_ | refine blk_alloc ?_ _)); exact BK130.out) hb); have n1_ := Aside0.mk (blk_below (g := gb131) (o := .cells #[.bool false, .int .i64 0, .int .i64 0, .slice none 0 0] 51 (0, 0)) (by (with_reducible repeat (first | refine blk_drewN ?_ _ | refine blk_drew ?_ | refine blk_alloc ?_ _)); exact BK131.out) hb); have n2_ := Aside0.mk (below_step (by repeat (first | (with_reducible first | exact HB.out | apply below_alloc | apply pw_below_drewN | apply below_drew1 | refine below_set ?_ GE130.out | refine below_set ?_ GE131.out) | exact HB.out)) hb); clear BK130; clear BK131; clear HB; have BK130 := n0_; have BK131 := n1_; have HB := n2_; clear n0_ n1_ n2_; (try clear hb); (try clear hb2); (try clear hk); (try clear hi); have hcz18_0 : w17.cell? ⟨gb131, 0, none⟩ = some (.bool false) := (blk_cell BK131.out 0).trans rfl; have hcz18_1 : w17.cell? ⟨gb131, 1, none⟩ = some (.int .i64 0) := (blk_cell BK131.out 1).trans rfl; have hcz18_2 : w17.cell? ⟨gb131, 2, none⟩ = some (.int .i64 0) := (blk_cell BK131.out 2).trans rfl; have hcz18_3 : w17.cell? ⟨gb131, 3, none⟩ = some (.slice none 0 0) := (blk_cell BK131.out 3).trans rfl; have hfz18_0 := blk_frozen BK131.out 0; have hfz18_1 := blk_frozen BK131.out 1; have hfz18_2 := blk_frozen BK131.out 2; have hfz18_3 := blk_frozen BK131.out 3))
    refine bodyPost_ret (results_ct rfl _ _ gb131 51 #[.bool false, .int .i64 0, .int .i64 0, .slice none 0 0] (0, 0) _ rfl (by (with_reducible repeat (first | refine blk_drewN ?_ _ | refine blk_drew ?_ | refine blk_alloc ?_ _)); refine blk_put (cs := #[.bool false, .int .i64 0, .int .i64 0, .slice none 0 0]) ?_ 3 _ rfl; (with_reducible repeat (first | refine blk_drewN ?_ _ | refine blk_drew ?_ | refine blk_alloc ?_ _)); refine blk_put (cs := #[.bool false, .int .i64 0, .int .i64 0, .slice none 0 0]) ?_ 2 _ rfl; (with_reducible repeat (first | refine blk_drewN ?_ _ | refine blk_drew ?_ | refine blk_alloc ?_ _)); refine blk_put (cs := #[.bool false, .int .i64 0, .int .i64 0, .slice none 0 0]) ?_ 1 _ rfl; (with_reducible repeat (first | refine blk_drewN ?_ _ | refine blk_drew ?_ | refine blk_alloc ?_ _)); refine blk_put (cs := #[.bool false, .int .i64 0, .int .i64 0, .slice none 0 0]) ?_ 0 _ rfl; (with_reducible repeat (first | refine blk_drewN ?_ _ | refine blk_drew ?_ | refine blk_alloc ?_ _)); exact BK131.out) Try.underlying51 rfl (by kernel_rfl)) rfl ?_
    exact ⟨_, by first | rfl | (simp [errW_none, errW_some] <;> rfl) | (simp [*, errW_none, errW_some] <;> rfl), by first | exact Kd.S_nil _ _ _ _ _ | exact Kd.N_nil _ _ _ _ _ | exact Kd.V_nil _ _ _ _ _ | exact Kd.Q_nil _ _ _ _ _ | exact Kd.R_nil _ _ _ _ _, by repeat (first | (with_reducible first | exact HB.out | apply below_alloc | apply pw_below_drewN | apply below_drew1 | refine below_set ?_ GE130.out | refine below_set ?_ GE131.out) | exact HB.out)⟩
end Go.Proofs.Ytmkhphkkpdiliaa.All
end
section
namespace Go.Proofs.Ytmkhphkkpdiliaa.All
open Go.Proofs.YtmkhphkkpdiliaaSq
open Go.RowKit Go.Proofs.YtmkhphkkpdiliaaW.PrintWords Go.Proofs.YtmkhphkkpdiliaaW.PrintLast Go.Proofs.YtmkhphkkpdiliaaW.PrintMore
attribute [local go_sem] max2_int min2_int max_two min_two max_three min_three max_four min_four
set_option linter.unusedVariables false
set_option linter.unusedSimpArgs false
section
open Go.Proofs.YtmkhphkkpdiliaaHand Go.Proofs.YtmkhphkkpdiliaaSq
def compositorref30_Commit.f (a0_0 : Bool) (a0_1 : Int) (a0_2 : Int) (l0_3 : List (S78)) (a1 : Int) (l2 : List Int) : Option (Bool × Int × Int × (List (S78)) × Int) := if a0_0 = true then (if a1 < 1 then (some (a0_0, a0_1, a0_2, l0_3, 6)) else (if (l0_3.length : Int) ≥ 256 then (some (a0_0, a0_1, a0_2, l0_3, 5)) else (if (l2.length : Int) > 256 then (some (a0_0, a0_1, a0_2, l0_3, 5)) else ((some (([] : List (S78)) : List (S78))).bind fun y137 => (if y137.length + l0_3.length < 4398046511104 then ((some (y137 ++ l0_3 : List (S78))).bind fun y140 => ((some (([] : List Int) : List Int)).bind fun y143 => (if y143.length + l2.length < 35184372088832 then (if y140.length < 4398046511104 then (some (a0_0, a0_1, a0_2, (y140 ++ [(⟨a1, (y143 ++ l2)⟩ : S78)]), 0)) else (none)) else (none)))) else (none)))))) else (some (a0_0, a0_1, a0_2, l0_3, 1))
set_option maxHeartbeats 8000000 in
set_option maxRecDepth 100000 in
theorem compositorref30_Commit.calls (a0_0 : Bool) (a0_1 : Int) (a0_2 : Int) (P0_3_ : Nat → Prop) (A0_3 : Option Addr) (c0_3 : Nat) (l0_3 : List (S78)) (a1 : Int) (A2 : Option Addr) (c2 : Nat) (l2 : List Int) (r1 : Bool) (r2 : Int) (r3 : Int) (r4 : List (S78)) (r5 : Int) (w : World) (hs0_3 : Kd.V k78 78 w w.heap.size (fun k_ => P0_3_ k_) (.slice A0_3 l0_3.length c0_3) l0_3) (hr2 : Kd.C (Kd.int .u32) w A2 l2.length l2) (hc2 : l2.length ≤ c2) (h : compositorref30_Commit.f a0_0 a0_1 a0_2 l0_3 a1 l2 = some (r1, r2, r3, r4, r5)) :
  Calls Try.prog 22 #[.agg #[.bool a0_0, .int .i64 a0_1, .int .i64 a0_2, .slice A0_3 l0_3.length c0_3], .int .i64 a1, .slice A2 l2.length c2] w fun e w' => ∃ v3_ : Value, e = .returned (.tuple #[.agg #[.bool r1, .int .i64 r2, .int .i64 r3, v3_], .int .i64 r5]) ∧ Kd.V k78 78 w' w.heap.size (fun k_ => (P0_3_ k_ ∨ w.heap.size ≤ k_)) v3_ r4 ∧ Below w.heap.size w w' := by
 have hu51 := Try.underlying51
 have hu78 := Try.underlying78
 have HO0_3 := Aside0.mk (show Kd.V k78 78 w w.heap.size (fun k_ => (P0_3_ k_ ∨ w.heap.size ≤ k_)) (.slice A0_3 l0_3.length c0_3) l0_3 from Kd.V_mono hs0_3 (fun k_ hk => .inl hk))
 have HR2 := Aside0.mk hr2
 have HC2 := Aside0.mk hc2
 clear hr2 hc2
 have HB := Aside0.mk (Below.refl w.heap.size w)
 have H : (if a0_0 = true then (if a1 < 1 then (some (a0_0, a0_1, a0_2, l0_3, 6)) else (if (l0_3.length : Int) ≥ 256 then (some (a0_0, a0_1, a0_2, l0_3, 5)) else (if (l2.length : Int) > 256 then (some (a0_0, a0_1, a0_2, l0_3, 5)) else ((some (([] : List (S78)) : List (S78))).bind fun y137 => (if y137.length + l0_3.length < 4398046511104 then ((some (y137 ++ l0_3 : List (S78))).bind fun y140 => ((some (([] : List Int) : List Int)).bind fun y143 => (if y143.length + l2.length < 35184372088832 then (if y140.length < 4398046511104 then (some (a0_0, a0_1, a0_2, (y140 ++ [(⟨a1, (y143 ++ l2)⟩ : S78)]), 0)) else (none)) else (none)))) else (none)))))) else (some (a0_0, a0_1, a0_2, l0_3, 1))) = some (r1, r2, r3, r4, r5) := h
 clear h
 by_cases c4 : a0_0 = true
 ·
  subst c4
  have H1 : (if a1 < 1 then (some (true, a0_1, a0_2, l0_3, 6)) else (if (l0_3.length : Int) ≥ 256 then (some (true, a0_1, a0_2, l0_3, 5)) else (if (l2.length : Int) > 256 then (some (true, a0_1, a0_2, l0_3, 5)) else ((some (([] : List (S78)) : List (S78))).bind fun y137 => (if y137.length + l0_3.length < 4398046511104 then ((some (y137 ++ l0_3 : List (S78))).bind fun y140 => ((some (([] : List Int) : List Int)).bind fun y143 => (if y143.length + l2.length < 35184372088832 then (if y140.length < 4398046511104 then (some (true, a0_1, a0_2, (y140 ++ [(⟨a1, (y143 ++ l2)⟩ : S78)]), 0)) else (none)) else (none)))) else (none)))))) = some (r1, r2, r3, r4, r5) := by rw [if_pos rfl] at H; exact H
  clear H
  have H := H1
  clear H1
  by_cases c5 : a1 < 1
  ·
   rw [if_pos c5] at H
   have c5b0 : decide (a1 < 1) = true := decide_eq_true c5
   clear c5
   simp only [Option.some.injEq, Prod.mk.injEq] at H
   obtain ⟨rfl, rfl, rfl, rfl, rfl⟩ := H
   go_enter Try.func22, Try.ntmps22
   go_wp2_with (first | ((with_reducible refine gate_dst (N := 3) rfl ?_); (try (refine gate_guard (by rfl) ?_; dsimp only)); refine box_event ?hg (N := 3) ?hd (cs := #[.bool true, .int .i64 a0_1, .int .i64 a0_2, .slice A0_3 l0_3.length c0_3]) (t := 51) ?hr ?_; (case hd => rfl); (case hg => rfl); (case hr => first | (go_simp; done) | (go_simp; rfl)); intro gb134 hg w6 hbox hb; have n0_ := Aside0.mk (Kd.V_below (Kd.V_elderB (by (with_reducible repeat (first | apply Kd.V_alloc | apply Kd.V_drewN | apply Kd.V_drew)); exact HO0_3.out) gb134 (Nat.le_of_eq hg.symm)) hb); have n1_ := hb_ HB hb; have n2_ := Aside0.mk (hbox); have n3_ := Aside0.mk ((by rw [hg]; exact (below_size (hq_ HB)) : w.heap.size ≤ gb134)); have n4_ := Aside0.mk ((by rw [hg]; exact (below_size (hq_ HB)) : w.heap.size ≤ gb134)); clear HO0_3; clear HB; have HO0_3 := n0_; have HB := n1_; have BK134 := n2_; have GW134 := n3_; have GE134 := n4_; clear n0_ n1_ n2_ n3_ n4_; clear hb hbox hg) | ((with_reducible refine gate_dst (N := 6) rfl ?_); (try (refine gate_guard (by rfl) ?_; dsimp only)); refine box_event ?hg (N := 6) ?hd (cs := #[.bool false, .int .i64 0, .int .i64 0, .slice none 0 0]) (t := 51) ?hr ?_; (case hd => rfl); (case hg => rfl); (case hr => first | (go_simp; done) | (go_simp; rfl)); intro gb135 hg w7 hbox hb; have n0_ := Aside0.mk (Kd.V_below (Kd.V_elderB (by (with_reducible repeat (first | apply Kd.V_alloc | apply Kd.V_drewN | apply Kd.V_drew)); exact HO0_3.out) gb135 (Nat.le_of_eq hg.symm)) hb); have n1_ := bb_ BK134 hb; have n2_ := hb_ HB hb; have n3_ := Aside0.mk (hbox); have n4_ := Aside0.mk ((by rw [hg]; exact (below_size (hq_ HB)) : w.heap.size ≤ gb135)); have n5_ := Aside0.mk ((by rw [hg]; exact (below_size (hq_ HB)) : w.heap.size ≤ gb135)); have n6_ := Aside0.mk ((by rw [hg]; exact Nat.ne_of_lt (blk_lt (g := gb134) (o := .cells #[.bool true, .int .i64 a0_1, .int .i64 a0_2, .slice A0_3 l0_3.length c0_3] 51 (0, 0)) (bq_ BK134)) : gb134 ≠ gb135)); have n7_ := Aside0.mk ((by rw [hg]; exact Nat.ne_of_gt (blk_lt (g := gb134) (o := .cells #[.bool true, .int .i64 a0_1, .int .i64 a0_2, .slice A0_3 l0_3.length c0_3] 51 (0, 0)) (bq_ BK134)) : gb135 ≠ gb134)); clear HO0_3; clear BK134; clear HB; have HO0_3 := n0_; have BK134 := n1_; have HB := n2_; have BK135 := n3_; have GW135 := n4_; have GE135 := n5_; have NB134_135 := n6_; have NB135_134 := n7_; clear n0_ n1_ n2_ n3_ n4_ n5_ n6_ n7_; clear hb hbox hg; have hnb8 := NB134_135.out; have hnc8 := NB135_134.out; have hcz9_0 : w7.cell? ⟨gb134, 0, none⟩ = some (.bool true) := (blk_cell BK134.out 0).trans rfl; have hcz9_1 : w7.cell? ⟨gb134, 1, none⟩ = some (.int .i64 a0_1) := (blk_cell BK134.out 1).trans rfl; have hcz9_2 : w7.cell? ⟨gb134, 2, none⟩ = some (.int .i64 a0_2) := (blk_cell BK134.out 2).trans rfl; have hcz9_3 : w7.cell? ⟨gb134, 3, none⟩ = some (.slice A0_3 l0_3.length c0_3) := (blk_cell BK134.out 3).trans rfl; have hfz9_0 := blk_frozen BK134.out 0; have hfz9_1 := blk_frozen BK134.out 1; have hfz9_2 := blk_frozen BK134.out 2; have hfz9_3 := blk_frozen BK134.out 3; have hcz10_0 : w7.cell? ⟨gb135, 0, none⟩ = some (.bool false) := (blk_cell BK135.out 0).trans rfl; have hcz10_1 : w7.cell? ⟨gb135, 1, none⟩ = some (.int .i64 0) := (blk_cell BK135.out 1).trans rfl; have hcz10_2 : w7.cell? ⟨gb135, 2, none⟩ = some (.int .i64 0) := (blk_cell BK135.out 2).trans rfl; have hcz10_3 : w7.cell? ⟨gb135, 3, none⟩ = some (.slice none 0 0) := (blk_cell BK135.out 3).trans rfl; have hfz10_0 := blk_frozen BK135.out 0; have hfz10_1 := blk_frozen BK135.out 1; have hfz10_2 := blk_frozen BK135.out 2; have hfz10_3 := blk_frozen BK135.out 3))
   refine bodyPost_ret (results_ct rfl _ _ gb135 51 #[.bool true, .int .i64 a0_1, .int .i64 a0_2, .slice A0_3 l0_3.length c0_3] (0, 0) _ rfl (by (with_reducible repeat (first | refine blk_drewN ?_ _ | refine blk_drew ?_ | refine blk_alloc ?_ _)); refine blk_put (cs := #[.bool true, .int .i64 a0_1, .int .i64 a0_2, .slice none 0 0]) ?_ 3 _ rfl; (with_reducible repeat (first | refine blk_drewN ?_ _ | refine blk_drew ?_ | refine blk_alloc ?_ _)); refine blk_put (cs := #[.bool true, .int .i64 a0_1, .int .i64 0, .slice none 0 0]) ?_ 2 _ rfl; (with_reducible repeat (first | refine blk_drewN ?_ _ | refine blk_drew ?_ | refine blk_alloc ?_ _)); refine blk_put (cs := #[.bool true, .int .i64 0, .int .i64 0, .slice none 0 0]) ?_ 1 _ rfl; (with_reducible repeat (first | refine blk_drewN ?_ _ | refine blk_drew ?_ | refine blk_alloc ?_ _)); refine blk_put (cs := #[.bool false, .int .i64 0, .int .i64 0, .slice none 0 0]) ?_ 0 _ rfl; (with_reducible repeat (first | refine blk_drewN ?_ _ | refine blk_drew ?_ | refine blk_alloc ?_ _)); exact BK135.out) Try.underlying51 rfl (by kernel_rfl)) rfl ?_
   exact ⟨_, by first | rfl | (simp [errW_none, errW_some] <;> rfl) | (simp [*, errW_none, errW_some] <;> rfl), by (with_reducible repeat (first | apply Kd.V_alloc | apply Kd.V_drewN | apply Kd.V_drew)); exact Kd.V_mono (Kd.V_far (p := ⟨gb135, 3, none⟩) (Kd.V_far (p := ⟨gb135, 2, none⟩) (Kd.V_far (p := ⟨gb135, 1, none⟩) (Kd.V_far (p := ⟨gb135, 0, none⟩) (Kd.V_mono HO0_3.out (fun k_ hk => (⟨hk, hk.2⟩ : _ ∧ k_ ≠ gb135))) (fun _ hk => hk.2) (.bool true)) (fun _ hk => hk.2) (.int .i64 a0_1)) (fun _ hk => hk.2) (.int .i64 a0_2)) (fun _ hk => hk.2) (.slice A0_3 l0_3.length c0_3)) (fun _ hk => hk.1.1.1), by repeat (first | (with_reducible first | exact HB.out | apply below_alloc | apply pw_below_drewN | apply below_drew1 | refine below_set ?_ GE134.out | refine below_set ?_ GE135.out) | exact HB.out)⟩
  ·
   rw [if_neg c5] at H
   have c5b0 : decide (a1 < 1) = false := decide_eq_false c5
   clear c5
   by_cases c11 : (l0_3.length : Int) ≥ 256
   ·
    rw [if_pos c11] at H
    have c11b0 : decide (256 ≤ (l0_3.length : Int)) = true := decide_eq_true c11
    have c11b1 : decide (256 ≤ l0_3.length) = true := decide_eq_true (by omega)
    clear c11
    simp only [Option.some.injEq, Prod.mk.injEq] at H
    obtain ⟨rfl, rfl, rfl, rfl, rfl⟩ := H
    go_enter Try.func22, Try.ntmps22
    go_wp2_with (first | ((with_reducible refine gate_dst (N := 3) rfl ?_); (try (refine gate_guard (by rfl) ?_; dsimp only)); refine box_event ?hg (N := 3) ?hd (cs := #[.bool true, .int .i64 a0_1, .int .i64 a0_2, .slice A0_3 l0_3.length c0_3]) (t := 51) ?hr ?_; (case hd => rfl); (case hg => rfl); (case hr => first | (go_simp; done) | (go_simp; rfl)); intro gb134 hg w12 hbox hb; have n0_ := Aside0.mk (Kd.V_below (Kd.V_elderB (by (with_reducible repeat (first | apply Kd.V_alloc | apply Kd.V_drewN | apply Kd.V_drew)); exact HO0_3.out) gb134 (Nat.le_of_eq hg.symm)) hb); have n1_ := hb_ HB hb; have n2_ := Aside0.mk (hbox); have n3_ := Aside0.mk ((by rw [hg]; exact (below_size (hq_ HB)) : w.heap.size ≤ gb134)); have n4_ := Aside0.mk ((by rw [hg]; exact (below_size (hq_ HB)) : w.heap.size ≤ gb134)); clear HO0_3; clear HB; have HO0_3 := n0_; have HB := n1_; have BK134 := n2_; have GW134 := n3_; have GE134 := n4_; clear n0_ n1_ n2_ n3_ n4_; clear hb hbox hg) | ((with_reducible refine gate_dst (N := 6) rfl ?_); (try (refine gate_guard (by rfl) ?_; dsimp only)); refine box_event ?hg (N := 6) ?hd (cs := #[.bool false, .int .i64 0, .int .i64 0, .slice none 0 0]) (t := 51) ?hr ?_; (case hd => rfl); (case hg => rfl); (case hr => first | (go_simp; done) | (go_simp; rfl)); intro gb135 hg w13 hbox hb; have n0_ := Aside0.mk (Kd.V_below (Kd.V_elderB (by (with_reducible repeat (first | apply Kd.V_alloc | apply Kd.V_drewN | apply Kd.V_drew)); exact HO0_3.out) gb135 (Nat.le_of_eq hg.symm)) hb); have n1_ := bb_ BK134 hb; have n2_ := hb_ HB hb; have n3_ := Aside0.mk (hbox); have n4_ := Aside0.mk ((by rw [hg]; exact (below_size (hq_ HB)) : w.heap.size ≤ gb135)); have n5_ := Aside0.mk ((by rw [hg]; exact (below_size (hq_ HB)) : w.heap.size ≤ gb135)); have n6_ := Aside0.mk ((by rw [hg]; exact Nat.ne_of_lt (blk_lt (g := gb134) (o := .cells #[.bool true, .int .i64 a0_1, .int .i64 a0_2, .slice A0_3 l0_3.length c0_3] 51 (0, 0)) (bq_ BK134)) : gb134 ≠ gb135)); have n7_ := Aside0.mk ((by rw [hg]; exact Nat.ne_of_gt (blk_lt (g := gb134) (o := .cells #[.bool true, .int .i64 a0_1, .int .i64 a0_2, .slice A0_3 l0_3.length c0_3] 51 (0, 0)) (bq_ BK134)) : gb135 ≠ gb134)); clear HO0_3; clear BK134; clear HB; have HO0_3 := n0_; have BK134 := n1_; have HB := n2_; have BK135 := n3_; have GW135 := n4_; have GE135 := n5_; have NB134_135 := n6_; have NB135_134 := n7_; clear n0_ n1_ n2_ n3_ n4_ n5_ n6_ n7_; clear hb hbox hg; have hnb14 := NB134_135.out; have hnc14 := NB135_134.out; have hcz15_0 : w13.cell? ⟨gb134, 0, none⟩ = some (.bool true) := (blk_cell BK134.out 0).trans rfl; have hcz15_1 : w13.cell? ⟨gb134, 1, none⟩ = some (.int .i64 a0_1) := (blk_cell BK134.out 1).trans rfl; have hcz15_2 : w13.cell? ⟨gb134, 2, none⟩ = some (.int .i64 a0_2) := (blk_cell BK134.out 2).trans rfl; have hcz15_3 : w13.cell? ⟨gb134, 3, none⟩ = some (.slice A0_3 l0_3.length c0_3) := (blk_cell BK134.out 3).trans rfl; have hfz15_0 := blk_frozen BK134.out 0; have hfz15_1 := blk_frozen BK134.out 1; have hfz15_2 := blk_frozen BK134.out 2; have hfz15_3 := blk_frozen BK134.out 3; have hcz16_0 : w13.cell? ⟨gb135, 0, none⟩ = some (.bool false) := (blk_cell BK135.out 0).trans rfl; have hcz16_1 : w13.cell? ⟨gb135, 1, none⟩ = some (.int .i64 0) := (blk_cell BK135.out 1).trans rfl; have hcz16_2 : w13.cell? ⟨gb135, 2, none⟩ = some (.int .i64 0) := (blk_cell BK135.out 2).trans rfl; have hcz16_3 : w13.cell? ⟨gb135, 3, none⟩ = some (.slice none 0 0) := (blk_cell BK135.out 3).trans rfl; have hfz16_0 := blk_frozen BK135.out 0; have hfz16_1 := blk_frozen BK135.out 1; have hfz16_2 := blk_frozen BK135.out 2; have hfz16_3 := blk_frozen BK135.out 3))
    refine bodyPost_ret (results_ct rfl _ _ gb135 51 #[.bool true, .int .i64 a0_1, .int .i64 a0_2, .slice A0_3 l0_3.length c0_3] (0, 0) _ rfl (by (with_reducible repeat (first | refine blk_drewN ?_ _ | refine blk_drew ?_ | refine blk_alloc ?_ _)); refine blk_put (cs := #[.bool true, .int .i64 a0_1, .int .i64 a0_2, .slice none 0 0]) ?_ 3 _ rfl; (with_reducible repeat (first | refine blk_drewN ?_ _ | refine blk_drew ?_ | refine blk_alloc ?_ _)); refine blk_put (cs := #[.bool true, .int .i64 a0_1, .int .i64 0, .slice none 0 0]) ?_ 2 _ rfl; (with_reducible repeat (first | refine blk_drewN ?_ _ | refine blk_drew ?_ | refine blk_alloc ?_ _)); refine blk_put (cs := #[.bool true, .int .i64 0, .int .i64 0, .slice none 0 0]) ?_ 1 _ rfl; (with_reducible repeat (first | refine blk_drewN ?_ _ | refine blk_drew ?_ | refine blk_alloc ?_ _)); refine blk_put (cs := #[.bool false, .int .i64 0, .int .i64 0, .slice none 0 0]) ?_ 0 _ rfl; (with_reducible repeat (first | refine blk_drewN ?_ _ | refine blk_drew ?_ | refine blk_alloc ?_ _)); exact BK135.out) Try.underlying51 rfl (by kernel_rfl)) rfl ?_
    exact ⟨_, by first | rfl | (simp [errW_none, errW_some] <;> rfl) | (simp [*, errW_none, errW_some] <;> rfl), by (with_reducible repeat (first | apply Kd.V_alloc | apply Kd.V_drewN | apply Kd.V_drew)); exact Kd.V_mono (Kd.V_far (p := ⟨gb135, 3, none⟩) (Kd.V_far (p := ⟨gb135, 2, none⟩) (Kd.V_far (p := ⟨gb135, 1, none⟩) (Kd.V_far (p := ⟨gb135, 0, none⟩) (Kd.V_mono HO0_3.out (fun k_ hk => (⟨hk, hk.2⟩ : _ ∧ k_ ≠ gb135))) (fun _ hk => hk.2) (.bool true)) (fun _ hk => hk.2) (.int .i64 a0_1)) (fun _ hk => hk.2) (.int .i64 a0_2)) (fun _ hk => hk.2) (.slice A0_3 l0_3.length c0_3)) (fun _ hk => hk.1.1.1), by repeat (first | (with_reducible first | exact HB.out | apply below_alloc | apply pw_below_drewN | apply below_drew1 | refine below_set ?_ GE134.out | refine below_set ?_ GE135.out) | exact HB.out)⟩
   ·
    rw [if_neg c11] at H
    have c11b0 : decide (256 ≤ (l0_3.length : Int)) = false := decide_eq_false c11
    have c11b1 : decide (256 ≤ l0_3.length) = false := decide_eq_false (by omega)
    clear c11
    by_cases c17 : (l2.length : Int) > 256
    ·
     rw [if_pos c17] at H
     have c17b0 : decide (256 < (l2.length : Int)) = true := decide_eq_true c17
     have c17b1 : decide (256 < l2.length) = true := decide_eq_true (by omega)
     clear c17
     simp only [Option.some.injEq, Prod.mk.injEq] at H
     obtain ⟨rfl, rfl, rfl, rfl, rfl⟩ := H
     go_enter Try.func22, Try.ntmps22
     go_wp2_with (first | ((with_reducible refine gate_dst (N := 3) rfl ?_); (try (refine gate_guard (by rfl) ?_; dsimp only)); refine box_event ?hg (N := 3) ?hd (cs := #[.bool true, .int .i64 a0_1, .int .i64 a0_2, .slice A0_3 l0_3.length c0_3]) (t := 51) ?hr ?_; (case hd => rfl); (case hg => rfl); (case hr => first | (go_simp; done) | (go_simp; rfl)); intro gb134 hg w18 hbox hb; have n0_ := Aside0.mk (Kd.V_below (Kd.V_elderB (by (with_reducible repeat (first | apply Kd.V_alloc | apply Kd.V_drewN | apply Kd.V_drew)); exact HO0_3.out) gb134 (Nat.le_of_eq hg.symm)) hb); have n1_ := hb_ HB hb; have n2_ := Aside0.mk (hbox); have n3_ := Aside0.mk ((by rw [hg]; exact (below_size (hq_ HB)) : w.heap.size ≤ gb134)); have n4_ := Aside0.mk ((by rw [hg]; exact (below_size (hq_ HB)) : w.heap.size ≤ gb134)); clear HO0_3; clear HB; have HO0_3 := n0_; have HB := n1_; have BK134 := n2_; have GW134 := n3_; have GE134 := n4_; clear n0_ n1_ n2_ n3_ n4_; clear hb hbox hg) | ((with_reducible refine gate_dst (N := 6) rfl ?_); (try (refine gate_guard (by rfl) ?_; dsimp only)); refine box_event ?hg (N := 6) ?hd (cs := #[.bool false, .int .i64 0, .int .i64 0, .slice none 0 0]) (t := 51) ?hr ?_; (case hd => rfl); (case hg => rfl); (case hr => first | (go_simp; done) | (go_simp; rfl)); intro gb135 hg w19 hbox hb; have n0_ := Aside0.mk (Kd.V_below (Kd.V_elderB (by (with_reducible repeat (first | apply Kd.V_alloc | apply Kd.V_drewN | apply Kd.V_drew)); exact HO0_3.out) gb135 (Nat.le_of_eq hg.symm)) hb); have n1_ := bb_ BK134 hb; have n2_ := hb_ HB hb; have n3_ := Aside0.mk (hbox); have n4_ := Aside0.mk ((by rw [hg]; exact (below_size (hq_ HB)) : w.heap.size ≤ gb135)); have n5_ := Aside0.mk ((by rw [hg]; exact (below_size (hq_ HB)) : w.heap.size ≤ gb135)); have n6_ := Aside0.mk ((by rw [hg]; exact Nat.ne_of_lt (blk_lt (g := gb134) (o := .cells #[.bool true, .int .i64 a0_1, .int .i64 a0_2, .slice A0_3 l0_3.length c0_3] 51 (0, 0)) (bq_ BK134)) : gb134 ≠ gb135)); have n7_ := Aside0.mk ((by rw [hg]; exact Nat.ne_of_gt (blk_lt (g := gb134) (o := .cells #[.bool true, .int .i64 a0_1, .int .i64 a0_2, .slice A0_3 l0_3.length c0_3] 51 (0, 0)) (bq_ BK134)) : gb135 ≠ gb134)); clear HO0_3; clear BK134; clear HB; have HO0_3 := n0_; have BK134 := n1_; have HB := n2_; have BK135 := n3_; have GW135 := n4_; have GE135 := n5_; have NB134_135 := n6_; have NB135_134 := n7_; clear n0_ n1_ n2_ n3_ n4_ n5_ n6_ n7_; clear hb hbox hg; have hnb20 := NB134_135.out; have hnc20 := NB135_134.out; have hcz21_0 : w19.cell? ⟨gb134, 0, none⟩ = some (.bool true) := (blk_cell BK134.out 0).trans rfl; have hcz21_1 : w19.cell? ⟨gb134, 1, none⟩ = some (.int .i64 a0_1) := (blk_cell BK134.out 1).trans rfl; have hcz21_2 : w19.cell? ⟨gb134, 2, none⟩ = some (.int .i64 a0_2) := (blk_cell BK134.out 2).trans rfl; have hcz21_3 : w19.cell? ⟨gb134, 3, none⟩ = some (.slice A0_3 l0_3.length c0_3) := (blk_cell BK134.out 3).trans rfl; have hfz21_0 := blk_frozen BK134.out 0; have hfz21_1 := blk_frozen BK134.out 1; have hfz21_2 := blk_frozen BK134.out 2; have hfz21_3 := blk_frozen BK134.out 3; have hcz22_0 : w19.cell? ⟨gb135, 0, none⟩ = some (.bool false) := (blk_cell BK135.out 0).trans rfl; have hcz22_1 : w19.cell? ⟨gb135, 1, none⟩ = some (.int .i64 0) := (blk_cell BK135.out 1).trans rfl; have hcz22_2 : w19.cell? ⟨gb135, 2, none⟩ = some (.int .i64 0) := (blk_cell BK135.out 2).trans rfl; have hcz22_3 : w19.cell? ⟨gb135, 3, none⟩ = some (.slice none 0 0) := (blk_cell BK135.out 3).trans rfl; have hfz22_0 := blk_frozen BK135.out 0; have hfz22_1 := blk_frozen BK135.out 1; have hfz22_2 := blk_frozen BK135.out 2; have hfz22_3 := blk_frozen BK135.out 3))
     refine bodyPost_ret (results_ct rfl _ _ gb135 51 #[.bool true, .int .i64 a0_1, .int .i64 a0_2, .slice A0_3 l0_3.length c0_3] (0, 0) _ rfl (by (with_reducible repeat (first | refine blk_drewN ?_ _ | refine blk_drew ?_ | refine blk_alloc ?_ _)); refine blk_put (cs := #[.bool true, .int .i64 a0_1, .int .i64 a0_2, .slice none 0 0]) ?_ 3 _ rfl; (with_reducible repeat (first | refine blk_drewN ?_ _ | refine blk_drew ?_ | refine blk_alloc ?_ _)); refine blk_put (cs := #[.bool true, .int .i64 a0_1, .int .i64 0, .slice none 0 0]) ?_ 2 _ rfl; (with_reducible repeat (first | refine blk_drewN ?_ _ | refine blk_drew ?_ | refine blk_alloc ?_ _)); refine blk_put (cs := #[.bool true, .int .i64 0, .int .i64 0, .slice none 0 0]) ?_ 1 _ rfl; (with_reducible repeat (first | refine blk_drewN ?_ _ | refine blk_drew ?_ | refine blk_alloc ?_ _)); refine blk_put (cs := #[.bool false, .int .i64 0, .int .i64 0, .slice none 0 0]) ?_ 0 _ rfl; (with_reducible repeat (first | refine blk_drewN ?_ _ | refine blk_drew ?_ | refine blk_alloc ?_ _)); exact BK135.out) Try.underlying51 rfl (by kernel_rfl)) rfl ?_
     exact ⟨_, by first | rfl | (simp [errW_none, errW_some] <;> rfl) | (simp [*, errW_none, errW_some] <;> rfl), by (with_reducible repeat (first | apply Kd.V_alloc | apply Kd.V_drewN | apply Kd.V_drew)); exact Kd.V_mono (Kd.V_far (p := ⟨gb135, 3, none⟩) (Kd.V_far (p := ⟨gb135, 2, none⟩) (Kd.V_far (p := ⟨gb135, 1, none⟩) (Kd.V_far (p := ⟨gb135, 0, none⟩) (Kd.V_mono HO0_3.out (fun k_ hk => (⟨hk, hk.2⟩ : _ ∧ k_ ≠ gb135))) (fun _ hk => hk.2) (.bool true)) (fun _ hk => hk.2) (.int .i64 a0_1)) (fun _ hk => hk.2) (.int .i64 a0_2)) (fun _ hk => hk.2) (.slice A0_3 l0_3.length c0_3)) (fun _ hk => hk.1.1.1), by repeat (first | (with_reducible first | exact HB.out | apply below_alloc | apply pw_below_drewN | apply below_drew1 | refine below_set ?_ GE134.out | refine below_set ?_ GE135.out) | exact HB.out)⟩
    ·
     rw [if_neg c17] at H
     have c17b0 : decide (256 < (l2.length : Int)) = false := decide_eq_false c17
     have c17b1 : decide (256 < l2.length) = false := decide_eq_false (by omega)
     clear c17
     obtain ⟨y137, hy137⟩ : ∃ y_ : List (S78), y_ = (([] : List (S78))) := ⟨_, rfl⟩
     replace H : (if y137.length + l0_3.length < 4398046511104 then ((some (y137 ++ l0_3 : List (S78))).bind fun y140 => ((some (([] : List Int) : List Int)).bind fun y143 => (if y143.length + l2.length < 35184372088832 then (if y140.length < 4398046511104 then (some (true, a0_1, a0_2, (y140 ++ [(⟨a1, (y143 ++ l2)⟩ : S78)]), 0)) else (none)) else (none)))) else (none)) = some (r1, r2, r3, r4, r5) := by first | (rw [hy137]; with_reducible exact H) | (have H2_ := (Option.bind_some _ _).symm.trans H; rw [hy137]; with_reducible exact H2_) | (have H2_ := (Option.bind_some _ _).symm.trans H; with_reducible exact H2_) | with_reducible exact H | (rw [hy137]; exact H) | exact H
     have Ny137 := Aside0.mk hy137
     clear hy137
     by_cases c23 : y137.length + l0_3.length < 4398046511104
     ·
      rw [if_pos c23] at H
      have LMc23 := Aside0.mk c23
      clear c23
      obtain ⟨y140, hy140⟩ : ∃ y_ : List (S78), y_ = (y137 ++ l0_3) := ⟨_, rfl⟩
      replace H : ((some (([] : List Int) : List Int)).bind fun y143 => (if y143.length + l2.length < 35184372088832 then (if y140.length < 4398046511104 then (some (true, a0_1, a0_2, (y140 ++ [(⟨a1, (y143 ++ l2)⟩ : S78)]), 0)) else (none)) else (none))) = some (r1, r2, r3, r4, r5) := by first | (rw [hy140]; with_reducible exact H) | (have H2_ := (Option.bind_some _ _).symm.trans H; rw [hy140]; with_reducible exact H2_) | (have H2_ := (Option.bind_some _ _).symm.trans H; with_reducible exact H2_) | with_reducible exact H | (rw [hy140]; exact H) | exact H
      have Ny140 := Aside0.mk hy140
      clear hy140
      obtain ⟨y143, hy143⟩ : ∃ y_ : List Int, y_ = (([] : List Int)) := ⟨_, rfl⟩
      replace H : (if y143.length + l2.length < 35184372088832 then (if y140.length < 4398046511104 then (some (true, a0_1, a0_2, (y140 ++ [(⟨a1, (y143 ++ l2)⟩ : S78)]), 0)) else (none)) else (none)) = some (r1, r2, r3, r4, r5) := by first | (rw [hy143]; with_reducible exact H) | (have H2_ := (Option.bind_some _ _).symm.trans H; rw [hy143]; with_reducible exact H2_) | (have H2_ := (Option.bind_some _ _).symm.trans H; with_reducible exact H2_) | with_reducible exact H | (rw [hy143]; exact H) | exact H
      have Ny143 := Aside0.mk hy143
      clear hy143
      by_cases c24 : y143.length + l2.length < 35184372088832
      ·
       rw [if_pos c24] at H
       have LMc24 := Aside0.mk c24
       clear c24
       obtain ⟨y146, hy146⟩ : ∃ y_ : List Int, y_ = (y143 ++ l2) := ⟨_, rfl⟩
       replace H : (if y140.length < 4398046511104 then (some (true, a0_1, a0_2, (y140 ++ [(⟨a1, y146⟩ : S78)]), 0)) else (none)) = some (r1, r2, r3, r4, r5) := by first | (rw [hy146]; with_reducible exact H) | (have H2_ := (Option.bind_some _ _).symm.trans H; rw [hy146]; with_reducible exact H2_) | (have H2_ := (Option.bind_some _ _).symm.trans H; with_reducible exact H2_) | with_reducible exact H | (rw [hy146]; exact H) | exact H
       have Ny146 := Aside0.mk hy146
       clear hy146
       by_cases c25 : y140.length < 4398046511104
       ·
        rw [if_pos c25] at H
        have LMc25 := Aside0.mk c25
        clear c25
        obtain ⟨y149, hy149⟩ : ∃ y_ : List (S78), y_ = (y140 ++ [(⟨a1, y146⟩ : S78)]) := ⟨_, rfl⟩
        replace H : (some (true, a0_1, a0_2, y149, 0)) = some (r1, r2, r3, r4, r5) := by first | (rw [hy149]; with_reducible exact H) | (have H2_ := (Option.bind_some _ _).symm.trans H; rw [hy149]; with_reducible exact H2_) | (have H2_ := (Option.bind_some _ _).symm.trans H; with_reducible exact H2_) | with_reducible exact H | (rw [hy149]; exact H) | exact H
        have Ny149 := Aside0.mk hy149
        clear hy149
        simp only [Option.some.injEq, Prod.mk.injEq] at H
        obtain ⟨rfl, rfl, rfl, rfl, rfl⟩ := H
        go_enter Try.func22, Try.ntmps22
        go_wp2_with (first | ((with_reducible refine gate_dst (N := 3) rfl ?_); (try (refine gate_guard (by rfl) ?_; dsimp only)); refine box_event ?hg (N := 3) ?hd (cs := #[.bool true, .int .i64 a0_1, .int .i64 a0_2, .slice A0_3 l0_3.length c0_3]) (t := 51) ?hr ?_; (case hd => rfl); (case hg => rfl); (case hr => first | (go_simp; done) | (go_simp; rfl)); intro gb134 hg w26 hbox hb; have n0_ := Aside0.mk (Kd.V_below (Kd.V_elderB (by (with_reducible repeat (first | apply Kd.V_alloc | apply Kd.V_drewN | apply Kd.V_drew)); exact HO0_3.out) gb134 (Nat.le_of_eq hg.symm)) hb); have n1_ := hb_ HB hb; have n2_ := Aside0.mk (hbox); have n3_ := Aside0.mk ((by rw [hg]; exact (below_size (hq_ HB)) : w.heap.size ≤ gb134)); have n4_ := Aside0.mk ((by rw [hg]; exact (below_size (hq_ HB)) : w.heap.size ≤ gb134)); clear HO0_3; clear HB; have HO0_3 := n0_; have HB := n1_; have BK134 := n2_; have GW134 := n3_; have GE134 := n4_; clear n0_ n1_ n2_ n3_ n4_; clear hb hbox hg) | ((with_reducible refine gate_dst (N := 6) rfl ?_); (try (refine gate_guard (by rfl) ?_; dsimp only)); refine box_event ?hg (N := 6) ?hd (cs := #[.bool false, .int .i64 0, .int .i64 0, .slice none 0 0]) (t := 51) ?hr ?_; (case hd => rfl); (case hg => rfl); (case hr => first | (go_simp; done) | (go_simp; rfl)); intro gb135 hg w27 hbox hb; have n0_ := Aside0.mk (Kd.V_below (Kd.V_elderB (by (with_reducible repeat (first | apply Kd.V_alloc | apply Kd.V_drewN | apply Kd.V_drew)); exact HO0_3.out) gb135 (Nat.le_of_eq hg.symm)) hb); have n1_ := bb_ BK134 hb; have n2_ := hb_ HB hb; have n3_ := Aside0.mk (hbox); have n4_ := Aside0.mk ((by rw [hg]; exact (below_size (hq_ HB)) : w.heap.size ≤ gb135)); have n5_ := Aside0.mk ((by rw [hg]; exact (below_size (hq_ HB)) : w.heap.size ≤ gb135)); have n6_ := Aside0.mk ((by rw [hg]; exact Nat.ne_of_lt (blk_lt (g := gb134) (o := .cells #[.bool true, .int .i64 a0_1, .int .i64 a0_2, .slice A0_3 l0_3.length c0_3] 51 (0, 0)) (bq_ BK134)) : gb134 ≠ gb135)); have n7_ := Aside0.mk ((by rw [hg]; exact Nat.ne_of_gt (blk_lt (g := gb134) (o := .cells #[.bool true, .int .i64 a0_1, .int .i64 a0_2, .slice A0_3 l0_3.length c0_3] 51 (0, 0)) (bq_ BK134)) : gb135 ≠ gb134)); clear HO0_3; clear BK134; clear HB; have HO0_3 := n0_; have BK134 := n1_; have HB := n2_; have BK135 := n3_; have GW135 := n4_; have GE135 := n5_; have NB134_135 := n6_; have NB135_134 := n7_; clear n0_ n1_ n2_ n3_ n4_ n5_ n6_ n7_; clear hb hbox hg; have hnb28 := NB134_135.out; have hnc28 := NB135_134.out; have hcz29_0 : w27.cell? ⟨gb134, 0, none⟩ = some (.bool true) := (blk_cell BK134.out 0).trans rfl; have hcz29_1 : w27.cell? ⟨gb134, 1, none⟩ = some (.int .i64 a0_1) := (blk_cell BK134.out 1).trans rfl; have hcz29_2 : w27.cell? ⟨gb134, 2, none⟩ = some (.int .i64 a0_2) := (blk_cell BK134.out 2).trans rfl; have hcz29_3 : w27.cell? ⟨gb134, 3, none⟩ = some (.slice A0_3 l0_3.length c0_3) := (blk_cell BK134.out 3).trans rfl; have hfz29_0 := blk_frozen BK134.out 0; have hfz29_1 := blk_frozen BK134.out 1; have hfz29_2 := blk_frozen BK134.out 2; have hfz29_3 := blk_frozen BK134.out 3) | ((with_reducible refine gate_dst (N := 8) rfl ?_); (try (refine gate_guard (by rfl) ?_; dsimp only)); refine box_event ?hg (N := 8) ?hd (cs := #[.bool false, .int .i64 0, .int .i64 0, .slice none 0 0]) (t := 51) ?hr ?_; (case hd => rfl); (case hg => rfl); (case hr => first | (go_simp; done) | (go_simp; rfl)); intro gb136 hg w30 hbox hb; have n0_ := Aside0.mk (Kd.V_below (Kd.V_elderB (by (with_reducible repeat (first | apply Kd.V_alloc | apply Kd.V_drewN | apply Kd.V_drew)); exact HO0_3.out) gb136 (Nat.le_of_eq hg.symm)) hb); have n1_ := bb_ BK134 hb; have n2_ := bb_ BK135 hb; have n3_ := hb_ HB hb; have n4_ := Aside0.mk (hbox); have n5_ := Aside0.mk ((by rw [hg]; exact (below_size (hq_ HB)) : w.heap.size ≤ gb136)); have n6_ := Aside0.mk ((by rw [hg]; exact (below_size (hq_ HB)) : w.heap.size ≤ gb136)); have n7_ := Aside0.mk ((by rw [hg]; exact Nat.ne_of_lt (blk_lt (g := gb134) (o := .cells #[.bool true, .int .i64 a0_1, .int .i64 a0_2, .slice A0_3 l0_3.length c0_3] 51 (0, 0)) (bq_ BK134)) : gb134 ≠ gb136)); have n8_ := Aside0.mk ((by rw [hg]; exact Nat.ne_of_gt (blk_lt (g := gb134) (o := .cells #[.bool true, .int .i64 a0_1, .int .i64 a0_2, .slice A0_3 l0_3.length c0_3] 51 (0, 0)) (bq_ BK134)) : gb136 ≠ gb134)); have n9_ := Aside0.mk ((by rw [hg]; exact Nat.ne_of_lt (blk_lt (g := gb135) (o := .cells #[.bool false, .int .i64 0, .int .i64 0, .slice none 0 0] 51 (0, 0)) (bq_ BK135)) : gb135 ≠ gb136)); have n10_ := Aside0.mk ((by rw [hg]; exact Nat.ne_of_gt (blk_lt (g := gb135) (o := .cells #[.bool false, .int .i64 0, .int .i64 0, .slice none 0 0] 51 (0, 0)) (bq_ BK135)) : gb136 ≠ gb135)); clear HO0_3; clear BK134; clear BK135; clear HB; have HO0_3 := n0_; have BK134 := n1_; have BK135 := n2_; have HB := n3_; have BK136 := n4_; have GW136 := n5_; have GE136 := n6_; have NB134_136 := n7_; have NB136_134 := n8_; have NB135_136 := n9_; have NB136_135 := n10_; clear n0_ n1_ n2_ n3_ n4_ n5_ n6_ n7_ n8_ n9_ n10_; clear hb hbox hg; have hnb31 := NB136_134.out; have hnc31 := NB134_136.out; have hnb32 := NB136_135.out; have hnc32 := NB135_136.out; have hcz33_0 : w30.cell? ⟨gb136, 0, none⟩ = some (.bool false) := (blk_cell BK136.out 0).trans rfl; have hcz33_1 : w30.cell? ⟨gb136, 1, none⟩ = some (.int .i64 0) := (blk_cell BK136.out 1).trans rfl; have hcz33_2 : w30.cell? ⟨gb136, 2, none⟩ = some (.int .i64 0) := (blk_cell BK136.out 2).trans rfl; have hcz33_3 : w30.cell? ⟨gb136, 3, none⟩ = some (.slice none 0 0) := (blk_cell BK136.out 3).trans rfl; have hfz33_0 := blk_frozen BK136.out 0; have hfz33_1 := blk_frozen BK136.out 1; have hfz33_2 := blk_frozen BK136.out 2; have hfz33_3 := blk_frozen BK136.out 3) | ((with_reducible refine gate_dst (N := 27) rfl ?_); (try (refine gate_guard (by rfl) ?_; dsimp only)); refine Kd.N_lit k78 _ 78 ?hg (N' := 27) ?hd (xs := ([] : List (S78))) (inner := []) (ok := (fun k_ => (P0_3_ k_ ∨ w.heap.size ≤ k_) ∧ k_ ≠ gb134 ∧ k_ ≠ gb135 ∧ k_ ≠ gb136)) (okp := (fun k_ => (P0_3_ k_ ∨ w.heap.size ≤ k_) ∧ k_ ≠ gb134 ∧ k_ ≠ gb135 ∧ k_ ≠ gb136)) ?hr ?hp (fun _ hk => hk) ((show ∀ k_, w30.heap.size ≤ k_ → (fun k_ => (P0_3_ k_ ∨ w.heap.size ≤ k_) ∧ k_ ≠ gb134 ∧ k_ ≠ gb135 ∧ k_ ≠ gb136) k_ from fun k_ hk => ⟨(.inr (Nat.le_trans (below_size (hq_ HB)) hk)), Kd.freshB (g := gb134) (o := .cells #[.bool true, .int .i64 a0_1, .int .i64 a0_2, .slice A0_3 l0_3.length c0_3] 51 (0, 0)) BK134.out k_ hk, Kd.freshB (g := gb135) (o := .cells #[.bool false, .int .i64 0, .int .i64 0, .slice none 0 0] 51 (0, 0)) BK135.out k_ hk, Kd.freshB (g := gb136) (o := .cells #[.bool false, .int .i64 0, .int .i64 0, .slice none 0 0] 51 (0, 0)) BK136.out k_ hk⟩) _ (by simp [World.setCell])) (Below.refl _ _) (Nat.le_refl _) (by simp) ?_; (case hd => rfl); (case hg => rfl); (case hr => first | (go_simp; done) | (go_simp; rfl)); (case hp => exact (Reps.none _ _)); intro v138 w34 ho35 hb hg_ hnew_; clear hg_ hnew_; (first | rw [← Ny137.out] at ho35 | (simp only [Int.reduceToNat] at ho35; rw [← Ny137.out] at ho35)); have n0_ := Aside0.mk (Kd.V_elder' (by (with_reducible repeat (first | apply Kd.V_alloc | apply Kd.V_drewN | apply Kd.V_drew)); exact (Kd.V_mono (Kd.V_far (p := ⟨gb136, 3, none⟩) (Kd.V_far (p := ⟨gb136, 2, none⟩) (Kd.V_far (p := ⟨gb136, 1, none⟩) (Kd.V_far (p := ⟨gb136, 0, none⟩) (Kd.V_mono HO0_3.out (fun k_ hk => (⟨hk, hk.2⟩ : _ ∧ k_ ≠ gb136))) (fun _ hk => hk.2) (.bool true)) (fun _ hk => hk.2) (.int .i64 a0_1)) (fun _ hk => hk.2) (.int .i64 a0_2)) (fun _ hk => hk.2) (.slice A0_3 l0_3.length c0_3)) (fun _ h_ => h_.1))) (Kd.N_base ho35) hb); have n1_ := Aside0.mk (Kd.N_lower ho35 (below_size (hq_ HB))); have n2_ := Aside0.mk (blk_below (g := gb134) (o := .cells #[.bool true, .int .i64 a0_1, .int .i64 a0_2, .slice A0_3 l0_3.length c0_3] 51 (0, 0)) (by (with_reducible repeat (first | refine blk_drewN ?_ _ | refine blk_drew ?_ | refine blk_alloc ?_ _)); refine blk_far ?_ NB134_136.out _; (with_reducible repeat (first | refine blk_drewN ?_ _ | refine blk_drew ?_ | refine blk_alloc ?_ _)); refine blk_far ?_ NB134_136.out _; (with_reducible repeat (first | refine blk_drewN ?_ _ | refine blk_drew ?_ | refine blk_alloc ?_ _)); refine blk_far ?_ NB134_136.out _; (with_reducible repeat (first | refine blk_drewN ?_ _ | refine blk_drew ?_ | refine blk_alloc ?_ _)); refine blk_far ?_ NB134_136.out _; (with_reducible repeat (first | refine blk_drewN ?_ _ | refine blk_drew ?_ | refine blk_alloc ?_ _)); exact BK134.out) hb); have n3_ := Aside0.mk (blk_below (g := gb135) (o := .cells #[.bool false, .int .i64 0, .int .i64 0, .slice none 0 0] 51 (0, 0)) (by (with_reducible repeat (first | refine blk_drewN ?_ _ | refine blk_drew ?_ | refine blk_alloc ?_ _)); refine blk_far ?_ NB135_136.out _; (with_reducible repeat (first | refine blk_drewN ?_ _ | refine blk_drew ?_ | refine blk_alloc ?_ _)); refine blk_far ?_ NB135_136.out _; (with_reducible repeat (first | refine blk_drewN ?_ _ | refine blk_drew ?_ | refine blk_alloc ?_ _)); refine blk_far ?_ NB135_136.out _; (with_reducible repeat (first | refine blk_drewN ?_ _ | refine blk_drew ?_ | refine blk_alloc ?_ _)); refine blk_far ?_ NB135_136.out _; (with_reducible repeat (first | refine blk_drewN ?_ _ | refine blk_drew ?_ | refine blk_alloc ?_ _)); exact BK135.out) hb); have n4_ := Aside0.mk (blk_below (g := gb136) (o := .cells #[.bool true, .int .i64 a0_1, .int .i64 a0_2, .slice A0_3 l0_3.length c0_3] 51 (0, 0)) (by (with_reducible repeat (first | refine blk_drewN ?_ _ | refine blk_drew ?_ | refine blk_alloc ?_ _)); refine blk_put (cs := #[.bool true, .int .i64 a0_1, .int .i64 a0_2, .slice none 0 0]) ?_ 3 _ rfl; (with_reducible repeat (first | refine blk_drewN ?_ _ | refine blk_drew ?_ | refine blk_alloc ?_ _)); refine blk_put (cs := #[.bool true, .int .i64 a0_1, .int .i64 0, .slice none 0 0]) ?_ 2 _ rfl; (with_reducible repeat (first | refine blk_drewN ?_ _ | refine blk_drew ?_ | refine blk_alloc ?_ _)); refine blk_put (cs := #[.bool true, .int .i64 0, .int .i64 0, .slice none 0 0]) ?_ 1 _ rfl; (with_reducible repeat (first | refine blk_drewN ?_ _ | refine blk_drew ?_ | refine blk_alloc ?_ _)); refine blk_put (cs := #[.bool false, .int .i64 0, .int .i64 0, .slice none 0 0]) ?_ 0 _ rfl; (with_reducible repeat (first | refine blk_drewN ?_ _ | refine blk_drew ?_ | refine blk_alloc ?_ _)); exact BK136.out) hb); have n5_ := hb_ HB hb; clear HO0_3; clear BK134; clear BK135; clear BK136; clear HB; have HO0_3 := n0_; have HO139 := n1_; have BK134 := n2_; have BK135 := n3_; have BK136 := n4_; have HB := n5_; clear n0_ n1_ n2_ n3_ n4_ n5_; clear hb ho35; have hcz36_0 : w34.cell? ⟨gb134, 0, none⟩ = some (.bool true) := (blk_cell BK134.out 0).trans rfl; have hcz36_1 : w34.cell? ⟨gb134, 1, none⟩ = some (.int .i64 a0_1) := (blk_cell BK134.out 1).trans rfl; have hcz36_2 : w34.cell? ⟨gb134, 2, none⟩ = some (.int .i64 a0_2) := (blk_cell BK134.out 2).trans rfl; have hcz36_3 : w34.cell? ⟨gb134, 3, none⟩ = some (.slice A0_3 l0_3.length c0_3) := (blk_cell BK134.out 3).trans rfl; have hfz36_0 := blk_frozen BK134.out 0; have hfz36_1 := blk_frozen BK134.out 1; have hfz36_2 := blk_frozen BK134.out 2; have hfz36_3 := blk_frozen BK134.out 3) | ((with_reducible refine gate_builtin (b := .append) (xs := #[.tmp 27, .tmp 29]) rfl ?_); (try (refine gate_guard (by rfl) ?_; dsimp only)); at_builtin; refine Kd.N_append_rows k78 (w0 := w) w.heap.size rfl (.tmp 27) (.tmp 29) 49 78 (.agg #[(.int .i64 0), (.slice none 0 0)]) 32 rfl Try.underlying49 info78 rfl (by decide) (by omega) v138 y137 l0_3 _ _ _ (fun k_ => (P0_3_ k_ ∨ w.heap.size ≤ k_) ∧ k_ ≠ gb134 ∧ k_ ≠ gb135 ∧ k_ ≠ gb136) (fun k_ => ((fun k_ => (P0_3_ k_ ∨ w.heap.size ≤ k_) ∧ k_ ≠ gb134 ∧ k_ ≠ gb135 ∧ k_ ≠ gb136)) k_ ∧ some k_ ≠ (v138 : Value).ownBlock) rfl rfl ?aO ?aR (fun _ hk => hk) ?aF ?aB ?aS ?aL ?_; (case aR => exact (by skip; exact Kd.V_F (Kd.V_mono (ok' := (fun k_ => ((fun k_ => (P0_3_ k_ ∨ w.heap.size ≤ k_) ∧ k_ ≠ gb134 ∧ k_ ≠ gb135 ∧ k_ ≠ gb136)) k_ ∧ some k_ ≠ (v138 : Value).ownBlock)) (HO0_3.out) (fun k_ hk => ⟨⟨hk.1.1.1.1, ⟨hk.1.1.1.2, ⟨hk.1.1.2, hk.1.2⟩⟩⟩, hk.2⟩)))); (case aB => exact (hq_ HB)); (case aF => exact (fun k_ hk => ⟨(.inr (Nat.le_trans (below_size (hq_ HB)) hk)), Kd.freshB (g := gb134) (o := .cells #[.bool true, .int .i64 a0_1, .int .i64 a0_2, .slice A0_3 l0_3.length c0_3] 51 (0, 0)) (bq_ BK134) k_ hk, Kd.freshB (g := gb135) (o := .cells #[.bool false, .int .i64 0, .int .i64 0, .slice none 0 0] 51 (0, 0)) (bq_ BK135) k_ hk, Kd.freshB (g := gb136) (o := .cells #[.bool true, .int .i64 a0_1, .int .i64 a0_2, .slice A0_3 l0_3.length c0_3] 51 (0, 0)) (bq_ BK136) k_ hk⟩)); (case aO => exact (by (with_reducible repeat (first | apply Kd.N_alloc | apply Kd.N_drewN | apply Kd.N_drew)); exact HO139.out)); (case aS => exact (below_size (hq_ HB))); (case aL => have := LMc23.out; omega); intro v141 w37 ho hb hg hat; rw [← Ny140.out] at ho; have n0_ := Aside0.mk (Kd.V_afterv (ok := (fun k_ => (P0_3_ k_ ∨ w.heap.size ≤ k_) ∧ k_ ≠ gb134 ∧ k_ ≠ gb135 ∧ k_ ≠ gb136)) (by (with_reducible repeat (first | apply Kd.V_alloc | apply Kd.V_drewN | apply Kd.V_drew)); exact Kd.V_mono HO0_3.out (fun _ hk => ⟨⟨hk.1.1.1.1, ⟨hk.1.1.1.2, ⟨hk.1.1.2, hk.1.2⟩⟩⟩, hk.2⟩)) hg hat); have n1_ := Aside0.mk (blk_grown (g := gb134) (o := .cells #[.bool true, .int .i64 a0_1, .int .i64 a0_2, .slice A0_3 l0_3.length c0_3] 51 (0, 0)) (bq_ BK134) hg (Kd.N_ne HO139.out BK134.out (by decide))); have n2_ := Aside0.mk (blk_grown (g := gb135) (o := .cells #[.bool false, .int .i64 0, .int .i64 0, .slice none 0 0] 51 (0, 0)) (bq_ BK135) hg (Kd.N_ne HO139.out BK135.out (by decide))); have n3_ := Aside0.mk (blk_grown (g := gb136) (o := .cells #[.bool true, .int .i64 a0_1, .int .i64 a0_2, .slice A0_3 l0_3.length c0_3] 51 (0, 0)) (bq_ BK136) hg (Kd.N_ne HO139.out BK136.out (by decide))); have n4_ := Aside0.mk (hb); have n5_ := Aside0.mk (ho); clear HO0_3; clear BK134; clear BK135; clear BK136; clear HB; clear HO139; have HO0_3 := n0_; have BK134 := n1_; have BK135 := n2_; have BK136 := n3_; have HB := n4_; have HO142 := n5_; clear n0_ n1_ n2_ n3_ n4_ n5_; clear ho hb hg hat) | ((with_reducible refine gate_dst (N := 32) rfl ?_); (try (refine gate_guard (by rfl) ?_; dsimp only)); refine Kd.R_lit (Kd.int .u32) _ 36 ?hg (N := 32) ?hd (xs := ([] : List Int)) (inner := []) (ok := fun _ => True) (okp := fun _ => True) ?hr ?hp (fun _ hk => hk) trivial (Below.refl _ _) (Nat.le_refl _) (by simp) ?_; (case hd => rfl); (case hg => rfl); (case hr => first | (go_simp; done) | (go_simp; rfl)); (case hp => exact (Reps.none _ _)); intro v144 w38 ho39 hb hg_ hnew_; clear hg_ hnew_; (first | rw [← Ny143.out] at ho39 | (simp only [Int.reduceToNat] at ho39; rw [← Ny143.out] at ho39)); have n0_ := Aside0.mk (Kd.V_elder' (by (with_reducible repeat (first | apply Kd.V_alloc | apply Kd.V_drewN | apply Kd.V_drew)); exact HO0_3.out) (Kd.R_base ho39) hb); have n1_ := Aside0.mk (Kd.N_elder' (by (with_reducible repeat (first | apply Kd.N_alloc | apply Kd.N_drewN | apply Kd.N_drew)); exact HO142.out) (Kd.R_base ho39) hb); have n2_ := Aside0.mk (Kd.R_lower (Kd.R_newM (M := fun k_ => (w.heap.size ≤ k_)) ho39 (below_size (hq_ HB)) (fun k_ h_ => h_)) (below_size (hq_ HB))); have n3_ := bb_ BK134 hb; have n4_ := bb_ BK135 hb; have n5_ := bb_ BK136 hb; have n6_ := hb_ HB hb; clear HO0_3; clear HO142; clear BK134; clear BK135; clear BK136; clear HB; have HO0_3 := n0_; have HO142 := n1_; have HO145 := n2_; have BK134 := n3_; have BK135 := n4_; have BK136 := n5_; have HB := n6_; clear n0_ n1_ n2_ n3_ n4_ n5_ n6_; clear hb ho39) | ((with_reducible refine gate_builtin (b := .append) (xs := #[.tmp 32, .tmp 33]) rfl ?_); (try (refine gate_guard (by rfl) ?_; dsimp only)); at_builtin; refine Kd.R_append_rows (Kd.int .u32) (w0 := w) w.heap.size rfl (.tmp 32) (.tmp 33) 37 36 (.int .u32 0) 4 rfl Try.underlying37 info36 rfl (by decide) (by omega) v144 y143 l2 _ _ _ (fun k_ => (w.heap.size ≤ k_)) (fun _ => False) rfl rfl ?aO ?aR (fun _ _ h => h) (fun _ h => h.elim) ?aF ?aB ?aS ?aL ?_; (case aR => repeat (first | exact (Kd.C_below HR2.out HB.out) | (with_reducible refine Kd.C_alloc ?_ _) | (with_reducible refine Kd.C_drewN ?_ _) | (with_reducible refine Kd.C_drew ?_))); (case aB => exact (hq_ HB)); (case aF => exact (fun k_ hk => (Nat.le_trans (below_size (hq_ HB)) hk))); (case aO => exact (by (with_reducible repeat (first | apply Kd.R_alloc | apply Kd.R_drewN | apply Kd.R_drew)); exact Kd.R_mono HO145.out (fun _ hk => hk.1))); (case aS => exact (below_size (hq_ HB))); (case aL => have := LMc24.out; omega); intro v147 w40 ho hb hg hat; rw [← Ny146.out] at ho; have n0_ := Aside0.mk (Kd.V_afterv (ok := (fun k_ => (P0_3_ k_ ∨ w.heap.size ≤ k_) ∧ some k_ ≠ (v141 : Value).ownBlock ∧ k_ ≠ gb134 ∧ k_ ≠ gb135 ∧ k_ ≠ gb136)) (by (with_reducible repeat (first | apply Kd.V_alloc | apply Kd.V_drewN | apply Kd.V_drew)); exact Kd.V_mono HO0_3.out (fun _ hk => ⟨⟨hk.1.1.1, ⟨hk.1.2, ⟨hk.1.1.2.1, ⟨hk.1.1.2.2.1, hk.1.1.2.2.2⟩⟩⟩⟩, hk.2⟩)) hg hat); have n1_ := Aside0.mk (blk_grown (g := gb134) (o := .cells #[.bool true, .int .i64 a0_1, .int .i64 a0_2, .slice A0_3 l0_3.length c0_3] 51 (0, 0)) (bq_ BK134) hg (Kd.R_ne HO145.out BK134.out (by decide))); have n2_ := Aside0.mk (blk_grown (g := gb135) (o := .cells #[.bool false, .int .i64 0, .int .i64 0, .slice none 0 0] 51 (0, 0)) (bq_ BK135) hg (Kd.R_ne HO145.out BK135.out (by decide))); have n3_ := Aside0.mk (blk_grown (g := gb136) (o := .cells #[.bool true, .int .i64 a0_1, .int .i64 a0_2, .slice A0_3 l0_3.length c0_3] 51 (0, 0)) (bq_ BK136) hg (Kd.R_ne HO145.out BK136.out (by decide))); have n4_ := Aside0.mk (Kd.N_afterv (ok := (fun k_ => (P0_3_ k_ ∨ w.heap.size ≤ k_) ∧ k_ ≠ gb134 ∧ k_ ≠ gb135 ∧ k_ ≠ gb136)) (by (with_reducible repeat (first | apply Kd.N_alloc | apply Kd.N_drewN | apply Kd.N_drew)); exact HO142.out) hg hat); have n5_ := Aside0.mk (hb); have n6_ := Aside0.mk (ho); clear HO0_3; clear BK134; clear BK135; clear BK136; clear HO142; clear HB; clear HO145; have HO0_3 := n0_; have BK134 := n1_; have BK135 := n2_; have BK136 := n3_; have HO142 := n4_; have HB := n5_; have HO148 := n6_; clear n0_ n1_ n2_ n3_ n4_ n5_ n6_; clear ho hb hg hat; obtain ⟨Ao41, co41, eo41⟩ := Kd.R_slice HO148.out; subst eo41) | ((with_reducible refine gate_builtin (b := .append) (xs := #[.tmp 30, .tmp 36]) rfl ?_); (try (refine gate_guard (by rfl) ?_; dsimp only)); at_builtin; refine Kd.N_append k78 (w0 := w) w.heap.size rfl (.tmp 30) (.tmp 36) 49 78 (.agg #[(.int .i64 0), (.slice none 0 0)]) 32 rfl Try.underlying49 info78 rfl (by decide) (by omega) v141 y140 (⟨a1, y146⟩ : S78) [.int .i64 a1, .slice Ao41 y146.length co41] (fun k_ => (P0_3_ k_ ∨ w.heap.size ≤ k_) ∧ k_ ≠ gb134 ∧ k_ ≠ gb135 ∧ k_ ≠ gb136) (fun k_ => ((fun k_ => (P0_3_ k_ ∨ w.heap.size ≤ k_) ∧ k_ ≠ gb134 ∧ k_ ≠ gb135 ∧ k_ ≠ gb136)) k_ ∧ some k_ ≠ (v141 : Value).ownBlock) rfl rfl ?aP (fun _ hk => hk) ?aF ?aO ?aB ?aS ?aL ?_; (case aP => exact (k78_mkF _ _ (⟨a1, y146⟩ : S78) (Kd.R_reads' (Kd.R_mono (ok' := (fun k_ => ((fun k_ => (P0_3_ k_ ∨ w.heap.size ≤ k_) ∧ k_ ≠ gb134 ∧ k_ ≠ gb135 ∧ k_ ≠ gb136)) k_ ∧ some k_ ≠ (v141 : Value).ownBlock)) (Kd.R_types (Kd.R_types (Kd.R_types (Kd.R_apart' (HO148.out) (Kd.N_typed HO142.out) (by decide)) BK134.out (by decide)) BK135.out (by decide)) BK136.out (by decide)) (fun k_ hk => ⟨⟨(.inr (hk.1.1.1.1)), ⟨hk.1.1.2, ⟨hk.1.2, hk.2⟩⟩⟩, hk.1.1.1.2⟩))).2.1 (Kd.R_F (Kd.R_mono (ok' := (fun k_ => ((fun k_ => (P0_3_ k_ ∨ w.heap.size ≤ k_) ∧ k_ ≠ gb134 ∧ k_ ≠ gb135 ∧ k_ ≠ gb136)) k_ ∧ some k_ ≠ (v141 : Value).ownBlock)) (Kd.R_types (Kd.R_types (Kd.R_types (Kd.R_apart' (HO148.out) (Kd.N_typed HO142.out) (by decide)) BK134.out (by decide)) BK135.out (by decide)) BK136.out (by decide)) (fun k_ hk => ⟨⟨(.inr (hk.1.1.1.1)), ⟨hk.1.1.2, ⟨hk.1.2, hk.2⟩⟩⟩, hk.1.1.1.2⟩))))); (case aB => exact (hq_ HB)); (case aF => exact (fun k_ hk => ⟨(.inr (Nat.le_trans (below_size (hq_ HB)) hk)), Kd.freshB (g := gb134) (o := .cells #[.bool true, .int .i64 a0_1, .int .i64 a0_2, .slice A0_3 l0_3.length c0_3] 51 (0, 0)) (bq_ BK134) k_ hk, Kd.freshB (g := gb135) (o := .cells #[.bool false, .int .i64 0, .int .i64 0, .slice none 0 0] 51 (0, 0)) (bq_ BK135) k_ hk, Kd.freshB (g := gb136) (o := .cells #[.bool true, .int .i64 a0_1, .int .i64 a0_2, .slice A0_3 l0_3.length c0_3] 51 (0, 0)) (bq_ BK136) k_ hk⟩)); (case aO => exact (by (with_reducible repeat (first | apply Kd.N_alloc | apply Kd.N_drewN | apply Kd.N_drew)); exact Kd.N_mono HO142.out (fun _ hk => ⟨hk.1.1, ⟨hk.1.2.1, ⟨hk.1.2.2.1, hk.1.2.2.2⟩⟩⟩))); (case aS => exact (below_size (hq_ HB))); (case aL => have := LMc25.out; omega); intro v150 w42 ho hb hg hat; rw [← Ny149.out] at ho; have n0_ := Aside0.mk (Kd.V_afterv (ok := (fun k_ => (P0_3_ k_ ∨ w.heap.size ≤ k_) ∧ some k_ ≠ (.slice Ao41 y146.length co41 : Value).ownBlock ∧ k_ ≠ gb134 ∧ k_ ≠ gb135 ∧ k_ ≠ gb136)) (by (with_reducible repeat (first | apply Kd.V_alloc | apply Kd.V_drewN | apply Kd.V_drew)); exact Kd.V_mono HO0_3.out (fun _ hk => ⟨⟨hk.1.1, ⟨hk.2, ⟨hk.1.2.2.1, ⟨hk.1.2.2.2.1, hk.1.2.2.2.2⟩⟩⟩⟩, hk.1.2.1⟩)) hg hat); have n1_ := Aside0.mk (blk_grown (g := gb134) (o := .cells #[.bool true, .int .i64 a0_1, .int .i64 a0_2, .slice A0_3 l0_3.length c0_3] 51 (0, 0)) (bq_ BK134) hg (Kd.N_ne HO142.out BK134.out (by decide))); have n2_ := Aside0.mk (blk_grown (g := gb135) (o := .cells #[.bool false, .int .i64 0, .int .i64 0, .slice none 0 0] 51 (0, 0)) (bq_ BK135) hg (Kd.N_ne HO142.out BK135.out (by decide))); have n3_ := Aside0.mk (blk_grown (g := gb136) (o := .cells #[.bool true, .int .i64 a0_1, .int .i64 a0_2, .slice A0_3 l0_3.length c0_3] 51 (0, 0)) (bq_ BK136) hg (Kd.N_ne HO142.out BK136.out (by decide))); have n4_ := Aside0.mk (hb); have n5_ := Aside0.mk (ho); clear HO0_3; clear BK134; clear BK135; clear BK136; clear HB; clear HO142; clear HO148; have HO0_3 := n0_; have BK134 := n1_; have BK135 := n2_; have BK136 := n3_; have HB := n4_; have HO151 := n5_; clear n0_ n1_ n2_ n3_ n4_ n5_; clear ho hb hg hat; obtain ⟨Ao43, co43, eo43⟩ := Kd.N_slice HO151.out; subst eo43; have hcz44_0 : w42.cell? ⟨gb136, 0, none⟩ = some (.bool true) := (blk_cell BK136.out 0).trans rfl; have hcz44_1 : w42.cell? ⟨gb136, 1, none⟩ = some (.int .i64 a0_1) := (blk_cell BK136.out 1).trans rfl; have hcz44_2 : w42.cell? ⟨gb136, 2, none⟩ = some (.int .i64 a0_2) := (blk_cell BK136.out 2).trans rfl; have hcz44_3 : w42.cell? ⟨gb136, 3, none⟩ = some (.slice A0_3 l0_3.length c0_3) := (blk_cell BK136.out 3).trans rfl; have hfz44_0 := blk_frozen BK136.out 0; have hfz44_1 := blk_frozen BK136.out 1; have hfz44_2 := blk_frozen BK136.out 2; have hfz44_3 := blk_frozen BK136.out 3; have hcz45_0 : w42.cell? ⟨gb135, 0, none⟩ = some (.bool false) := (blk_cell BK135.out 0).trans rfl; have hcz45_1 : w42.cell? ⟨gb135, 1, none⟩ = some (.int .i64 0) := (blk_cell BK135.out 1).trans rfl; have hcz45_2 : w42.cell? ⟨gb135, 2, none⟩ = some (.int .i64 0) := (blk_cell BK135.out 2).trans rfl; have hcz45_3 : w42.cell? ⟨gb135, 3, none⟩ = some (.slice none 0 0) := (blk_cell BK135.out 3).trans rfl; have hfz45_0 := blk_frozen BK135.out 0; have hfz45_1 := blk_frozen BK135.out 1; have hfz45_2 := blk_frozen BK135.out 2; have hfz45_3 := blk_frozen BK135.out 3))
        refine bodyPost_ret (results_ct rfl _ _ gb135 51 #[.bool true, .int .i64 a0_1, .int .i64 a0_2, .slice Ao43 y149.length co43] (0, 0) _ rfl (by (with_reducible repeat (first | refine blk_drewN ?_ _ | refine blk_drew ?_ | refine blk_alloc ?_ _)); refine blk_put (cs := #[.bool true, .int .i64 a0_1, .int .i64 a0_2, .slice none 0 0]) ?_ 3 _ rfl; (with_reducible repeat (first | refine blk_drewN ?_ _ | refine blk_drew ?_ | refine blk_alloc ?_ _)); refine blk_put (cs := #[.bool true, .int .i64 a0_1, .int .i64 0, .slice none 0 0]) ?_ 2 _ rfl; (with_reducible repeat (first | refine blk_drewN ?_ _ | refine blk_drew ?_ | refine blk_alloc ?_ _)); refine blk_put (cs := #[.bool true, .int .i64 0, .int .i64 0, .slice none 0 0]) ?_ 1 _ rfl; (with_reducible repeat (first | refine blk_drewN ?_ _ | refine blk_drew ?_ | refine blk_alloc ?_ _)); refine blk_put (cs := #[.bool false, .int .i64 0, .int .i64 0, .slice none 0 0]) ?_ 0 _ rfl; (with_reducible repeat (first | refine blk_drewN ?_ _ | refine blk_drew ?_ | refine blk_alloc ?_ _)); refine blk_far ?_ NB135_136.out _; (with_reducible repeat (first | refine blk_drewN ?_ _ | refine blk_drew ?_ | refine blk_alloc ?_ _)); exact BK135.out) Try.underlying51 rfl (by kernel_rfl)) rfl ?_
        exact ⟨_, by first | rfl | (simp [errW_none, errW_some] <;> rfl) | (simp [*, errW_none, errW_some] <;> rfl), Kd.N_V (by (with_reducible repeat (first | apply Kd.N_alloc | apply Kd.N_drewN | apply Kd.N_drew)); exact Kd.N_mono (Kd.N_far (p := ⟨gb135, 3, none⟩) (Kd.N_far (p := ⟨gb135, 2, none⟩) (Kd.N_far (p := ⟨gb135, 1, none⟩) (Kd.N_far (p := ⟨gb135, 0, none⟩) (Kd.N_far (p := ⟨gb136, 3, none⟩) (Kd.N_mono (Kd.N_mono HO151.out (fun k_ hk => (⟨hk, hk.2.2.2⟩ : _ ∧ k_ ≠ gb136))) (fun k_ hk => (⟨hk, hk.1.2.2.1⟩ : _ ∧ k_ ≠ gb135))) (fun _ hk => hk.1.2) (.slice Ao43 y149.length co43)) (fun _ hk => hk.2) (.bool true)) (fun _ hk => hk.2) (.int .i64 a0_1)) (fun _ hk => hk.2) (.int .i64 a0_2)) (fun _ hk => hk.2) (.slice Ao43 y149.length co43)) (fun _ hk => hk.1.1.1)), by repeat (first | (with_reducible first | exact HB.out | apply below_alloc | apply pw_below_drewN | apply below_drew1 | refine below_set ?_ GE134.out | refine below_set ?_ GE135.out | refine below_set ?_ GE136.out) | exact HB.out)⟩
       ·
        rw [if_neg c25] at H
        exact absurd H (by simp)
      ·
       rw [if_neg c24] at H
       exact absurd H (by simp)
     ·
      rw [if_neg c23] at H
      exact absurd H (by simp)
 ·
  replace c4 := Bool.eq_false_iff.mpr c4
  subst c4
  have H1 : (some (false, a0_1, a0_2, l0_3, 1)) = some (r1, r2, r3, r4, r5) := by rw [if_neg (show ¬ (false = true) by decide)] at H; exact H
  clear H
  have H := H1
  clear H1
  simp only [Option.some.injEq, Prod.mk.injEq] at H
  obtain ⟨rfl, rfl, rfl, rfl, rfl⟩ := H
  go_enter Try.func22, Try.ntmps22
  go_wp2_with (first | ((with_reducible refine gate_dst (N := 3) rfl ?_); (try (refine gate_guard (by rfl) ?_; dsimp only)); refine box_event ?hg (N := 3) ?hd (cs := #[.bool false, .int .i64 a0_1, .int .i64 a0_2, .slice A0_3 l0_3.length c0_3]) (t := 51) ?hr ?_; (case hd => rfl); (case hg => rfl); (case hr => first | (go_simp; done) | (go_simp; rfl)); intro gb134 hg w46 hbox hb; have n0_ := Aside0.mk (Kd.V_below (Kd.V_elderB (by (with_reducible repeat (first | apply Kd.V_alloc | apply Kd.V_drewN | apply Kd.V_drew)); exact HO0_3.out) gb134 (Nat.le_of_eq hg.symm)) hb); have n1_ := hb_ HB hb; have n2_ := Aside0.mk (hbox); have n3_ := Aside0.mk ((by rw [hg]; exact (below_size (hq_ HB)) : w.heap.size ≤ gb134)); have n4_ := Aside0.mk ((by rw [hg]; exact (below_size (hq_ HB)) : w.heap.size ≤ gb134)); clear HO0_3; clear HB; have HO0_3 := n0_; have HB := n1_; have BK134 := n2_; have GW134 := n3_; have GE134 := n4_; clear n0_ n1_ n2_ n3_ n4_; clear hb hbox hg) | ((with_reducible refine gate_dst (N := 6) rfl ?_); (try (refine gate_guard (by rfl) ?_; dsimp only)); refine box_event ?hg (N := 6) ?hd (cs := #[.bool false, .int .i64 0, .int .i64 0, .slice none 0 0]) (t := 51) ?hr ?_; (case hd => rfl); (case hg => rfl); (case hr => first | (go_simp; done) | (go_simp; rfl)); intro gb135 hg w47 hbox hb; have n0_ := Aside0.mk (Kd.V_below (Kd.V_elderB (by (with_reducible repeat (first | apply Kd.V_alloc | apply Kd.V_drewN | apply Kd.V_drew)); exact HO0_3.out) gb135 (Nat.le_of_eq hg.symm)) hb); have n1_ := bb_ BK134 hb; have n2_ := hb_ HB hb; have n3_ := Aside0.mk (hbox); have n4_ := Aside0.mk ((by rw [hg]; exact (below_size (hq_ HB)) : w.heap.size ≤ gb135)); have n5_ := Aside0.mk ((by rw [hg]; exact (below_size (hq_ HB)) : w.heap.size ≤ gb135)); have n6_ := Aside0.mk ((by rw [hg]; exact Nat.ne_of_lt (blk_lt (g := gb134) (o := .cells #[.bool false, .int .i64 a0_1, .int .i64 a0_2, .slice A0_3 l0_3.length c0_3] 51 (0, 0)) (bq_ BK134)) : gb134 ≠ gb135)); have n7_ := Aside0.mk ((by rw [hg]; exact Nat.ne_of_gt (blk_lt (g := gb134) (o := .cells #[.bool false, .int .i64 a0_1, .int .i64 a0_2, .slice A0_3 l0_3.length c0_3] 51 (0, 0)) (bq_ BK134)) : gb135 ≠ gb134)); clear HO0_3; clear BK134; clear HB; have HO0_3 := n0_; have BK134 := n1_; have HB := n2_; have BK135 := n3_; have GW135 := n4_; have GE135 := n5_; have NB134_135 := n6_; have NB135_134 := n7_; clear n0_ n1_ n2_ n3_ n4_ n5_ n6_ n7_; clear hb hbox hg; have hnb48 := NB134_135.out; have hnc48 := NB135_134.out; have hcz49_0 : w47.cell? ⟨gb134, 0, none⟩ = some (.bool false) := (blk_cell BK134.out 0).trans rfl; have hcz49_1 : w47.cell? ⟨gb134, 1, none⟩ = some (.int .i64 a0_1) := (blk_cell BK134.out 1).trans rfl; have hcz49_2 : w47.cell? ⟨gb134, 2, none⟩ = some (.int .i64 a0_2) := (blk_cell BK134.out 2).trans rfl; have hcz49_3 : w47.cell? ⟨gb134, 3, none⟩ = some (.slice A0_3 l0_3.length c0_3) := (blk_cell BK134.out 3).trans rfl; have hfz49_0 := blk_frozen BK134.out 0; have hfz49_1 := blk_frozen BK134.out 1; have hfz49_2 := blk_frozen BK134.out 2; have hfz49_3 := blk_frozen BK134.out 3; have hcz50_0 : w47.cell? ⟨gb135, 0, none⟩ = some (.bool false) := (blk_cell BK135.out 0).trans rfl; have hcz50_1 : w47.cell? ⟨gb135, 1, none⟩ = some (.int .i64 0) := (blk_cell BK135.out 1).trans rfl; have hcz50_2 : w47.cell? ⟨gb135, 2, none⟩ = some (.int .i64 0) := (blk_cell BK135.out 2).trans rfl; have hcz50_3 : w47.cell? ⟨gb135, 3, none⟩ = some (.slice none 0 0) := (blk_cell BK135.out 3).trans rfl; have hfz50_0 := blk_frozen BK135.out 0; have hfz50_1 := blk_frozen BK135.out 1; have hfz50_2 := blk_frozen BK135.out 2; have hfz50_3 := blk_frozen BK135.out 3))
  refine bodyPost_ret (results_ct rfl _ _ gb135 51 #[.bool false, .int .i64 a0_1, .int .i64 a0_2, .slice A0_3 l0_3.length c0_3] (0, 0) _ rfl (by (with_reducible repeat (first | refine blk_drewN ?_ _ | refine blk_drew ?_ | refine blk_alloc ?_ _)); refine blk_put (cs := #[.bool false, .int .i64 a0_1, .int .i64 a0_2, .slice none 0 0]) ?_ 3 _ rfl; (with_reducible repeat (first | refine blk_drewN ?_ _ | refine blk_drew ?_ | refine blk_alloc ?_ _)); refine blk_put (cs := #[.bool false, .int .i64 a0_1, .int .i64 0, .slice none 0 0]) ?_ 2 _ rfl; (with_reducible repeat (first | refine blk_drewN ?_ _ | refine blk_drew ?_ | refine blk_alloc ?_ _)); refine blk_put (cs := #[.bool false, .int .i64 0, .int .i64 0, .slice none 0 0]) ?_ 1 _ rfl; (with_reducible repeat (first | refine blk_drewN ?_ _ | refine blk_drew ?_ | refine blk_alloc ?_ _)); refine blk_put (cs := #[.bool false, .int .i64 0, .int .i64 0, .slice none 0 0]) ?_ 0 _ rfl; (with_reducible repeat (first | refine blk_drewN ?_ _ | refine blk_drew ?_ | refine blk_alloc ?_ _)); exact BK135.out) Try.underlying51 rfl (by kernel_rfl)) rfl ?_
  exact ⟨_, by first | rfl | (simp [errW_none, errW_some] <;> rfl) | (simp [*, errW_none, errW_some] <;> rfl), by (with_reducible repeat (first | apply Kd.V_alloc | apply Kd.V_drewN | apply Kd.V_drew)); exact Kd.V_mono (Kd.V_far (p := ⟨gb135, 3, none⟩) (Kd.V_far (p := ⟨gb135, 2, none⟩) (Kd.V_far (p := ⟨gb135, 1, none⟩) (Kd.V_far (p := ⟨gb135, 0, none⟩) (Kd.V_mono HO0_3.out (fun k_ hk => (⟨hk, hk.2⟩ : _ ∧ k_ ≠ gb135))) (fun _ hk => hk.2) (.bool false)) (fun _ hk => hk.2) (.int .i64 a0_1)) (fun _ hk => hk.2) (.int .i64 a0_2)) (fun _ hk => hk.2) (.slice A0_3 l0_3.length c0_3)) (fun _ hk => hk.1.1.1), by repeat (first | (with_reducible first | exact HB.out | apply below_alloc | apply pw_below_drewN | apply below_drew1 | refine below_set ?_ GE134.out | refine below_set ?_ GE135.out) | exact HB.out)⟩
end
end Go.Proofs.Ytmkhphkkpdiliaa.All
end
section
namespace Go.Proofs.Ytmkhphkkpdiliaa.All
open Go.Proofs.YtmkhphkkpdiliaaSq
open Go.RowKit Go.Proofs.YtmkhphkkpdiliaaW.PrintWords Go.Proofs.YtmkhphkkpdiliaaW.PrintLast Go.Proofs.YtmkhphkkpdiliaaW.PrintMore
attribute [local go_sem] max2_int min2_int max_two min_two max_three min_three max_four min_four
set_option linter.unusedVariables false
set_option linter.unusedSimpArgs false
abbrev zq23.q0 : Array Bool := #[false, false, false, false, false, false, false, false, false, false, false]
abbrev zq23.q1 : Array Bool := #[true, false, false, false, false, false, false, false, false, false, false]
abbrev zq23.q2 : Array Bool := #[true, false, true, false, false, false, false, false, false, false, false]
abbrev zq23.q3 : Array Bool := #[true, false, true, false, true, false, false, false, false, false, false]
abbrev zq23.q4 : Array Bool := #[true, true, true, false, true, false, false, false, false, false, false]
abbrev zq23.q5 : Array Bool := #[true, true, true, true, true, false, false, false, false, false, false]
abbrev zq23.q6 : Array Bool := #[true, true, true, true, true, true, false, false, false, false, false]
abbrev zq23.q7 : Array Bool := #[true, true, true, true, true, true, true, false, false, false, false]
abbrev zq23.q8 : Array Bool := #[true, true, true, true, true, true, true, true, false, false, false]
abbrev zq23.q9 : Array Bool := #[true, true, true, true, true, true, true, true, true, false, false]
abbrev zq23.q10 : Array Bool := #[true, true, true, true, true, true, true, true, true, true, false]
abbrev zq23.q11 : Array Bool := #[true, true, true, true, true, true, true, true, true, true, true]
def compositorref30_Discard.l0 : Nat → Int → List Int → Int → Bool → Int → Int → List (S78) → Bool → Int → Int → List (S78) → Option (Bool × Int × Int × (List (S78)) × List Int)
 | 0, _, _, _, _, _, _, _, _, _, _, _ => none
 | k + 1, x1, x7, x8, x135000, x135001, x135002, x135003, x137000, x137001, x137002, x137003 => if x8 < (x135003.length : Int) then (if 0 ≤ x8 then (if ((rd_T78 x135003 x8).f0) = x1 then (if x7.length + ((rd_T78 x135003 x8).f1).length < 35184372088832 then (compositorref30_Discard.l0 k x1 (x7 ++ ((rd_T78 x135003 x8).f1)) (wrap64 (x8 + 1)) x135000 x135001 x135002 x135003 x137000 x137001 x137002 x137003) else (none)) else (if x137003.length < 4398046511104 then (compositorref30_Discard.l0 k x1 x7 (wrap64 (x8 + 1)) x135000 x135001 x135002 x135003 x137000 x137001 x137002 (x137003 ++ [(⟨(rd_T78 x135003 x8).f0, (rd_T78 x135003 x8).f1⟩ : S78)])) else (none))) else (none)) else (some (x137000, x137001, x137002, x137003, x7))
def compositorref30_Discard.f (k : Nat) (a0_0 : Bool) (a0_1 : Int) (a0_2 : Int) (l0_3 : List (S78)) (a1 : Int) : Option (Bool × Int × Int × (List (S78)) × List Int) := compositorref30_Discard.l0 k a1 ([] : List Int) 0 a0_0 a0_1 a0_2 l0_3 a0_0 a0_1 a0_2 ([] : List (S78))
def compositorref30_Discard.T9 : Bool × List (List Nat × List Nat) := (true, [([], []), ([0], [0]), ([], []), ([2], [2]), ([], []), ([3, 4], [3, 4]), ([5], [5]), ([6], [6]), ([1, 7], [1, 7]), ([0, 1, 2, 3, 4, 5, 6, 7, 8], []), ([9, 8, 8, 0, 1, 2, 3, 4, 5, 6, 7, 8], [8, 9])])
def compositorref30_Discard.B9 : List Nat := [0, 1, 0, 4, 0, 28, 60, 124, 255, 511, 1023]
theorem compositorref30_Discard.tab9 : rtab .any (opsOf Try.f23 9) = compositorref30_Discard.T9 := by kernel_rfl
theorem compositorref30_Discard.bits9 : waitsOk compositorref30_Discard.T9.2 compositorref30_Discard.B9 = true := by kernel_rfl
set_option maxHeartbeats 8000000 in
set_option maxRecDepth 100000 in
theorem compositorref30_Discard.calls (k : Nat) (a0_0 : Bool) (a0_1 : Int) (a0_2 : Int) (P0_3_ : Nat → Prop) (A0_3 : Option Addr) (c0_3 : Nat) (l0_3 : List (S78)) (a1 : Int) (r1 : Bool) (r2 : Int) (r3 : Int) (r4 : List (S78)) (r5 : List Int) (w : World) (hs0_3 : Kd.V k78 78 w w.heap.size (fun k_ => P0_3_ k_) (.slice A0_3 l0_3.length c0_3) l0_3) (h : compositorref30_Discard.f k a0_0 a0_1 a0_2 l0_3 a1 = some (r1, r2, r3, r4, r5)) :
  Calls Try.prog 23 #[.agg #[.bool a0_0, .int .i64 a0_1, .int .i64 a0_2, .slice A0_3 l0_3.length c0_3], .int .i64 a1] w fun e w' => ∃ v3_ v4_ : Value, e = .returned (.tuple #[.agg #[.bool r1, .int .i64 r2, .int .i64 r3, v3_], v4_]) ∧ Kd.N k78 78 w' w.heap.size (fun k_ => (P0_3_ k_ ∨ w.heap.size ≤ k_) ∧ some k_ ≠ (v4_ : Value).ownBlock) v3_ r4 ∧ Kd.R (Kd.int .u32) 36 w' w.heap.size (fun k_ => (w.heap.size ≤ k_)) v4_ r5 ∧ Below w.heap.size w w' := by
 have hu51 := Try.underlying51
 have hu78 := Try.underlying78
 have HO0_3 := Aside0.mk (show Kd.V k78 78 w w.heap.size (fun k_ => (P0_3_ k_ ∨ w.heap.size ≤ k_)) (.slice A0_3 l0_3.length c0_3) l0_3 from Kd.V_mono hs0_3 (fun k_ hk => .inl hk))
 have HB := Aside0.mk (Below.refl w.heap.size w)
 have H : (compositorref30_Discard.l0 k a1 ([] : List Int) 0 a0_0 a0_1 a0_2 l0_3 a0_0 a0_1 a0_2 ([] : List (S78))) = some (r1, r2, r3, r4, r5) := h
 clear h
 have H' := Aside0.mk H
 clear H
 go_enter Try.func23, Try.ntmps23
 go_wp2_with (first | ((with_reducible refine gate_dst (N := 2) rfl ?_); refine box_event ?hg (N := 2) ?hd (cs := #[.bool a0_0, .int .i64 a0_1, .int .i64 a0_2, .slice A0_3 l0_3.length c0_3]) (t := 51) ?hr ?_; (case hd => rfl); (case hg => rfl); (case hr => first | (go_simp; done) | (go_simp; rfl)); intro gb134 hg w3 hbox hb; have n0_ := Aside0.mk (Kd.V_below (Kd.V_elderB (by (with_reducible repeat (first | apply Kd.V_alloc | apply Kd.V_drewN | apply Kd.V_drew)); exact HO0_3.out) gb134 (Nat.le_of_eq hg.symm)) hb); have n1_ := hb_ HB hb; have n2_ := Aside0.mk (hbox); have n3_ := Aside0.mk ((by rw [hg]; exact (below_size (hq_ HB)) : w.heap.size ≤ gb134)); have n4_ := Aside0.mk ((by rw [hg]; exact (below_size (hq_ HB)) : w.heap.size ≤ gb134)); clear HO0_3; clear HB; have HO0_3 := n0_; have HB := n1_; have BK134 := n2_; have GW134 := n3_; have GE134 := n4_; clear n0_ n1_ n2_ n3_ n4_; clear hb hbox hg) | ((with_reducible refine gate_dst (N := 4) rfl ?_); refine box_event ?hg (N := 4) ?hd (cs := #[.bool false, .int .i64 0, .int .i64 0, .slice none 0 0]) (t := 51) ?hr ?_; (case hd => rfl); (case hg => rfl); (case hr => first | (go_simp; done) | (go_simp; rfl)); intro gb135 hg w4 hbox hb; have n0_ := Aside0.mk (Kd.V_below (Kd.V_elderB (by (with_reducible repeat (first | apply Kd.V_alloc | apply Kd.V_drewN | apply Kd.V_drew)); exact HO0_3.out) gb135 (Nat.le_of_eq hg.symm)) hb); have n1_ := bb_ BK134 hb; have n2_ := hb_ HB hb; have n3_ := Aside0.mk (hbox); have n4_ := Aside0.mk ((by rw [hg]; exact (below_size (hq_ HB)) : w.heap.size ≤ gb135)); have n5_ := Aside0.mk ((by rw [hg]; exact (below_size (hq_ HB)) : w.heap.size ≤ gb135)); have n6_ := Aside0.mk ((by rw [hg]; exact Nat.ne_of_lt (blk_lt (g := gb134) (o := .cells #[.bool a0_0, .int .i64 a0_1, .int .i64 a0_2, .slice A0_3 l0_3.length c0_3] 51 (0, 0)) (bq_ BK134)) : gb134 ≠ gb135)); have n7_ := Aside0.mk ((by rw [hg]; exact Nat.ne_of_gt (blk_lt (g := gb134) (o := .cells #[.bool a0_0, .int .i64 a0_1, .int .i64 a0_2, .slice A0_3 l0_3.length c0_3] 51 (0, 0)) (bq_ BK134)) : gb135 ≠ gb134)); clear HO0_3; clear BK134; clear HB; have HO0_3 := n0_; have BK134 := n1_; have HB := n2_; have BK135 := n3_; have GW135 := n4_; have GE135 := n5_; have NB134_135 := n6_; have NB135_134 := n7_; clear n0_ n1_ n2_ n3_ n4_ n5_ n6_ n7_; clear hb hbox hg; have hnb5 := NB134_135.out; have hnc5 := NB135_134.out; have hcz6_0 : w4.cell? ⟨gb134, 0, none⟩ = some (.bool a0_0) := (blk_cell BK134.out 0).trans rfl; have hcz6_1 : w4.cell? ⟨gb134, 1, none⟩ = some (.int .i64 a0_1) := (blk_cell BK134.out 1).trans rfl; have hcz6_2 : w4.cell? ⟨gb134, 2, none⟩ = some (.int .i64 a0_2) := (blk_cell BK134.out 2).trans rfl; have hcz6_3 : w4.cell? ⟨gb134, 3, none⟩ = some (.slice A0_3 l0_3.length c0_3) := (blk_cell BK134.out 3).trans rfl; have hfz6_0 := blk_frozen BK134.out 0; have hfz6_1 := blk_frozen BK134.out 1; have hfz6_2 := blk_frozen BK134.out 2; have hfz6_3 := blk_frozen BK134.out 3) | ((with_reducible refine gate_dst (N := 6) rfl ?_); refine box_event ?hg (N := 6) ?hd (cs := #[.bool false, .int .i64 0, .int .i64 0, .slice none 0 0]) (t := 51) ?hr ?_; (case hd => rfl); (case hg => rfl); (case hr => first | (go_simp; done) | (go_simp; rfl)); intro gb136 hg w7 hbox hb; have n0_ := Aside0.mk (Kd.V_below (Kd.V_elderB (by (with_reducible repeat (first | apply Kd.V_alloc | apply Kd.V_drewN | apply Kd.V_drew)); exact HO0_3.out) gb136 (Nat.le_of_eq hg.symm)) hb); have n1_ := bb_ BK134 hb; have n2_ := bb_ BK135 hb; have n3_ := hb_ HB hb; have n4_ := Aside0.mk (hbox); have n5_ := Aside0.mk ((by rw [hg]; exact (below_size (hq_ HB)) : w.heap.size ≤ gb136)); have n6_ := Aside0.mk ((by rw [hg]; exact (below_size (hq_ HB)) : w.heap.size ≤ gb136)); have n7_ := Aside0.mk ((by rw [hg]; exact Nat.ne_of_lt (blk_lt (g := gb134) (o := .cells #[.bool a0_0, .int .i64 a0_1, .int .i64 a0_2, .slice A0_3 l0_3.length c0_3] 51 (0, 0)) (bq_ BK134)) : gb134 ≠ gb136)); have n8_ := Aside0.mk ((by rw [hg]; exact Nat.ne_of_gt (blk_lt (g := gb134) (o := .cells #[.bool a0_0, .int .i64 a0_1, .int .i64 a0_2, .slice A0_3 l0_3.length c0_3] 51 (0, 0)) (bq_ BK134)) : gb136 ≠ gb134)); have n9_ := Aside0.mk ((by rw [hg]; exact Nat.ne_of_lt (blk_lt (g := gb135) (o := .cells #[.bool false, .int .i64 0, .int .i64 0, .slice none 0 0] 51 (0, 0)) (bq_ BK135)) : gb135 ≠ gb136)); have n10_ := Aside0.mk ((by rw [hg]; exact Nat.ne_of_gt (blk_lt (g := gb135) (o := .cells #[.bool false, .int .i64 0, .int .i64 0, .slice none 0 0] 51 (0, 0)) (bq_ BK135)) : gb136 ≠ gb135)); clear HO0_3; clear BK134; clear BK135; clear HB; have HO0_3 := n0_; have BK134 := n1_; have BK135 := n2_; have HB := n3_; have BK136 := n4_; have GW136 := n5_; have GE136 := n6_; have NB134_136 := n7_; have NB136_134 := n8_; have NB135_136 := n9_; have NB136_135 := n10_; clear n0_ n1_ n2_ n3_ n4_ n5_ n6_ n7_ n8_ n9_ n10_; clear hb hbox hg; have hnb8 := NB136_134.out; have hnc8 := NB134_136.out; have hnb9 := NB136_135.out; have hnc9 := NB135_136.out; have hcz10_0 : w7.cell? ⟨gb136, 0, none⟩ = some (.bool false) := (blk_cell BK136.out 0).trans rfl; have hcz10_1 : w7.cell? ⟨gb136, 1, none⟩ = some (.int .i64 0) := (blk_cell BK136.out 1).trans rfl; have hcz10_2 : w7.cell? ⟨gb136, 2, none⟩ = some (.int .i64 0) := (blk_cell BK136.out 2).trans rfl; have hcz10_3 : w7.cell? ⟨gb136, 3, none⟩ = some (.slice none 0 0) := (blk_cell BK136.out 3).trans rfl; have hfz10_0 := blk_frozen BK136.out 0; have hfz10_1 := blk_frozen BK136.out 1; have hfz10_2 := blk_frozen BK136.out 2; have hfz10_3 := blk_frozen BK136.out 3))
 go_loopg [7, 8] k (fun kq v7 v8 w' => ∃ (x7_1 : List Int) (x8_1 : Int) (x137003_1 : List (S78)) (u137003 : Value), v8 = .int .i64 x8_1 ∧ Aside0 (compositorref30_Discard.l0 kq a1 x7_1 x8_1 a0_0 a0_1 a0_2 l0_3 a0_0 a0_1 a0_2 x137003_1 = some (r1, r2, r3, r4, r5)) ∧ Aside0 (kq ≤ k) ∧ Aside0 (Kd.R (Kd.int .u32) 36 w' w.heap.size (fun k_ => (w.heap.size ≤ k_)) v7 x7_1) ∧ Aside0 (Kd.V k78 78 w' w.heap.size (fun k_ => (P0_3_ k_ ∨ w.heap.size ≤ k_) ∧ some k_ ≠ (v7 : Value).ownBlock ∧ some k_ ≠ (u137003 : Value).ownBlock ∧ k_ ≠ gb134 ∧ k_ ≠ gb135 ∧ k_ ≠ gb136) (.slice A0_3 l0_3.length c0_3) l0_3) ∧ Aside0 (Kd.N k78 78 w' w.heap.size (fun k_ => (P0_3_ k_ ∨ w.heap.size ≤ k_) ∧ some k_ ≠ (v7 : Value).ownBlock ∧ k_ ≠ gb134 ∧ k_ ≠ gb135 ∧ k_ ≠ gb136) u137003 x137003_1) ∧ Aside0 (w'.heap[gb134]? = some (.cells #[.bool a0_0, .int .i64 a0_1, .int .i64 a0_2, (.slice A0_3 l0_3.length c0_3)] 51 (0, 0))) ∧ Aside0 (w'.heap[gb135]? = some (.cells #[.bool false, .int .i64 0, .int .i64 0, (.slice none 0 0)] 51 (0, 0))) ∧ Aside0 (w'.heap[gb136]? = some (.cells #[.bool a0_0, .int .i64 a0_1, .int .i64 a0_2, u137003] 51 (0, 0))) ∧ Aside0 (Below w.heap.size w w'))
 case atStart => exact ⟨(([] : List Int)), (0), (([] : List (S78))), (.slice none 0 0), (by first | rfl | (simp; done) | (simp [*]; done)), H', ⟨Nat.le_refl _⟩, ⟨by first | exact Kd.R_nil _ _ _ _ _ | exact Kd.N_nil _ _ _ _ _ | exact Kd.V_nil _ _ _ _ _ | exact Kd.Q_nil _ _ _ _ _ | exact Kd.S_nil _ _ _ _ _⟩, ⟨by (with_reducible repeat (first | apply Kd.V_alloc | apply Kd.V_drewN | apply Kd.V_drew)); exact Kd.V_mono (Kd.V_far (p := ⟨gb136, 3, none⟩) (Kd.V_far (p := ⟨gb136, 3, none⟩) (Kd.V_far (p := ⟨gb136, 2, none⟩) (Kd.V_far (p := ⟨gb136, 1, none⟩) (Kd.V_far (p := ⟨gb136, 0, none⟩) (Kd.V_mono HO0_3.out (fun k_ hk => (⟨hk, hk.2⟩ : _ ∧ k_ ≠ gb136))) (fun _ hk => hk.2) (.bool a0_0)) (fun _ hk => hk.2) (.int .i64 a0_1)) (fun _ hk => hk.2) (.int .i64 a0_2)) (fun _ hk => hk.2) (.slice A0_3 l0_3.length c0_3)) (fun _ hk => hk.2) (.slice none 0 0)) (fun _ hk => ⟨hk.1.1.1.1, ⟨(by simp [Value.ownBlock]), ⟨(by simp [Value.ownBlock]), ⟨hk.1.1.1.2, ⟨hk.1.1.2, hk.1.2⟩⟩⟩⟩⟩)⟩, ⟨by first | exact Kd.S_nil _ _ _ _ _ | exact Kd.N_nil _ _ _ _ _ | exact Kd.V_nil _ _ _ _ _ | exact Kd.Q_nil _ _ _ _ _ | exact Kd.R_nil _ _ _ _ _⟩, bf_ BK134, bf_ BK135, ⟨by (with_reducible repeat (first | refine blk_drewN ?_ _ | refine blk_drew ?_ | refine blk_alloc ?_ _)); refine blk_put (cs := #[.bool a0_0, .int .i64 a0_1, .int .i64 a0_2, .slice A0_3 l0_3.length c0_3]) ?_ 3 _ rfl; (with_reducible repeat (first | refine blk_drewN ?_ _ | refine blk_drew ?_ | refine blk_alloc ?_ _)); refine blk_put (cs := #[.bool a0_0, .int .i64 a0_1, .int .i64 a0_2, .slice none 0 0]) ?_ 3 _ rfl; (with_reducible repeat (first | refine blk_drewN ?_ _ | refine blk_drew ?_ | refine blk_alloc ?_ _)); refine blk_put (cs := #[.bool a0_0, .int .i64 a0_1, .int .i64 0, .slice none 0 0]) ?_ 2 _ rfl; (with_reducible repeat (first | refine blk_drewN ?_ _ | refine blk_drew ?_ | refine blk_alloc ?_ _)); refine blk_put (cs := #[.bool a0_0, .int .i64 0, .int .i64 0, .slice none 0 0]) ?_ 1 _ rfl; (with_reducible repeat (first | refine blk_drewN ?_ _ | refine blk_drew ?_ | refine blk_alloc ?_ _)); refine blk_put (cs := #[.bool false, .int .i64 0, .int .i64 0, .slice none 0 0]) ?_ 0 _ rfl; (with_reducible repeat (first | refine blk_drewN ?_ _ | refine blk_drew ?_ | refine blk_alloc ?_ _)); exact BK136.out⟩, ⟨by repeat (first | (with_reducible first | exact HB.out | apply below_alloc | apply pw_below_drewN | apply below_drew1 | refine below_set ?_ GE134.out | refine below_set ?_ GE135.out | refine below_set ?_ GE136.out) | exact HB.out)⟩⟩
 case round =>
  clear H'
  try clear c2
  try clear p2
  try clear c5
  try clear c8
  try clear c9
  try clear hcz10_0
  try clear hcz10_1
  try clear hcz10_2
  try clear hcz10_3
  try clear hcz6_0
  try clear hcz6_1
  try clear hcz6_2
  try clear hcz6_3
  try clear hfz10_0
  try clear hfz10_1
  try clear hfz10_2
  try clear hfz10_3
  try clear hfz6_0
  try clear hfz6_1
  try clear hfz6_2
  try clear hfz6_3
  obtain ⟨x7_1, x8_1, x137003_1, u137003, rfl, HA, HK1, HO_7, HO_135003, HO_137003, BK134, BK135, BK136, HB⟩ := hrel
  cases gk with
  | zero => exact absurd HA.out (by simp [compositorref30_Discard.l0])
  | succ k1 =>
   have H := HA.out
   clear HA
   simp only [compositorref30_Discard.l0] at H
   by_cases c11 : x8_1 < (l0_3.length : Int)
   ·
    rw [if_pos c11] at H
    have c11b0 : decide (x8_1 < (l0_3.length : Int)) = true := decide_eq_true c11
    clear c11
    by_cases c12 : 0 ≤ x8_1
    ·
     rw [if_pos c12] at H
     have c12b0 : decide (0 ≤ x8_1) = true := decide_eq_true c12
     clear c12
     by_cases c13 : ((rd_T78 l0_3 x8_1).f0) = a1
     ·
      rw [if_pos c13] at H
      have c13b0 : (((rd_T78 l0_3 x8_1).f0) == a1) = true := beq_iff_eq.mpr c13
      have c13b1 : (((rd_T78 l0_3 x8_1).f0) != a1) = false := bne_eq_false_iff_eq.mpr c13
      clear c13
      by_cases c14 : x7_1.length + ((rd_T78 l0_3 x8_1).f1).length < 35184372088832
      ·
       rw [if_pos c14] at H
       have LMc14 := Aside0.mk c14
       clear c14
       obtain ⟨y139, hy139⟩ : ∃ y_ : List Int, y_ = (x7_1 ++ ((rd_T78 l0_3 x8_1).f1)) := ⟨_, rfl⟩
       replace H : (compositorref30_Discard.l0 k1 a1 y139 (wrap64 (x8_1 + 1)) a0_0 a0_1 a0_2 l0_3 a0_0 a0_1 a0_2 x137003_1) = some (r1, r2, r3, r4, r5) := by first | (rw [hy139]; with_reducible exact H) | (have H2_ := (Option.bind_some _ _).symm.trans H; rw [hy139]; with_reducible exact H2_) | (have H2_ := (Option.bind_some _ _).symm.trans H; with_reducible exact H2_) | with_reducible exact H | (rw [hy139]; exact H) | exact H
       have Ny139 := Aside0.mk hy139
       clear hy139
       have H' := Aside0.mk H
       clear H
       have hnb15 := NB134_135.out
       have hnc15 := NB135_134.out
       have hnb16 := NB134_136.out
       have hnc16 := NB136_134.out
       have hcz17_0 : wr.cell? ⟨gb134, 0, none⟩ = some (.bool a0_0) := (blk_cell BK134.out 0).trans rfl
       have hcz17_1 : wr.cell? ⟨gb134, 1, none⟩ = some (.int .i64 a0_1) := (blk_cell BK134.out 1).trans rfl
       have hcz17_2 : wr.cell? ⟨gb134, 2, none⟩ = some (.int .i64 a0_2) := (blk_cell BK134.out 2).trans rfl
       have hcz17_3 : wr.cell? ⟨gb134, 3, none⟩ = some (.slice A0_3 l0_3.length c0_3) := (blk_cell BK134.out 3).trans rfl
       have hfz17_0 := blk_frozen BK134.out 0
       have hfz17_1 := blk_frozen BK134.out 1
       have hfz17_2 := blk_frozen BK134.out 2
       have hfz17_3 := blk_frozen BK134.out 3
       have p137 : 0 ≤ (x8_1 : Int) := of_decide_eq_true (by first | (with_reducible assumption) | assumption)
       have q137 : x8_1 < (l0_3.length : Int) := of_decide_eq_true (by first | (with_reducible assumption) | assumption)
       obtain ⟨ad137, A137_1, c137_1, e137, hx137_0, hx137_1, hl137_1, hi137_1⟩ := at_T78 (Kd.V_reads' HO_135003.out).2.2 x8_1 p137 q137
       cases e137
       obtain ⟨ce137, hce137, hMe137, hcc137⟩ := Kd.V_get HO_135003.out z78 x8_1 p137 (by first | exact q137 | exact of_decide_eq_true (by first | (with_reducible assumption) | assumption) | (have e_ := (Kd.V_reads' HO_135003.out).1; omega))
       obtain ⟨ua137_1, uc137_1, rfl, ul137_1, ge137_1⟩ := k78_openF hMe137
       have hv137_1 := hcc137 1 _ rfl
       rw [add_field _ _ 1 (by omega)] at hv137_1
       replace hv137_1 := Option.some.inj (hv137_1.symm.trans hx137_1)
       injection hv137_1 with hva_ hvn_ hvc_
       rw [hva_] at ge137_1
       rw [hvc_] at ul137_1
       have HL137_1 := Aside0.mk (show Kd.V (Kd.int .u32) 36 _ w.heap.size _ _ ((rd_T78 l0_3 x8_1).f1) from Kd.V_mk ul137_1 ge137_1)
       clear hva_ hvn_ hvc_ ge137_1 ul137_1
       clear hcc137 hce137
       have HR137_1 := Aside0.mk hi137_1
       have HC137_1 := Aside0.mk hl137_1
       clear hi137_1 hl137_1
       replace p137 := eq_true p137
       replace q137 := eq_true q137
       have p138 : 0 ≤ (x8_1 : Int) := of_decide_eq_true (by first | (with_reducible assumption) | assumption)
       have q138 : x8_1 < (l0_3.length : Int) := of_decide_eq_true (by first | (with_reducible assumption) | assumption)
       obtain ⟨ad138, A138_1, c138_1, e138, hx138_0, hx138_1, hl138_1, hi138_1⟩ := at_T78 (Kd.V_reads' HO_135003.out).2.2 x8_1 p138 q138
       obtain rfl : ad137 = ad138 := (by injection e138)
       obtain ⟨ce138, hce138, hMe138, hcc138⟩ := Kd.V_get HO_135003.out z78 x8_1 p138 (by first | exact q138 | exact of_decide_eq_true (by first | (with_reducible assumption) | assumption) | (have e_ := (Kd.V_reads' HO_135003.out).1; omega))
       obtain ⟨ua138_1, uc138_1, rfl, ul138_1, ge138_1⟩ := k78_openF hMe138
       have hv138_1 := hcc138 1 _ rfl
       rw [add_field _ _ 1 (by omega)] at hv138_1
       replace hv138_1 := Option.some.inj (hv138_1.symm.trans hx138_1)
       injection hv138_1 with hva_ hvn_ hvc_
       rw [hva_] at ge138_1
       rw [hvc_] at ul138_1
       have HL138_1 := Aside0.mk (show Kd.V (Kd.int .u32) 36 _ w.heap.size _ _ ((rd_T78 l0_3 x8_1).f1) from Kd.V_mk ul138_1 ge138_1)
       clear hva_ hvn_ hvc_ ge138_1 ul138_1
       clear hcc138 hce138
       have HR138_1 := Aside0.mk hi138_1
       have HC138_1 := Aside0.mk hl138_1
       clear hi138_1 hl138_1
       replace p138 := eq_true p138
       replace q138 := eq_true q138
       have ea_ := Option.some.inj (hx137_1.symm.trans hx138_1)
       injection ea_ with ea_ en_ ec_
       subst ea_
       subst ec_
       clear en_
       go_wp2_with (first | ((with_reducible refine gate_builtin (b := .append) (xs := #[.tmp 26, .tmp 32]) rfl ?_); at_builtin; refine Kd.R_append_rows (Kd.int .u32) (w0 := w) w.heap.size rfl (.tmp 26) (.tmp 32) 37 36 (.int .u32 0) 4 rfl Try.underlying37 info36 rfl (by decide) (by omega) u7 x7_1 ((rd_T78 l0_3 x8_1).f1) _ _ _ (fun k_ => (w.heap.size ≤ k_)) (fun _ => False) rfl rfl ?aO ?aR (fun _ _ h => h) (fun _ h => h.elim) ?aF ?aB ?aS ?aL ?_; (case aR => repeat (first | exact (by repeat (first | (with_reducible exact HR138_1.out) | (with_reducible refine Kd.C_alloc ?_ _) | (with_reducible refine Kd.C_drewN ?_ _) | (with_reducible refine Kd.C_drew ?_) | exact HR138_1.out)) | (with_reducible refine Kd.C_alloc ?_ _) | (with_reducible refine Kd.C_drewN ?_ _) | (with_reducible refine Kd.C_drew ?_))); (case aB => exact (hq_ HB)); (case aF => exact (fun k_ hk => (Nat.le_trans (below_size (hq_ HB)) hk))); (case aO => exact (by (with_reducible repeat (first | apply Kd.R_alloc | apply Kd.R_drewN | apply Kd.R_drew)); exact HO_7.out)); (case aS => exact (below_size (hq_ HB))); (case aL => have := LMc14.out; omega); intro v140 w18 ho hb hg hat; rw [← Ny139.out] at ho; have n0_ := Aside0.mk (Kd.V_afterv (ok := (fun k_ => (P0_3_ k_ ∨ w.heap.size ≤ k_) ∧ some k_ ≠ (u137003 : Value).ownBlock ∧ k_ ≠ gb134 ∧ k_ ≠ gb135 ∧ k_ ≠ gb136)) (by (with_reducible repeat (first | apply Kd.V_alloc | apply Kd.V_drewN | apply Kd.V_drew)); exact Kd.V_mono HO_135003.out (fun _ hk => ⟨⟨hk.1, ⟨hk.2.2.1, ⟨hk.2.2.2.1, ⟨hk.2.2.2.2.1, hk.2.2.2.2.2⟩⟩⟩⟩, hk.2.1⟩)) hg hat); have n1_ := Aside0.mk (Kd.N_afterv (ok := (fun k_ => (P0_3_ k_ ∨ w.heap.size ≤ k_) ∧ k_ ≠ gb134 ∧ k_ ≠ gb135 ∧ k_ ≠ gb136)) (by (with_reducible repeat (first | apply Kd.N_alloc | apply Kd.N_drewN | apply Kd.N_drew)); exact Kd.N_mono HO_137003.out (fun _ hk => ⟨⟨hk.1, ⟨hk.2.2.1, ⟨hk.2.2.2.1, hk.2.2.2.2⟩⟩⟩, hk.2.1⟩)) hg hat); have n2_ := Aside0.mk (blk_grown (g := gb134) (o := .cells #[.bool a0_0, .int .i64 a0_1, .int .i64 a0_2, .slice (some ad137) l0_3.length c0_3] 51 (0, 0)) (bq_ BK134) hg (Kd.R_ne HO_7.out BK134.out (by decide))); have n3_ := Aside0.mk (blk_grown (g := gb135) (o := .cells #[.bool false, .int .i64 0, .int .i64 0, .slice none 0 0] 51 (0, 0)) (bq_ BK135) hg (Kd.R_ne HO_7.out BK135.out (by decide))); have n4_ := Aside0.mk (blk_grown (g := gb136) (o := .cells #[.bool a0_0, .int .i64 a0_1, .int .i64 a0_2, u137003] 51 (0, 0)) (bq_ BK136) hg (Kd.R_ne HO_7.out BK136.out (by decide))); have n5_ := Aside0.mk (Kd.V_afterv (ok := (fun k_ => (P0_3_ k_ ∨ w.heap.size ≤ k_) ∧ some k_ ≠ (u137003 : Value).ownBlock ∧ k_ ≠ gb134 ∧ k_ ≠ gb135 ∧ k_ ≠ gb136)) (by (with_reducible repeat (first | apply Kd.V_alloc | apply Kd.V_drewN | apply Kd.V_drew)); exact Kd.V_mono HL137_1.out (fun _ hk => ⟨⟨hk.1, ⟨hk.2.2.1, ⟨hk.2.2.2.1, ⟨hk.2.2.2.2.1, hk.2.2.2.2.2⟩⟩⟩⟩, hk.2.1⟩)) hg hat); have n6_ := Aside0.mk (Kd.V_afterv (ok := (fun k_ => (P0_3_ k_ ∨ w.heap.size ≤ k_) ∧ some k_ ≠ (u137003 : Value).ownBlock ∧ k_ ≠ gb134 ∧ k_ ≠ gb135 ∧ k_ ≠ gb136)) (by (with_reducible repeat (first | apply Kd.V_alloc | apply Kd.V_drewN | apply Kd.V_drew)); exact Kd.V_mono HL138_1.out (fun _ hk => ⟨⟨hk.1, ⟨hk.2.2.1, ⟨hk.2.2.2.1, ⟨hk.2.2.2.2.1, hk.2.2.2.2.2⟩⟩⟩⟩, hk.2.1⟩)) hg hat); have n7_ := Aside0.mk (hb); have n8_ := Aside0.mk (ho); clear HO_135003; clear HO_137003; clear BK134; clear BK135; clear BK136; clear HL137_1; clear HL138_1; clear HB; clear HO_7; have HO_135003 := n0_; have HO_137003 := n1_; have BK134 := n2_; have BK135 := n3_; have BK136 := n4_; have HL137_1 := n5_; have HL138_1 := n6_; have HB := n7_; have HO141 := n8_; clear n0_ n1_ n2_ n3_ n4_ n5_ n6_ n7_ n8_; clear ho hb hg hat))
       go_roundg k1
       case measure => have := HK1.out; omega
       case rel => exact ⟨(y139), (wrap64 (x8_1 + 1)), (x137003_1), (u137003), (by first | rfl | (simp; done) | (simp [*]; done)), H', ⟨by have := HK1.out; omega⟩, ⟨by (with_reducible repeat (first | apply Kd.R_alloc | apply Kd.R_drewN | apply Kd.R_drew)); exact HO141.out⟩, ⟨by (with_reducible repeat (first | apply Kd.V_alloc | apply Kd.V_drewN | apply Kd.V_drew)); exact Kd.V_mono HO_135003.out (fun _ hk => ⟨hk.1.1, ⟨hk.2, ⟨hk.1.2.1, ⟨hk.1.2.2.1, ⟨hk.1.2.2.2.1, hk.1.2.2.2.2⟩⟩⟩⟩⟩)⟩, ⟨by (with_reducible repeat (first | apply Kd.N_alloc | apply Kd.N_drewN | apply Kd.N_drew)); exact Kd.N_mono HO_137003.out (fun _ hk => ⟨hk.1.1, ⟨hk.2, ⟨hk.1.2.1, ⟨hk.1.2.2.1, hk.1.2.2.2⟩⟩⟩⟩)⟩, bf_ BK134, bf_ BK135, bf_ BK136, ⟨by repeat (first | (with_reducible first | exact HB.out | apply below_alloc | apply pw_below_drewN | apply below_drew1 | refine below_set ?_ GE134.out | refine below_set ?_ GE135.out | refine below_set ?_ GE136.out) | exact HB.out)⟩⟩
      ·
       rw [if_neg c14] at H
       exact absurd H (by simp)
     ·
      rw [if_neg c13] at H
      have c13b0 : (((rd_T78 l0_3 x8_1).f0) == a1) = false := beq_eq_false_iff_ne.mpr c13
      have c13b1 : (((rd_T78 l0_3 x8_1).f0) != a1) = true := bne_iff_ne.mpr c13
      by_cases c19 : x137003_1.length < 4398046511104
      ·
       rw [if_pos c19] at H
       have LMc19 := Aside0.mk c19
       clear c19
       obtain ⟨y143, hy143⟩ : ∃ y_ : List (S78), y_ = (x137003_1 ++ [(⟨(rd_T78 l0_3 x8_1).f0, (rd_T78 l0_3 x8_1).f1⟩ : S78)]) := ⟨_, rfl⟩
       replace H : (compositorref30_Discard.l0 k1 a1 x7_1 (wrap64 (x8_1 + 1)) a0_0 a0_1 a0_2 l0_3 a0_0 a0_1 a0_2 y143) = some (r1, r2, r3, r4, r5) := by first | (rw [hy143]; with_reducible exact H) | (have H2_ := (Option.bind_some _ _).symm.trans H; rw [hy143]; with_reducible exact H2_) | (have H2_ := (Option.bind_some _ _).symm.trans H; with_reducible exact H2_) | with_reducible exact H | (rw [hy143]; exact H) | exact H
       have Ny143 := Aside0.mk hy143
       clear hy143
       have H' := Aside0.mk H
       clear H
       have hnb20 := NB134_135.out
       have hnc20 := NB135_134.out
       have hnb21 := NB134_136.out
       have hnc21 := NB136_134.out
       have hcz22_0 : wr.cell? ⟨gb134, 0, none⟩ = some (.bool a0_0) := (blk_cell BK134.out 0).trans rfl
       have hcz22_1 : wr.cell? ⟨gb134, 1, none⟩ = some (.int .i64 a0_1) := (blk_cell BK134.out 1).trans rfl
       have hcz22_2 : wr.cell? ⟨gb134, 2, none⟩ = some (.int .i64 a0_2) := (blk_cell BK134.out 2).trans rfl
       have hcz22_3 : wr.cell? ⟨gb134, 3, none⟩ = some (.slice A0_3 l0_3.length c0_3) := (blk_cell BK134.out 3).trans rfl
       have hfz22_0 := blk_frozen BK134.out 0
       have hfz22_1 := blk_frozen BK134.out 1
       have hfz22_2 := blk_frozen BK134.out 2
       have hfz22_3 := blk_frozen BK134.out 3
       have p137 : 0 ≤ (x8_1 : Int) := of_decide_eq_true (by first | (with_reducible assumption) | assumption)
       have q137 : x8_1 < (l0_3.length : Int) := of_decide_eq_true (by first | (with_reducible assumption) | assumption)
       obtain ⟨ad137, A137_1, c137_1, e137, hx137_0, hx137_1, hl137_1, hi137_1⟩ := at_T78 (Kd.V_reads' HO_135003.out).2.2 x8_1 p137 q137
       cases e137
       obtain ⟨ce137, hce137, hMe137, hcc137⟩ := Kd.V_get HO_135003.out z78 x8_1 p137 (by first | exact q137 | exact of_decide_eq_true (by first | (with_reducible assumption) | assumption) | (have e_ := (Kd.V_reads' HO_135003.out).1; omega))
       obtain ⟨ua137_1, uc137_1, rfl, ul137_1, ge137_1⟩ := k78_openF hMe137
       have hv137_1 := hcc137 1 _ rfl
       rw [add_field _ _ 1 (by omega)] at hv137_1
       replace hv137_1 := Option.some.inj (hv137_1.symm.trans hx137_1)
       injection hv137_1 with hva_ hvn_ hvc_
       rw [hva_] at ge137_1
       rw [hvc_] at ul137_1
       have HL137_1 := Aside0.mk (show Kd.V (Kd.int .u32) 36 _ w.heap.size _ _ ((rd_T78 l0_3 x8_1).f1) from Kd.V_mk ul137_1 ge137_1)
       clear hva_ hvn_ hvc_ ge137_1 ul137_1
       clear hcc137 hce137
       have HR137_1 := Aside0.mk hi137_1
       have HC137_1 := Aside0.mk hl137_1
       clear hi137_1 hl137_1
       replace p137 := eq_true p137
       replace q137 := eq_true q137
       try go_wp2
       replace HO_7 := Aside0.mk (Kd.R_drew HO_7.out)
       replace HO_135003 := Aside0.mk (Kd.V_drew HO_135003.out)
       replace HO_137003 := Aside0.mk (Kd.N_drew HO_137003.out)
       replace HL137_1 := Aside0.mk (Kd.V_drew HL137_1.out)
       replace BK134 := Aside0.mk (blk_drew BK134.out)
       replace BK135 := Aside0.mk (blk_drew BK135.out)
       replace BK136 := Aside0.mk (blk_drew BK136.out)
       replace HR137_1 := Aside0.mk (Kd.C_drew HR137_1.out)
       replace HB := Aside0.mk (below_drew1 HB.out)
       have p142 : 0 ≤ (x8_1 : Int) := of_decide_eq_true (by first | (with_reducible assumption) | assumption)
       have q142 : x8_1 < (l0_3.length : Int) := of_decide_eq_true (by first | (with_reducible assumption) | assumption)
       obtain ⟨ad142, A142_1, c142_1, e142, hx142_0, hx142_1, hl142_1, hi142_1⟩ := at_T78 (Kd.V_reads' HO_135003.out).2.2 x8_1 p142 q142
       obtain rfl : ad137 = ad142 := (by injection e142)
       obtain ⟨ce142, hce142, hMe142, hcc142⟩ := Kd.V_get HO_135003.out z78 x8_1 p142 (by first | exact q142 | exact of_decide_eq_true (by first | (with_reducible assumption) | assumption) | (have e_ := (Kd.V_reads' HO_135003.out).1; omega))
       obtain ⟨ua142_1, uc142_1, rfl, ul142_1, ge142_1⟩ := k78_openF hMe142
       have hv142_1 := hcc142 1 _ rfl
       rw [add_field _ _ 1 (by omega)] at hv142_1
       replace hv142_1 := Option.some.inj (hv142_1.symm.trans hx142_1)
       injection hv142_1 with hva_ hvn_ hvc_
       rw [hva_] at ge142_1
       rw [hvc_] at ul142_1
       have HL142_1 := Aside0.mk (show Kd.V (Kd.int .u32) 36 _ w.heap.size _ _ ((rd_T78 l0_3 x8_1).f1) from Kd.V_mk ul142_1 ge142_1)
       clear hva_ hvn_ hvc_ ge142_1 ul142_1
       clear hcc142 hce142
       have HR142_1 := Aside0.mk hi142_1
       have HC142_1 := Aside0.mk hl142_1
       clear hi142_1 hl142_1
       replace p142 := eq_true p142
       replace q142 := eq_true q142
       refine start_ (n := 11) (S := fun w' => w'.cell? ⟨gb136, 0, none⟩ = some (.bool a0_0) ∧ w'.cell? ⟨gb136, 1, none⟩ = some (.int .i64 a0_1) ∧ w'.cell? ⟨gb136, 2, none⟩ = some (.int .i64 a0_2) ∧ w'.cell? ⟨gb136, 3, none⟩ = some (u137003) ∧ w'.cell? ⟨gb134, 0, none⟩ = some (.bool a0_0) ∧ w'.cell? ⟨gb134, 1, none⟩ = some (.int .i64 a0_1) ∧ w'.cell? ⟨gb134, 2, none⟩ = some (.int .i64 a0_2) ∧ w'.cell? ⟨gb134, 3, none⟩ = some (.slice (some ad137) l0_3.length c0_3) ∧ w'.cell? (ad137.add ((x8_1).toNat * 2)) = some (.int .i64 ((rd_T78 l0_3 x8_1).f0)) ∧ w'.cell? ⟨(ad137.add ((x8_1).toNat * 2)).block, (ad137.add ((x8_1).toNat * 2)).off + 1, none⟩ = some (.slice A142_1 ((rd_T78 l0_3 x8_1).f1).length c142_1)) (ds := [8, 10]) zq23.q0 (by kernel_rfl) rfl rfl ⟨(blk_cell BK136.out 0).trans rfl, (blk_cell BK136.out 1).trans rfl, (blk_cell BK136.out 2).trans rfl, (blk_cell BK136.out 3).trans rfl, (blk_cell BK134.out 0).trans rfl, (blk_cell BK134.out 1).trans rfl, (blk_cell BK134.out 2).trans rfl, (blk_cell BK134.out 3).trans rfl, hx142_0, hx142_1⟩ (fun hHeld => ?_); refine with_tabW compositorref30_Discard.tab9 compositorref30_Discard.bits9 (fun HT_ HW_ => ?_)
       generalize wr.drew = w23 at HO_7 HO_135003 HO_137003 HL137_1 BK134 BK135 BK136 HR137_1 HB HL142_1 HR142_1 hx142_0 hx142_1 hHeld ⊢
       refine pv_ 0 34 zq23.q1 HT_ ?_
       refine pv_ 2 36 zq23.q2 HT_ ?_
       refine pv_ 4 38 zq23.q3 HT_ ?_
       refine take_ (i := 1) (N := some 35) (v := ?_) (a' := ?_) zq23.q4 rfl rfl (take_ofW HT_.out HW_.out (by kernel_rfl)) (fun _ _ _ h => h) (Or.inl ⟨by rfl, ?_⟩) hHeld ?_ ?_
       rotate_left
       ·
        rintro w' ⟨s0, s1, s2, s3, s4, s5, s6, s7, s8, s9⟩
        go_simp
        with_reducible rfl
       rotate_left
       ·
        simp only [Act.put, List.setIfInBounds_toArray, List.set_cons_zero, List.set_cons_succ, i64_w, i32_w]
        rfl
       refine take_ (i := 3) (N := some 37) (v := ?_) (a' := ?_) zq23.q5 rfl rfl (take_ofW HT_.out HW_.out (by kernel_rfl)) (fun _ _ _ h => h) (Or.inl ⟨by rfl, ?_⟩) hHeld ?_ ?_
       rotate_left
       ·
        rintro w' ⟨s0, s1, s2, s3, s4, s5, s6, s7, s8, s9⟩
        go_simp
        with_reducible rfl
       rotate_left
       ·
        simp only [Act.put, List.setIfInBounds_toArray, List.set_cons_zero, List.set_cons_succ, i64_w, i32_w]
        rfl
       refine pv_ 5 39 zq23.q6 HT_ ?_
       refine take_ (i := 6) (N := some 40) (v := ?_) (a' := ?_) zq23.q7 rfl rfl (take_ofW HT_.out HW_.out (by kernel_rfl)) (fun _ _ _ h => h) (Or.inl ⟨by rfl, ?_⟩) hHeld ?_ ?_
       rotate_left
       ·
        rintro w' ⟨s0, s1, s2, s3, s4, s5, s6, s7, s8, s9⟩
        go_simp
        with_reducible rfl
       rotate_left
       ·
        simp only [Act.put, List.setIfInBounds_toArray, List.set_cons_zero, List.set_cons_succ, i64_w, i32_w]
        rfl
       refine one_ (i := 7) (N := some 41) zq23.q8 rfl rfl (one_of HT_.out (by kernel_rfl)) (by decide) (fun K hK => ?_)
       refine value_ (w1 := ?_) (v := ?_) (by rfl) rfl ?_ ?_
       rotate_left 2
       ·
        go_simp
        constructor
        ·
         rfl
        ·
         rfl
       refine hK.out _ _ ⟨(blk_cell (blk_alloc BK136.out _) 0).trans rfl, (blk_cell (blk_alloc BK136.out _) 1).trans rfl, (blk_cell (blk_alloc BK136.out _) 2).trans rfl, (blk_cell (blk_alloc BK136.out _) 3).trans rfl, (blk_cell (blk_alloc BK134.out _) 0).trans rfl, (blk_cell (blk_alloc BK134.out _) 1).trans rfl, (blk_cell (blk_alloc BK134.out _) 2).trans rfl, (blk_cell (blk_alloc BK134.out _) 3).trans rfl, (World.cell?_alloc_lt _ _ _ (World.block_lt_of_cell? _ _ (hHeld.2.2.2.2.2.2.2.2.1))).trans (hHeld.2.2.2.2.2.2.2.2.1), (World.cell?_alloc_lt _ _ _ (World.block_lt_of_cell? _ _ (hHeld.2.2.2.2.2.2.2.2.2))).trans (hHeld.2.2.2.2.2.2.2.2.2)⟩ (fun hHeld => ?_)
       clear hK K
       refine norm_ (a' := ?_) ?_ ?_
       rotate_left
       ·
        show Act.put _ (some 41) _ = _
        simp only [Act.put, List.setIfInBounds_toArray, List.set_cons_zero, List.set_cons_succ, i64_w, i32_w]
        rfl
       refine last_ (i := 8) (N := some 42) zq23.q9 rfl rfl (one_of HT_.out (by kernel_rfl)) (by decide) (fun K hK => ?_)
       refine Kd.N_append_step k78 (w0 := w) w.heap.size (by rfl) (.tmp 35) (.tmp 41) 49 78 (.agg #[(.int .i64 0), (.slice none 0 0)]) 32 rfl Try.underlying49 info78 rfl (by decide) (by omega) u137003 x137003_1 (⟨(rd_T78 l0_3 x8_1).f0, (rd_T78 l0_3 x8_1).f1⟩ : S78) [.int .i64 ((rd_T78 l0_3 x8_1).f0), .slice A142_1 ((rd_T78 l0_3 x8_1).f1).length c142_1] (fun k_ => (P0_3_ k_ ∨ w.heap.size ≤ k_) ∧ some k_ ≠ (u7 : Value).ownBlock ∧ k_ ≠ gb134 ∧ k_ ≠ gb135 ∧ k_ ≠ gb136) (fun k_ => ((fun k_ => (P0_3_ k_ ∨ w.heap.size ≤ k_) ∧ some k_ ≠ (u7 : Value).ownBlock ∧ k_ ≠ gb134 ∧ k_ ≠ gb135 ∧ k_ ≠ gb136)) k_ ∧ some k_ ≠ (u137003 : Value).ownBlock) rfl rfl ?aP (fun _ hk => hk) ?aF ?aO ?aB ?aS ?aL ?_
       (case aP => exact (k78_mkF _ _ (⟨(rd_T78 l0_3 x8_1).f0, (rd_T78 l0_3 x8_1).f1⟩ : S78) (Kd.V_reads' (Kd.V_mono (ok' := (fun k_ => ((fun k_ => (P0_3_ k_ ∨ w.heap.size ≤ k_) ∧ some k_ ≠ (u7 : Value).ownBlock ∧ k_ ≠ gb134 ∧ k_ ≠ gb135 ∧ k_ ≠ gb136)) k_ ∧ some k_ ≠ (u137003 : Value).ownBlock)) (HL142_1.out) (fun k_ hk => ⟨⟨hk.1, ⟨hk.2.1, ⟨hk.2.2.2.1, ⟨hk.2.2.2.2.1, hk.2.2.2.2.2⟩⟩⟩⟩, hk.2.2.1⟩))).2.1 (Kd.V_F (Kd.V_mono (ok' := (fun k_ => ((fun k_ => (P0_3_ k_ ∨ w.heap.size ≤ k_) ∧ some k_ ≠ (u7 : Value).ownBlock ∧ k_ ≠ gb134 ∧ k_ ≠ gb135 ∧ k_ ≠ gb136)) k_ ∧ some k_ ≠ (u137003 : Value).ownBlock)) (HL142_1.out) (fun k_ hk => ⟨⟨hk.1, ⟨hk.2.1, ⟨hk.2.2.2.1, ⟨hk.2.2.2.2.1, hk.2.2.2.2.2⟩⟩⟩⟩, hk.2.2.1⟩)))))
       (case aB => exact (hq_ HB))
       (case aF => exact (fun k_ hk => ⟨(.inr (Nat.le_trans (below_size (hq_ HB)) hk)), Kd.fresh' (Kd.R_lt (by (with_reducible repeat (first | apply Kd.R_alloc | apply Kd.R_drewN | apply Kd.R_drew)); exact HO_7.out)) k_ hk, Kd.freshB (g := gb134) (o := .cells #[.bool a0_0, .int .i64 a0_1, .int .i64 a0_2, .slice (some ad137) l0_3.length c0_3] 51 (0, 0)) (bq_ BK134) k_ hk, Kd.freshB (g := gb135) (o := .cells #[.bool false, .int .i64 0, .int .i64 0, .slice none 0 0] 51 (0, 0)) (bq_ BK135) k_ hk, Kd.freshB (g := gb136) (o := .cells #[.bool a0_0, .int .i64 a0_1, .int .i64 a0_2, u137003] 51 (0, 0)) (bq_ BK136) k_ hk⟩))
       (case aO => exact (by (with_reducible repeat (first | apply Kd.N_alloc | apply Kd.N_drewN | apply Kd.N_drew)); exact HO_137003.out))
       (case aS => exact (below_size (hq_ HB)))
       (case aL => have := LMc19.out; omega)
       intro v144 w24 ho hb hg hat
       rw [← Ny143.out] at ho
       replace HO_7 := Aside0.mk (Kd.R_over' (by (with_reducible repeat (first | apply Kd.R_alloc | apply Kd.R_drewN | apply Kd.R_drew)); exact HO_7.out) (Kd.N_typed (by (with_reducible repeat (first | apply Kd.N_alloc | apply Kd.N_drewN | apply Kd.N_drew)); exact HO_137003.out)) (by decide) hg)
       replace HO_135003 := Aside0.mk (Kd.V_afterv (ok := (fun k_ => (P0_3_ k_ ∨ w.heap.size ≤ k_) ∧ some k_ ≠ (u7 : Value).ownBlock ∧ k_ ≠ gb134 ∧ k_ ≠ gb135 ∧ k_ ≠ gb136)) (by (with_reducible repeat (first | apply Kd.V_alloc | apply Kd.V_drewN | apply Kd.V_drew)); exact Kd.V_mono HO_135003.out (fun _ hk => ⟨⟨hk.1, ⟨hk.2.1, ⟨hk.2.2.2.1, ⟨hk.2.2.2.2.1, hk.2.2.2.2.2⟩⟩⟩⟩, hk.2.2.1⟩)) hg hat)
       replace BK134 := Aside0.mk (blk_grown (g := gb134) (o := .cells #[.bool a0_0, .int .i64 a0_1, .int .i64 a0_2, .slice (some ad137) l0_3.length c0_3] 51 (0, 0)) (bq_ BK134) hg (Kd.N_ne HO_137003.out BK134.out (by decide)))
       replace BK135 := Aside0.mk (blk_grown (g := gb135) (o := .cells #[.bool false, .int .i64 0, .int .i64 0, .slice none 0 0] 51 (0, 0)) (bq_ BK135) hg (Kd.N_ne HO_137003.out BK135.out (by decide)))
       replace BK136 := Aside0.mk (blk_grown (g := gb136) (o := .cells #[.bool a0_0, .int .i64 a0_1, .int .i64 a0_2, u137003] 51 (0, 0)) (bq_ BK136) hg (Kd.N_ne HO_137003.out BK136.out (by decide)))
       replace HL137_1 := Aside0.mk (Kd.V_afterv (ok := (fun k_ => (P0_3_ k_ ∨ w.heap.size ≤ k_) ∧ some k_ ≠ (u7 : Value).ownBlock ∧ k_ ≠ gb134 ∧ k_ ≠ gb135 ∧ k_ ≠ gb136)) (by (with_reducible repeat (first | apply Kd.V_alloc | apply Kd.V_drewN | apply Kd.V_drew)); exact Kd.V_mono HL137_1.out (fun _ hk => ⟨⟨hk.1, ⟨hk.2.1, ⟨hk.2.2.2.1, ⟨hk.2.2.2.2.1, hk.2.2.2.2.2⟩⟩⟩⟩, hk.2.2.1⟩)) hg hat)
       replace HL142_1 := Aside0.mk (Kd.V_afterv (ok := (fun k_ => (P0_3_ k_ ∨ w.heap.size ≤ k_) ∧ some k_ ≠ (u7 : Value).ownBlock ∧ k_ ≠ gb134 ∧ k_ ≠ gb135 ∧ k_ ≠ gb136)) (by (with_reducible repeat (first | apply Kd.V_alloc | apply Kd.V_drewN | apply Kd.V_drew)); exact Kd.V_mono HL142_1.out (fun _ hk => ⟨⟨hk.1, ⟨hk.2.1, ⟨hk.2.2.2.1, ⟨hk.2.2.2.2.1, hk.2.2.2.2.2⟩⟩⟩⟩, hk.2.2.1⟩)) hg hat)
       replace HB := Aside0.mk (hb)
       have HO145 := Aside0.mk (ho)
       clear HO_137003
       clear ho hb hg hat
       obtain ⟨Ao25, co25, eo25⟩ := Kd.N_slice HO145.out
       (first | subst eo25 | (injection eo25 with f1_ f2_ f3_; have f4_ := f1_.symm; have f5_ := f3_.symm; clear f1_ f2_ f3_; subst f4_; subst f5_))
       refine hK.out _ _ ?_
       clear hK K
       refine norm_ (a' := ?_) ?_ ?_
       rotate_left
       ·
        show Act.put _ (some 42) _ = _
        simp only [Act.put, List.setIfInBounds_toArray, List.set_cons_zero, List.set_cons_succ, i64_w, i32_w]
        rfl
       refine pv_ 9 43 zq23.q10 HT_ ?_
       refine last_ (i := 10) (N := none) zq23.q11 rfl rfl (one_of HT_.out (by kernel_rfl)) (by decide) (fun K hK => ?_)
       have hs26 : w24.cell? ⟨gb136, 3, none⟩ = some (u137003) := (blk_cell BK136.out 3).trans rfl
       have hfs26 := blk_frozen BK136.out 3
       have hns26_0 := NB134_136.out
       have hns26_1 := NB135_136.out
       have hms26_0 := NB136_134.out
       have hms26_1 := NB136_135.out
       refine skip_ (w1 := ?_) (by rfl) rfl ?_ ?_
       rotate_left
       ·
        go_simp
        rfl
       refine hK.out _ _ ?_
       clear hK K
       refine done_ (done_of HT_.out (by kernel_rfl)) ?_
       try go_wp2
       go_roundg k1
       case measure => have := HK1.out; omega
       case rel => exact ⟨(x7_1), (wrap64 (x8_1 + 1)), (y143), (.slice Ao25 y143.length co25), (by first | rfl | (simp; done) | (simp [*]; done)), H', ⟨by have := HK1.out; omega⟩, ⟨by (with_reducible repeat (first | apply Kd.R_alloc | apply Kd.R_drewN | apply Kd.R_drew)); exact Kd.R_mono (Kd.R_far (p := ⟨gb136, 3, none⟩) (Kd.R_types HO_7.out BK136.out (by decide)) (fun _ hk => hk.2) (.slice Ao25 y143.length co25)) (fun _ hk => hk.1)⟩, ⟨by (with_reducible repeat (first | apply Kd.V_alloc | apply Kd.V_drewN | apply Kd.V_drew)); exact Kd.V_mono (Kd.V_far (p := ⟨gb136, 3, none⟩) (Kd.V_mono HO_135003.out (fun k_ hk => (⟨hk, hk.1.2.2.2.2⟩ : _ ∧ k_ ≠ gb136))) (fun _ hk => hk.2) (.slice Ao25 y143.length co25)) (fun _ hk => ⟨hk.1.1.1, ⟨hk.1.1.2.1, ⟨hk.1.2, ⟨hk.1.1.2.2.1, ⟨hk.1.1.2.2.2.1, hk.1.1.2.2.2.2⟩⟩⟩⟩⟩)⟩, ⟨by (with_reducible repeat (first | apply Kd.N_alloc | apply Kd.N_drewN | apply Kd.N_drew)); exact Kd.N_mono (Kd.N_far (p := ⟨gb136, 3, none⟩) (Kd.N_mono HO145.out (fun k_ hk => (⟨hk, hk.2.2.2.2⟩ : _ ∧ k_ ≠ gb136))) (fun _ hk => hk.2) (.slice Ao25 y143.length co25)) (fun _ hk => ⟨hk.1.1, ⟨hk.1.2.1, ⟨hk.1.2.2.1, ⟨hk.1.2.2.2.1, hk.1.2.2.2.2⟩⟩⟩⟩)⟩, bf_ BK134, bf_ BK135, ⟨by (with_reducible repeat (first | refine blk_drewN ?_ _ | refine blk_drew ?_ | refine blk_alloc ?_ _)); refine blk_put (cs := #[.bool a0_0, .int .i64 a0_1, .int .i64 a0_2, u137003]) ?_ 3 _ rfl; (with_reducible repeat (first | refine blk_drewN ?_ _ | refine blk_drew ?_ | refine blk_alloc ?_ _)); exact BK136.out⟩, ⟨by repeat (first | (with_reducible first | exact HB.out | apply below_alloc | apply pw_below_drewN | apply below_drew1 | refine below_set ?_ GE134.out | refine below_set ?_ GE135.out | refine below_set ?_ GE136.out) | exact HB.out)⟩⟩
      ·
       rw [if_neg c19] at H
       exact absurd H (by simp)
    ·
     rw [if_neg c12] at H
     exact absurd H (by simp)
   ·
    rw [if_neg c11] at H
    have c11b0 : decide (x8_1 < (l0_3.length : Int)) = false := decide_eq_false c11
    clear c11
    simp only [Option.some.injEq, Prod.mk.injEq] at H
    obtain ⟨rfl, rfl, rfl, rfl, rfl⟩ := H
    have hnb27 := NB134_135.out
    have hnc27 := NB135_134.out
    have hnb28 := NB134_136.out
    have hnc28 := NB136_134.out
    have hcz29_0 : wr.cell? ⟨gb134, 0, none⟩ = some (.bool a0_0) := (blk_cell BK134.out 0).trans rfl
    have hcz29_1 : wr.cell? ⟨gb134, 1, none⟩ = some (.int .i64 a0_1) := (blk_cell BK134.out 1).trans rfl
    have hcz29_2 : wr.cell? ⟨gb134, 2, none⟩ = some (.int .i64 a0_2) := (blk_cell BK134.out 2).trans rfl
    have hcz29_3 : wr.cell? ⟨gb134, 3, none⟩ = some (.slice A0_3 l0_3.length c0_3) := (blk_cell BK134.out 3).trans rfl
    have hfz29_0 := blk_frozen BK134.out 0
    have hfz29_1 := blk_frozen BK134.out 1
    have hfz29_2 := blk_frozen BK134.out 2
    have hfz29_3 := blk_frozen BK134.out 3
    have hnb30 := NB136_135.out
    have hnc30 := NB135_136.out
    have hcz31_0 : wr.cell? ⟨gb136, 0, none⟩ = some (.bool a0_0) := (blk_cell BK136.out 0).trans rfl
    have hcz31_1 : wr.cell? ⟨gb136, 1, none⟩ = some (.int .i64 a0_1) := (blk_cell BK136.out 1).trans rfl
    have hcz31_2 : wr.cell? ⟨gb136, 2, none⟩ = some (.int .i64 a0_2) := (blk_cell BK136.out 2).trans rfl
    have hcz31_3 : wr.cell? ⟨gb136, 3, none⟩ = some (u137003) := (blk_cell BK136.out 3).trans rfl
    have hfz31_0 := blk_frozen BK136.out 0
    have hfz31_1 := blk_frozen BK136.out 1
    have hfz31_2 := blk_frozen BK136.out 2
    have hfz31_3 := blk_frozen BK136.out 3
    have hcz32_0 : wr.cell? ⟨gb135, 0, none⟩ = some (.bool false) := (blk_cell BK135.out 0).trans rfl
    have hcz32_1 : wr.cell? ⟨gb135, 1, none⟩ = some (.int .i64 0) := (blk_cell BK135.out 1).trans rfl
    have hcz32_2 : wr.cell? ⟨gb135, 2, none⟩ = some (.int .i64 0) := (blk_cell BK135.out 2).trans rfl
    have hcz32_3 : wr.cell? ⟨gb135, 3, none⟩ = some (.slice none 0 0) := (blk_cell BK135.out 3).trans rfl
    have hfz32_0 := blk_frozen BK135.out 0
    have hfz32_1 := blk_frozen BK135.out 1
    have hfz32_2 := blk_frozen BK135.out 2
    have hfz32_3 := blk_frozen BK135.out 3
    obtain ⟨Ao33, co33, eo33⟩ := Kd.N_slice HO_137003.out
    subst eo33
    go_wp2
    refine bodyPost_ret (results_ct rfl _ _ gb135 51 #[.bool a0_0, .int .i64 a0_1, .int .i64 a0_2, .slice Ao33 x137003_1.length co33] (0, 0) _ rfl (by (with_reducible repeat (first | refine blk_drewN ?_ _ | refine blk_drew ?_ | refine blk_alloc ?_ _)); refine blk_put (cs := #[.bool a0_0, .int .i64 a0_1, .int .i64 a0_2, .slice none 0 0]) ?_ 3 _ rfl; (with_reducible repeat (first | refine blk_drewN ?_ _ | refine blk_drew ?_ | refine blk_alloc ?_ _)); refine blk_put (cs := #[.bool a0_0, .int .i64 a0_1, .int .i64 0, .slice none 0 0]) ?_ 2 _ rfl; (with_reducible repeat (first | refine blk_drewN ?_ _ | refine blk_drew ?_ | refine blk_alloc ?_ _)); refine blk_put (cs := #[.bool a0_0, .int .i64 0, .int .i64 0, .slice none 0 0]) ?_ 1 _ rfl; (with_reducible repeat (first | refine blk_drewN ?_ _ | refine blk_drew ?_ | refine blk_alloc ?_ _)); refine blk_put (cs := #[.bool false, .int .i64 0, .int .i64 0, .slice none 0 0]) ?_ 0 _ rfl; (with_reducible repeat (first | refine blk_drewN ?_ _ | refine blk_drew ?_ | refine blk_alloc ?_ _)); exact BK135.out) Try.underlying51 rfl (by kernel_rfl)) rfl ?_
    exact ⟨_, _, by first | rfl | (simp [errW_none, errW_some] <;> rfl) | (simp [*, errW_none, errW_some] <;> rfl), by (with_reducible repeat (first | apply Kd.N_alloc | apply Kd.N_drewN | apply Kd.N_drew)); exact Kd.N_mono (Kd.N_far (p := ⟨gb135, 3, none⟩) (Kd.N_far (p := ⟨gb135, 2, none⟩) (Kd.N_far (p := ⟨gb135, 1, none⟩) (Kd.N_far (p := ⟨gb135, 0, none⟩) (Kd.N_mono HO_137003.out (fun k_ hk => (⟨hk, hk.2.2.2.1⟩ : _ ∧ k_ ≠ gb135))) (fun _ hk => hk.2) (.bool a0_0)) (fun _ hk => hk.2) (.int .i64 a0_1)) (fun _ hk => hk.2) (.int .i64 a0_2)) (fun _ hk => hk.2) (.slice Ao33 x137003_1.length co33)) (fun _ hk => ⟨hk.1.1, hk.1.2.1⟩), by (with_reducible repeat (first | apply Kd.R_alloc | apply Kd.R_drewN | apply Kd.R_drew)); exact Kd.R_mono (Kd.R_far (p := ⟨gb135, 3, none⟩) (Kd.R_far (p := ⟨gb135, 2, none⟩) (Kd.R_far (p := ⟨gb135, 1, none⟩) (Kd.R_far (p := ⟨gb135, 0, none⟩) (Kd.R_types HO_7.out BK135.out (by decide)) (fun _ hk => hk.2) (.bool a0_0)) (fun _ hk => hk.2) (.int .i64 a0_1)) (fun _ hk => hk.2) (.int .i64 a0_2)) (fun _ hk => hk.2) (.slice Ao33 x137003_1.length co33)) (fun _ hk => hk.1), by repeat (first | (with_reducible first | exact HB.out | apply below_alloc | apply pw_below_drewN | apply below_drew1 | refine below_set ?_ GE134.out | refine below_set ?_ GE135.out | refine below_set ?_ GE136.out) | exact HB.out)⟩
end Go.Proofs.Ytmkhphkkpdiliaa.All
end
section
namespace Go.Proofs.Ytmkhphkkpdiliaa.All
open Go.RowKit Go.Proofs.YtmkhphkkpdiliaaW.PrintWords Go.Proofs.YtmkhphkkpdiliaaW.PrintLast Go.Proofs.YtmkhphkkpdiliaaW.PrintMore
attribute [local go_sem] max2_int min2_int max_two min_two max_three min_three max_four min_four
set_option linter.unusedVariables false
set_option linter.unusedSimpArgs false
def compositorlaw30_numbers.l0 : Nat → List Int → List Int → Int → Option (Bool)
  | 0, _, _, _ => none
  | k + 1, x0, x1, x5 => if x5 < (x0.length : Int) then (if 0 ≤ x5 then (if x5 < (x1.length : Int) then (if (rd x0 x5) = (rd x1 x5) then (compositorlaw30_numbers.l0 k x0 x1 (wrap64 (x5 + 1))) else (some false)) else (none)) else (none)) else (some true)
def compositorlaw30_numbers.f (k : Nat) (l0 : List Int) (l1 : List Int) : Option (Bool) := if (l0.length : Int) = (l1.length : Int) then (compositorlaw30_numbers.l0 k l0 l1 0) else (some false)
set_option maxHeartbeats 8000000 in
set_option maxRecDepth 100000 in
theorem compositorlaw30_numbers.calls (k : Nat) (A0 : Option Addr) (c0 : Nat) (l0 : List Int) (A1 : Option Addr) (c1 : Nat) (l1 : List Int) (r : Bool) (w : World) (hr0 : Kd.C (Kd.int .u32) w A0 l0.length l0) (hc0 : l0.length ≤ c0) (hr1 : Kd.C (Kd.int .u32) w A1 l1.length l1) (hc1 : l1.length ≤ c1) (h : compositorlaw30_numbers.f k l0 l1 = some r) :
    Calls Try.prog 24 #[.slice A0 l0.length c0, .slice A1 l1.length c1] w fun e w' => e = .returned (.bool r) ∧ Drawn0 w w' := by
  have HR0 := Aside0.mk hr0
  have HC0 := Aside0.mk hc0
  clear hr0 hc0
  have HR1 := Aside0.mk hr1
  have HC1 := Aside0.mk hc1
  clear hr1 hc1
  have H : (if (l0.length : Int) = (l1.length : Int) then (compositorlaw30_numbers.l0 k l0 l1 0) else (some false)) = some r := h
  clear h
  by_cases c3 : (l0.length : Int) = (l1.length : Int)
  · rw [if_pos c3] at H
    have c3b0 : ((l0.length : Int) == (l1.length : Int)) = true := beq_iff_eq.mpr c3
    have c3b1 : ((l0.length : Int) != (l1.length : Int)) = false := bne_eq_false_iff_eq.mpr c3
    have c3b2 : (l0.length == l1.length) = true := by first | simpa using c3 | (simp at c3 ⊢; omega)
    clear c3
    have H' := Aside0.mk H
    clear H
    go_enter Try.func24, Try.ntmps24
    go_wp2
    repeat (go_quiet (fail); try go_wp2)
    go_loopg [5] k (fun kq v5 w' => ∃ (x5_1 : Int), v5 = .int .i64 x5_1 ∧ Aside0 (compositorlaw30_numbers.l0 kq l0 l1 x5_1 = some r) ∧ Aside0 (kq ≤ k) ∧ Drawn0 w w')
    case atStart => exact ⟨(0), (by first | rfl | (simp; done) | (simp [*]; done)), H', ⟨Nat.le_refl _⟩, by repeat (first | exact Drawn0.refl _ | apply Drawn0.step)⟩
    case round =>
      clear H'
      try clear c1
      try clear c2
      try clear p2
      try clear c3
      try clear c3b0
      try clear c3b1
      try clear c3b2
      obtain ⟨x5_1, rfl, HA, HK1, ⟨m1, rfl⟩⟩ := hrel
      cases gk with
      | zero => exact absurd HA.out (by simp [compositorlaw30_numbers.l0])
      | succ k1 =>
        have H := HA.out
        clear HA
        simp only [compositorlaw30_numbers.l0] at H
        by_cases c4 : x5_1 < (l0.length : Int)
        · rw [if_pos c4] at H
          have c4b0 : decide (x5_1 < (l0.length : Int)) = true := decide_eq_true c4
          clear c4
          by_cases c5 : 0 ≤ x5_1
          · rw [if_pos c5] at H
            have c5b0 : decide (0 ≤ x5_1) = true := decide_eq_true c5
            clear c5
            by_cases c6 : x5_1 < (l1.length : Int)
            · rw [if_pos c6] at H
              have c6b0 : decide (x5_1 < (l1.length : Int)) = true := decide_eq_true c6
              clear c6
              by_cases c7 : (rd l0 x5_1) = (rd l1 x5_1)
              · rw [if_pos c7] at H
                have c7b0 : ((rd l0 x5_1) == (rd l1 x5_1)) = true := beq_iff_eq.mpr c7
                have c7b1 : ((rd l0 x5_1) != (rd l1 x5_1)) = false := bne_eq_false_iff_eq.mpr c7
                clear c7
                have H' := Aside0.mk H
                clear H
                have p146 : 0 ≤ (x5_1 : Int) := of_decide_eq_true (by first | (with_reducible assumption) | assumption)
                have q146 : x5_1 < (l0.length : Int) := of_decide_eq_true (by first | (with_reducible assumption) | assumption)
                obtain ⟨ad146, e146, hx146_0⟩ := Kd.at_int HR0.out x5_1 p146 q146
                cases e146
                replace p146 := eq_true p146
                replace q146 := eq_true q146
                have p147 : 0 ≤ (x5_1 : Int) := of_decide_eq_true (by first | (with_reducible assumption) | assumption)
                have q147 : x5_1 < (l1.length : Int) := of_decide_eq_true (by first | (with_reducible assumption) | assumption)
                obtain ⟨ad147, e147, hx147_0⟩ := Kd.at_int HR1.out x5_1 p147 q147
                cases e147
                replace p147 := eq_true p147
                replace q147 := eq_true q147
                go_wp2
                repeat (go_quiet (fail); try go_wp2)
                go_roundg k1
                case measure => have := HK1.out; omega
                case rel => exact ⟨(wrap64 (x5_1 + 1)), (by first | rfl | (simp; done) | (simp [*]; done)), H', ⟨by have := HK1.out; omega⟩, by repeat (first | exact Drawn0.refl _ | apply Drawn0.step)⟩
              · rw [if_neg c7] at H
                have c7b0 : ((rd l0 x5_1) == (rd l1 x5_1)) = false := beq_eq_false_iff_ne.mpr c7
                have c7b1 : ((rd l0 x5_1) != (rd l1 x5_1)) = true := bne_iff_ne.mpr c7
                obtain rfl := Option.some.inj H
                have p146 : 0 ≤ (x5_1 : Int) := of_decide_eq_true (by first | (with_reducible assumption) | assumption)
                have q146 : x5_1 < (l0.length : Int) := of_decide_eq_true (by first | (with_reducible assumption) | assumption)
                obtain ⟨ad146, e146, hx146_0⟩ := Kd.at_int HR0.out x5_1 p146 q146
                cases e146
                replace p146 := eq_true p146
                replace q146 := eq_true q146
                have p147 : 0 ≤ (x5_1 : Int) := of_decide_eq_true (by first | (with_reducible assumption) | assumption)
                have q147 : x5_1 < (l1.length : Int) := of_decide_eq_true (by first | (with_reducible assumption) | assumption)
                obtain ⟨ad147, e147, hx147_0⟩ := Kd.at_int HR1.out x5_1 p147 q147
                cases e147
                replace p147 := eq_true p147
                replace q147 := eq_true q147
                go_wp2
                repeat (go_quiet (fail); try go_wp2)
                go_ret
                exact ⟨by first | rfl | (simp; done) | (simp [*]; done), by repeat (first | exact Drawn0.refl _ | apply Drawn0.step)⟩
            · rw [if_neg c6] at H
              exact absurd H (by simp)
          · rw [if_neg c5] at H
            exact absurd H (by simp)
        · rw [if_neg c4] at H
          have c4b0 : decide (x5_1 < (l0.length : Int)) = false := decide_eq_false c4
          clear c4
          obtain rfl := Option.some.inj H
          go_wp2
          repeat (go_quiet (fail); try go_wp2)
          go_ret
          exact ⟨by first | rfl | (simp; done) | (simp [*]; done), by repeat (first | exact Drawn0.refl _ | apply Drawn0.step)⟩
  · rw [if_neg c3] at H
    have c3b0 : ((l0.length : Int) == (l1.length : Int)) = false := beq_eq_false_iff_ne.mpr c3
    have c3b1 : ((l0.length : Int) != (l1.length : Int)) = true := bne_iff_ne.mpr c3
    have c3b2 : (l0.length == l1.length) = false := by first | simpa using c3 | (simp at c3 ⊢; omega)
    obtain rfl := Option.some.inj H
    go_enter Try.func24, Try.ntmps24
    go_wp2
    repeat (go_quiet (fail); try go_wp2)
    go_ret
    exact ⟨by first | rfl | (simp; done) | (simp [*]; done), by repeat (first | exact Drawn0.refl _ | apply Drawn0.step)⟩
end Go.Proofs.Ytmkhphkkpdiliaa.All
end
section
namespace Go.Proofs.Ytmkhphkkpdiliaa.All
open Go.Proofs.YtmkhphkkpdiliaaSq
open Go.RowKit Go.Proofs.YtmkhphkkpdiliaaW.PrintWords Go.Proofs.YtmkhphkkpdiliaaW.PrintLast Go.Proofs.YtmkhphkkpdiliaaW.PrintMore
attribute [local go_sem] max2_int min2_int max_two min_two max_three min_three max_four min_four
set_option linter.unusedVariables false
set_option linter.unusedSimpArgs false
section
open Go.Proofs.YtmkhphkkpdiliaaHand Go.Proofs.YtmkhphkkpdiliaaSq
set_option maxHeartbeats 8000000 in
set_option maxRecDepth 100000 in
theorem commit_okP (w0 w : World) (g : Nat) (iv now s : Int) (vq : Value) (q : List S78) (A2 : Option Addr) (c2 : Nat) (l2 : List Int) (P : Nat → Prop) (hK : Clk w0 w g iv now vq q) (hNP : Kd.N k78 75 w w0.heap.size (fun k => (w0.heap.size ≤ k ∧ k ≠ g) ∧ P k) vq q) (hP : ∀ k, w.heap.size ≤ k → P k) (hiv : 1 ≤ iv) (hs : 1 ≤ s) (hq : q.length < 256) (hl : l2.length ≤ 256) (hr2 : Kd.C (Kd.int .u32) w A2 l2.length l2) (hc2 : l2.length ≤ c2) :
    Calls Try.prog 16 #[.pointer (some ⟨g, 0, none⟩), .int .i64 s, .slice A2 l2.length c2] w fun e w' => e = .returned (.int .i64 0) ∧ ∃ vq', Clk w0 w' g iv now vq' (q ++ [⟨s, l2⟩]) ∧ Kd.N k78 75 w' w0.heap.size (fun k => (w0.heap.size ≤ k ∧ k ≠ g) ∧ P k) vq' (q ++ [⟨s, l2⟩]) ∧ Stp w w' g vq vq' := by
  have hu69 := Try.underlying69
  obtain ⟨Aq, cq, rfl⟩ := Kd.N_slice hK.own
  have hh := Aside0.mk hK.cells
  have c2_ := hh.out.2.2.1
  have f2_ := hh.out.2.2.2
  have HK := Aside0.mk hK
  have HNP := Aside0.mk (And.intro hNP hP)
  clear hNP hP
  have HR2 := Aside0.mk (And.intro hr2 hc2)
  have hiv' := Aside0.mk hiv
  have HQ := Aside0.mk (And.intro hq hl)
  have d0 : decide (s < 1) = false := decide_eq_false (by omega)
  have d1 : decide (256 ≤ q.length) = false := decide_eq_false (by omega)
  have d2 : decide (256 ≤ (q.length : Int)) = false := decide_eq_false (by omega)
  have d3 : decide (256 < l2.length) = false := decide_eq_false (by omega)
  have d4 : decide (256 < (l2.length : Int)) = false := decide_eq_false (by omega)
  clear hK hs hq hl hr2 hc2
  go_enter Try.func16, Try.ntmps16
  go_wp2_with (first | (go_at_call 36; (with_reducible refine (usable_ok _ g iv (by exact hh.out.1.1) (by exact hh.out.1.2) hiv'.out).mono ?_); rintro e w' ⟨rfl, ⟨nd, rfl⟩⟩))
  clear c2_ f2_
  obtain ⟨W, hW⟩ : ∃ W, W = (w.drewN nd).drew := ⟨_, rfl⟩
  have hbW : Aside0 (Below w.heap.size w W) := ⟨by rw [hW]; exact below_drew1 (pw_below_drewN (Below.refl _ _) _)⟩
  have HKW : Aside0 (Clk w0 W g iv now (.slice Aq q.length cq) q) := ⟨by rw [hW]; exact (HK.out.drewN nd).drew⟩
  refine start_ (n := 14) (S := fun w' => w'.cell? ⟨g, 2, none⟩ = some (.slice Aq q.length cq) ∧ w'.frozen? ⟨g, 2, none⟩ = false) (ds := [13]) #[false, false, false, false, false, false, false, false, false, false, false, false, false, false] (by kernel_rfl) rfl rfl (by rw [← hW]; exact ⟨HKW.out.cells.2.2.1, HKW.out.cells.2.2.2⟩) (fun hHeld => ?_)
  rw [← hW] at hHeld ⊢
  have HT_ : Aside0 (rtab .any (opsOf Try.f16 7) = rtab .any (opsOf Try.f16 7)) := ⟨rfl⟩
  refine pv_ 0 26 #[true, false, false, false, false, false, false, false, false, false, false, false, false, false] HT_ ?_
  refine pv_ 1 27 #[true, true, false, false, false, false, false, false, false, false, false, false, false, false] HT_ ?_
  refine pv_ 2 28 #[true, true, true, false, false, false, false, false, false, false, false, false, false, false] HT_ ?_
  refine pv_ 3 29 #[true, true, true, true, false, false, false, false, false, false, false, false, false, false] HT_ ?_
  refine pv_ 5 31 #[true, true, true, true, false, true, false, false, false, false, false, false, false, false] HT_ ?_
  refine pv_ 6 32 #[true, true, true, true, false, true, true, false, false, false, false, false, false, false] HT_ ?_
  refine take_ (i := 4) (N := some 30) (v := ?_) (a' := ?_) #[true, true, true, true, true, true, true, false, false, false, false, false, false, false] rfl rfl (take_of HT_.out (by kernel_rfl)) (fun _ _ _ h => h) (Or.inl ⟨by rfl, ?_⟩) hHeld ?_ ?_
  rotate_left
  · rintro w' ⟨s0, s1⟩
    go_simp
    with_reducible rfl
  rotate_left
  · simp only [Act.put, List.setIfInBounds_toArray, List.set_cons_zero, List.set_cons_succ, i64_w, i32_w]
    rfl
  refine one_ (i := 7) (N := some 33) #[true, true, true, true, true, true, true, true, false, false, false, false, false, false] rfl rfl (one_of HT_.out (by kernel_rfl)) (by decide) (fun K hK => ?_)
  refine Kd.R_append_rows_step (Kd.int .u32) (w0 := w) w.heap.size (by rfl) (.const (.slice none 0 0)) (.tmp 32) 37 36 (.int .u32 0) 4 rfl Try.underlying37 info36 rfl (by decide) (by omega) (.slice none 0 0) [] l2 A2 l2.length c2 (fun k => w.heap.size ≤ k) (fun _ => False) rfl rfl (Kd.R_nil _ _ _ _ _) (Kd.C_below HR2.out.1 hbW.out) (fun x cs h => h) (fun _ h => h.elim) (fun k hk => Nat.le_trans hbW.out.size hk) hbW.out hbW.out.size (by have := HQ.out.2; rw [List.length_nil]; omega) ?_
  rw [List.nil_append]
  intro v1 w1 hv1 hb1 _ hat1
  obtain ⟨A1, c1, e1⟩ := Kd.R_slice hv1
  subst e1
  have HV1 := Aside0.mk hv1
  have HB1 := Aside0.mk hb1
  have HK1 := Aside0.mk (HK.out.after hb1)
  clear hv1 hb1 hat1
  refine hK.out _ _ ⟨HK1.out.cells.2.2.1, HK1.out.cells.2.2.2⟩ (fun hHeld => ?_)
  clear hK K
  refine norm_ (a' := ?_) ?_ ?_
  rotate_left
  · show Act.put _ (some 33) _ = _
    simp only [Act.put, List.setIfInBounds_toArray, List.set_cons_zero, List.set_cons_succ, i64_w, i32_w]
    rfl
  refine pv_ 8 34 #[true, true, true, true, true, true, true, true, true, false, false, false, false, false] HT_ ?_
  refine one_ (i := 9) (N := some 35) #[true, true, true, true, true, true, true, true, true, true, false, false, false, false] rfl rfl (one_of HT_.out (by kernel_rfl)) (by decide) (fun K hK => ?_)
  refine event_step (by rfl) (v := .slice (some ⟨w1.heap.size, 0, none⟩) 1 1) (w1 := w1.alloc (.cells #[.int .i64 s, .slice A1 l2.length c1] 75 (0, 0))) ?hr ?_
  case hr => first | (go_simp; done) | (go_simp; rfl)
  refine hK.out _ _ ⟨(HK1.out.after (below_alloc (Below.refl _ _) _)).cells.2.2.1, (HK1.out.after (below_alloc (Below.refl _ _) _)).cells.2.2.2⟩ (fun hHeld => ?_)
  clear hK K
  refine norm_ (a' := ?_) ?_ ?_
  rotate_left
  · show Act.put _ (some 35) _ = _
    simp only [Act.put, List.setIfInBounds_toArray, List.set_cons_zero, List.set_cons_succ, i64_w, i32_w]
    rfl
  refine one_ (i := 10) (N := some 36) #[true, true, true, true, true, true, true, true, true, true, true, false, false, false] rfl rfl (one_of HT_.out (by kernel_rfl)) (by decide) (fun K hK => ?_)
  refine Kd.N_append_step k78 (w0 := w0) w0.heap.size (by rfl) (.tmp 30) (.tmp 35) 67 75 (.agg #[(.int .i64 0), (.slice none 0 0)]) 32 rfl Try.underlying67 info75 rfl (by decide) (by omega) (.slice Aq q.length cq) q (⟨s, l2⟩ : S78) [.int .i64 s, .slice A1 l2.length c1] (fun k => (w0.heap.size ≤ k ∧ k ≠ g) ∧ P k) (fun k => w.heap.size ≤ k) rfl rfl (k78_mkF _ _ (⟨s, l2⟩ : S78) (Kd.R_reads' HV1.out).2.1 (Kd.R_F HV1.out)) ?hokp ?hfr (Kd.N_below HNP.out.1 HB1.out) HK1.out.below HK1.out.below.size (by have := HQ.out.1; omega) ?_
  case hokp =>
    intro k hk
    refine ⟨⟨⟨Nat.le_trans HK.out.below.size hk, fun e => ?_⟩, HNP.out.2 k hk⟩, fun e => ?_⟩
    · have := blk_lt HK.out.blk
      omega
    · have := Kd.N_lt HK.out.own k e.symm
      omega
  case hfr =>
    intro k hk
    refine ⟨⟨Nat.le_trans HK1.out.below.size hk, fun e => ?_⟩, HNP.out.2 k (Nat.le_trans HB1.out.size hk)⟩
    have := blk_lt HK1.out.blk
    omega
  intro v3 w3 hv3 hb3 hg3 hat3
  have hgn : some g ≠ (Value.slice Aq q.length cq).ownBlock := fun e => (HK.out.own.1 g e.symm).2 rfl
  have HK3 : Aside0 (Clk w0 w3 g iv now (.slice Aq q.length cq) q → True) := ⟨fun _ => trivial⟩
  have BK3 := Aside0.mk (blk_grown HK1.out.blk hg3 hgn)
  have HV3 := Aside0.mk hv3
  have HB3 := Aside0.mk hb3
  have KP3 : Aside0 (Kept w w3 (fun k => k = g ∨ some k = (Value.slice Aq q.length cq).ownBlock)) := ⟨Kept.of_grown hg3 (Kept.of_below HB1.out _) (fun k hk => Or.inl (Or.inr hk.symm))⟩
  have HAT : Aside0 (v3.ownBlock = (Value.slice Aq q.length cq).ownBlock ∨ ∃ b, v3.ownBlock = some b ∧ w.heap.size ≤ b) := ⟨hat3.elim Or.inl (fun ⟨b, h1, h2⟩ => Or.inr ⟨b, h1, Nat.le_trans HB1.out.size h2⟩)⟩
  clear hv3 hb3 hg3 hat3 hgn HK3
  refine hK.out _ _ ⟨(blk_cell BK3.out 2).trans rfl, blk_frozen BK3.out 2⟩ (fun hHeld => ?_)
  clear hK K
  refine norm_ (a' := ?_) ?_ ?_
  rotate_left
  · show Act.put _ (some 36) _ = _
    simp only [Act.put, List.setIfInBounds_toArray, List.set_cons_zero, List.set_cons_succ, i64_w, i32_w]
    rfl
  refine pv_ 11 37 #[true, true, true, true, true, true, true, true, true, true, true, true, false, false] HT_ ?_
  refine pv_ 12 38 #[true, true, true, true, true, true, true, true, true, true, true, true, true, false] HT_ ?_
  refine last_ (i := 13) (N := none) #[true, true, true, true, true, true, true, true, true, true, true, true, true, true] rfl rfl (one_of HT_.out (by kernel_rfl)) (by decide) (fun K hK => ?_)
  have cs2 : w3.cell? ⟨g, 2, none⟩ = some (.slice Aq q.length cq) := (blk_cell BK3.out 2).trans rfl
  have fs2 := blk_frozen BK3.out 2
  obtain ⟨A3, c3, e3⟩ := Kd.N_slice HV3.out
  subst e3
  have HV4 := HV3.out
  simp only [List.length_append, List.length_cons, List.length_nil, Nat.zero_add] at HV4
  have HV5 := Aside0.mk HV4
  clear HV4 HV3
  simp only [List.length_append, List.length_cons, List.length_nil, Nat.zero_add] at HAT
  refine skip_ (w1 := ?_) (by rfl) rfl ?_ ?_
  rotate_left
  · go_simp
    rfl
  refine hK.out _ _ ?_
  clear hK K
  refine done_ (done_of HT_.out (by kernel_rfl)) ?_
  go_wp2
  go_ret
  refine ⟨rfl, _, ⟨blk_put (cs := #[.int .i64 iv, .int .i64 now, .slice Aq q.length cq]) BK3.out 2 _ rfl, HK.out.low, Kd.N_mono (Kd.N_far (p := ⟨g, 2, none⟩) HV5.out (fun _ hk => hk.1.2) _) (fun _ hk => hk.1), below_set HB3.out HK.out.low⟩, Kd.N_far (p := ⟨g, 2, none⟩) HV5.out (fun _ hk => hk.1.2) _, Kept.setCell KP3.out (Or.inl (Or.inl rfl)) _, ?_⟩
  exact HAT.out.elim Or.inl (fun h => Or.inr (Or.inr h))
theorem size_al (w : World) (o : Obj) : (w.alloc o).heap.size = w.heap.size + 1 := by simp
theorem elem78 {w : World} {base : Nat} {ok : Nat → Prop} {A : Option Addr} {cq : Nat} {xs : List S78} (h : Kd.N k78 75 w base ok (.slice A xs.length cq) xs) (k : Nat) (hk : k < xs.length) :
    ∃ ad A1 c1, A = some ad ∧ w.cell? (ad.add (k * 2)) = some (.int .i64 (rd_T78 xs (k : Int)).f0) ∧ w.cell? ⟨(ad.add (k * 2)).block, (ad.add (k * 2)).off + 1, none⟩ = some (.slice A1 (rd_T78 xs (k : Int)).f1.length c1) ∧ (rd_T78 xs (k : Int)).f1.length ≤ c1 ∧ Kd.F (Kd.int .u32) w (fun j => ok j ∧ j < w.heap.size) A1 (rd_T78 xs (k : Int)).f1.length (rd_T78 xs (k : Int)).f1 := by
  obtain ⟨ad, A0, c0, e0, x0, x1, l1, _⟩ := at_T78 (Kd.N_reads' h).2.2 (k : Int) (by omega) (by omega)
  subst e0
  simp only [Int.toNat_natCast] at x0 x1
  obtain ⟨g, rfl⟩ : ∃ g, ad = ⟨g, 0, none⟩ := by
    obtain ⟨_, rows, _, hR, _⟩ := h
    exact Kd.R_head hR
  obtain ⟨c, hcl, hF, hcc, _⟩ := Kd.N_elem h z78 (k : Int) (by omega) (by omega)
  have hx : xs.getD (k : Int).toNat z78 = rd_T78 xs (k : Int) := rfl
  rw [hx] at hF
  obtain ⟨A1, c1, rfl, l2, g2⟩ := k78_openF hF
  have h1 := hcc 1 _ rfl
  have e : ((⟨g, 0, none⟩ : Addr).add (k * 2)).off + 1 = (k : Int).toNat * 2 + 1 := by
    rw [Int.toNat_natCast, Addr.add_lit]
    show 0 + k * 2 + 1 = _
    omega
  have e' : ((⟨g, 0, none⟩ : Addr).add (k * 2)).block = g := by rw [Addr.add_lit]
  rw [e, e'] at x1
  have hs := x1.symm.trans h1
  injection hs with hs
  injection hs with ha _ hc
  subst ha; subst hc
  refine ⟨_, A0, c0, rfl, x0, ?_, l1, ?_⟩
  · rw [e, e']
    exact x1
  · exact Kd.F_bound (Kd.F_mono g2 (fun _ hk => hk.1))
def outOf (s : Int) (q : List S78) : List Int := q.flatMap fun x => if x.f0 = s then x.f1 else []
def restOf (s : Int) (q : List S78) : List S78 := q.flatMap fun x => if x.f0 = s then [] else [x]
theorem take78 (q : List S78) (k : Nat) (h : k < q.length) : q.take (k + 1) = q.take k ++ [rd_T78 q (k : Int)] := by
  unfold rd_T78
  rw [List.take_add_one, List.getElem?_eq_getElem h, Int.toNat_natCast, List.getD_eq_getElem?_getD, List.getElem?_eq_getElem h]
  rfl
theorem out_len (s : Int) (q : List S78) (hq : ∀ x ∈ q, x.f1.length ≤ 256) : ∀ k, k ≤ q.length → (outOf s (q.take k)).length ≤ 256 * k ∧ (restOf s (q.take k)).length ≤ k := by
  intro k
  induction k with
  | zero => intro _; simp [outOf, restOf]
  | succ k ih =>
    intro hk
    obtain ⟨h1, h2⟩ := ih (by omega)
    have hm : rd_T78 q (k : Int) ∈ q := by
      unfold rd_T78
      rw [Int.toNat_natCast, List.getD_eq_getElem?_getD, List.getElem?_eq_getElem (show k < q.length by omega)]
      exact List.getElem_mem _
    have h3 := hq _ hm
    rw [take78 q k (by omega)]
    unfold outOf restOf at *
    rw [List.flatMap_append, List.flatMap_append, List.length_append, List.length_append, List.flatMap_cons, List.flatMap_cons, List.flatMap_nil, List.flatMap_nil, List.append_nil, List.append_nil]
    generalize rd_T78 q (k : Int) = x at h3
    generalize (List.flatMap (fun x => if x.f0 = s then x.f1 else []) (q.take k)).length = u at h1 ⊢
    generalize (List.flatMap (fun x => if x.f0 = s then [] else [x]) (q.take k)).length = v at h2 ⊢
    split
    · exact ⟨by omega, by rw [List.length_nil]; omega⟩
    · exact ⟨by rw [List.length_nil]; omega, by rw [List.length_singleton]; omega⟩
end
end Go.Proofs.Ytmkhphkkpdiliaa.All
end
section
namespace Go.Proofs.Ytmkhphkkpdiliaa.All
open Go.RowKit Go.Proofs.YtmkhphkkpdiliaaW.PrintWords Go.Proofs.YtmkhphkkpdiliaaW.PrintLast Go.Proofs.YtmkhphkkpdiliaaW.PrintMore
attribute [local go_sem] max2_int min2_int max_two min_two max_three min_three max_four min_four
set_option linter.unusedVariables false
set_option linter.unusedSimpArgs false
def compositorref30_limit.f (a0 : Int) : Option (Int) := some (mx 0 (mn a0 4611686018427387904))
set_option maxHeartbeats 8000000 in
set_option maxRecDepth 100000 in
theorem compositorref30_limit.calls (a0 : Int) (r : Int) (w : World) (h : compositorref30_limit.f a0 = some r) :
    Calls Try.prog 40 #[.int .i64 a0] w fun e w' => e = .returned (.int .i64 r) ∧ Below w.heap.size w w' := by
  have HB := Aside0.mk (Below.refl w.heap.size w)
  have H : (some (mx 0 (mn a0 4611686018427387904))) = some r := h
  clear h
  obtain ⟨ji2, hji2⟩ : ∃ j_ : Int, (mn a0 4611686018427387904) = j_ := ⟨_, rfl⟩
  replace H : (some (mx 0 (ji2))) = some r := by first | (rw [hji2] at H; exact H) | (simp only [hji2] at H ⊢; exact H)
  (try (have hji2h : ji2 ≤ 4611686018427387904 := by (rw [← hji2]; unfold mn; (repeat' split) <;> omega)))
  (try (have hji2g : ji2 ≤ 64 := by omega))
  have hji2_ : (if 4611686018427387904 < a0 then 4611686018427387904 else a0) = ji2 := hji2
  obtain ⟨ji3, hji3⟩ : ∃ j_ : Int, (mx 0 (ji2)) = j_ := ⟨_, rfl⟩
  replace H : (some ji3) = some r := by first | (rw [hji3] at H; exact H) | (simp only [hji3] at H ⊢; exact H)
  have hji3_ : (if 0 < (ji2) then (ji2) else 0) = ji3 := hji3
  obtain rfl := Option.some.inj H
  go_enter Try.func40, Try.ntmps40
  go_wp2
  go_ret
  exact ⟨by first | rfl | (simp [errW_none, errW_some] <;> rfl) | (simp only [← hji2, ← hji3]; first | rfl | (simp [errW_none, errW_some] <;> rfl)) | (simp [*, errW_none, errW_some] <;> rfl), by repeat (first | (with_reducible first | exact HB.out | apply below_alloc | apply pw_below_drewN | apply below_drew1) | exact HB.out)⟩
end Go.Proofs.Ytmkhphkkpdiliaa.All
end
section
namespace Go.Proofs.Ytmkhphkkpdiliaa.All
open Go.RowKit Go.Proofs.YtmkhphkkpdiliaaW.PrintWords Go.Proofs.YtmkhphkkpdiliaaW.PrintLast Go.Proofs.YtmkhphkkpdiliaaW.PrintMore
attribute [local go_sem] max2_int min2_int max_two min_two max_three min_three max_four min_four
set_option linter.unusedVariables false
set_option linter.unusedSimpArgs false
abbrev zq30.q0 : Array Bool := #[false, false, false, false, false, false, false, false, false, false]
abbrev zq30.q1 : Array Bool := #[true, false, false, false, false, false, false, false, false, false]
abbrev zq30.q2 : Array Bool := #[true, false, true, false, false, false, false, false, false, false]
abbrev zq30.q3 : Array Bool := #[true, false, true, false, false, false, true, false, false, false]
abbrev zq30.q4 : Array Bool := #[true, false, true, true, false, false, true, false, false, false]
abbrev zq30.q5 : Array Bool := #[true, false, true, true, false, false, true, true, false, false]
abbrev zq30.q6 : Array Bool := #[true, true, true, true, false, false, true, true, false, false]
abbrev zq30.q7 : Array Bool := #[true, true, true, true, true, false, true, true, false, false]
abbrev zq30.q8 : Array Bool := #[true, true, true, true, true, true, true, true, false, false]
abbrev zq30.q9 : Array Bool := #[true, true, true, true, true, true, true, true, true, false]
abbrev zq30.q10 : Array Bool := #[true, true, true, true, true, true, true, true, true, true]
def compositorref30_Next.f (a0_0 : Bool) (a0_1 : Int) (a0_2 : Int) (l0_3 : List (S78)) (a1 : Int) : Option (Int) := if a0_0 = true then ((compositorref30_limit.f a1).bind fun t149 => (if a0_1 = 0 then (none) else (some (wrap64 ((wrap64 ((wrap64 (Int.tdiv t149 a0_1)) + 1)) * a0_1))))) else (some 0)
def compositorref30_Next.T3 : Bool × List (List Nat × List Nat) := (true, [([], []), ([0], [0]), ([], []), ([2], [2]), ([1, 3], [1, 3]), ([4], [4]), ([], []), ([6], [6]), ([5, 7], [5, 7]), ([8, 1, 0, 1, 2, 3, 4, 5, 6, 7, 8], [8])])
def compositorref30_Next.B3 : List Nat := [0, 1, 0, 4, 15, 31, 0, 64, 255, 511]
theorem compositorref30_Next.tab3 : rtab .any (opsOf Try.f30 3) = compositorref30_Next.T3 := by kernel_rfl
theorem compositorref30_Next.bits3 : waitsOk compositorref30_Next.T3.2 compositorref30_Next.B3 = true := by kernel_rfl
set_option maxHeartbeats 8000000 in
set_option maxRecDepth 100000 in
theorem compositorref30_Next.calls (a0_0 : Bool) (a0_1 : Int) (a0_2 : Int) (A0_3 : Option Addr) (c0_3 : Nat) (l0_3 : List (S78)) (a1 : Int) (r : Int) (w : World) (hr0_3 : Kd.C k78 w A0_3 l0_3.length l0_3) (hc0_3 : l0_3.length ≤ c0_3) (h : compositorref30_Next.f a0_0 a0_1 a0_2 l0_3 a1 = some r) :
    Calls Try.prog 30 #[.agg #[.bool a0_0, .int .i64 a0_1, .int .i64 a0_2, .slice A0_3 l0_3.length c0_3], .int .i64 a1] w fun e w' => e = .returned (.int .i64 r) ∧ Below w.heap.size w w' := by
  have hu51 := Try.underlying51
  have HR0_3 := Aside0.mk hr0_3
  have HC0_3 := Aside0.mk hc0_3
  clear hr0_3 hc0_3
  have HB := Aside0.mk (Below.refl w.heap.size w)
  have H : (if a0_0 = true then ((compositorref30_limit.f a1).bind fun t149 => (if a0_1 = 0 then (none) else (some (wrap64 ((wrap64 ((wrap64 (Int.tdiv t149 a0_1)) + 1)) * a0_1))))) else (some 0)) = some r := h
  clear h
  by_cases c3 : a0_0 = true
  · subst c3
    have H1 : ((compositorref30_limit.f a1).bind fun t149 => (if a0_1 = 0 then (none) else (some (wrap64 ((wrap64 ((wrap64 (Int.tdiv t149 a0_1)) + 1)) * a0_1))))) = some r := by rw [if_pos rfl] at H; exact H
    clear H
    have H := H1
    clear H1
    replace H := Option.bind_eq_some_iff.mp H
    obtain ⟨t149, A40, H⟩ := H
    replace H : (if a0_1 = 0 then (none) else (some (wrap64 ((wrap64 ((wrap64 (Int.tdiv t149 a0_1)) + 1)) * a0_1)))) = some r := H
    have A4 := Aside0.mk A40
    clear A40
    by_cases c5 : a0_1 = 0
    · rw [if_pos c5] at H
      exact absurd H (by simp)
    · rw [if_neg c5] at H
      have c5b0 : (a0_1 == 0) = false := beq_eq_false_iff_ne.mpr c5
      have c5b1 : (a0_1 != 0) = true := bne_iff_ne.mpr c5
      obtain rfl := Option.some.inj H
      go_enter Try.func30, Try.ntmps30
      try go_wp2_with (first | ((with_reducible refine gate_dst (N := 2) rfl ?_); refine box_event ?hg (N := 2) ?hd (cs := #[.bool true, .int .i64 a0_1, .int .i64 a0_2, .slice A0_3 l0_3.length c0_3]) (t := 51) ?hr ?_; (case hd => rfl); (case hg => rfl); (case hr => first | (go_simp; done) | (go_simp; rfl)); intro gb148 hg w6 hbox hb; have n0_ := Aside0.mk (below_step (by repeat (first | (with_reducible first | exact HB.out | apply below_alloc | apply pw_below_drewN | apply below_drew1) | exact HB.out)) hb); have n1_ := Aside0.mk (hbox); have n2_ := Aside0.mk ((by rw [hg]; exact (below_size (by repeat (first | (with_reducible first | exact HB.out | apply below_alloc | apply pw_below_drewN | apply below_drew1) | exact HB.out))) : w.heap.size ≤ gb148)); have n3_ := Aside0.mk ((by rw [hg]; exact (below_size (by repeat (first | (with_reducible first | exact HB.out | apply below_alloc | apply pw_below_drewN | apply below_drew1) | exact HB.out))) : w.heap.size ≤ gb148)); clear HB; have HB := n0_; have BK148 := n1_; have GW148 := n2_; have GE148 := n3_; clear n0_ n1_ n2_ n3_; clear hb hbox hg; have hcz7_0 : w6.cell? ⟨gb148, 0, none⟩ = some (.bool true) := (blk_cell BK148.out 0).trans rfl; have hcz7_1 : w6.cell? ⟨gb148, 1, none⟩ = some (.int .i64 a0_1) := (blk_cell BK148.out 1).trans rfl; have hcz7_2 : w6.cell? ⟨gb148, 2, none⟩ = some (.int .i64 a0_2) := (blk_cell BK148.out 2).trans rfl; have hcz7_3 : w6.cell? ⟨gb148, 3, none⟩ = some (.slice A0_3 l0_3.length c0_3) := (blk_cell BK148.out 3).trans rfl; have hfz7_0 := blk_frozen BK148.out 0; have hfz7_1 := blk_frozen BK148.out 1; have hfz7_2 := blk_frozen BK148.out 2; have hfz7_3 := blk_frozen BK148.out 3))
      have n0_ := Aside0.mk (blk_drew BK148.out)
      have n1_ := Aside0.mk (below_drew1 HB.out)
      clear BK148
      clear HB
      have BK148 := n0_
      have HB := n1_
      clear n0_ n1_
      refine start_ (n := 10) (S := fun w' => w'.cell? ⟨gb148, 0, none⟩ = some (.bool true) ∧ w'.cell? ⟨gb148, 1, none⟩ = some (.int .i64 a0_1) ∧ w'.cell? ⟨gb148, 2, none⟩ = some (.int .i64 a0_2) ∧ w'.cell? ⟨gb148, 3, none⟩ = some (.slice A0_3 l0_3.length c0_3)) (ds := []) zq30.q0 (by kernel_rfl) rfl rfl ⟨(blk_cell BK148.out 0).trans rfl, (blk_cell BK148.out 1).trans rfl, (blk_cell BK148.out 2).trans rfl, (blk_cell BK148.out 3).trans rfl⟩ (fun hHeld => ?_); refine with_tabW compositorref30_Next.tab3 compositorref30_Next.bits3 (fun HT_ HW_ => ?_)
      generalize w6.drew = w8 at BK148 HB hHeld ⊢
      refine pure_ (i := 0) (N := some 8) (v := ?_) (a' := ?_) zq30.q1 rfl rfl (any_of HT_.out (by kernel_rfl)) (fun _ _ _ h => h) (Or.inl ⟨by rfl, ?_⟩) ?_ ?_
      rotate_left
      · intro w'
        go_simp
        with_reducible rfl
      rotate_left
      · simp only [Act.put, List.setIfInBounds_toArray, List.set_cons_zero, List.set_cons_succ, i64_w, i32_w]
        rfl
      refine pure_ (i := 2) (N := some 10) (v := ?_) (a' := ?_) zq30.q2 rfl rfl (any_of HT_.out (by kernel_rfl)) (fun _ _ _ h => h) (Or.inl ⟨by rfl, ?_⟩) ?_ ?_
      rotate_left
      · intro w'
        go_simp
        with_reducible rfl
      rotate_left
      · simp only [Act.put, List.setIfInBounds_toArray, List.set_cons_zero, List.set_cons_succ, i64_w, i32_w]
        rfl
      refine pure_ (i := 6) (N := some 14) (v := ?_) (a' := ?_) zq30.q3 rfl rfl (any_of HT_.out (by kernel_rfl)) (fun _ _ _ h => h) (Or.inl ⟨by rfl, ?_⟩) ?_ ?_
      rotate_left
      · intro w'
        go_simp
        with_reducible rfl
      rotate_left
      · simp only [Act.put, List.setIfInBounds_toArray, List.set_cons_zero, List.set_cons_succ, i64_w, i32_w]
        rfl
      refine take_ (i := 3) (N := some 11) (v := ?_) (a' := ?_) zq30.q4 rfl rfl (take_ofW HT_.out HW_.out (by kernel_rfl)) (fun _ _ _ h => h) (Or.inl ⟨by rfl, ?_⟩) hHeld ?_ ?_
      rotate_left
      · rintro w' ⟨s0, s1, s2, s3⟩
        go_simp
        with_reducible rfl
      rotate_left
      · simp only [Act.put, List.setIfInBounds_toArray, List.set_cons_zero, List.set_cons_succ, i64_w, i32_w]
        rfl
      refine take_ (i := 7) (N := some 15) (v := ?_) (a' := ?_) zq30.q5 rfl rfl (take_ofW HT_.out HW_.out (by kernel_rfl)) (fun _ _ _ h => h) (Or.inl ⟨by rfl, ?_⟩) hHeld ?_ ?_
      rotate_left
      · rintro w' ⟨s0, s1, s2, s3⟩
        go_simp
        with_reducible rfl
      rotate_left
      · simp only [Act.put, List.setIfInBounds_toArray, List.set_cons_zero, List.set_cons_succ, i64_w, i32_w]
        rfl
      refine one_ (i := 1) (N := some 9) zq30.q6 rfl rfl (one_of HT_.out (by kernel_rfl)) (by decide) (fun K hK => ?_)
      refine goes_ Try.func40 (by kernel_rfl) rfl #[.int .i64 a1] (by rfl) rfl rfl (by (try simp only [List.map_toArray, List.map_cons, List.map_nil]); first | done | rfl | (simp only [List.length_drop, List.length_take]; rfl)) ?_
      with_reducible refine (compositorref30_limit.calls a1 t149 _ A4.out).mono ?_
      rintro e w9 ⟨rfl, hb⟩
      refine ⟨_, rfl, ?_⟩
      have n0_ := Aside0.mk (blk_below (g := gb148) (o := .cells #[.bool true, .int .i64 a0_1, .int .i64 a0_2, .slice A0_3 l0_3.length c0_3] 51 (0, 0)) (by (with_reducible repeat (first | refine blk_drewN ?_ _ | refine blk_drew ?_ | refine blk_alloc ?_ _)); exact BK148.out) hb)
      have n1_ := Aside0.mk (below_step (by repeat (first | (with_reducible first | exact HB.out | apply below_alloc | apply pw_below_drewN | apply below_drew1 | refine below_set ?_ GE148.out) | exact HB.out)) hb)
      clear BK148
      clear HB
      have BK148 := n0_
      have HB := n1_
      clear n0_ n1_
      (try clear hb)
      (try clear hb2)
      (try clear hk)
      (try clear hi)
      refine hK.out _ _ ⟨(blk_cell BK148.out 0).trans rfl, (blk_cell BK148.out 1).trans rfl, (blk_cell BK148.out 2).trans rfl, (blk_cell BK148.out 3).trans rfl⟩ (fun hHeld => ?_)
      clear hK K
      refine norm_ (a' := ?_) ?_ ?_
      rotate_left
      · show Act.put _ (some 9) _ = _
        simp only [Act.put, List.setIfInBounds_toArray, List.set_cons_zero, List.set_cons_succ, i64_w, i32_w]
        rfl
      refine pure_ (i := 4) (N := some 12) (v := ?_) (a' := ?_) zq30.q7 rfl rfl (any_of HT_.out (by kernel_rfl)) (fun _ _ _ h => h) (Or.inl ⟨by rfl, ?_⟩) ?_ ?_
      rotate_left
      · intro w'
        go_simp
        with_reducible rfl
      rotate_left
      · simp only [Act.put, List.setIfInBounds_toArray, List.set_cons_zero, List.set_cons_succ, i64_w, i32_w]
        rfl
      refine pure_ (i := 5) (N := some 13) (v := ?_) (a' := ?_) zq30.q8 rfl rfl (any_of HT_.out (by kernel_rfl)) (fun _ _ _ h => h) (Or.inl ⟨by rfl, ?_⟩) ?_ ?_
      rotate_left
      · intro w'
        go_simp
        with_reducible rfl
      rotate_left
      · simp only [Act.put, List.setIfInBounds_toArray, List.set_cons_zero, List.set_cons_succ, i64_w, i32_w]
        rfl
      refine pure_ (i := 8) (N := some 16) (v := ?_) (a' := ?_) zq30.q9 rfl rfl (any_of HT_.out (by kernel_rfl)) (fun _ _ _ h => h) (Or.inl ⟨by rfl, ?_⟩) ?_ ?_
      rotate_left
      · intro w'
        go_simp
        with_reducible rfl
      rotate_left
      · simp only [Act.put, List.setIfInBounds_toArray, List.set_cons_zero, List.set_cons_succ, i64_w, i32_w]
        rfl
      refine pure_ (i := 9) (N := some 4) (v := ?_) (a' := ?_) zq30.q10 rfl rfl (any_of HT_.out (by kernel_rfl)) (fun _ _ _ h => h) (Or.inl ⟨by rfl, ?_⟩) ?_ ?_
      rotate_left
      · intro w'
        go_simp
        with_reducible rfl
      rotate_left
      · simp only [Act.put, List.setIfInBounds_toArray, List.set_cons_zero, List.set_cons_succ, i64_w, i32_w]
        rfl
      refine done_ (done_of HT_.out (by kernel_rfl)) ?_
      try go_wp2
      go_ret
      exact ⟨by first | rfl | (simp [errW_none, errW_some] <;> rfl) | (simp [*, errW_none, errW_some] <;> rfl), by repeat (first | (with_reducible first | exact HB.out | apply below_alloc | apply pw_below_drewN | apply below_drew1 | refine below_set ?_ GE148.out) | exact HB.out)⟩
  · replace c3 := Bool.eq_false_iff.mpr c3
    subst c3
    have H1 : (some 0) = some r := by rw [if_neg (show ¬ (false = true) by decide)] at H; exact H
    clear H
    have H := H1
    clear H1
    obtain rfl := Option.some.inj H
    go_enter Try.func30, Try.ntmps30
    go_wp2_with (first | ((with_reducible refine gate_dst (N := 2) rfl ?_); refine box_event ?hg (N := 2) ?hd (cs := #[.bool false, .int .i64 a0_1, .int .i64 a0_2, .slice A0_3 l0_3.length c0_3]) (t := 51) ?hr ?_; (case hd => rfl); (case hg => rfl); (case hr => first | (go_simp; done) | (go_simp; rfl)); intro gb148 hg w10 hbox hb; have n0_ := Aside0.mk (below_step (by repeat (first | (with_reducible first | exact HB.out | apply below_alloc | apply pw_below_drewN | apply below_drew1) | exact HB.out)) hb); have n1_ := Aside0.mk (hbox); have n2_ := Aside0.mk ((by rw [hg]; exact (below_size (by repeat (first | (with_reducible first | exact HB.out | apply below_alloc | apply pw_below_drewN | apply below_drew1) | exact HB.out))) : w.heap.size ≤ gb148)); have n3_ := Aside0.mk ((by rw [hg]; exact (below_size (by repeat (first | (with_reducible first | exact HB.out | apply below_alloc | apply pw_below_drewN | apply below_drew1) | exact HB.out))) : w.heap.size ≤ gb148)); clear HB; have HB := n0_; have BK148 := n1_; have GW148 := n2_; have GE148 := n3_; clear n0_ n1_ n2_ n3_; clear hb hbox hg; have hcz11_0 : w10.cell? ⟨gb148, 0, none⟩ = some (.bool false) := (blk_cell BK148.out 0).trans rfl; have hcz11_1 : w10.cell? ⟨gb148, 1, none⟩ = some (.int .i64 a0_1) := (blk_cell BK148.out 1).trans rfl; have hcz11_2 : w10.cell? ⟨gb148, 2, none⟩ = some (.int .i64 a0_2) := (blk_cell BK148.out 2).trans rfl; have hcz11_3 : w10.cell? ⟨gb148, 3, none⟩ = some (.slice A0_3 l0_3.length c0_3) := (blk_cell BK148.out 3).trans rfl; have hfz11_0 := blk_frozen BK148.out 0; have hfz11_1 := blk_frozen BK148.out 1; have hfz11_2 := blk_frozen BK148.out 2; have hfz11_3 := blk_frozen BK148.out 3))
    go_ret
    exact ⟨by first | rfl | (simp [errW_none, errW_some] <;> rfl) | (simp [*, errW_none, errW_some] <;> rfl), by repeat (first | (with_reducible first | exact HB.out | apply below_alloc | apply pw_below_drewN | apply below_drew1 | refine below_set ?_ GE148.out) | exact HB.out)⟩
end Go.Proofs.Ytmkhphkkpdiliaa.All
end
section
namespace Go.Proofs.Ytmkhphkkpdiliaa.All
open Go.RowKit Go.Proofs.YtmkhphkkpdiliaaW.PrintWords Go.Proofs.YtmkhphkkpdiliaaW.PrintLast Go.Proofs.YtmkhphkkpdiliaaW.PrintMore
attribute [local go_sem] max2_int min2_int max_two min_two max_three min_three max_four min_four
set_option linter.unusedVariables false
set_option linter.unusedSimpArgs false
def compositorref30_superseded.l0 : Nat → Int → Int → Bool → Int → Int → List (S78) → Option (Bool)
  | 0, _, _, _, _, _, _ => none
  | k + 1, x1, x5, x151000, x151001, x151002, x151003 => if x5 < (x151003.length : Int) then (if 0 ≤ x5 then (if 0 ≤ x1 then (if x1 < (x151003.length : Int) then (if ((rd_T78 x151003 x5).f0) = ((rd_T78 x151003 x1).f0) then (some true) else (compositorref30_superseded.l0 k x1 (wrap64 (x5 + 1)) x151000 x151001 x151002 x151003)) else (none)) else (none)) else (none)) else (some false)
def compositorref30_superseded.f (k : Nat) (a0_0 : Bool) (a0_1 : Int) (a0_2 : Int) (l0_3 : List (S78)) (a1 : Int) : Option (Bool) := compositorref30_superseded.l0 k a1 (wrap64 (a1 + 1)) a0_0 a0_1 a0_2 l0_3
set_option maxHeartbeats 8000000 in
set_option maxRecDepth 100000 in
theorem compositorref30_superseded.calls (k : Nat) (a0_0 : Bool) (a0_1 : Int) (a0_2 : Int) (A0_3 : Option Addr) (c0_3 : Nat) (l0_3 : List (S78)) (a1 : Int) (r : Bool) (w : World) (hr0_3 : Kd.C k78 w A0_3 l0_3.length l0_3) (hc0_3 : l0_3.length ≤ c0_3) (h : compositorref30_superseded.f k a0_0 a0_1 a0_2 l0_3 a1 = some r) :
    Calls Try.prog 41 #[.agg #[.bool a0_0, .int .i64 a0_1, .int .i64 a0_2, .slice A0_3 l0_3.length c0_3], .int .i64 a1] w fun e w' => e = .returned (.bool r) ∧ Below w.heap.size w w' := by
  have hu51 := Try.underlying51
  have HR0_3 := Aside0.mk hr0_3
  have HC0_3 := Aside0.mk hc0_3
  clear hr0_3 hc0_3
  have HB := Aside0.mk (Below.refl w.heap.size w)
  have H : (compositorref30_superseded.l0 k a1 (wrap64 (a1 + 1)) a0_0 a0_1 a0_2 l0_3) = some r := h
  clear h
  have H' := Aside0.mk H
  clear H
  go_enter Try.func41, Try.ntmps41
  go_wp2_with (first | ((with_reducible refine gate_dst (N := 2) rfl ?_); refine box_event ?hg (N := 2) ?hd (cs := #[.bool a0_0, .int .i64 a0_1, .int .i64 a0_2, .slice A0_3 l0_3.length c0_3]) (t := 51) ?hr ?_; (case hd => rfl); (case hg => rfl); (case hr => first | (go_simp; done) | (go_simp; rfl)); intro gb150 hg w3 hbox hb; have n0_ := Aside0.mk (below_step (by repeat (first | (with_reducible first | exact HB.out | apply below_alloc | apply pw_below_drewN | apply below_drew1) | exact HB.out)) hb); have n1_ := Aside0.mk (hbox); have n2_ := Aside0.mk ((by rw [hg]; exact (below_size (by repeat (first | (with_reducible first | exact HB.out | apply below_alloc | apply pw_below_drewN | apply below_drew1) | exact HB.out))) : w.heap.size ≤ gb150)); have n3_ := Aside0.mk ((by rw [hg]; exact (below_size (by repeat (first | (with_reducible first | exact HB.out | apply below_alloc | apply pw_below_drewN | apply below_drew1) | exact HB.out))) : w.heap.size ≤ gb150)); clear HB; have HB := n0_; have BK150 := n1_; have GW150 := n2_; have GE150 := n3_; clear n0_ n1_ n2_ n3_; clear hb hbox hg))
  repeat (go_quiet (first | ((with_reducible refine gate_dst (N := 2) rfl ?_); refine box_event ?hg (N := 2) ?hd (cs := #[.bool a0_0, .int .i64 a0_1, .int .i64 a0_2, .slice A0_3 l0_3.length c0_3]) (t := 51) ?hr ?_; (case hd => rfl); (case hg => rfl); (case hr => first | (go_simp; done) | (go_simp; rfl)); intro gb150 hg w3 hbox hb; have n0_ := Aside0.mk (below_step (by repeat (first | (with_reducible first | exact HB.out | apply below_alloc | apply pw_below_drewN | apply below_drew1) | exact HB.out)) hb); have n1_ := Aside0.mk (hbox); have n2_ := Aside0.mk ((by rw [hg]; exact (below_size (by repeat (first | (with_reducible first | exact HB.out | apply below_alloc | apply pw_below_drewN | apply below_drew1) | exact HB.out))) : w.heap.size ≤ gb150)); have n3_ := Aside0.mk ((by rw [hg]; exact (below_size (by repeat (first | (with_reducible first | exact HB.out | apply below_alloc | apply pw_below_drewN | apply below_drew1) | exact HB.out))) : w.heap.size ≤ gb150)); clear HB; have HB := n0_; have BK150 := n1_; have GW150 := n2_; have GE150 := n3_; clear n0_ n1_ n2_ n3_; clear hb hbox hg)); try go_wp2_with (first | ((with_reducible refine gate_dst (N := 2) rfl ?_); refine box_event ?hg (N := 2) ?hd (cs := #[.bool a0_0, .int .i64 a0_1, .int .i64 a0_2, .slice A0_3 l0_3.length c0_3]) (t := 51) ?hr ?_; (case hd => rfl); (case hg => rfl); (case hr => first | (go_simp; done) | (go_simp; rfl)); intro gb150 hg w3 hbox hb; have n0_ := Aside0.mk (below_step (by repeat (first | (with_reducible first | exact HB.out | apply below_alloc | apply pw_below_drewN | apply below_drew1) | exact HB.out)) hb); have n1_ := Aside0.mk (hbox); have n2_ := Aside0.mk ((by rw [hg]; exact (below_size (by repeat (first | (with_reducible first | exact HB.out | apply below_alloc | apply pw_below_drewN | apply below_drew1) | exact HB.out))) : w.heap.size ≤ gb150)); have n3_ := Aside0.mk ((by rw [hg]; exact (below_size (by repeat (first | (with_reducible first | exact HB.out | apply below_alloc | apply pw_below_drewN | apply below_drew1) | exact HB.out))) : w.heap.size ≤ gb150)); clear HB; have HB := n0_; have BK150 := n1_; have GW150 := n2_; have GE150 := n3_; clear n0_ n1_ n2_ n3_; clear hb hbox hg)))
  go_loopg [5] k (fun kq v5 w' => ∃ (x5_1 : Int), v5 = .int .i64 x5_1 ∧ Aside0 (compositorref30_superseded.l0 kq a1 x5_1 a0_0 a0_1 a0_2 l0_3 = some r) ∧ Aside0 (kq ≤ k) ∧ Aside0 (w'.heap[gb150]? = some (.cells #[.bool a0_0, .int .i64 a0_1, .int .i64 a0_2, (.slice A0_3 l0_3.length c0_3)] 51 (0, 0))) ∧ Aside0 (Below w.heap.size w w'))
  case atStart => exact ⟨(wrap64 (a1 + 1)), (by first | rfl | (simp; done) | (simp [*]; done)), H', ⟨Nat.le_refl _⟩, ⟨by (with_reducible repeat (first | refine blk_drewN ?_ _ | refine blk_drew ?_ | refine blk_alloc ?_ _)); exact BK150.out⟩, ⟨by repeat (first | (with_reducible first | exact HB.out | apply below_alloc | apply pw_below_drewN | apply below_drew1 | refine below_set ?_ GE150.out) | exact HB.out)⟩⟩
  case round =>
    clear H'
    try clear p2
    obtain ⟨x5_1, rfl, HA, HK1, BK150, HB⟩ := hrel
    cases gk with
    | zero => exact absurd HA.out (by simp [compositorref30_superseded.l0])
    | succ k1 =>
      have H := HA.out
      clear HA
      simp only [compositorref30_superseded.l0] at H
      by_cases c4 : x5_1 < (l0_3.length : Int)
      · rw [if_pos c4] at H
        have c4b0 : decide (x5_1 < (l0_3.length : Int)) = true := decide_eq_true c4
        clear c4
        by_cases c5 : 0 ≤ x5_1
        · rw [if_pos c5] at H
          have c5b0 : decide (0 ≤ x5_1) = true := decide_eq_true c5
          clear c5
          by_cases c6 : 0 ≤ a1
          · rw [if_pos c6] at H
            have c6b0 : decide (0 ≤ a1) = true := decide_eq_true c6
            clear c6
            by_cases c7 : a1 < (l0_3.length : Int)
            · rw [if_pos c7] at H
              have c7b0 : decide (a1 < (l0_3.length : Int)) = true := decide_eq_true c7
              clear c7
              by_cases c8 : ((rd_T78 l0_3 x5_1).f0) = ((rd_T78 l0_3 a1).f0)
              · rw [if_pos c8] at H
                have c8b0 : (((rd_T78 l0_3 x5_1).f0) == ((rd_T78 l0_3 a1).f0)) = true := beq_iff_eq.mpr c8
                have c8b1 : (((rd_T78 l0_3 x5_1).f0) != ((rd_T78 l0_3 a1).f0)) = false := bne_eq_false_iff_eq.mpr c8
                clear c8
                obtain rfl := Option.some.inj H
                have hcz9_0 : wr.cell? ⟨gb150, 0, none⟩ = some (.bool a0_0) := (blk_cell BK150.out 0).trans rfl
                have hcz9_1 : wr.cell? ⟨gb150, 1, none⟩ = some (.int .i64 a0_1) := (blk_cell BK150.out 1).trans rfl
                have hcz9_2 : wr.cell? ⟨gb150, 2, none⟩ = some (.int .i64 a0_2) := (blk_cell BK150.out 2).trans rfl
                have hcz9_3 : wr.cell? ⟨gb150, 3, none⟩ = some (.slice A0_3 l0_3.length c0_3) := (blk_cell BK150.out 3).trans rfl
                have hfz9_0 := blk_frozen BK150.out 0
                have hfz9_1 := blk_frozen BK150.out 1
                have hfz9_2 := blk_frozen BK150.out 2
                have hfz9_3 := blk_frozen BK150.out 3
                have p151 : 0 ≤ (x5_1 : Int) := of_decide_eq_true (by first | (with_reducible assumption) | assumption)
                have q151 : x5_1 < (l0_3.length : Int) := of_decide_eq_true (by first | (with_reducible assumption) | assumption)
                obtain ⟨ad151, A151_1, c151_1, e151, hx151_0, hx151_1, hl151_1, hi151_1⟩ := at_T78 HR0_3.out x5_1 p151 q151
                cases e151
                replace hx151_0 := (HB.out.cell (World.block_lt_of_cell? w _ hx151_0)).trans hx151_0
                replace hx151_1 := (HB.out.cell (World.block_lt_of_cell? w _ hx151_1)).trans hx151_1
                have HR151_1 := Aside0.mk hi151_1
                have HC151_1 := Aside0.mk hl151_1
                clear hi151_1 hl151_1
                replace p151 := eq_true p151
                replace q151 := eq_true q151
                have p152 : 0 ≤ (a1 : Int) := of_decide_eq_true (by first | (with_reducible assumption) | assumption)
                have q152 : a1 < (l0_3.length : Int) := of_decide_eq_true (by first | (with_reducible assumption) | assumption)
                obtain ⟨ad152, A152_1, c152_1, e152, hx152_0, hx152_1, hl152_1, hi152_1⟩ := at_T78 HR0_3.out a1 p152 q152
                obtain rfl : ad151 = ad152 := (by injection e152)
                replace hx152_0 := (HB.out.cell (World.block_lt_of_cell? w _ hx152_0)).trans hx152_0
                replace hx152_1 := (HB.out.cell (World.block_lt_of_cell? w _ hx152_1)).trans hx152_1
                have HR152_1 := Aside0.mk hi152_1
                have HC152_1 := Aside0.mk hl152_1
                clear hi152_1 hl152_1
                replace p152 := eq_true p152
                replace q152 := eq_true q152
                go_wp2
                repeat (go_quiet (fail); try go_wp2)
                go_ret
                exact ⟨by first | rfl | (simp [errW_none, errW_some] <;> rfl) | (simp [*, errW_none, errW_some] <;> rfl), by repeat (first | (with_reducible first | exact HB.out | apply below_alloc | apply pw_below_drewN | apply below_drew1 | refine below_set ?_ GE150.out) | exact HB.out)⟩
              · rw [if_neg c8] at H
                have c8b0 : (((rd_T78 l0_3 x5_1).f0) == ((rd_T78 l0_3 a1).f0)) = false := beq_eq_false_iff_ne.mpr c8
                have c8b1 : (((rd_T78 l0_3 x5_1).f0) != ((rd_T78 l0_3 a1).f0)) = true := bne_iff_ne.mpr c8
                have H' := Aside0.mk H
                clear H
                have hcz10_0 : wr.cell? ⟨gb150, 0, none⟩ = some (.bool a0_0) := (blk_cell BK150.out 0).trans rfl
                have hcz10_1 : wr.cell? ⟨gb150, 1, none⟩ = some (.int .i64 a0_1) := (blk_cell BK150.out 1).trans rfl
                have hcz10_2 : wr.cell? ⟨gb150, 2, none⟩ = some (.int .i64 a0_2) := (blk_cell BK150.out 2).trans rfl
                have hcz10_3 : wr.cell? ⟨gb150, 3, none⟩ = some (.slice A0_3 l0_3.length c0_3) := (blk_cell BK150.out 3).trans rfl
                have hfz10_0 := blk_frozen BK150.out 0
                have hfz10_1 := blk_frozen BK150.out 1
                have hfz10_2 := blk_frozen BK150.out 2
                have hfz10_3 := blk_frozen BK150.out 3
                have p151 : 0 ≤ (x5_1 : Int) := of_decide_eq_true (by first | (with_reducible assumption) | assumption)
                have q151 : x5_1 < (l0_3.length : Int) := of_decide_eq_true (by first | (with_reducible assumption) | assumption)
                obtain ⟨ad151, A151_1, c151_1, e151, hx151_0, hx151_1, hl151_1, hi151_1⟩ := at_T78 HR0_3.out x5_1 p151 q151
                cases e151
                replace hx151_0 := (HB.out.cell (World.block_lt_of_cell? w _ hx151_0)).trans hx151_0
                replace hx151_1 := (HB.out.cell (World.block_lt_of_cell? w _ hx151_1)).trans hx151_1
                have HR151_1 := Aside0.mk hi151_1
                have HC151_1 := Aside0.mk hl151_1
                clear hi151_1 hl151_1
                replace p151 := eq_true p151
                replace q151 := eq_true q151
                have p152 : 0 ≤ (a1 : Int) := of_decide_eq_true (by first | (with_reducible assumption) | assumption)
                have q152 : a1 < (l0_3.length : Int) := of_decide_eq_true (by first | (with_reducible assumption) | assumption)
                obtain ⟨ad152, A152_1, c152_1, e152, hx152_0, hx152_1, hl152_1, hi152_1⟩ := at_T78 HR0_3.out a1 p152 q152
                obtain rfl : ad151 = ad152 := (by injection e152)
                replace hx152_0 := (HB.out.cell (World.block_lt_of_cell? w _ hx152_0)).trans hx152_0
                replace hx152_1 := (HB.out.cell (World.block_lt_of_cell? w _ hx152_1)).trans hx152_1
                have HR152_1 := Aside0.mk hi152_1
                have HC152_1 := Aside0.mk hl152_1
                clear hi152_1 hl152_1
                replace p152 := eq_true p152
                replace q152 := eq_true q152
                go_wp2
                repeat (go_quiet (fail); try go_wp2)
                go_roundg k1
                case measure => have := HK1.out; omega
                case rel => exact ⟨(wrap64 (x5_1 + 1)), (by first | rfl | (simp; done) | (simp [*]; done)), H', ⟨by have := HK1.out; omega⟩, ⟨by (with_reducible repeat (first | refine blk_drewN ?_ _ | refine blk_drew ?_ | refine blk_alloc ?_ _)); exact BK150.out⟩, ⟨by repeat (first | (with_reducible first | exact HB.out | apply below_alloc | apply pw_below_drewN | apply below_drew1 | refine below_set ?_ GE150.out) | exact HB.out)⟩⟩
            · rw [if_neg c7] at H
              exact absurd H (by simp)
          · rw [if_neg c6] at H
            exact absurd H (by simp)
        · rw [if_neg c5] at H
          exact absurd H (by simp)
      · rw [if_neg c4] at H
        have c4b0 : decide (x5_1 < (l0_3.length : Int)) = false := decide_eq_false c4
        clear c4
        obtain rfl := Option.some.inj H
        have hcz11_0 : wr.cell? ⟨gb150, 0, none⟩ = some (.bool a0_0) := (blk_cell BK150.out 0).trans rfl
        have hcz11_1 : wr.cell? ⟨gb150, 1, none⟩ = some (.int .i64 a0_1) := (blk_cell BK150.out 1).trans rfl
        have hcz11_2 : wr.cell? ⟨gb150, 2, none⟩ = some (.int .i64 a0_2) := (blk_cell BK150.out 2).trans rfl
        have hcz11_3 : wr.cell? ⟨gb150, 3, none⟩ = some (.slice A0_3 l0_3.length c0_3) := (blk_cell BK150.out 3).trans rfl
        have hfz11_0 := blk_frozen BK150.out 0
        have hfz11_1 := blk_frozen BK150.out 1
        have hfz11_2 := blk_frozen BK150.out 2
        have hfz11_3 := blk_frozen BK150.out 3
        go_wp2
        repeat (go_quiet (fail); try go_wp2)
        go_ret
        exact ⟨by first | rfl | (simp [errW_none, errW_some] <;> rfl) | (simp [*, errW_none, errW_some] <;> rfl), by repeat (first | (with_reducible first | exact HB.out | apply below_alloc | apply pw_below_drewN | apply below_drew1 | refine below_set ?_ GE150.out) | exact HB.out)⟩
end Go.Proofs.Ytmkhphkkpdiliaa.All
end
section
namespace Go.Proofs.Ytmkhphkkpdiliaa.All
open Go.RowKit Go.Proofs.YtmkhphkkpdiliaaW.PrintWords Go.Proofs.YtmkhphkkpdiliaaW.PrintLast Go.Proofs.YtmkhphkkpdiliaaW.PrintMore
attribute [local go_sem] max2_int min2_int max_two min_two max_three min_three max_four min_four
set_option linter.unusedVariables false
set_option linter.unusedSimpArgs false
theorem eqA42 (d : Nat) (w : World) (x0 y0 : Int) (x1 y1 : Int) (x2 y2 : Int) (x3 y3 : Int) (x4 y4 : Int) (x5 y5 : Int) (x6 y6 : Int) (x7 y7 : Int) (x8 y8 : Int) :
    (Op.equalIn (d + 2) 42 (.agg #[.int .i64 x0, .int .i64 x1, .int .i64 x2, .int .i64 x3, .int .i64 x4, .int .i64 x5, .int .i64 x6, .int .i64 x7, .int .u32 x8]) (.agg #[.int .i64 y0, .int .i64 y1, .int .i64 y2, .int .i64 y3, .int .i64 y4, .int .i64 y5, .int .i64 y6, .int .i64 y7, .int .u32 y8])).run Try.prog w = .ok (x0 == y0 && (x1 == y1 && (x2 == y2 && (x3 == y3 && (x4 == y4 && (x5 == y5 && (x6 == y6 && (x7 == y7 && (x8 == y8))))))))) w := by
  refine eqA_of Try.underlying42 (by kernel_rfl) ?_
  refine eqf_cons (by rfl) (by go_simp; rfl) (by go_simp; rfl) (by go_simp) ?_
  refine eqf_cons (by rfl) (by go_simp; rfl) (by go_simp; rfl) (by go_simp) ?_
  refine eqf_cons (by rfl) (by go_simp; rfl) (by go_simp; rfl) (by go_simp) ?_
  refine eqf_cons (by rfl) (by go_simp; rfl) (by go_simp; rfl) (by go_simp) ?_
  refine eqf_cons (by rfl) (by go_simp; rfl) (by go_simp; rfl) (by go_simp) ?_
  refine eqf_cons (by rfl) (by go_simp; rfl) (by go_simp; rfl) (by go_simp) ?_
  refine eqf_cons (by rfl) (by go_simp; rfl) (by go_simp; rfl) (by go_simp) ?_
  refine eqf_cons (by rfl) (by go_simp; rfl) (by go_simp; rfl) (by go_simp) ?_
  exact eqf_last (by rfl) (by go_simp; rfl) (by go_simp; rfl) (by go_simp)
end Go.Proofs.Ytmkhphkkpdiliaa.All
end
