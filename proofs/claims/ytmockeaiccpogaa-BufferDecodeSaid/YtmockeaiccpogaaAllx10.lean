-- Written by a program of this session, which runs the kit's print.py and puts in functions that this session typed. Not trusted: Lean checks it.
import Derived.Test.YtmockeaiccpogaaAllx0
namespace Go.Proofs.Ytmockeaiccpogaa.All
open Go.RowKit Go.Proofs.YtmockeaiccpogaaW.PrintWords Go.Proofs.YtmockeaiccpogaaW.PrintLast Go.Proofs.YtmockeaiccpogaaW.PrintMore
attribute [local go_sem] max2_int min2_int max_two min_two max_three min_three max_four min_four   -- for this text's walks alone
set_option linter.unusedVariables false
set_option linter.unusedSimpArgs false

/-! ### buffer_runs: function 44 -/
section
open Go.Proofs.YtmockeaiccpogaaHand Go.Proofs.YtmockeaiccpogaaSq
/-- The last rectangle's end. -/
def buffer_runs.upd (l : List S47) (e : Int) : List S47 := l.set ((l.length : Int) - 1).toNat ⟨(rd_T47 l ((l.length : Int) - 1)).f0, (rd_T47 l ((l.length : Int) - 1)).f1, e, (rd_T47 l ((l.length : Int) - 1)).f3⟩
def buffer_runs.stp (p : Nat → Bool) (w0 y : Nat) (s : List S47 × Bool) (x : Nat) : List S47 × Bool :=
  if p (y * w0 + x) = true then (buffer_runs.upd (if s.2 = true then s.1 else s.1 ++ [⟨x, y, x, (y : Int) + 1⟩]) ((x : Int) + 1), true) else (s.1, false)
def buffer_runs.row (p : Nat → Bool) (w0 y : Nat) (l : List S47) (n : Nat) : List S47 × Bool := (List.range n).foldl (buffer_runs.stp p w0 y) (l, false)
def buffer_runs.all (p : Nat → Bool) (w0 n : Nat) : List S47 := (List.range n).foldl (fun l y => (buffer_runs.row p w0 y l w0).1) []
theorem buffer_runs.row_succ (p : Nat → Bool) (w0 y : Nat) (l : List S47) (n : Nat) : buffer_runs.row p w0 y l (n + 1) = buffer_runs.stp p w0 y (buffer_runs.row p w0 y l n) n := by
  unfold buffer_runs.row
  rw [List.range_succ, List.foldl_append]
  rfl
theorem buffer_runs.row_zero (p : Nat → Bool) (w0 y : Nat) (l : List S47) : buffer_runs.row p w0 y l 0 = (l, false) := rfl
theorem buffer_runs.all_succ (p : Nat → Bool) (w0 n : Nat) : buffer_runs.all p w0 (n + 1) = (buffer_runs.row p w0 n (buffer_runs.all p w0 n) w0).1 := by
  unfold buffer_runs.all
  rw [List.range_succ, List.foldl_append]
  rfl
theorem buffer_runs.upd_length (l : List S47) (e : Int) : (buffer_runs.upd l e).length = l.length := by rw [buffer_runs.upd, List.length_set]
theorem buffer_runs.prep {W : World} {base : Nat} {v : Value} {l : List S47} (hu : Kd.R k47 47 W base (fun _ => True) v l) (hpos : 0 < l.length) {j : Int} (hj : (l.length : Int) - 1 = j) (e : Int) :
    ∃ go co, v = .slice (some ⟨go, 0, none⟩) l.length co ∧ base ≤ go ∧ 0 ≤ j ∧ j < (l.length : Int) ∧ W.cell? ⟨go, j.toNat * 4 + 2, none⟩ = some (.int .i64 (rd_T47 l j).f2) ∧ W.frozen? ⟨go, j.toNat * 4 + 2, none⟩ = false ∧ Kd.R k47 47 (W.setCell ⟨go, j.toNat * 4 + 2, none⟩ (.int .i64 e)) base (fun _ => True) (.slice (some ⟨go, 0, none⟩) l.length co) (buffer_runs.upd l e) := by
  have pj : 0 ≤ j := by omega
  have qj : j < (l.length : Int) := by omega
  obtain ⟨Ao, co, eo⟩ := Kd.R_slice hu
  subst eo
  obtain ⟨go, co', eo, gb, gl, cl, HG⟩ := Kd.R_form hu (by omega)
  injection eo with ea en ec
  subst ea ec
  obtain ⟨ce, hcl2, hM2, hcc2, hfr2⟩ := Kd.R_elem hu z47 j pj qj
  obtain rfl := k47_openM hM2
  have HP := Kd.R_seg hu j pj qj (seg := [.int .i64 e]) (j := 2) hcl2 hcc2 (show 3 ≤ 4 from by decide) (x' := (⟨(rd_T47 l j).f0, (rd_T47 l j).f1, e, (rd_T47 l j).f3⟩ : S47)) (k47_mkM _ _ _ (⟨(rd_T47 l j).f0, (rd_T47 l j).f1, e, (rd_T47 l j).f3⟩ : S47)) (fun _ hk => hk)
  have hU : buffer_runs.upd l e = l.set j.toNat ⟨(rd_T47 l j).f0, (rd_T47 l j).f1, e, (rd_T47 l j).f3⟩ := by unfold buffer_runs.upd; rw [hj]
  rw [hU]
  exact ⟨go, co, rfl, gb, pj, qj, hcc2 2 _ rfl, hfr2 2, HP.1⟩
set_option maxHeartbeats 4000000 in
theorem buffer_runs.calls (f : FuncId) (fn : Func) (caps : Array Value) (hf : Try.prog.funcs[f]? = some fn) (hname : (fn.name == "runtime.NumGoroutine") = false) (hbody : fn.body.isSome = true)
    (w0 h0 : Nat) (hw0 : w0 ≤ 256) (hh0 : h0 ≤ 256) (p : Nat → Bool) (w : World)
    (hcl : ∀ (i : Nat) (W : World), i < w0 * h0 → Below w.heap.size w W → Calls Try.prog f (#[.int .i64 i] ++ caps) W fun e w' => e = .returned (.bool (p i)) ∧ Below W.heap.size W w') :
    Calls Try.prog 44 #[.int .i64 w0, .int .i64 h0, .func (.func f) #[] caps] w fun e w' => ∃ v, e = .returned (.tuple #[v, .int .i64 (if (buffer_runs.all p w0 h0).length > 256 then 5 else 0)]) ∧ Kd.R k47 47 w' w.heap.size (fun _ => True) v (if (buffer_runs.all p w0 h0).length > 256 then [] else buffer_runs.all p w0 h0) ∧ Below w.heap.size w w' := by
  have hB := Aside0.mk (Below.refl w.heap.size w)
  go_enter Try.func44, Try.ntmps44
  go_wp2_with fail
  go_loopw [8, 13] (fun u v w' => ∃ (y : Nat), y ≤ h0 ∧ v = .int .i64 y ∧ Aside0 (Kd.R k47 47 w' w.heap.size (fun _ => True) u (buffer_runs.all p w0 y)) ∧ Aside0 ((buffer_runs.all p w0 y).length ≤ y * 256) ∧ Aside0 (Below w.heap.size w w')) (fun _ v _ => h0 - (intOf v).toNat)
  case atStart => exact ⟨0, Nat.zero_le _, rfl, ⟨Kd.R_nil _ _ _ _ _⟩, ⟨Nat.le_refl 0⟩, hB⟩
  case round =>
    clear hB
    obtain ⟨y, hy, rfl, hu, hL, hB⟩ := hrel
    by_cases hlt : y < h0
    · have hlt' : (y : Int) < (h0 : Int) := by omega
      go_wp2_with fail
      go_loopw [8, 10, 17] (fun u o v w' => ∃ (x : Nat), x ≤ w0 ∧ o = .bool (buffer_runs.row p w0 y (buffer_runs.all p w0 y) x).2 ∧ v = .int .i64 x ∧ Aside0 (Kd.R k47 47 w' w.heap.size (fun _ => True) u (buffer_runs.row p w0 y (buffer_runs.all p w0 y) x).1) ∧ Aside0 ((buffer_runs.row p w0 y (buffer_runs.all p w0 y) x).1.length ≤ y * 256 + x ∧ ((buffer_runs.row p w0 y (buffer_runs.all p w0 y) x).2 = true → 0 < (buffer_runs.row p w0 y (buffer_runs.all p w0 y) x).1.length)) ∧ Aside0 (Below w.heap.size w w')) (fun _ _ v _ => w0 - (intOf v).toNat)
      case atStart =>
        refine ⟨0, Nat.zero_le _, ?_, rfl, ?_, ?_, hB⟩ <;> rw [buffer_runs.row_zero]
        · exact hu
        · exact ⟨⟨Nat.le_trans hL.out (Nat.le_add_right _ _), fun h => Bool.noConfusion h⟩⟩
      case round =>
        clear hB hu hL
        obtain ⟨x, hx, rfl, rfl, hu, hL, hB⟩ := hrel
        have hE := Aside0.mk (buffer_runs.row_succ p w0 y (buffer_runs.all p w0 y) x)
        by_cases hxl : x < w0
        · have hxl' : (x : Int) < (w0 : Int) := by omega
          have hi : y * w0 + x < w0 * h0 := by
            have m : (y + 1) * w0 ≤ h0 * w0 := Nat.mul_le_mul_right _ hlt
            rw [Nat.succ_mul] at m
            rw [Nat.mul_comm w0 h0]
            omega
          have hw1 : wrap64 (wrap64 ((y : Int) * (w0 : Int)) + (x : Int)) = ((y * w0 + x : Nat) : Int) := by
            have m : y * w0 ≤ 256 * 256 := Nat.mul_le_mul (by omega) hw0
            rw [Int.natCast_add, Int.natCast_mul]
            have m2 : (y : Int) * (w0 : Int) ≤ 65536 := by rw [← Int.natCast_mul]; omega
            have m3 : 0 ≤ (y : Int) * (w0 : Int) := by rw [← Int.natCast_mul]; omega
            have e1 : wrap64 ((y : Int) * (w0 : Int)) = (y : Int) * (w0 : Int) := by unfold wrap64; omega
            rw [e1]
            unfold wrap64
            omega
          have hi' := Aside0.mk hi
          clear hi
          go_wp2_with fail
          have hc := hcl (y * w0 + x) wr hi'.out hB.out
          rw [Int.natCast_add, Int.natCast_mul] at hc
          rw [enters_ hf hname hbody]
          refine hc.mono ?_
          rintro e w1 ⟨rfl, hb1⟩
          replace hu := Aside0.mk (Kd.R_below hu.out hb1)
          replace hB := Aside0.mk (below_step hB.out hb1)
          clear hb1 hc
          generalize hs : buffer_runs.row p w0 y (buffer_runs.all p w0 y) x = s at hu hL hE ⊢
          obtain ⟨l, o⟩ := s
          have hxm : x + 1 ≤ w0 := hxl
          cases hp : p (y * w0 + x) with
          | false =>
            have hE2 : buffer_runs.row p w0 y (buffer_runs.all p w0 y) (x + 1) = (l, false) := by rw [hE.out, buffer_runs.stp, hp]; rfl
            go_wp2
            go_roundw
            case measure => simp [intOf]; omega
            case rel => exact ⟨x + 1, hxm, by rw [hE2], by go_num, by rw [hE2]; exact hu, by rw [hE2]; exact ⟨⟨Nat.le_succ_of_le hL.out.1, fun h => Bool.noConfusion h⟩⟩, hB⟩
          | true =>
            have hX := Aside0.mk hw0
            cases o with
            | true =>
              have hE2 : buffer_runs.row p w0 y (buffer_runs.all p w0 y) (x + 1) = (buffer_runs.upd l ((x : Int) + 1), true) := by rw [hE.out, buffer_runs.stp, hp]; rfl
              have hlen : 0 < l.length := hL.out.2 rfl
              have hlen2 : l.length ≤ y * 256 + x := hL.out.1
              have hu' : Aside0 (Kd.R k47 47 w1 w.heap.size (fun _ => True) u8 l) := hu
              clear hu
              have ej : wrap64 ((l.length : Int) - 1) = (l.length : Int) - 1 := by unfold wrap64; omega
              have ex : wrap64 ((x : Int) + 1) = (x : Int) + 1 := by unfold wrap64; omega
              obtain ⟨j, hj⟩ : ∃ j : Int, (l.length : Int) - 1 = j := ⟨_, rfl⟩
              replace ej := ej.trans hj
              obtain ⟨go, co, eo, GB0, pj, qj, hx2, hf2, HP0⟩ := buffer_runs.prep hu'.out hlen hj ((x : Int) + 1)
              subst eo
              have HP := Aside0.mk HP0
              have GB := Aside0.mk GB0
              have hLL := Aside0.mk (And.intro hlen hlen2)
              replace pj := eq_true pj
              replace qj := eq_true qj
              clear hlen hlen2 hj hw1 HP0 GB0 hu'
              go_wp2_with (first | ((with_reducible refine gate_store (t := 3) (p := 46) rfl ?_); refine store_event (t := 3) (p := 46) (v := ?vo_w) (w1 := (w1.setCell ⟨go, j.toNat * 4 + 2, none⟩ (.int .i64 ((x : Int) + 1)))) ?hg ?ho ?hn ?hr ?_; (case ho => rfl); (case hg => rfl); (case hn => rfl); (case hr => first | (go_simp; done) | (go_simp; rfl)); intro w23 hw; replace HP := Aside0.mk (by rw [hw]; exact HP.out : Kd.R k47 47 w23 w.heap.size (fun _ => True) (.slice (some ⟨go, 0, none⟩) l.length co) (buffer_runs.upd l ((x : Int) + 1))); replace hB := Aside0.mk ((by rw [hw]; exact below_set (hB.out) GB.out : Below w.heap.size w w23)); clear hw))
              go_roundw
              case measure => simp [intOf]; omega
              case rel => exact ⟨x + 1, hxm, by rw [hE2], by go_num, by rw [hE2]; exact HP, by rw [hE2]; exact ⟨⟨by rw [buffer_runs.upd_length]; exact Nat.le_succ_of_le hLL.out.2, fun _ => by rw [buffer_runs.upd_length]; exact hLL.out.1⟩⟩, hB⟩
            | false =>
              obtain ⟨l1, hl1⟩ : ∃ l1 : List S47, l1 = l ++ [⟨x, y, x, (y : Int) + 1⟩] := ⟨_, rfl⟩
              have hE2 : buffer_runs.row p w0 y (buffer_runs.all p w0 y) (x + 1) = (buffer_runs.upd l1 ((x : Int) + 1), true) := by rw [hE.out, buffer_runs.stp, hp, hl1]; rfl
              have hn1 : l1.length = l.length + 1 := by rw [hl1]; simp
              have hlen2 : l.length ≤ y * 256 + x := hL.out.1
              have hb4 : (l.length + 1) * 32 ≤ 140737488355328 := Nat.le_trans (Nat.mul_le_mul_right 32 (show l.length + 1 ≤ 65793 by omega)) (by decide)
              have ej : wrap64 ((l1.length : Int) - 1) = (l1.length : Int) - 1 := by unfold wrap64; omega
              have ex : wrap64 ((x : Int) + 1) = (x : Int) + 1 := by unfold wrap64; omega
              have ey : wrap64 ((y : Int) + 1) = (y : Int) + 1 := by unfold wrap64; omega
              have hlen : 0 < l1.length := by omega
              obtain ⟨j, hj⟩ : ∃ j : Int, (l1.length : Int) - 1 = j := ⟨_, rfl⟩
              replace ej := ej.trans hj
              have HB4 := Aside0.mk hb4
              have HL1 := Aside0.mk hl1
              have HJ := Aside0.mk (And.intro hlen hj)
              have hLL := Aside0.mk (And.intro hlen (show l1.length ≤ y * 256 + (x + 1) by omega))
              clear hl1 hlen hlen2 hn1 hb4 hj hw1
              go_wp2_with (first | ((with_reducible refine gate_builtin (b := .append) (xs := #[.tmp 30, .tmp 37]) rfl ?_); at_builtin; refine Kd.R_append k47 (w0 := w) w.heap.size rfl (.tmp 30) (.tmp 37) 33 47 (.agg #[(.int .i64 0), (.int .i64 0), (.int .i64 0), (.int .i64 0)]) 32 rfl Try.underlying33 info47 rfl (by decide) (by omega) u8 l (⟨x, y, x, (y : Int) + 1⟩ : S47) [.int .i64 x, .int .i64 y, .int .i64 x, .int .i64 ((y : Int) + 1)] (fun _ => True) (fun _ => False) rfl rfl ?aP (fun _ hk => hk.elim) ?aF ?aO ?aB ?aS ?aL ?_; (case aP => exact k47_mkM _ _ _ (⟨x, y, x, (y : Int) + 1⟩ : S47)); (case aB => exact hB.out); (case aF => exact (fun _ _ => trivial)); (case aO => exact hu.out); (case aS => exact below_size hB.out); (case aL => exact HB4.out); intro v4 w4 ho hb hg hat; rw [← HL1.out] at ho; replace hB := Aside0.mk hb; obtain ⟨go, co, eo, GB0, pj, qj, hx2, hf2, HP0⟩ := buffer_runs.prep ho HJ.out.1 HJ.out.2 ((x : Int) + 1); subst eo; have HP := Aside0.mk HP0; have GB := Aside0.mk GB0; replace pj := eq_true pj; replace qj := eq_true qj; clear ho hb hg hat HP0 GB0) | ((with_reducible refine gate_store (t := 3) (p := 46) rfl ?_); refine store_event (t := 3) (p := 46) (v := ?vo_w) (w1 := (w4.setCell ⟨go, j.toNat * 4 + 2, none⟩ (.int .i64 ((x : Int) + 1)))) ?hg ?ho ?hn ?hr ?_; (case ho => rfl); (case hg => rfl); (case hn => rfl); (case hr => first | (go_simp; done) | (go_simp; rfl)); intro w23 hw; replace HP := Aside0.mk (by rw [hw]; exact HP.out : Kd.R k47 47 w23 w.heap.size (fun _ => True) (.slice (some ⟨go, 0, none⟩) l1.length co) (buffer_runs.upd l1 ((x : Int) + 1))); replace hB := Aside0.mk ((by rw [hw]; exact below_set (hB.out) GB.out : Below w.heap.size w w23)); clear hw))
              go_roundw
              case measure => simp [intOf]; omega
              case rel => exact ⟨x + 1, hxm, by rw [hE2], by go_num, by rw [hE2]; exact HP, by rw [hE2]; exact ⟨⟨by rw [buffer_runs.upd_length]; exact hLL.out.2, fun _ => by rw [buffer_runs.upd_length]; exact hLL.out.1⟩⟩, hB⟩
        · obtain rfl : x = w0 := by omega
          go_wp2
          go_roundw
          case measure => simp [intOf]; omega
          case rel => exact ⟨y + 1, by omega, by go_num, ⟨by rw [buffer_runs.all_succ]; exact hu.out⟩, ⟨by rw [buffer_runs.all_succ]; have := hL.out.1; omega⟩, hB⟩
    · obtain rfl : y = h0 := by omega
      have hlen2 : (buffer_runs.all p w0 y).length ≤ y * 256 := hL.out
      obtain ⟨Ao, co, eo⟩ := Kd.R_slice hu.out
      subst eo
      by_cases hq : (buffer_runs.all p w0 y).length > 256
      · have hq' : (256 : Int) < ((buffer_runs.all p w0 y).length : Int) := by omega
        go_wp2
        go_ret2
        try simp only [if_pos hq]
        exact ⟨_, rfl, Kd.R_nil _ _ _ _ _, hB.out⟩
      · have hq' : ¬ (256 : Int) < ((buffer_runs.all p w0 y).length : Int) := by omega
        go_wp2
        go_ret2
        try simp only [if_neg hq]
        exact ⟨_, rfl, hu.out, hB.out⟩
end


end Go.Proofs.Ytmockeaiccpogaa.All
