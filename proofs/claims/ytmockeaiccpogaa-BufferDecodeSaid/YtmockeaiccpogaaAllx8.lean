-- Written by a program of this session, which runs the kit's print.py and puts in functions that this session typed. Not trusted: Lean checks it.
import Derived.Test.YtmockeaiccpogaaAllx0
import Derived.Test.YtmockeaiccpogaaAllx3
import Derived.Test.YtmockeaiccpogaaAllx5
namespace Go.Proofs.Ytmockeaiccpogaa.All
open Go.RowKit Go.Proofs.YtmockeaiccpogaaW.PrintWords Go.Proofs.YtmockeaiccpogaaW.PrintLast Go.Proofs.YtmockeaiccpogaaW.PrintMore
attribute [local go_sem] max2_int min2_int max_two min_two max_three min_three max_four min_four   -- for this text's walks alone
set_option linter.unusedVariables false
set_option linter.unusedSimpArgs false

/-! ### buffer_Valid: function 26 -/
section
open Go.Proofs.YtmockeaiccpogaaHand
def buffer_Valid.ok (p : S43) : Bool := (mn p.f0 p.f3 == p.f0) && ((mn p.f1 p.f3 == p.f1) && ((mn p.f2 p.f3 == p.f2) && (p.f3 == p.f3)))
theorem buffer_Valid.pv (p : S43) : pixel_Valid.f p.f0 p.f1 p.f2 p.f3 = some (buffer_Valid.ok p) := rfl
theorem buffer_Valid.lit_calls (p : S43) (w : World) : Calls Try.prog 52 #[.agg #[.int .u8 p.f0, .int .u8 p.f1, .int .u8 p.f2, .int .u8 p.f3]] w fun e w' => e = .returned (.bool (!buffer_Valid.ok p)) ∧ Below w.heap.size w w' := by
  have hp := Aside0.mk (buffer_Valid.pv p)
  go_enter Try.func52, Try.ntmps52
  go_wp2_with fail
  obtain ⟨hR0, hb0⟩ := allocs1 w (Obj.cells #[Value.int IntKind.u8 p.f0, Value.int IntKind.u8 p.f1, Value.int IntKind.u8 p.f2, Value.int IntKind.u8 p.f3] 43)
  generalize w.alloc (Obj.cells #[Value.int IntKind.u8 p.f0, Value.int IntKind.u8 p.f1, Value.int IntKind.u8 p.f2, Value.int IntKind.u8 p.f3] 43) = W at hR0 hb0 ⊢
  have hb := Aside0.mk hb0
  clear hb0
  refine (pixel_Valid.calls _ _ _ _ _ W hp.out).mono ?_
  rintro e w1 ⟨rfl, hb1⟩
  have hB := Aside0.mk (below_then hb.out hb.out.size hb1)
  clear hb1
  go_wp2
  go_ret
  exact ⟨rfl, hB.out⟩
/-- The first index with a pixel that is not valid. -/
def buffer_Valid.idx : List S43 → Int → Int
  | [], _ => -1
  | p :: l, i => if buffer_Valid.ok p then buffer_Valid.idx l (i + 1) else i
set_option maxHeartbeats 4000000 in
theorem buffer_Valid.index_calls (A : Option Addr) (c : Nat) (l : List S43) (w : World) (hr0 : Kd.C k43 w A l.length l) (hl : l.length ≤ 4398046511104) : Calls Try.prog 65 #[.slice A l.length c, .func (Fn.func 52) #[] #[]] w fun e w' => e = .returned (.int .i64 (buffer_Valid.idx l 0)) ∧ Below w.heap.size w w' := by
  have hr := Aside0.mk hr0
  clear hr0
  go_enter Try.func65, Try.ntmps65
  go_wp2_with fail
  go_loopw [8] (fun v w' => ∃ i : Nat, i ≤ l.length ∧ v = .int .i64 i ∧ Aside0 (buffer_Valid.idx l 0 = buffer_Valid.idx (l.drop i) i) ∧ Aside0 (Below w.heap.size w w')) (fun v _ => l.length - (intOf v).toNat)
  case atStart => exact ⟨0, Nat.zero_le _, rfl, ⟨rfl⟩, ⟨Below.refl _ _⟩⟩
  case round =>
    obtain ⟨i, hi, rfl, he, hb⟩ := hrel
    by_cases hlt : i < l.length
    · obtain ⟨ad, e0, x0, x1, x2, x3⟩ := at_T43 hr.out (i : Int) (by omega) (by omega)
      cases e0
      simp only [Int.toNat_natCast] at x0 x1 x2 x3
      replace x0 := (hb.out.cell (World.block_lt_of_cell? w _ x0)).trans x0
      replace x1 := (hb.out.cell (World.block_lt_of_cell? w _ x1)).trans x1
      replace x2 := (hb.out.cell (World.block_lt_of_cell? w _ x2)).trans x2
      replace x3 := (hb.out.cell (World.block_lt_of_cell? w _ x3)).trans x3
      have hlt' : (i : Int) < (l.length : Int) := by omega
      have hp : l.drop i = rd_T43 l (i : Int) :: l.drop (i + 1) := by
        rw [List.drop_eq_getElem_cons hlt]
        congr 1
        unfold rd_T43
        rw [Int.toNat_natCast, List.getD_eq_getElem?_getD, List.getElem?_eq_getElem hlt, Option.getD_some]
      have he1 := he.out
      rw [hp, buffer_Valid.idx] at he1
      have he2 := Aside0.mk he1
      clear he he1 hp
      generalize rd_T43 l (i : Int) = p at *
      go_wp2_with fail
      refine (buffer_Valid.lit_calls p wr).mono ?_
      rintro e w1 ⟨rfl, hb1⟩
      have hb2 := Aside0.mk (below_then hb.out hb.out.size hb1)
      clear hb1
      by_cases hk : buffer_Valid.ok p = true
      · rw [hk] at he2 ⊢
        have he3 := Aside0.mk (show buffer_Valid.idx l 0 = buffer_Valid.idx (l.drop (i + 1)) ((i : Int) + 1) from he2.out)
        clear he2
        go_wp2
        go_roundw
        case rel => exact ⟨i + 1, by omega, by go_num, ⟨he3.out⟩, ⟨hb2.out⟩⟩
        case measure => simp [intOf]; omega
      · replace hk := Bool.eq_false_iff.mpr hk
        rw [hk] at he2 ⊢
        have he3 := Aside0.mk (show buffer_Valid.idx l 0 = (i : Int) from he2.out)
        clear he2
        go_wp2
        go_ret
        exact ⟨by rw [he3.out]; rfl, hb2.out⟩
    · obtain rfl : i = l.length := by omega
      have he2 := Aside0.mk (show buffer_Valid.idx l 0 = -1 from by rw [he.out, List.drop_length]; rfl)
      go_wp2
      go_ret
      exact ⟨by rw [he2.out]; rfl, hb.out⟩
theorem buffer_Valid.idx_neg : ∀ (l : List S43) (i : Int), 0 ≤ i → decide (buffer_Valid.idx l i ≥ 0) = !l.all buffer_Valid.ok
  | [], i, h => rfl
  | p :: l, i, h => by
    rw [buffer_Valid.idx, List.all_cons]
    by_cases hk : buffer_Valid.ok p = true
    · rw [hk, if_pos rfl, Bool.true_and]; exact buffer_Valid.idx_neg l (i + 1) (by omega)
    · replace hk := Bool.eq_false_iff.mpr hk
      rw [hk, if_neg (by decide), Bool.false_and]
      simpa using h
theorem buffer_Valid.contains_calls (A : Option Addr) (c : Nat) (l : List S43) (w : World) (hr0 : Kd.C k43 w A l.length l) (hl : l.length ≤ 4398046511104) : Calls Try.prog 51 #[.slice A l.length c, .func (Fn.func 52) #[] #[]] w fun e w' => e = .returned (.bool (!l.all buffer_Valid.ok)) ∧ Below w.heap.size w w' := by
  have hr := Aside0.mk hr0
  clear hr0
  go_enter Try.func51, Try.ntmps51
  go_wp2_with (go_at_call 65; refine (buffer_Valid.index_calls A c l _ hr.out hl).mono ?_; rintro e w1 ⟨rfl, hb1⟩)
  go_ret
  exact ⟨by rw [← buffer_Valid.idx_neg l 0 (by omega)]; rfl, hb1⟩
def buffer_Valid.f (a0_0 a0_1 : Int) (l0_2 : List S43) : Option Bool :=
  (buffer_size.f a0_0).bind fun s1 => if s1 = true then (buffer_size.f a0_1).bind fun s2 => if s2 = true then (if (l0_2.length : Int) = wrap64 (a0_0 * a0_1) then some (l0_2.all buffer_Valid.ok) else some false) else some false else some false
theorem buffer_Valid.size_in {a : Int} (h : buffer_size.f a = some true) : 1 ≤ a ∧ a ≤ 256 := by
  unfold buffer_size.f at h
  split at h
  · rename_i k; exact ⟨k, by simpa using h⟩
  · simp at h
set_option maxHeartbeats 4000000 in
theorem buffer_Valid.calls (a0_0 : Int) (a0_1 : Int) (A0_2 : Option Addr) (c0_2 : Nat) (l0_2 : List (S43)) (r : Bool) (w : World) (hr0_2 : Kd.C k43 w A0_2 l0_2.length l0_2) (hc0_2 : l0_2.length ≤ c0_2) (h : buffer_Valid.f a0_0 a0_1 l0_2 = some r) :
    Calls Try.prog 26 #[.agg #[.int .i64 a0_0, .int .i64 a0_1, .slice A0_2 l0_2.length c0_2]] w fun e w' => e = .returned (.bool r) ∧ Below w.heap.size w w' := by
  obtain ⟨s1, hs1, h⟩ := Option.bind_eq_some_iff.mp h
  have hr := Aside0.mk hr0_2
  have hs := Aside0.mk hs1
  clear hr0_2 hs1
  go_enter Try.func26, Try.ntmps26
  go_wp2_with fail
  obtain ⟨hR0, hb0⟩ := allocs1 w (Obj.cells #[.int .i64 a0_0, .int .i64 a0_1, .slice A0_2 l0_2.length c0_2] 27)
  generalize w.alloc (Obj.cells #[.int .i64 a0_0, .int .i64 a0_1, .slice A0_2 l0_2.length c0_2] 27) = W at hR0 hb0 ⊢
  have hb := Aside0.mk hb0
  clear hb0
  refine (buffer_size.calls a0_0 s1 W hs.out).mono ?_
  rintro e w1 ⟨rfl, hd1⟩
  have hR1 := Aside0.mk (cells_drawn hd1 hR0)
  have hB1 := Aside0.mk (below_then hb.out hb.out.size (Drawn0.below hd1))
  clear hd1 hR0 hb
  have x0 := (blk_cell hR1.out 0).trans rfl
  have x1 := (blk_cell hR1.out 1).trans rfl
  have x2 := (blk_cell hR1.out 2).trans rfl
  cases s1 with
  | false =>
    obtain rfl : false = r := by simpa using h
    go_wp2
    go_ret
    exact ⟨rfl, hB1.out⟩
  | true =>
    rw [if_pos rfl] at h
    obtain ⟨s2, hs2, h⟩ := Option.bind_eq_some_iff.mp h
    have hs' := Aside0.mk hs2
    clear hs2
    go_wp2_with fail
    refine (buffer_size.calls a0_1 s2 w1 hs'.out).mono ?_
    rintro e w2 ⟨rfl, hd2⟩
    have hR2 := Aside0.mk (cells_drawn hd2 hR1.out)
    have hB2 := Aside0.mk (below_then hB1.out hB1.out.size (Drawn0.below hd2))
    clear hd2 x0 x1 x2
    have x0 := (blk_cell hR2.out 0).trans rfl
    have x1 := (blk_cell hR2.out 1).trans rfl
    have x2 := (blk_cell hR2.out 2).trans rfl
    cases s2 with
    | false =>
      obtain rfl : false = r := by simpa using h
      go_wp2
      go_ret
      exact ⟨rfl, hB2.out⟩
    | true =>
      rw [if_pos rfl] at h
      by_cases hn : (l0_2.length : Int) = wrap64 (a0_0 * a0_1)
      · rw [if_pos hn] at h
        obtain rfl : l0_2.all buffer_Valid.ok = r := by simpa using h
        have hn' : ((l0_2.length : Int) != wrap64 (a0_0 * a0_1)) = false := by simpa using hn
        have hrw := Aside0.mk (Kd.C_below hr.out hB2.out)
        have hl : l0_2.length ≤ 4398046511104 := by
          have e1 := buffer_Valid.size_in hs.out
          have e2 := buffer_Valid.size_in hs'.out
          have p1 := Int.mul_le_mul e1.2 e2.2 (by omega) (by omega : (0 : Int) ≤ 256)
          have p2 := Int.mul_nonneg (show 0 ≤ a0_0 by omega) (show 0 ≤ a0_1 by omega)
          have p3 : wrap64 (a0_0 * a0_1) = a0_0 * a0_1 := by unfold wrap64; omega
          omega
        go_wp2_with fail
        refine (buffer_Valid.contains_calls A0_2 c0_2 l0_2 w2 hrw.out hl).mono ?_
        rintro e w3 ⟨rfl, hb3⟩
        have hB3 := Aside0.mk (below_then hB2.out hB2.out.size hb3)
        go_wp2
        go_ret
        exact ⟨rfl, hB3.out⟩
      · rw [if_neg hn] at h
        obtain rfl : false = r := by simpa using h
        go_wp2
        go_ret
        exact ⟨rfl, hB2.out⟩
theorem buffer_Valid.of_valid {W H : Int} {l : List S43} (h : buffer_Valid.f W H l = some true) : (1 ≤ W ∧ W ≤ 256) ∧ (1 ≤ H ∧ H ≤ 256) ∧ (l.length : Int) = W * H := by
  unfold buffer_Valid.f at h
  obtain ⟨s1, h1, h⟩ := Option.bind_eq_some_iff.mp h
  cases s1 with
  | false => simp at h
  | true =>
    rw [if_pos rfl] at h
    obtain ⟨s2, h2, h⟩ := Option.bind_eq_some_iff.mp h
    cases s2 with
    | false => simp at h
    | true =>
      rw [if_pos rfl] at h
      have e1 := buffer_Valid.size_in h1
      have e2 := buffer_Valid.size_in h2
      by_cases hn : (l.length : Int) = wrap64 (W * H)
      · have p1 := Int.mul_le_mul e1.2 e2.2 (by omega) (by omega : (0 : Int) ≤ 256)
        have p2 := Int.mul_nonneg (show 0 ≤ W by omega) (show 0 ≤ H by omega)
        have p3 : wrap64 (W * H) = W * H := by unfold wrap64; omega
        exact ⟨e1, e2, hn.trans p3⟩
      · rw [if_neg hn] at h
        simp at h
end


end Go.Proofs.Ytmockeaiccpogaa.All
