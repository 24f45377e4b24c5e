/-
  Plain laws (numbers and lists) for the statement BufferDecode: no program in sight.
-/
import Derived.Test.YtmockeaiccpogaaAllx0
import Derived.Test.YtmockeaiccpogaaAllx17
import Derived.Test.YtmockeaiccpogaaAllx18
import Derived.Test.YtmockeaiccpogaaAllx19
import Derived.Test.YtmockeaiccpogaaAllx20
import Derived.Test.YtmockeaiccpogaaAllx21
import Derived.Test.YtmockeaiccpogaaAllx22
import Derived.Test.YtmockeaiccpogaaAllx29
import Derived.Test.YtmockeaiccpogaaAllx3
import Derived.Test.YtmockeaiccpogaaAllx5
import Derived.Test.YtmockeaiccpogaaAllx6
import Derived.Test.YtmockeaiccpogaaAllx8
import Derived.Test.YtmockeaiccpogaaAllx90
namespace Go.Proofs.Ytmockeaiccpogaa.Pure
open Go.RowKit Go.Proofs.YtmockeaiccpogaaW.PrintWords Go.Proofs.YtmockeaiccpogaaW.PrintMore Go.Proofs.Ytmockeaiccpogaa.All
set_option linter.unusedVariables false
set_option linter.unusedSimpArgs false
theorem i64 {x : Int} (h : (Lit.int .i64 x).wf = true) : -9223372036854775808 ≤ x ∧ x ≤ 9223372036854775807 := by
  simpa [Lit.wf, IntKind.min, IntKind.max, IntKind.signed, IntKind.bits] using h
theorem w64 {x : Int} (h : -9223372036854775808 ≤ x) (h' : x ≤ 9223372036854775807) : wrap64 x = x := by unfold wrap64; omega
theorem wnat {n : Nat} (h : n ≤ 1000000) : wrap64 ((n : Int) + 1) = ((n + 1 : Nat) : Int) := by unfold wrap64; omega
/-- What holds with some fuel holds with more. -/
theorem fuel {α : Type} {f : Nat → Option α} (hm : ∀ k r, f k = some r → f (k + 1) = some r) {K : Nat} {r : α} (h : f K = some r) : ∀ k, K ≤ k → f k = some r := by
  intro k hk
  obtain ⟨j, rfl⟩ : ∃ j, k = K + j := ⟨k - K, by omega⟩
  clear hk
  induction j with
  | zero => exact h
  | succ j ih => exact hm _ _ ih
theorem example_holds : ∀ k, 200 ≤ k → compositorlaw09_exampleHolds.f k = some true :=
  fuel (f := fun k => compositorlaw09_exampleHolds.f k) (fun k r h => compositorlaw09_exampleHolds.mono k r h) (by decide +kernel)
theorem mx_spec (a b : Int) : a ≤ mx a b ∧ b ≤ mx a b ∧ (mx a b = a ∨ mx a b = b) := by unfold mx; split <;> omega
theorem mn_spec (a b : Int) : mn a b ≤ a ∧ mn a b ≤ b ∧ (mn a b = a ∨ mn a b = b) := by unfold mn; split <;> omega
/-- A valid pixel. -/
def PV (p : S43) : Prop := p.f0 ≤ p.f3 ∧ p.f1 ≤ p.f3 ∧ p.f2 ≤ p.f3
/-- A valid buffer. -/
def VB (W H : Int) (l : List S43) : Prop := (1 ≤ W ∧ W ≤ 256) ∧ (1 ≤ H ∧ H ≤ 256) ∧ (l.length : Int) = W * H ∧ ∀ p ∈ l, PV p
noncomputable instance (W H : Int) (l : List S43) : Decidable (VB W H l) := Classical.propDecidable _
def SZ (n : Int) : Prop := 1 ≤ n ∧ n ≤ 256
noncomputable instance (n : Int) : Decidable (SZ n) := Classical.propDecidable _
theorem ok_iff (p : S43) : buffer_Valid.ok p = true ↔ PV p := by
  have m0 := mn_spec p.f0 p.f3
  have m1 := mn_spec p.f1 p.f3
  have m2 := mn_spec p.f2 p.f3
  unfold buffer_Valid.ok PV
  simp only [Bool.and_eq_true, beq_iff_eq, and_true]
  omega
theorem bsize_eq (a : Int) : buffer_size.f a = some (decide (SZ a)) := by
  unfold buffer_size.f
  split <;> (refine congrArg some (Bool.eq_iff_iff.mpr ?_); simp only [decide_eq_true_eq, Bool.false_eq_true, false_iff]; unfold SZ; omega)
theorem rsize_eq (a b : Int) : compositorref09_size.f a b = some (decide (SZ a ∧ SZ b)) := by
  unfold compositorref09_size.f
  repeat' split
  all_goals (refine congrArg some (Bool.eq_iff_iff.mpr ?_); simp only [decide_eq_true_eq, Bool.false_eq_true, false_iff]; unfold SZ; omega)
theorem prod_small {W H : Int} (hW : SZ W) (hH : SZ H) : wrap64 (W * H) = W * H ∧ 1 ≤ W * H ∧ W * H ≤ 65536 := by
  unfold SZ at hW hH
  have p1 := Int.mul_le_mul hW.2 hH.2 (by omega) (by omega : (0 : Int) ≤ 256)
  have p2 : 0 < W * H := Int.mul_pos (by omega) (by omega)
  refine ⟨?_, by omega, by omega⟩
  unfold wrap64; omega
theorem bvalid_eq (W H : Int) (l : List S43) : buffer_Valid.f W H l = some (decide (VB W H l)) := by
  simp only [buffer_Valid.f, bsize_eq, Option.bind_some, decide_eq_true_eq]
  by_cases hW : SZ W
  · by_cases hH : SZ H
    · have hp := prod_small hW hH
      rw [if_pos hW, if_pos hH, hp.1]
      by_cases hl : (l.length : Int) = W * H
      · rw [if_pos hl]
        refine congrArg some (Bool.eq_iff_iff.mpr ?_)
        rw [List.all_eq_true, decide_eq_true_eq]
        exact ⟨fun h => ⟨hW, hH, hl, fun p hp => (ok_iff p).mp (h p hp)⟩, fun h p hp => (ok_iff p).mpr (h.2.2.2 p hp)⟩
      · rw [if_neg hl, decide_eq_false (fun h => hl h.2.2.1)]
    · rw [if_pos hW, if_neg hH, decide_eq_false (fun h => hH h.2.1)]
  · rw [if_neg hW, decide_eq_false (fun h => hW h.1)]
theorem rd_at {l : List S43} {i : Nat} (h : i < l.length) : rd_T43 l (i : Int) = l[i] := by
  simp [rd_T43, List.getD_eq_getElem?_getD, List.getElem?_eq_getElem h]
theorem rpv (p : S43) : compositorref08_Valid.f p.f0 p.f1 p.f2 p.f3 = some (decide (p.f0 ≤ p.f3 ∧ p.f1 ≤ p.f3 ∧ p.f2 ≤ p.f3)) := by
  unfold compositorref08_Valid.f
  repeat' split
  all_goals (refine congrArg some (Bool.eq_iff_iff.mpr ?_); simp only [decide_eq_true_eq, Bool.false_eq_true, false_iff]; omega)
theorem rvl (W H : Int) (l : List S43) (hl : l.length ≤ 100000) : ∀ d i, i + d = l.length → ∀ k, d + 1 ≤ k → ∀ b, (b = true ↔ ∀ p ∈ l.drop i, PV p) → compositorref09_Valid.l0 k i W H l = some b := by
  intro d
  induction d with
  | zero =>
    intro i hi k hk b hb
    obtain ⟨k, rfl⟩ : ∃ j, k = j + 1 := ⟨k - 1, by omega⟩
    rw [compositorref09_Valid.l0, if_neg (by omega)]
    have e : l.drop i = [] := List.drop_eq_nil_of_le (by omega)
    rw [e] at hb
    have : b = true := hb.mpr (fun p hp => by cases hp)
    rw [this]
  | succ d ih =>
    intro i hi k hk b hb
    obtain ⟨k, rfl⟩ : ∃ j, k = j + 1 := ⟨k - 1, by omega⟩
    have hlt : i < l.length := by omega
    rw [compositorref09_Valid.l0, if_pos (by omega), if_pos (by omega), rd_at hlt, rpv, Option.bind_some]
    have e : l.drop i = l[i] :: l.drop (i + 1) := List.drop_eq_getElem_cons hlt
    rw [e] at hb
    have ew : wrap64 ((i : Int) + 1) = ((i + 1 : Nat) : Int) := wnat (by omega)
    rw [ew]
    simp only [decide_eq_true_eq]
    by_cases h0 : PV l[i]
    · rw [if_pos (show l[i].f0 ≤ l[i].f3 ∧ l[i].f1 ≤ l[i].f3 ∧ l[i].f2 ≤ l[i].f3 from h0)]
      refine ih (i + 1) (by omega) k (by omega) b (hb.trans ?_)
      constructor
      · intro h p hm; exact h p (List.mem_cons_of_mem _ hm)
      · intro h p hm
        rcases List.mem_cons.mp hm with rfl | hm
        · exact h0
        · exact h p hm
    · rw [if_neg (show ¬ (l[i].f0 ≤ l[i].f3 ∧ l[i].f1 ≤ l[i].f3 ∧ l[i].f2 ≤ l[i].f3) from h0)]
      cases b with
      | false => rfl
      | true => exact absurd (hb.mp rfl l[i] (List.mem_cons_self ..)) h0
theorem rvalid_eq (W H : Int) (l : List S43) (hl : l.length ≤ 100000) : ∀ k, l.length + 2 ≤ k → compositorref09_Valid.f k W H l = some (decide (VB W H l)) := by
  intro k hk
  obtain ⟨k, rfl⟩ : ∃ j, k = j + 1 := ⟨k - 1, by omega⟩
  simp only [compositorref09_Valid.f, rsize_eq, Option.bind_some, decide_eq_true_eq, compositorref09_Valid.j0, if_true]
  by_cases hs : SZ W ∧ SZ H
  · have hp := prod_small hs.1 hs.2
    rw [if_pos hs, hp.1]
    by_cases he : (l.length : Int) = W * H
    · have e : ((l.length : Int) != W * H) = false := by simpa using he
      rw [e, if_neg (by simp)]
      refine rvl W H l hl l.length 0 (by omega) k (by omega) _ ?_
      rw [decide_eq_true_eq, List.drop_zero]
      exact ⟨fun h => h.2.2.2, fun h => ⟨hs.1, hs.2, he, h⟩⟩
    · have e : ((l.length : Int) != W * H) = true := by simpa using he
      rw [e, if_pos rfl, decide_eq_false (fun h => he h.2.2.1)]
  · rw [if_neg hs, decide_eq_false (fun h => hs ⟨h.1, h.2.1⟩)]
theorem pne (a b : S43) : (!(a.f0 == b.f0) || (!(a.f1 == b.f1) || (!(a.f2 == b.f2) || (!(a.f3 == b.f3))))) = true ↔ a ≠ b := by
  obtain ⟨a0, a1, a2, a3⟩ := a
  obtain ⟨b0, b1, b2, b3⟩ := b
  simp only [Bool.or_eq_true, Bool.not_eq_true', beq_eq_false_iff_ne, ne_eq, S43.mk.injEq]
  omega
/-- Two buffers are one. -/
def EB (W H : Int) (l : List S43) (W' H' : Int) (l' : List S43) : Prop := W = W' ∧ H = H' ∧ l = l'
noncomputable instance (W H : Int) (l : List S43) (W' H' : Int) (l' : List S43) : Decidable (EB W H l W' H' l') := Classical.propDecidable _
theorem rel (W H : Int) (l : List S43) (W' H' : Int) (l' : List S43) (hl : l.length ≤ 100000) (he : l.length = l'.length) : ∀ d i, i + d = l.length → ∀ k, d + 1 ≤ k → ∀ b, (b = true ↔ l.drop i = l'.drop i) → compositorref09_Equal.l0 k i W H l W' H' l' = some b := by
  intro d
  induction d with
  | zero =>
    intro i hi k hk b hb
    obtain ⟨k, rfl⟩ : ∃ j, k = j + 1 := ⟨k - 1, by omega⟩
    rw [compositorref09_Equal.l0, if_neg (by omega)]
    have : b = true := hb.mpr (by rw [List.drop_eq_nil_of_le (by omega), List.drop_eq_nil_of_le (by omega)])
    rw [this]
  | succ d ih =>
    intro i hi k hk b hb
    obtain ⟨k, rfl⟩ : ∃ j, k = j + 1 := ⟨k - 1, by omega⟩
    have hlt : i < l.length := by omega
    have hlt' : i < l'.length := by omega
    rw [compositorref09_Equal.l0, if_pos (by omega), if_pos (by omega), if_pos (by omega), rd_at hlt, rd_at hlt', wnat (by omega)]
    rw [List.drop_eq_getElem_cons hlt, List.drop_eq_getElem_cons hlt'] at hb
    by_cases hp : l[i] = l'[i]
    · rw [if_neg (fun h => (pne _ _).mp h hp)]
      exact ih (i + 1) (by omega) k (by omega) b (hb.trans (by rw [List.cons.injEq]; exact ⟨fun h => h.2, fun h => ⟨hp, h⟩⟩))
    · rw [if_pos ((pne _ _).mpr hp)]
      cases b with
      | false => rfl
      | true => exact absurd (List.cons.inj (hb.mp rfl)).1 hp
theorem requal_eq (W H : Int) (l : List S43) (W' H' : Int) (l' : List S43) (hl : l.length ≤ 100000) : ∀ k, l.length + 2 ≤ k → compositorref09_Equal.f k W H l W' H' l' = some (decide (EB W H l W' H' l')) := by
  intro k hk
  obtain ⟨k, rfl⟩ : ∃ j, k = j + 1 := ⟨k - 1, by omega⟩
  simp only [compositorref09_Equal.f, compositorref09_Equal.j0, if_true]
  by_cases h1 : W = W'
  · by_cases h2 : H = H'
    · rw [if_pos h1, if_pos h2]
      by_cases h3 : (l.length : Int) = (l'.length : Int)
      · have e : ((l.length : Int) != (l'.length : Int)) = false := by simpa using h3
        rw [e, if_neg (by simp)]
        refine rel W H l W' H' l' hl (by omega) l.length 0 (by omega) k (by omega) _ ?_
        rw [decide_eq_true_eq, List.drop_zero, List.drop_zero]
        exact ⟨fun h => h.2.2, fun h => ⟨h1, h2, h⟩⟩
      · have e : ((l.length : Int) != (l'.length : Int)) = true := by simpa using h3
        rw [e, if_pos rfl, decide_eq_false (fun h => h3 (by rw [h.2.2]))]
    · rw [if_pos h1, if_neg h2, decide_eq_false (fun h => h2 h.2.1)]
  · rw [if_neg h1, decide_eq_false (fun h => h1 h.1)]
theorem requal_refl (W H : Int) (l : List S43) (hl : l.length ≤ 100000) (k : Nat) (hk : l.length + 2 ≤ k) : compositorref09_Equal.f k W H l W H l = some true := by
  rw [requal_eq W H l W H l hl k hk, decide_eq_true (show EB W H l W H l from ⟨rfl, rfl, rfl⟩)]
theorem small_eq (W H : Int) (l : List S43) : compositorlaw09_small.f W H l = some (decide ((l.length : Int) ≤ 400)) := rfl
/-- A pixel read from four bytes. -/
def dpx (f : Int) (l : List Int) (i : Nat) : S43 :=
  ⟨mn (rd l ((i + 2 : Nat) : Int)) (if f = 2 then 255 else rd l ((i + 3 : Nat) : Int)), mn (rd l ((i + 1 : Nat) : Int)) (if f = 2 then 255 else rd l ((i + 3 : Nat) : Int)), mn (rd l (i : Int)) (if f = 2 then 255 else rd l ((i + 3 : Nat) : Int)), if f = 2 then 255 else rd l ((i + 3 : Nat) : Int)⟩
/-- The first n pixels of an image of rows of W pixels, S bytes apart. -/
def dec (f : Int) (l : List Int) (W S n : Nat) : List S43 := (List.range n).map fun j => dpx f l (j / W * S + 4 * (j % W))
theorem dec_succ (f : Int) (l : List Int) {W S y x : Nat} (h : x < W) : dec f l W S (y * W + x + 1) = dec f l W S (y * W + x) ++ [dpx f l (y * S + 4 * x)] := by
  unfold dec
  rw [List.range_succ, List.map_append, List.map_singleton]
  have e1 : (y * W + x) % W = x := by rw [Nat.add_comm, Nat.add_mul_mod_self_right, Nat.mod_eq_of_lt h]
  have e2 : (y * W + x) / W = y := by rw [Nat.add_comm, Nat.add_mul_div_right _ _ (by omega), Nat.div_eq_of_lt h]; omega
  rw [e1, e2]
theorem dec_len (f : Int) (l : List Int) (W S n : Nat) : (dec f l W S n).length = n := by simp [dec]
theorem didx {W H S y x L : Nat} (hx : x < W) (hy : y < H) (hS : 4 * W ≤ S) (hL : S * H ≤ L) (hB : L ≤ 100000) :
    Aside0 (wrap64 (wrap64 ((y : Int) * (S : Int)) + wrap64 (4 * (x : Int))) = ((y * S + 4 * x : Nat) : Int)) ∧ Aside0 (wrap64 (((y * S + 4 * x : Nat) : Int) + 1) = ((y * S + 4 * x + 1 : Nat) : Int)) ∧ Aside0 (wrap64 (((y * S + 4 * x : Nat) : Int) + 2) = ((y * S + 4 * x + 2 : Nat) : Int)) ∧ Aside0 (wrap64 (((y * S + 4 * x : Nat) : Int) + 3) = ((y * S + 4 * x + 3 : Nat) : Int)) ∧ y * S + 4 * x + 3 < L := by
  have m1 : (y + 1) * S ≤ H * S := Nat.mul_le_mul_right S hy
  rw [Nat.mul_comm H S, Nat.succ_mul] at m1
  rw [← Int.natCast_mul]
  generalize y * S = q at *
  generalize S * H = r at *
  refine ⟨⟨?_⟩, ⟨?_⟩, ⟨?_⟩, ⟨?_⟩, by omega⟩
  · rw [w64 (x := (q : Int)) (by omega) (by omega), w64 (x := 4 * (x : Int)) (by omega) (by omega), w64 (by omega) (by omega)]; omega
  · rw [w64 (by omega) (by omega)]; omega
  · rw [w64 (by omega) (by omega)]; omega
  · rw [w64 (by omega) (by omega)]; omega
theorem rd_drop (l : List Int) (n j : Nat) : rd (l.drop n) ((j : Nat) : Int) = rd l ((n + j : Nat) : Int) := by
  simp only [rd, Int.toNat_natCast, List.getD_eq_getElem?_getD, List.getElem?_drop]
theorem bdec_l1 (f : Int) (W H S : Nat) (l : List Int) (hW : W ≤ 256) (hH : H ≤ 256) (hS : 4 * W ≤ S) (hL : S * H ≤ l.length) (hB : l.length ≤ 100000) (a b : Int) (y : Nat) (hy : y < H) (k : Nat) :
    ∀ d x, x + d = W → buffer_Decode.l1 (k + d + 1) f W S l y H y W x a b (dec f l W S (y * W + x)) = buffer_Decode.l0 k f W S l H ((y + 1 : Nat) : Int) a b (dec f l W S (y * W + W)) := by
  intro d
  induction d with
  | zero =>
    intro x hx
    obtain rfl : x = W := by omega
    rw [buffer_Decode.l1, if_neg (by omega), wnat (by omega)]
  | succ d ih =>
    intro x hx
    have ih' := Aside0.mk (ih (x + 1) (by omega))
    clear ih
    obtain ⟨e0, e1, e2, e3, hb⟩ := didx (show x < W by omega) hy hS hL hB
    have ex : Aside0 (wrap64 ((x : Int) + 1) = ((x + 1 : Nat) : Int)) := ⟨wnat (by omega)⟩
    have hdl : (l.drop (y * S + 4 * x)).length = l.length - (y * S + 4 * x) := List.length_drop
    have hys : y * W ≤ 65536 := Nat.mul_le_mul (show y ≤ 256 by omega) hW
    rw [show k + (d + 1) + 1 = (k + d + 1) + 1 by omega, buffer_Decode.l1, e0.out, ex.out, if_pos (show (x : Int) < (W : Int) by omega)]
    rw [if_pos (show (0 : Int) ≤ ((y * S + 4 * x : Nat) : Int) from Int.natCast_nonneg _), if_pos (show ((y * S + 4 * x : Nat) : Int) ≤ (l.length : Int) by omega)]
    simp only [Int.toNat_natCast, hdl]
    rw [if_pos (show (0 : Int) < ((l.length - (y * S + 4 * x) : Nat) : Int) by omega), if_pos (show (1 : Int) < ((l.length - (y * S + 4 * x) : Nat) : Int) by omega), if_pos (show (2 : Int) < ((l.length - (y * S + 4 * x) : Nat) : Int) by omega), if_pos (show (3 : Int) < ((l.length - (y * S + 4 * x) : Nat) : Int) by omega)]
    have r0 := rd_drop l (y * S + 4 * x) 0
    have r1 := rd_drop l (y * S + 4 * x) 1
    have r2 := rd_drop l (y * S + 4 * x) 2
    have r3 := rd_drop l (y * S + 4 * x) 3
    simp only [Nat.add_zero] at r0
    rw [show ((0 : Nat) : Int) = 0 from rfl] at r0
    rw [show ((1 : Nat) : Int) = 1 from rfl] at r1
    rw [show ((2 : Nat) : Int) = 2 from rfl] at r2
    rw [show ((3 : Nat) : Int) = 3 from rfl] at r3
    rw [r0, r1, r2, r3]
    have hd := dec_succ f l (S := S) (y := y) (show x < W by omega)
    have ih2 := ih'.out
    rw [show y * W + (x + 1) = y * W + x + 1 by omega, hd] at ih2
    have hlen : (dec f l W S (y * W + x)).length < 35184372088832 := by rw [dec_len]; omega
    by_cases hf : f = 2
    · rw [if_pos hf]
      simp only [pixel_Clamp.f, Option.bind_some]
      rw [if_pos hlen]
      simp only [dpx, hf, if_true] at ih2 ⊢
      exact ih2
    · rw [if_neg hf]
      simp only [pixel_Clamp.f, Option.bind_some]
      rw [if_pos hlen]
      simp only [dpx, hf, if_false] at ih2 ⊢
      exact ih2
theorem bdec_l0 (f : Int) (W H S : Nat) (l : List Int) (hW : W ≤ 256) (hH : H ≤ 256) (hS : 4 * W ≤ S) (hL : S * H ≤ l.length) (hB : l.length ≤ 100000) (a b : Int) :
    ∀ d y, y + d = H → ∀ k, d * (W + 2) + 1 ≤ k → buffer_Decode.l0 k f W S l H y a b (dec f l W S (y * W)) = some (a, b, dec f l W S (H * W), 0) := by
  intro d
  induction d with
  | zero =>
    intro y hy k hk
    obtain ⟨k, rfl⟩ : ∃ j, k = j + 1 := ⟨k - 1, by omega⟩
    rw [buffer_Decode.l0, if_neg (by omega), show y = H by omega]
  | succ d ih =>
    intro y hy k hk
    rw [Nat.succ_mul] at hk
    obtain ⟨j, rfl⟩ : ∃ j, k = (j + W + 1) + 1 := ⟨k - W - 2, by omega⟩
    rw [buffer_Decode.l0, if_pos (by omega)]
    have q := bdec_l1 f W H S l hW hH hS hL hB a b y (by omega) j W 0 (by omega)
    simp only [Nat.add_zero] at q
    rw [show ((0 : Nat) : Int) = 0 from rfl] at q
    rw [q, ← Nat.succ_mul]
    exact ih (y + 1) (by omega) j (by omega)
/-- What Decode answers. -/
noncomputable def DC (f w h S : Int) (l : List Int) : Int × Int × List S43 × Int :=
  if f ≠ 1 ∧ f ≠ 2 then (0, 0, [], 2) else if ¬ (SZ w ∧ SZ h) then (0, 0, [], 6) else if S < 4 * w ∨ Int.tmod S 4 ≠ 0 then (0, 0, [], 15) else if S > (l.length : Int) / h then (0, 0, [], 4) else (w, h, dec f l w.toNat S.toNat (h.toNat * w.toNat), 0)
noncomputable instance (S w : Int) : Decidable (S < 4 * w ∨ Int.tmod S 4 ≠ 0) := Classical.propDecidable _
theorem ediv_small {n h : Int} (hn : 0 ≤ n) (hn2 : n ≤ 100000) (hh : 1 ≤ h) : wrap64 (n / h) = n / h := by
  have h1 : 0 ≤ n / h := Int.ediv_nonneg hn (by omega)
  have h2 : n / h ≤ n := Int.ediv_le_self h hn
  exact w64 (by omega) (by omega)
theorem DC_small {w h S : Int} {l : List Int} (hw : SZ w) (hh : SZ h) (h1 : ¬ (S < 4 * w ∨ Int.tmod S 4 ≠ 0)) (h2 : ¬ S > (l.length : Int) / h) : ∃ W H T : Nat, w = W ∧ h = H ∧ S = T ∧ W ≤ 256 ∧ H ≤ 256 ∧ 4 * W ≤ T ∧ T * H ≤ l.length ∧ 1 ≤ W ∧ 1 ≤ H := by
  unfold SZ at hw hh
  obtain ⟨W, rfl⟩ : ∃ W : Nat, w = W := ⟨w.toNat, by omega⟩
  obtain ⟨H, rfl⟩ : ∃ H : Nat, h = H := ⟨h.toNat, by omega⟩
  have h3 : ¬ S < 4 * (W : Int) := fun h => h1 (Or.inl h)
  obtain ⟨T, rfl⟩ : ∃ T : Nat, S = T := ⟨S.toNat, by omega⟩
  have h4 : (T : Int) ≤ (l.length : Int) / H := by omega
  have h5 := (Int.le_ediv_iff_mul_le (show (0 : Int) < H by omega)).mp h4
  rw [← Int.natCast_mul] at h5
  exact ⟨W, H, T, rfl, rfl, rfl, by omega, by omega, by omega, Int.ofNat_le.mp h5, by omega, by omega⟩
theorem fmt_ne (f : Int) (h : ¬ f = 1) : (f != 2) = decide (f ≠ 1 ∧ f ≠ 2) := by
  by_cases h2 : f = 2
  · subst h2; decide
  · simp [h, h2]
theorem bdec_eq (f w h S : Int) (l : List Int) (hl : l.length ≤ 100000) (k : Nat) (hk : 70000 ≤ k) : buffer_Decode.f k f w h S l = some (DC f w h S l) := by
  obtain ⟨k, rfl⟩ : ∃ j, k = j + 3 := ⟨k - 3, by omega⟩
  have key : ¬ (f ≠ 1 ∧ f ≠ 2) → buffer_Decode.j0 (k + 3) f w h S l false = some (DC f w h S l) := by
    intro hf
    simp only [buffer_Decode.j0, Bool.false_eq_true, if_false, bsize_eq, Option.bind_some, decide_eq_true_eq, buffer_Decode.j1, buffer_Decode.j2, if_true, DC]
    rw [if_neg hf]
    by_cases h1 : SZ w
    · rw [if_pos h1]
      by_cases h2 : SZ h
      · rw [if_neg (show ¬ (!decide (SZ h)) = true by simp [h2]), if_neg (show ¬ ¬ (SZ w ∧ SZ h) from fun q => q ⟨h1, h2⟩)]
        have e4 : wrap64 (4 * w) = 4 * w := w64 (by unfold SZ at h1; omega) (by unfold SZ at h1; omega)
        rw [e4]
        have hh : 1 ≤ h := h2.1
        have e5 := ediv_small (n := (l.length : Int)) (by omega) (by omega) hh
        by_cases h3 : S < 4 * w
        · rw [if_pos h3, if_pos (show S < 4 * w ∨ Int.tmod S 4 ≠ 0 from Or.inl h3)]
        · rw [if_neg h3]
          by_cases h4 : Int.tmod S 4 = 0
          · rw [if_neg (show ¬ (Int.tmod S 4 != 0) = true by simp [h4]), if_neg (show ¬ (S < 4 * w ∨ Int.tmod S 4 ≠ 0) from fun q => q.elim h3 (fun r => r h4)), if_neg (by omega), e5]
            by_cases h5 : S > (l.length : Int) / h
            · rw [if_pos h5, if_pos h5]
            · rw [if_neg h5, if_neg h5]
              obtain ⟨W, H, T, rfl, rfl, rfl, b1, b2, b3, b4, b5, b6⟩ := DC_small h1 h2 (fun q => q.elim h3 (fun r => r h4)) h5
              have hm : H * (W + 2) ≤ 256 * 258 := Nat.mul_le_mul b2 (by omega)
              have q := bdec_l0 f W H T l b1 b2 b3 b4 hl W H H 0 (by omega) k (by omega)
              rw [Nat.zero_mul] at q
              exact q
          · rw [if_pos (show (Int.tmod S 4 != 0) = true by simp [h4]), if_pos (show S < 4 * w ∨ Int.tmod S 4 ≠ 0 from Or.inr h4)]
      · rw [if_pos (show (!decide (SZ h)) = true by simp [h2]), if_pos (show ¬ (SZ w ∧ SZ h) from fun q => h2 q.2)]
    · rw [if_neg h1, if_pos (show ¬ (SZ w ∧ SZ h) from fun q => h1 q.1)]
  unfold buffer_Decode.f
  by_cases h1 : f = 1
  · rw [if_pos h1]; exact key (fun q => q.1 h1)
  · rw [if_neg h1, fmt_ne f h1]
    by_cases h2 : f ≠ 1 ∧ f ≠ 2
    · rw [decide_eq_true h2, DC, if_pos h2]
      simp only [buffer_Decode.j0, if_true]
    · rw [decide_eq_false h2]
      exact key h2
theorem rdec_l1 (f : Int) (W H S : Nat) (l : List Int) (hW : W ≤ 256) (hH : H ≤ 256) (hS : 4 * W ≤ S) (hL : S * H ≤ l.length) (hB : l.length ≤ 100000) (a b : Int) (y : Nat) (hy : y < H) (k : Nat) :
    ∀ d x, x + d = W → compositorref09_Decode.l1 (k + d + 1) f W H S l y x a b (dec f l W S (y * W + x)) = compositorref09_Decode.l0 k f W H S l ((y + 1 : Nat) : Int) a b (dec f l W S (y * W + W)) := by
  intro d
  induction d with
  | zero =>
    intro x hx
    obtain rfl : x = W := by omega
    rw [compositorref09_Decode.l1, if_neg (by omega), wnat (by omega)]
  | succ d ih =>
    intro x hx
    have ih' := Aside0.mk (ih (x + 1) (by omega))
    clear ih
    obtain ⟨e0, e1, e2, e3, hb⟩ := didx (show x < W by omega) hy hS hL hB
    have ex : Aside0 (wrap64 ((x : Int) + 1) = ((x + 1 : Nat) : Int)) := ⟨wnat (by omega)⟩
    have hys : y * W ≤ 65536 := Nat.mul_le_mul (show y ≤ 256 by omega) hW
    rw [show k + (d + 1) + 1 = (k + d + 1) + 1 by omega, compositorref09_Decode.l1, e0.out, e1.out, e2.out, e3.out, ex.out, if_pos (show (x : Int) < (W : Int) by omega)]
    rw [if_pos (show (0 : Int) ≤ ((y * S + 4 * x + 2 : Nat) : Int) from Int.natCast_nonneg _), if_pos (show ((y * S + 4 * x + 2 : Nat) : Int) < (l.length : Int) by omega)]
    rw [if_pos (show (0 : Int) ≤ ((y * S + 4 * x + 1 : Nat) : Int) from Int.natCast_nonneg _), if_pos (show ((y * S + 4 * x + 1 : Nat) : Int) < (l.length : Int) by omega)]
    rw [if_pos (show (0 : Int) ≤ ((y * S + 4 * x : Nat) : Int) from Int.natCast_nonneg _), if_pos (show ((y * S + 4 * x : Nat) : Int) < (l.length : Int) by omega)]
    rw [if_pos (show (0 : Int) ≤ ((y * S + 4 * x + 3 : Nat) : Int) from Int.natCast_nonneg _), if_pos (show ((y * S + 4 * x + 3 : Nat) : Int) < (l.length : Int) by omega)]
    have hd := dec_succ f l (S := S) (y := y) (show x < W by omega)
    have ih2 := ih'.out
    rw [show y * W + (x + 1) = y * W + x + 1 by omega, hd] at ih2
    have hlen : (dec f l W S (y * W + x)).length < 35184372088832 := by rw [dec_len]; omega
    by_cases hf : f = 2
    · rw [if_pos hf]
      simp only [compositorref08_Clamp.f, Option.bind_some]
      rw [if_pos hlen]
      simp only [dpx, hf, if_true] at ih2 ⊢
      exact ih2
    · rw [if_neg hf]
      simp only [compositorref08_Clamp.f, Option.bind_some]
      rw [if_pos hlen]
      simp only [dpx, hf, if_false] at ih2 ⊢
      exact ih2
theorem rdec_l0 (f : Int) (W H S : Nat) (l : List Int) (hW : W ≤ 256) (hH : H ≤ 256) (hS : 4 * W ≤ S) (hL : S * H ≤ l.length) (hB : l.length ≤ 100000) (a b : Int) :
    ∀ d y, y + d = H → ∀ k, d * (W + 2) + 1 ≤ k → compositorref09_Decode.l0 k f W H S l y a b (dec f l W S (y * W)) = some (a, b, dec f l W S (H * W), 0) := by
  intro d
  induction d with
  | zero =>
    intro y hy k hk
    obtain ⟨k, rfl⟩ : ∃ j, k = j + 1 := ⟨k - 1, by omega⟩
    rw [compositorref09_Decode.l0, if_neg (by omega), show y = H by omega]
  | succ d ih =>
    intro y hy k hk
    rw [Nat.succ_mul] at hk
    obtain ⟨j, rfl⟩ : ∃ j, k = (j + W + 1) + 1 := ⟨k - W - 2, by omega⟩
    rw [compositorref09_Decode.l0, if_pos (by omega)]
    have q := rdec_l1 f W H S l hW hH hS hL hB a b y (by omega) j W 0 (by omega)
    simp only [Nat.add_zero] at q
    rw [show ((0 : Nat) : Int) = 0 from rfl] at q
    rw [q, ← Nat.succ_mul]
    exact ih (y + 1) (by omega) j (by omega)
theorem rdec_eq (f w h S : Int) (l : List Int) (hl : l.length ≤ 100000) (k : Nat) (hk : 70000 ≤ k) : compositorref09_Decode.f k f w h S l = some (DC f w h S l) := by
  obtain ⟨k, rfl⟩ : ∃ j, k = j + 3 := ⟨k - 3, by omega⟩
  have key : ¬ (f ≠ 1 ∧ f ≠ 2) → compositorref09_Decode.j0 (k + 3) f w h S l false = some (DC f w h S l) := by
    intro hf
    simp only [compositorref09_Decode.j0, Bool.false_eq_true, if_false, rsize_eq, Option.bind_some, decide_eq_true_eq, compositorref09_Decode.j1, if_true, DC]
    rw [if_neg hf]
    by_cases h1 : SZ w ∧ SZ h
    · rw [if_pos h1, if_neg (show ¬ ¬ (SZ w ∧ SZ h) from fun q => q h1)]
      have e4 : wrap64 (4 * w) = 4 * w := w64 (by have := h1.1; unfold SZ at this; omega) (by have := h1.1; unfold SZ at this; omega)
      rw [e4]
      have hh : 1 ≤ h := h1.2.1
      have e5 := ediv_small (n := (l.length : Int)) (by omega) (by omega) hh
      by_cases h3 : S < 4 * w
      · rw [if_pos h3, if_pos (show S < 4 * w ∨ Int.tmod S 4 ≠ 0 from Or.inl h3)]
      · rw [if_neg h3]
        by_cases h4 : Int.tmod S 4 = 0
        · rw [if_neg (show ¬ (Int.tmod S 4 != 0) = true by simp [h4]), if_neg (show ¬ (S < 4 * w ∨ Int.tmod S 4 ≠ 0) from fun q => q.elim h3 (fun r => r h4)), if_neg (by omega), e5]
          by_cases h5 : S > (l.length : Int) / h
          · rw [if_pos h5, if_pos h5]
          · rw [if_neg h5, if_neg h5]
            obtain ⟨W, H, T, rfl, rfl, rfl, b1, b2, b3, b4, b5, b6⟩ := DC_small h1.1 h1.2 (fun q => q.elim h3 (fun r => r h4)) h5
            have hm : H * (W + 2) ≤ 256 * 258 := Nat.mul_le_mul b2 (by omega)
            have q := rdec_l0 f W H T l b1 b2 b3 b4 hl W H H 0 (by omega) (k + 1) (by omega)
            rw [Nat.zero_mul] at q
            exact q
        · rw [if_pos (show (Int.tmod S 4 != 0) = true by simp [h4]), if_pos (show S < 4 * w ∨ Int.tmod S 4 ≠ 0 from Or.inr h4)]
    · rw [if_neg h1, if_pos (show ¬ (SZ w ∧ SZ h) from h1)]
  unfold compositorref09_Decode.f
  by_cases h1 : f = 1
  · rw [if_pos h1]; exact key (fun q => q.1 h1)
  · rw [if_neg h1, fmt_ne f h1]
    by_cases h2 : f ≠ 1 ∧ f ≠ 2
    · rw [decide_eq_true h2, DC, if_pos h2]
      simp only [compositorref09_Decode.j0, if_true]
    · rw [decide_eq_false h2]
      exact key h2
theorem DC_len (f w h S : Int) (l : List Int) : (DC f w h S l).2.2.1.length ≤ l.length := by
  unfold DC
  split
  · simp
  · split
    · simp
    · rename_i h1
      split
      · simp
      · rename_i h2
        split
        · simp
        · rename_i h3
          have hs : SZ w ∧ SZ h := Classical.byContradiction h1
          obtain ⟨W, H, T, rfl, rfl, rfl, b1, b2, b3, b4, b5, b6⟩ := DC_small hs.1 hs.2 h2 h3
          simp only [dec_len, Int.toNat_natCast]
          have : H * W ≤ T * H := by rw [Nat.mul_comm T H]; exact Nat.mul_le_mul_left H (by omega)
          omega
theorem declaw (f w h S : Int) (l : List Int) : compositorlaw09_BufferDecode.f 70010 f w h S l = some true := by
  unfold compositorlaw09_BufferDecode.f
  by_cases h1 : (l.length : Int) > 4000
  · rw [if_pos h1]; exact example_holds 70010 (by omega)
  · have hd := DC_len f w h S l
    rw [if_neg h1, bdec_eq f w h S l (by omega) 70010 (by omega), Option.bind_some, rdec_eq f w h S l (by omega) 70010 (by omega), Option.bind_some, if_pos rfl, requal_refl _ _ _ (show (DC f w h S l).2.2.1.length ≤ 100000 by omega) 70010 (by omega), Option.bind_some, if_pos rfl]
    exact example_holds 70010 (by omega)
theorem BufferDecode (x0 : S22) (x1 : List Int) (ok0 : ((Lit.int .i64 x0.f0).wf = true) ∧ ((Lit.int .i64 x0.f1).wf = true) ∧ ((Lit.int .i64 x0.f2).wf = true) ∧ ((Lit.int .i64 x0.f3).wf = true)) (ok1 : x1.length * 1 ≤ 140737488351232 ∧ x1.length ≤ 9223372036854775807 ∧ ∀ y23 ∈ x1, (Lit.int .u8 y23).wf = true) :
    ∃ k, compositorlaw09_BufferDecode.f k x0.f0 x0.f1 x0.f2 x0.f3 x1 = some true := by
  exact ⟨70010, declaw _ _ _ _ _⟩

end Go.Proofs.Ytmockeaiccpogaa.Pure
