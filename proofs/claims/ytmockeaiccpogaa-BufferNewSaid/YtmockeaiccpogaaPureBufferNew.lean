/-
  Plain laws (numbers and lists) for the statement BufferNew: no program in sight.
-/
import Derived.Test.YtmockeaiccpogaaAllx0
import Derived.Test.YtmockeaiccpogaaAllx17
import Derived.Test.YtmockeaiccpogaaAllx18
import Derived.Test.YtmockeaiccpogaaAllx20
import Derived.Test.YtmockeaiccpogaaAllx21
import Derived.Test.YtmockeaiccpogaaAllx22
import Derived.Test.YtmockeaiccpogaaAllx29
import Derived.Test.YtmockeaiccpogaaAllx3
import Derived.Test.YtmockeaiccpogaaAllx5
import Derived.Test.YtmockeaiccpogaaAllx56
import Derived.Test.YtmockeaiccpogaaAllx57
import Derived.Test.YtmockeaiccpogaaAllx58
import Derived.Test.YtmockeaiccpogaaAllx59
import Derived.Test.YtmockeaiccpogaaAllx8
namespace Go.Proofs.Ytmockeaiccpogaa.Pure
open Go.RowKit Go.Proofs.YtmockeaiccpogaaW.PrintWords Go.Proofs.YtmockeaiccpogaaW.PrintMore Go.Proofs.Ytmockeaiccpogaa.All
set_option linter.unusedVariables false
set_option linter.unusedSimpArgs false
theorem i64 {x : Int} (h : (Lit.int .i64 x).wf = true) : -9223372036854775808 ≤ x ∧ x ≤ 9223372036854775807 := by
  simpa [Lit.wf, IntKind.min, IntKind.max, IntKind.signed, IntKind.bits] using h
theorem w64 {x : Int} (h : -9223372036854775808 ≤ x) (h' : x ≤ 9223372036854775807) : wrap64 x = x := by unfold wrap64; omega
theorem wnat {n : Nat} (h : n ≤ 1000000) : wrap64 ((n : Int) + 1) = ((n + 1 : Nat) : Int) := by unfold wrap64; omega
/-- What holds with some fuel holds with more. -/
theorem fuel {α : Type} {f : Nat → Option α} (hm : ∀ k r, f k = some r → f (k + 1) = some r) {K : Nat} {r : α} (h : f K = some r) : ∀ k, K ≤ k → f k = some r := by
  intro k hk
  obtain ⟨j, rfl⟩ : ∃ j, k = K + j := ⟨k - K, by omega⟩
  clear hk
  induction j with
  | zero => exact h
  | succ j ih => exact hm _ _ ih
theorem example_holds : ∀ k, 200 ≤ k → compositorlaw09_exampleHolds.f k = some true :=
  fuel (f := fun k => compositorlaw09_exampleHolds.f k) (fun k r h => compositorlaw09_exampleHolds.mono k r h) (by decide +kernel)
theorem mx_spec (a b : Int) : a ≤ mx a b ∧ b ≤ mx a b ∧ (mx a b = a ∨ mx a b = b) := by unfold mx; split <;> omega
theorem mn_spec (a b : Int) : mn a b ≤ a ∧ mn a b ≤ b ∧ (mn a b = a ∨ mn a b = b) := by unfold mn; split <;> omega
/-- A valid pixel. -/
def PV (p : S43) : Prop := p.f0 ≤ p.f3 ∧ p.f1 ≤ p.f3 ∧ p.f2 ≤ p.f3
/-- A valid buffer. -/
def VB (W H : Int) (l : List S43) : Prop := (1 ≤ W ∧ W ≤ 256) ∧ (1 ≤ H ∧ H ≤ 256) ∧ (l.length : Int) = W * H ∧ ∀ p ∈ l, PV p
noncomputable instance (W H : Int) (l : List S43) : Decidable (VB W H l) := Classical.propDecidable _
def SZ (n : Int) : Prop := 1 ≤ n ∧ n ≤ 256
noncomputable instance (n : Int) : Decidable (SZ n) := Classical.propDecidable _
theorem ok_iff (p : S43) : buffer_Valid.ok p = true ↔ PV p := by
  have m0 := mn_spec p.f0 p.f3
  have m1 := mn_spec p.f1 p.f3
  have m2 := mn_spec p.f2 p.f3
  unfold buffer_Valid.ok PV
  simp only [Bool.and_eq_true, beq_iff_eq, and_true]
  omega
theorem bsize_eq (a : Int) : buffer_size.f a = some (decide (SZ a)) := by
  unfold buffer_size.f
  split <;> (refine congrArg some (Bool.eq_iff_iff.mpr ?_); simp only [decide_eq_true_eq, Bool.false_eq_true, false_iff]; unfold SZ; omega)
theorem rsize_eq (a b : Int) : compositorref09_size.f a b = some (decide (SZ a ∧ SZ b)) := by
  unfold compositorref09_size.f
  repeat' split
  all_goals (refine congrArg some (Bool.eq_iff_iff.mpr ?_); simp only [decide_eq_true_eq, Bool.false_eq_true, false_iff]; unfold SZ; omega)
theorem prod_small {W H : Int} (hW : SZ W) (hH : SZ H) : wrap64 (W * H) = W * H ∧ 1 ≤ W * H ∧ W * H ≤ 65536 := by
  unfold SZ at hW hH
  have p1 := Int.mul_le_mul hW.2 hH.2 (by omega) (by omega : (0 : Int) ≤ 256)
  have p2 : 0 < W * H := Int.mul_pos (by omega) (by omega)
  refine ⟨?_, by omega, by omega⟩
  unfold wrap64; omega
theorem bvalid_eq (W H : Int) (l : List S43) : buffer_Valid.f W H l = some (decide (VB W H l)) := by
  simp only [buffer_Valid.f, bsize_eq, Option.bind_some, decide_eq_true_eq]
  by_cases hW : SZ W
  · by_cases hH : SZ H
    · have hp := prod_small hW hH
      rw [if_pos hW, if_pos hH, hp.1]
      by_cases hl : (l.length : Int) = W * H
      · rw [if_pos hl]
        refine congrArg some (Bool.eq_iff_iff.mpr ?_)
        rw [List.all_eq_true, decide_eq_true_eq]
        exact ⟨fun h => ⟨hW, hH, hl, fun p hp => (ok_iff p).mp (h p hp)⟩, fun h p hp => (ok_iff p).mpr (h.2.2.2 p hp)⟩
      · rw [if_neg hl, decide_eq_false (fun h => hl h.2.2.1)]
    · rw [if_pos hW, if_neg hH, decide_eq_false (fun h => hH h.2.1)]
  · rw [if_neg hW, decide_eq_false (fun h => hW h.1)]
theorem rd_at {l : List S43} {i : Nat} (h : i < l.length) : rd_T43 l (i : Int) = l[i] := by
  simp [rd_T43, List.getD_eq_getElem?_getD, List.getElem?_eq_getElem h]
theorem rpv (p : S43) : compositorref08_Valid.f p.f0 p.f1 p.f2 p.f3 = some (decide (p.f0 ≤ p.f3 ∧ p.f1 ≤ p.f3 ∧ p.f2 ≤ p.f3)) := by
  unfold compositorref08_Valid.f
  repeat' split
  all_goals (refine congrArg some (Bool.eq_iff_iff.mpr ?_); simp only [decide_eq_true_eq, Bool.false_eq_true, false_iff]; omega)
theorem rvl (W H : Int) (l : List S43) (hl : l.length ≤ 100000) : ∀ d i, i + d = l.length → ∀ k, d + 1 ≤ k → ∀ b, (b = true ↔ ∀ p ∈ l.drop i, PV p) → compositorref09_Valid.l0 k i W H l = some b := by
  intro d
  induction d with
  | zero =>
    intro i hi k hk b hb
    obtain ⟨k, rfl⟩ : ∃ j, k = j + 1 := ⟨k - 1, by omega⟩
    rw [compositorref09_Valid.l0, if_neg (by omega)]
    have e : l.drop i = [] := List.drop_eq_nil_of_le (by omega)
    rw [e] at hb
    have : b = true := hb.mpr (fun p hp => by cases hp)
    rw [this]
  | succ d ih =>
    intro i hi k hk b hb
    obtain ⟨k, rfl⟩ : ∃ j, k = j + 1 := ⟨k - 1, by omega⟩
    have hlt : i < l.length := by omega
    rw [compositorref09_Valid.l0, if_pos (by omega), if_pos (by omega), rd_at hlt, rpv, Option.bind_some]
    have e : l.drop i = l[i] :: l.drop (i + 1) := List.drop_eq_getElem_cons hlt
    rw [e] at hb
    have ew : wrap64 ((i : Int) + 1) = ((i + 1 : Nat) : Int) := wnat (by omega)
    rw [ew]
    simp only [decide_eq_true_eq]
    by_cases h0 : PV l[i]
    · rw [if_pos (show l[i].f0 ≤ l[i].f3 ∧ l[i].f1 ≤ l[i].f3 ∧ l[i].f2 ≤ l[i].f3 from h0)]
      refine ih (i + 1) (by omega) k (by omega) b (hb.trans ?_)
      constructor
      · intro h p hm; exact h p (List.mem_cons_of_mem _ hm)
      · intro h p hm
        rcases List.mem_cons.mp hm with rfl | hm
        · exact h0
        · exact h p hm
    · rw [if_neg (show ¬ (l[i].f0 ≤ l[i].f3 ∧ l[i].f1 ≤ l[i].f3 ∧ l[i].f2 ≤ l[i].f3) from h0)]
      cases b with
      | false => rfl
      | true => exact absurd (hb.mp rfl l[i] (List.mem_cons_self ..)) h0
theorem rvalid_eq (W H : Int) (l : List S43) (hl : l.length ≤ 100000) : ∀ k, l.length + 2 ≤ k → compositorref09_Valid.f k W H l = some (decide (VB W H l)) := by
  intro k hk
  obtain ⟨k, rfl⟩ : ∃ j, k = j + 1 := ⟨k - 1, by omega⟩
  simp only [compositorref09_Valid.f, rsize_eq, Option.bind_some, decide_eq_true_eq, compositorref09_Valid.j0, if_true]
  by_cases hs : SZ W ∧ SZ H
  · have hp := prod_small hs.1 hs.2
    rw [if_pos hs, hp.1]
    by_cases he : (l.length : Int) = W * H
    · have e : ((l.length : Int) != W * H) = false := by simpa using he
      rw [e, if_neg (by simp)]
      refine rvl W H l hl l.length 0 (by omega) k (by omega) _ ?_
      rw [decide_eq_true_eq, List.drop_zero]
      exact ⟨fun h => h.2.2.2, fun h => ⟨hs.1, hs.2, he, h⟩⟩
    · have e : ((l.length : Int) != W * H) = true := by simpa using he
      rw [e, if_pos rfl, decide_eq_false (fun h => he h.2.2.1)]
  · rw [if_neg hs, decide_eq_false (fun h => hs ⟨h.1, h.2.1⟩)]
theorem pne (a b : S43) : (!(a.f0 == b.f0) || (!(a.f1 == b.f1) || (!(a.f2 == b.f2) || (!(a.f3 == b.f3))))) = true ↔ a ≠ b := by
  obtain ⟨a0, a1, a2, a3⟩ := a
  obtain ⟨b0, b1, b2, b3⟩ := b
  simp only [Bool.or_eq_true, Bool.not_eq_true', beq_eq_false_iff_ne, ne_eq, S43.mk.injEq]
  omega
/-- Two buffers are one. -/
def EB (W H : Int) (l : List S43) (W' H' : Int) (l' : List S43) : Prop := W = W' ∧ H = H' ∧ l = l'
noncomputable instance (W H : Int) (l : List S43) (W' H' : Int) (l' : List S43) : Decidable (EB W H l W' H' l') := Classical.propDecidable _
theorem rel (W H : Int) (l : List S43) (W' H' : Int) (l' : List S43) (hl : l.length ≤ 100000) (he : l.length = l'.length) : ∀ d i, i + d = l.length → ∀ k, d + 1 ≤ k → ∀ b, (b = true ↔ l.drop i = l'.drop i) → compositorref09_Equal.l0 k i W H l W' H' l' = some b := by
  intro d
  induction d with
  | zero =>
    intro i hi k hk b hb
    obtain ⟨k, rfl⟩ : ∃ j, k = j + 1 := ⟨k - 1, by omega⟩
    rw [compositorref09_Equal.l0, if_neg (by omega)]
    have : b = true := hb.mpr (by rw [List.drop_eq_nil_of_le (by omega), List.drop_eq_nil_of_le (by omega)])
    rw [this]
  | succ d ih =>
    intro i hi k hk b hb
    obtain ⟨k, rfl⟩ : ∃ j, k = j + 1 := ⟨k - 1, by omega⟩
    have hlt : i < l.length := by omega
    have hlt' : i < l'.length := by omega
    rw [compositorref09_Equal.l0, if_pos (by omega), if_pos (by omega), if_pos (by omega), rd_at hlt, rd_at hlt', wnat (by omega)]
    rw [List.drop_eq_getElem_cons hlt, List.drop_eq_getElem_cons hlt'] at hb
    by_cases hp : l[i] = l'[i]
    · rw [if_neg (fun h => (pne _ _).mp h hp)]
      exact ih (i + 1) (by omega) k (by omega) b (hb.trans (by rw [List.cons.injEq]; exact ⟨fun h => h.2, fun h => ⟨hp, h⟩⟩))
    · rw [if_pos ((pne _ _).mpr hp)]
      cases b with
      | false => rfl
      | true => exact absurd (List.cons.inj (hb.mp rfl)).1 hp
theorem requal_eq (W H : Int) (l : List S43) (W' H' : Int) (l' : List S43) (hl : l.length ≤ 100000) : ∀ k, l.length + 2 ≤ k → compositorref09_Equal.f k W H l W' H' l' = some (decide (EB W H l W' H' l')) := by
  intro k hk
  obtain ⟨k, rfl⟩ : ∃ j, k = j + 1 := ⟨k - 1, by omega⟩
  simp only [compositorref09_Equal.f, compositorref09_Equal.j0, if_true]
  by_cases h1 : W = W'
  · by_cases h2 : H = H'
    · rw [if_pos h1, if_pos h2]
      by_cases h3 : (l.length : Int) = (l'.length : Int)
      · have e : ((l.length : Int) != (l'.length : Int)) = false := by simpa using h3
        rw [e, if_neg (by simp)]
        refine rel W H l W' H' l' hl (by omega) l.length 0 (by omega) k (by omega) _ ?_
        rw [decide_eq_true_eq, List.drop_zero, List.drop_zero]
        exact ⟨fun h => h.2.2, fun h => ⟨h1, h2, h⟩⟩
      · have e : ((l.length : Int) != (l'.length : Int)) = true := by simpa using h3
        rw [e, if_pos rfl, decide_eq_false (fun h => h3 (by rw [h.2.2]))]
    · rw [if_pos h1, if_neg h2, decide_eq_false (fun h => h2 h.2.1)]
  · rw [if_neg h1, decide_eq_false (fun h => h1 h.1)]
theorem requal_refl (W H : Int) (l : List S43) (hl : l.length ≤ 100000) (k : Nat) (hk : l.length + 2 ≤ k) : compositorref09_Equal.f k W H l W H l = some true := by
  rw [requal_eq W H l W H l hl k hk, decide_eq_true (show EB W H l W H l from ⟨rfl, rfl, rfl⟩)]
theorem small_eq (W H : Int) (l : List S43) : compositorlaw09_small.f W H l = some (decide ((l.length : Int) ≤ 400)) := rfl
noncomputable instance (p : S43) : Decidable (PV p) := Classical.propDecidable _
/-- A new buffer, or an error. -/
noncomputable def NB (w h : Int) (p : S43) : Int × Int × List S43 × Int := if SZ w ∧ SZ h then (if PV p then (w, h, List.replicate (w * h).toNat p, 0) else (0, 0, [], 15)) else (0, 0, [], 6)
theorem pvalid_eq (p : S43) : pixel_Valid.f p.f0 p.f1 p.f2 p.f3 = some (decide (PV p)) := by
  have m0 := mn_spec p.f0 p.f3
  have m1 := mn_spec p.f1 p.f3
  have m2 := mn_spec p.f2 p.f3
  simp only [pixel_Valid.f, pixel_Clamp.f, Option.bind_some]
  refine congrArg some (Bool.eq_iff_iff.mpr ?_)
  simp only [Bool.and_eq_true, beq_iff_eq, decide_eq_true_eq, and_true]
  unfold PV
  omega
theorem rpv2 (p : S43) : compositorref08_Valid.f p.f0 p.f1 p.f2 p.f3 = some (decide (PV p)) := by
  rw [rpv]
  refine congrArg some (Bool.eq_iff_iff.mpr ?_)
  rw [decide_eq_true_eq, decide_eq_true_eq]
  rfl
theorem new_eq (w h : Int) (p : S43) (k : Nat) (hk : 1 ≤ k) : buffer_New.f k w h p.f0 p.f1 p.f2 p.f3 = some (NB w h p) := by
  obtain ⟨k, rfl⟩ : ∃ j, k = j + 1 := ⟨k - 1, by omega⟩
  simp only [buffer_New.f, bsize_eq, Option.bind_some, decide_eq_true_eq, buffer_New.j0, if_true, pvalid_eq, NB]
  by_cases h1 : SZ w
  · rw [if_pos h1]
    by_cases h2 : SZ h
    · rw [if_neg (show ¬ (!decide (SZ h)) = true by simp [h2]), if_pos (show SZ w ∧ SZ h from ⟨h1, h2⟩)]
      by_cases h3 : PV p
      · obtain ⟨e, e1, e2⟩ := prod_small h1 h2
        rw [if_pos h3, if_pos h3, e, api_Pixel_64.f, if_pos ⟨rfl, e1, e2⟩]
        rfl
      · rw [if_neg h3, if_neg h3]
    · rw [if_pos (show (!decide (SZ h)) = true by simp [h2]), if_neg (show ¬ (SZ w ∧ SZ h) from fun h => h2 h.2)]
  · rw [if_neg h1, if_neg (fun h => h1 h.1)]
theorem rnew_l (w h : Int) (p : S43) (a b : Int) (n : Nat) (hn : wrap64 (w * h) = n) (hn2 : n ≤ 65536) : ∀ d i, i + d = n → ∀ k, d + 1 ≤ k → compositorref09_New.l0 k w h i p.f0 p.f1 p.f2 p.f3 a b (List.replicate i p) = some (a, b, List.replicate n p, 0) := by
  intro d
  induction d with
  | zero =>
    intro i hi k hk
    obtain ⟨k, rfl⟩ : ∃ j, k = j + 1 := ⟨k - 1, by omega⟩
    rw [compositorref09_New.l0, hn, if_neg (by omega)]
    rw [show i = n by omega]
  | succ d ih =>
    intro i hi k hk
    obtain ⟨k, rfl⟩ : ∃ j, k = j + 1 := ⟨k - 1, by omega⟩
    rw [compositorref09_New.l0, hn, if_pos (by omega), List.length_replicate, if_pos (by omega), wnat (by omega)]
    have e : List.replicate i p ++ [(⟨p.f0, p.f1, p.f2, p.f3⟩ : S43)] = List.replicate (i + 1) p := by rw [List.replicate_succ']
    rw [e]
    exact ih (i + 1) (by omega) k (by omega)
theorem rnew_eq (w h : Int) (p : S43) (k : Nat) (hk : (w * h).toNat + 1 ≤ k) : compositorref09_New.f k w h p.f0 p.f1 p.f2 p.f3 = some (NB w h p) := by
  simp only [compositorref09_New.f, rsize_eq, Option.bind_some, decide_eq_true_eq, rpv2, NB]
  by_cases hs : SZ w ∧ SZ h
  · rw [if_pos hs, if_pos hs]
    by_cases h3 : PV p
    · obtain ⟨e, e1, e2⟩ := prod_small hs.1 hs.2
      rw [if_pos h3, if_pos h3]
      exact rnew_l w h p w h (w * h).toNat (by rw [e]; omega) (by omega) (w * h).toNat 0 (by omega) k hk
    · rw [if_neg h3, if_neg h3]
  · rw [if_neg hs, if_neg hs]
theorem NB_len (w h : Int) (p : S43) : (NB w h p).2.2.1.length ≤ (w * h).toNat := by
  unfold NB
  split
  · split
    · simp
    · simp
  · simp
theorem newlaw (w h : Int) (p : S43) : compositorlaw09_BufferNew.f 1000 w h p.f0 p.f1 p.f2 p.f3 = some true := by
  have key : (¬ (SZ w ∧ SZ h) ∨ (w * h).toNat ≤ 400) → ∀ b, b = false → compositorlaw09_BufferNew.j0 1000 w h b p.f0 p.f1 p.f2 p.f3 = some true := by
    intro hc b hb
    subst hb
    have e2 : compositorref09_New.f 999 w h p.f0 p.f1 p.f2 p.f3 = some (NB w h p) := by
      rcases hc with hc | hc
      · simp only [compositorref09_New.f, rsize_eq, Option.bind_some, decide_eq_true_eq, NB]
        rw [if_neg hc, if_neg hc]
      · exact rnew_eq w h p 999 (by omega)
    have e3 : (NB w h p).2.2.1.length ≤ 400 := by
      rcases hc with hc | hc
      · simp [NB, hc]
      · exact Nat.le_trans (NB_len w h p) hc
    simp only [compositorlaw09_BufferNew.j0, Bool.false_eq_true, if_false, new_eq w h p 999 (by omega), e2, Option.bind_some, if_true, requal_refl _ _ _ (show (NB w h p).2.2.1.length ≤ 100000 by omega) 999 (by omega), example_holds 999 (by omega)]
  unfold compositorlaw09_BufferNew.f
  by_cases h1 : w ≥ 1
  · rw [if_pos h1]
    by_cases h2 : w ≤ 256
    · rw [if_pos h2]
      by_cases h3 : h ≥ 1
      · rw [if_pos h3]
        by_cases h4 : h ≤ 256
        · rw [if_pos h4, (prod_small (W := w) (H := h) ⟨h1, h2⟩ ⟨h3, h4⟩).1]
          by_cases h5 : w * h > 400
          · rw [decide_eq_true h5]
            simp only [compositorlaw09_BufferNew.j0, if_true, example_holds 999 (by omega), Option.bind_some]
          · exact key (Or.inr (by omega)) _ (decide_eq_false h5)
        · rw [if_neg h4]; exact key (Or.inl (fun h => h4 h.2.2)) _ rfl
      · rw [if_neg h3]; exact key (Or.inl (fun h => h3 h.2.1)) _ rfl
    · rw [if_neg h2]; exact key (Or.inl (fun h => h2 h.1.2)) _ rfl
  · rw [if_neg h1]; exact key (Or.inl (fun h => h1 h.1.1)) _ rfl
theorem BufferNew (x0 : Int) (x1 : Int) (x2 : S43) (ok0 : (Lit.int .i64 x0).wf = true) (ok1 : (Lit.int .i64 x1).wf = true) (ok2 : ((Lit.int .u8 x2.f0).wf = true) ∧ ((Lit.int .u8 x2.f1).wf = true) ∧ ((Lit.int .u8 x2.f2).wf = true) ∧ ((Lit.int .u8 x2.f3).wf = true)) :
    ∃ k, compositorlaw09_BufferNew.f k x0 x1 x2.f0 x2.f1 x2.f2 x2.f3 = some true := by
  exact ⟨1000, newlaw x0 x1 x2⟩

end Go.Proofs.Ytmockeaiccpogaa.Pure
