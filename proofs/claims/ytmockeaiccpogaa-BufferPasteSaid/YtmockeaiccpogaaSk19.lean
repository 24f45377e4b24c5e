-- The texts behind this claim's law, put together by a program of this session (shake.py): what no text uses is left out. Its words are print.sh's.
import Derived.SizedLaws
import Derived.ChangeSlices
import Derived.OpenShut
import Derived.Test.YtmockeaiccpogaaSk18
section
namespace Go.Proofs.Ytmockeaiccpogaa.Pure
open Go.RowKit Go.Proofs.YtmockeaiccpogaaW.PrintWords Go.Proofs.YtmockeaiccpogaaW.PrintMore Go.Proofs.Ytmockeaiccpogaa.All
set_option linter.unusedVariables false
set_option linter.unusedSimpArgs false
theorem i64 {x : Int} (h : (Lit.int .i64 x).wf = true) : -9223372036854775808 ≤ x ∧ x ≤ 9223372036854775807 := by
  simpa [Lit.wf, IntKind.min, IntKind.max, IntKind.signed, IntKind.bits] using h
theorem w64 {x : Int} (h : -9223372036854775808 ≤ x) (h' : x ≤ 9223372036854775807) : wrap64 x = x := by unfold wrap64; omega
theorem wnat {n : Nat} (h : n ≤ 1000000) : wrap64 ((n : Int) + 1) = ((n + 1 : Nat) : Int) := by unfold wrap64; omega
theorem fuel {α : Type} {f : Nat → Option α} (hm : ∀ k r, f k = some r → f (k + 1) = some r) {K : Nat} {r : α} (h : f K = some r) : ∀ k, K ≤ k → f k = some r := by
  intro k hk
  obtain ⟨j, rfl⟩ : ∃ j, k = K + j := ⟨k - K, by omega⟩
  clear hk
  induction j with
  | zero => exact h
  | succ j ih => exact hm _ _ ih
theorem example_holds : ∀ k, 200 ≤ k → compositorlaw09_exampleHolds.f k = some true :=
  fuel (f := fun k => compositorlaw09_exampleHolds.f k) (fun k r h => compositorlaw09_exampleHolds.mono k r h) (by decide +kernel)
theorem mx_spec (a b : Int) : a ≤ mx a b ∧ b ≤ mx a b ∧ (mx a b = a ∨ mx a b = b) := by unfold mx; split <;> omega
theorem mn_spec (a b : Int) : mn a b ≤ a ∧ mn a b ≤ b ∧ (mn a b = a ∨ mn a b = b) := by unfold mn; split <;> omega
def PV (p : S43) : Prop := p.f0 ≤ p.f3 ∧ p.f1 ≤ p.f3 ∧ p.f2 ≤ p.f3
def VB (W H : Int) (l : List S43) : Prop := (1 ≤ W ∧ W ≤ 256) ∧ (1 ≤ H ∧ H ≤ 256) ∧ (l.length : Int) = W * H ∧ ∀ p ∈ l, PV p
noncomputable instance (W H : Int) (l : List S43) : Decidable (VB W H l) := Classical.propDecidable _
def SZ (n : Int) : Prop := 1 ≤ n ∧ n ≤ 256
noncomputable instance (n : Int) : Decidable (SZ n) := Classical.propDecidable _
theorem ok_iff (p : S43) : buffer_Valid.ok p = true ↔ PV p := by
  have m0 := mn_spec p.f0 p.f3
  have m1 := mn_spec p.f1 p.f3
  have m2 := mn_spec p.f2 p.f3
  unfold buffer_Valid.ok PV
  simp only [Bool.and_eq_true, beq_iff_eq, and_true]
  omega
theorem bsize_eq (a : Int) : buffer_size.f a = some (decide (SZ a)) := by
  unfold buffer_size.f
  split <;> (refine congrArg some (Bool.eq_iff_iff.mpr ?_); simp only [decide_eq_true_eq, Bool.false_eq_true, false_iff]; unfold SZ; omega)
theorem rsize_eq (a b : Int) : compositorref09_size.f a b = some (decide (SZ a ∧ SZ b)) := by
  unfold compositorref09_size.f
  repeat' split
  all_goals (refine congrArg some (Bool.eq_iff_iff.mpr ?_); simp only [decide_eq_true_eq, Bool.false_eq_true, false_iff]; unfold SZ; omega)
theorem prod_small {W H : Int} (hW : SZ W) (hH : SZ H) : wrap64 (W * H) = W * H ∧ 1 ≤ W * H ∧ W * H ≤ 65536 := by
  unfold SZ at hW hH
  have p1 := Int.mul_le_mul hW.2 hH.2 (by omega) (by omega : (0 : Int) ≤ 256)
  have p2 : 0 < W * H := Int.mul_pos (by omega) (by omega)
  refine ⟨?_, by omega, by omega⟩
  unfold wrap64; omega
theorem bvalid_eq (W H : Int) (l : List S43) : buffer_Valid.f W H l = some (decide (VB W H l)) := by
  simp only [buffer_Valid.f, bsize_eq, Option.bind_some, decide_eq_true_eq]
  by_cases hW : SZ W
  · by_cases hH : SZ H
    · have hp := prod_small hW hH
      rw [if_pos hW, if_pos hH, hp.1]
      by_cases hl : (l.length : Int) = W * H
      · rw [if_pos hl]
        refine congrArg some (Bool.eq_iff_iff.mpr ?_)
        rw [List.all_eq_true, decide_eq_true_eq]
        exact ⟨fun h => ⟨hW, hH, hl, fun p hp => (ok_iff p).mp (h p hp)⟩, fun h p hp => (ok_iff p).mpr (h.2.2.2 p hp)⟩
      · rw [if_neg hl, decide_eq_false (fun h => hl h.2.2.1)]
    · rw [if_pos hW, if_neg hH, decide_eq_false (fun h => hH h.2.1)]
  · rw [if_neg hW, decide_eq_false (fun h => hW h.1)]
theorem rd_at {l : List S43} {i : Nat} (h : i < l.length) : rd_T43 l (i : Int) = l[i] := by
  simp [rd_T43, List.getD_eq_getElem?_getD, List.getElem?_eq_getElem h]
theorem rpv (p : S43) : compositorref08_Valid.f p.f0 p.f1 p.f2 p.f3 = some (decide (p.f0 ≤ p.f3 ∧ p.f1 ≤ p.f3 ∧ p.f2 ≤ p.f3)) := by
  unfold compositorref08_Valid.f
  repeat' split
  all_goals (refine congrArg some (Bool.eq_iff_iff.mpr ?_); simp only [decide_eq_true_eq, Bool.false_eq_true, false_iff]; omega)
theorem rvl (W H : Int) (l : List S43) (hl : l.length ≤ 100000) : ∀ d i, i + d = l.length → ∀ k, d + 1 ≤ k → ∀ b, (b = true ↔ ∀ p ∈ l.drop i, PV p) → compositorref09_Valid.l0 k i W H l = some b := by
  intro d
  induction d with
  | zero =>
    intro i hi k hk b hb
    obtain ⟨k, rfl⟩ : ∃ j, k = j + 1 := ⟨k - 1, by omega⟩
    rw [compositorref09_Valid.l0, if_neg (by omega)]
    have e : l.drop i = [] := List.drop_eq_nil_of_le (by omega)
    rw [e] at hb
    have : b = true := hb.mpr (fun p hp => by cases hp)
    rw [this]
  | succ d ih =>
    intro i hi k hk b hb
    obtain ⟨k, rfl⟩ : ∃ j, k = j + 1 := ⟨k - 1, by omega⟩
    have hlt : i < l.length := by omega
    rw [compositorref09_Valid.l0, if_pos (by omega), if_pos (by omega), rd_at hlt, rpv, Option.bind_some]
    have e : l.drop i = l[i] :: l.drop (i + 1) := List.drop_eq_getElem_cons hlt
    rw [e] at hb
    have ew : wrap64 ((i : Int) + 1) = ((i + 1 : Nat) : Int) := wnat (by omega)
    rw [ew]
    simp only [decide_eq_true_eq]
    by_cases h0 : PV l[i]
    · rw [if_pos (show l[i].f0 ≤ l[i].f3 ∧ l[i].f1 ≤ l[i].f3 ∧ l[i].f2 ≤ l[i].f3 from h0)]
      refine ih (i + 1) (by omega) k (by omega) b (hb.trans ?_)
      constructor
      · intro h p hm; exact h p (List.mem_cons_of_mem _ hm)
      · intro h p hm
        rcases List.mem_cons.mp hm with rfl | hm
        · exact h0
        · exact h p hm
    · rw [if_neg (show ¬ (l[i].f0 ≤ l[i].f3 ∧ l[i].f1 ≤ l[i].f3 ∧ l[i].f2 ≤ l[i].f3) from h0)]
      cases b with
      | false => rfl
      | true => exact absurd (hb.mp rfl l[i] (List.mem_cons_self ..)) h0
theorem rvalid_eq (W H : Int) (l : List S43) (hl : l.length ≤ 100000) : ∀ k, l.length + 2 ≤ k → compositorref09_Valid.f k W H l = some (decide (VB W H l)) := by
  intro k hk
  obtain ⟨k, rfl⟩ : ∃ j, k = j + 1 := ⟨k - 1, by omega⟩
  simp only [compositorref09_Valid.f, rsize_eq, Option.bind_some, decide_eq_true_eq, compositorref09_Valid.j0, if_true]
  by_cases hs : SZ W ∧ SZ H
  · have hp := prod_small hs.1 hs.2
    rw [if_pos hs, hp.1]
    by_cases he : (l.length : Int) = W * H
    · have e : ((l.length : Int) != W * H) = false := by simpa using he
      rw [e, if_neg (by simp)]
      refine rvl W H l hl l.length 0 (by omega) k (by omega) _ ?_
      rw [decide_eq_true_eq, List.drop_zero]
      exact ⟨fun h => h.2.2.2, fun h => ⟨hs.1, hs.2, he, h⟩⟩
    · have e : ((l.length : Int) != W * H) = true := by simpa using he
      rw [e, if_pos rfl, decide_eq_false (fun h => he h.2.2.1)]
  · rw [if_neg hs, decide_eq_false (fun h => hs ⟨h.1, h.2.1⟩)]
theorem pne (a b : S43) : (!(a.f0 == b.f0) || (!(a.f1 == b.f1) || (!(a.f2 == b.f2) || (!(a.f3 == b.f3))))) = true ↔ a ≠ b := by
  obtain ⟨a0, a1, a2, a3⟩ := a
  obtain ⟨b0, b1, b2, b3⟩ := b
  simp only [Bool.or_eq_true, Bool.not_eq_true', beq_eq_false_iff_ne, ne_eq, S43.mk.injEq]
  omega
def EB (W H : Int) (l : List S43) (W' H' : Int) (l' : List S43) : Prop := W = W' ∧ H = H' ∧ l = l'
noncomputable instance (W H : Int) (l : List S43) (W' H' : Int) (l' : List S43) : Decidable (EB W H l W' H' l') := Classical.propDecidable _
theorem rel (W H : Int) (l : List S43) (W' H' : Int) (l' : List S43) (hl : l.length ≤ 100000) (he : l.length = l'.length) : ∀ d i, i + d = l.length → ∀ k, d + 1 ≤ k → ∀ b, (b = true ↔ l.drop i = l'.drop i) → compositorref09_Equal.l0 k i W H l W' H' l' = some b := by
  intro d
  induction d with
  | zero =>
    intro i hi k hk b hb
    obtain ⟨k, rfl⟩ : ∃ j, k = j + 1 := ⟨k - 1, by omega⟩
    rw [compositorref09_Equal.l0, if_neg (by omega)]
    have : b = true := hb.mpr (by rw [List.drop_eq_nil_of_le (by omega), List.drop_eq_nil_of_le (by omega)])
    rw [this]
  | succ d ih =>
    intro i hi k hk b hb
    obtain ⟨k, rfl⟩ : ∃ j, k = j + 1 := ⟨k - 1, by omega⟩
    have hlt : i < l.length := by omega
    have hlt' : i < l'.length := by omega
    rw [compositorref09_Equal.l0, if_pos (by omega), if_pos (by omega), if_pos (by omega), rd_at hlt, rd_at hlt', wnat (by omega)]
    rw [List.drop_eq_getElem_cons hlt, List.drop_eq_getElem_cons hlt'] at hb
    by_cases hp : l[i] = l'[i]
    · rw [if_neg (fun h => (pne _ _).mp h hp)]
      exact ih (i + 1) (by omega) k (by omega) b (hb.trans (by rw [List.cons.injEq]; exact ⟨fun h => h.2, fun h => ⟨hp, h⟩⟩))
    · rw [if_pos ((pne _ _).mpr hp)]
      cases b with
      | false => rfl
      | true => exact absurd (List.cons.inj (hb.mp rfl)).1 hp
theorem requal_eq (W H : Int) (l : List S43) (W' H' : Int) (l' : List S43) (hl : l.length ≤ 100000) : ∀ k, l.length + 2 ≤ k → compositorref09_Equal.f k W H l W' H' l' = some (decide (EB W H l W' H' l')) := by
  intro k hk
  obtain ⟨k, rfl⟩ : ∃ j, k = j + 1 := ⟨k - 1, by omega⟩
  simp only [compositorref09_Equal.f, compositorref09_Equal.j0, if_true]
  by_cases h1 : W = W'
  · by_cases h2 : H = H'
    · rw [if_pos h1, if_pos h2]
      by_cases h3 : (l.length : Int) = (l'.length : Int)
      · have e : ((l.length : Int) != (l'.length : Int)) = false := by simpa using h3
        rw [e, if_neg (by simp)]
        refine rel W H l W' H' l' hl (by omega) l.length 0 (by omega) k (by omega) _ ?_
        rw [decide_eq_true_eq, List.drop_zero, List.drop_zero]
        exact ⟨fun h => h.2.2, fun h => ⟨h1, h2, h⟩⟩
      · have e : ((l.length : Int) != (l'.length : Int)) = true := by simpa using h3
        rw [e, if_pos rfl, decide_eq_false (fun h => h3 (by rw [h.2.2]))]
    · rw [if_pos h1, if_neg h2, decide_eq_false (fun h => h2 h.2.1)]
  · rw [if_neg h1, decide_eq_false (fun h => h1 h.1)]
theorem requal_refl (W H : Int) (l : List S43) (hl : l.length ≤ 100000) (k : Nat) (hk : l.length + 2 ≤ k) : compositorref09_Equal.f k W H l W H l = some true := by
  rw [requal_eq W H l W H l hl k hk, decide_eq_true (show EB W H l W H l from ⟨rfl, rfl, rfl⟩)]
theorem small_eq (W H : Int) (l : List S43) : compositorlaw09_small.f W H l = some (decide ((l.length : Int) ≤ 400)) := rfl
theorem ext_getD {l m : List S43} (h : l.length = m.length) (he : ∀ i, i < l.length → l.getD i z43 = m.getD i z43) : l = m := by
  apply List.ext_getElem h
  intro i h1 h2
  have := he i h1
  rw [List.getD_eq_getElem?_getD, List.getD_eq_getElem?_getD, List.getElem?_eq_getElem h1, List.getElem?_eq_getElem h2] at this
  exact this
theorem over_getD {l s : List S43} {lo : Nat} (h : lo + s.length ≤ l.length) (i : Nat) : (over l lo s).getD i z43 = if lo ≤ i ∧ i < lo + s.length then s.getD (i - lo) z43 else l.getD i z43 := by
  unfold over
  simp only [List.getD_eq_getElem?_getD]
  by_cases h1 : i < lo
  · rw [if_neg (by omega), List.append_assoc, List.getElem?_append_left (by rw [List.length_take]; omega), List.getElem?_take, if_pos h1]
  · rw [List.append_assoc, List.getElem?_append_right (by rw [List.length_take]; omega)]
    have e : (List.take lo l).length = lo := by rw [List.length_take]; omega
    rw [e]
    by_cases h2 : i < lo + s.length
    · rw [if_pos ⟨by omega, h2⟩, List.getElem?_append_left (by omega)]
    · rw [if_neg (by omega), List.getElem?_append_right (by omega), List.getElem?_drop]
      congr 2
      omega
theorem zipWith_getD (g : S43 → S43 → S43) (a b : List S43) {j : Nat} (ha : j < a.length) (hb : j < b.length) : (List.zipWith g a b).getD j z43 = g (a.getD j z43) (b.getD j z43) := by
  simp [List.getD_eq_getElem?_getD, List.getElem?_zipWith, List.getElem?_eq_getElem ha, List.getElem?_eq_getElem hb]
theorem mid_getD (l : List S43) (lo n j : Nat) (h : j < n) : ((l.drop lo).take n).getD j z43 = l.getD (lo + j) z43 := by
  simp only [List.getD_eq_getElem?_getD, List.getElem?_take, if_pos h, List.getElem?_drop]
theorem in_row {W r c t fr n : Nat} (hc : c < W) (hfr : fr + n ≤ W) : (t * W + fr ≤ r * W + c ∧ r * W + c < t * W + fr + n) ↔ (r = t ∧ fr ≤ c ∧ c < fr + n) := by
  rcases Nat.lt_trichotomy r t with h | h | h
  · have m : (r + 1) * W ≤ t * W := Nat.mul_le_mul_right W h
    rw [Nat.succ_mul] at m
    generalize r * W = p at *
    generalize t * W = q at *
    omega
  · subst h
    generalize r * W = p at *
    omega
  · have m : (t + 1) * W ≤ r * W := Nat.mul_le_mul_right W h
    rw [Nat.succ_mul] at m
    generalize r * W = p at *
    generalize t * W = q at *
    omega
theorem rows_getD (g : S43 → S43 → S43) (q : List S43 → List S43 → List S43) (hq : ∀ d s, s.length = d.length → q d s = List.zipWith g d s) (s : List S43) (W SW t0 fr v0 u0 n H : Nat) (l : List S43) (hl : l.length = H * W) (hfr : fr + n ≤ W) :
    ∀ k, t0 + k ≤ H → (∀ j, j < k → (v0 + j) * SW + u0 + n ≤ s.length) → (buffer_combine.rows q s W SW t0 fr v0 u0 n k l).length = l.length ∧
      ∀ r c, r < H → c < W → (buffer_combine.rows q s W SW t0 fr v0 u0 n k l).getD (r * W + c) z43 = if (t0 ≤ r ∧ r < t0 + k) ∧ (fr ≤ c ∧ c < fr + n) then g (l.getD (r * W + c) z43) (s.getD ((v0 + (r - t0)) * SW + u0 + (c - fr)) z43) else l.getD (r * W + c) z43 := by
  intro k
  induction k with
  | zero =>
    intro _ _
    refine ⟨rfl, fun r c hr hc => ?_⟩
    rw [if_neg (by omega)]
    rfl
  | succ k ih =>
    intro hk hs
    obtain ⟨ih1, ih2⟩ := ih (by omega) (fun j hj => hs j (by omega))
    have hsk := hs k (by omega)
    have hlo : (t0 + k) * W + fr + n ≤ l.length := by
      have m : (t0 + k + 1) * W ≤ H * W := Nat.mul_le_mul_right W (by omega)
      rw [Nat.succ_mul] at m
      rw [hl]
      generalize (t0 + k) * W = p at *
      generalize H * W = z at *
      omega
    rw [buffer_combine.rows]
    generalize hL : buffer_combine.rows q s W SW t0 fr v0 u0 n k l = L at *
    have ha : ((L.drop ((t0 + k) * W + fr)).take n).length = n := by rw [List.length_take, List.length_drop]; omega
    have hb : ((s.drop ((v0 + k) * SW + u0)).take n).length = n := by rw [List.length_take, List.length_drop]; omega
    rw [hq _ _ (by rw [ha, hb])]
    have hz : (List.zipWith g ((L.drop ((t0 + k) * W + fr)).take n) ((s.drop ((v0 + k) * SW + u0)).take n)).length = n := by rw [List.length_zipWith, ha, hb, Nat.min_self]
    refine ⟨by rw [over_length _ _ _ (by rw [hz]; omega)]; exact ih1, fun r c hr hc => ?_⟩
    rw [over_getD (by rw [hz]; omega), hz]
    by_cases h1 : r = t0 + k ∧ fr ≤ c ∧ c < fr + n
    · obtain ⟨rfl, h2, h3⟩ := h1
      rw [if_pos ((in_row hc hfr).mpr ⟨rfl, h2, h3⟩), if_pos (by omega)]
      have e : (t0 + k) * W + c - ((t0 + k) * W + fr) = c - fr := by omega
      rw [e, zipWith_getD g _ _ (by rw [ha]; omega) (by rw [hb]; omega), mid_getD _ _ _ _ (by omega), mid_getD _ _ _ _ (by omega)]
      have e2 : (t0 + k) * W + fr + (c - fr) = (t0 + k) * W + c := by omega
      rw [e2, ih2 (t0 + k) c hr hc, if_neg (by omega), show t0 + k - t0 = k by omega]
    · rw [if_neg (fun h => h1 ((in_row hc hfr).mp h)), ih2 r c hr hc]
      by_cases h2 : (t0 ≤ r ∧ r < t0 + k) ∧ (fr ≤ c ∧ c < fr + n)
      · rw [if_pos h2, if_pos (by omega)]
      · rw [if_neg h2, if_neg (by omega)]
noncomputable def PX (g : S43 → S43 → S43) (W : Nat) (l : List S43) (SW SH : Nat) (s : List S43) (x y : Int) (r c : Nat) : S43 :=
  if (x ≤ c ∧ (c : Int) < x + SW) ∧ (y ≤ r ∧ (r : Int) < y + SH) then g (l.getD (r * W + c) z43) (s.getD (((r : Int) - y).toNat * SW + ((c : Int) - x).toNat) z43) else l.getD (r * W + c) z43
noncomputable def PUT (g : S43 → S43 → S43) (W H : Nat) (l : List S43) (SW SH : Nat) (s : List S43) (x y : Int) : List S43 := (List.range (H * W)).map fun i => PX g W l SW SH s x y (i / W) (i % W)
theorem PUT_len (g : S43 → S43 → S43) (W H : Nat) (l : List S43) (SW SH : Nat) (s : List S43) (x y : Int) : (PUT g W H l SW SH s x y).length = H * W := by simp [PUT]
theorem divmod {W r c : Nat} (hc : c < W) : (r * W + c) / W = r ∧ (r * W + c) % W = c := by
  refine ⟨?_, ?_⟩
  · rw [Nat.add_comm, Nat.add_mul_div_right _ _ (by omega), Nat.div_eq_of_lt hc]; omega
  · rw [Nat.add_comm, Nat.add_mul_mod_self_right, Nat.mod_eq_of_lt hc]
theorem lt_rows {W H r c : Nat} (hr : r < H) (hc : c < W) : r * W + c < H * W := by
  have m : (r + 1) * W ≤ H * W := Nat.mul_le_mul_right W hr
  rw [Nat.succ_mul] at m
  omega
theorem PUT_getD (g : S43 → S43 → S43) (W H : Nat) (l : List S43) (SW SH : Nat) (s : List S43) (x y : Int) {r c : Nat} (hr : r < H) (hc : c < W) : (PUT g W H l SW SH s x y).getD (r * W + c) z43 = PX g W l SW SH s x y r c := by
  have h := lt_rows hr hc
  obtain ⟨e1, e2⟩ := divmod (r := r) hc
  simp [PUT, List.getD_eq_getElem?_getD, h, e1, e2]
theorem ext_rows {l m : List S43} {W H : Nat} (hW : 0 < W) (hl : l.length = H * W) (hm : m.length = H * W) (he : ∀ r c, r < H → c < W → l.getD (r * W + c) z43 = m.getD (r * W + c) z43) : l = m := by
  refine ext_getD (by omega) (fun i hi => ?_)
  have h1 : i / W < H := by rw [Nat.div_lt_iff_lt_mul hW]; omega
  have h2 : i % W < W := Nat.mod_lt _ hW
  have h3 : i / W * W + i % W = i := by rw [Nat.mul_comm]; exact Nat.div_add_mod i W
  have := he (i / W) (i % W) h1 h2
  rwa [h3] at this
theorem PUT_out (g : S43 → S43 → S43) (W H : Nat) (l : List S43) (SW SH : Nat) (s : List S43) (x y : Int) (hW : 0 < W) (hl : l.length = H * W) (h : buffer_combine.out W H SW SH x y) : PUT g W H l SW SH s x y = l := by
  refine ext_rows hW (PUT_len _ _ _ _ _ _ _ _ _) hl (fun r c hr hc => ?_)
  rw [PUT_getD _ _ _ _ _ _ _ _ _ hr hc, PX, if_neg]
  unfold buffer_combine.out at h
  omega
theorem all_eq (g : S43 → S43 → S43) (q : List S43 → List S43 → List S43) (hq : ∀ d s, s.length = d.length → q d s = List.zipWith g d s) (W H SW SH : Nat) (l s : List S43) (x y : Int) (hW : 0 < W) (hSW : 0 < SW) (hl : l.length = H * W) (hs : s.length = SH * SW) (h : ¬ buffer_combine.out W H SW SH x y) :
    buffer_combine.all q W H l SW SH s x y = PUT g W H l SW SH s x y := by
  unfold buffer_combine.out at h
  have X1 := mx_spec x 0
  have T1 := mx_spec y 0
  have M1 := mn_spec (x + (SW : Int)) W
  have B1 := mn_spec (y + (SH : Int)) H
  unfold buffer_combine.all
  generalize mx x 0 = X at *
  generalize mx y 0 = T at *
  generalize mn (x + (SW : Int)) W = M at *
  generalize mn (y + (SH : Int)) H = B at *
  simp only [Int.toNat_natCast]
  obtain ⟨t0, ht0⟩ : ∃ t0 : Nat, T.toNat = t0 := ⟨_, rfl⟩
  obtain ⟨fr, hfr⟩ : ∃ t0 : Nat, X.toNat = t0 := ⟨_, rfl⟩
  obtain ⟨v0, hv0⟩ : ∃ t0 : Nat, (T - y).toNat = t0 := ⟨_, rfl⟩
  obtain ⟨u0, hu0⟩ : ∃ t0 : Nat, (X - x).toNat = t0 := ⟨_, rfl⟩
  obtain ⟨n, hn⟩ : ∃ t0 : Nat, (M - X).toNat = t0 := ⟨_, rfl⟩
  obtain ⟨m, hm⟩ : ∃ t0 : Nat, (B - T).toNat = t0 := ⟨_, rfl⟩
  rw [ht0, hfr, hv0, hu0, hn, hm]
  have hbound : ∀ j, j < m → (v0 + j) * SW + u0 + n ≤ s.length := by
    intro j hj
    have h1 : v0 + j + 1 ≤ SH := by omega
    have m1 : (v0 + j + 1) * SW ≤ SH * SW := Nat.mul_le_mul_right SW h1
    rw [Nat.succ_mul] at m1
    have h2 : u0 + n ≤ SW := by omega
    rw [hs]
    generalize (v0 + j) * SW = p at *
    generalize SH * SW = z at *
    omega
  obtain ⟨L1, L2⟩ := rows_getD g q hq s W SW t0 fr v0 u0 n H l hl (by omega) m (by omega) hbound
  refine ext_rows hW (by rw [L1, hl]) (PUT_len _ _ _ _ _ _ _ _ _) (fun r c hr hc => ?_)
  rw [L2 r c hr hc, PUT_getD _ _ _ _ _ _ _ _ _ hr hc, PX]
  by_cases h1 : (t0 ≤ r ∧ r < t0 + m) ∧ (fr ≤ c ∧ c < fr + n)
  · rw [if_pos h1, if_pos (by omega)]
    have e1 : v0 + (r - t0) = ((r : Int) - y).toNat := by omega
    have e2 : u0 + (c - fr) = ((c : Int) - x).toNat := by omega
    rw [e1, Nat.add_assoc, e2]
  · rw [if_neg h1, if_neg (by omega)]
theorem VBn {W H : Int} {a : List S43} (h : VB W H a) : ∃ w n : Nat, W = w ∧ H = n ∧ w ≤ 256 ∧ n ≤ 256 ∧ 0 < w ∧ 0 < n ∧ a.length = n * w := by
  obtain ⟨h1, h2, h3, _⟩ := h
  obtain ⟨w, rfl⟩ : ∃ w : Nat, W = w := ⟨W.toNat, by omega⟩
  obtain ⟨n, rfl⟩ : ∃ n : Nat, H = n := ⟨H.toNat, by omega⟩
  refine ⟨w, n, rfl, rfl, by omega, by omega, by omega, by omega, ?_⟩
  rw [← Int.natCast_mul] at h3
  rw [Nat.mul_comm]
  exact Int.ofNat.inj h3
noncomputable def CM (g : S43 → S43 → S43) (W H : Int) (l : List S43) (SW SH : Int) (s : List S43) (x y : Int) : Int × Int × List S43 × Int := if VB W H l ∧ VB SW SH s then (W, H, PUT g W.toNat H.toNat l SW.toNat SH.toNat s x y, 0) else (0, 0, [], 15)
theorem combine_eq (g : S43 → S43 → S43) (q : List S43 → List S43 → List S43) (hq : ∀ d s, s.length = d.length → q d s = List.zipWith g d s) (W H : Int) (l : List S43) (SW SH : Int) (s : List S43) (x y : Int) : buffer_combine.g q W H l SW SH s x y = some (CM g W H l SW SH s x y) := by
  unfold buffer_combine.g
  rw [bvalid_eq, bvalid_eq, Option.bind_some, Option.bind_some]
  simp only [decide_eq_true_eq, CM]
  by_cases h1 : VB W H l
  · rw [if_pos h1]
    by_cases h2 : VB SW SH s
    · rw [if_pos h2, if_pos (show VB W H l ∧ VB SW SH s from ⟨h1, h2⟩)]
      obtain ⟨w, n, rfl, rfl, _, _, a1, a2, a3⟩ := VBn h1
      obtain ⟨w', n', rfl, rfl, _, _, b1, b2, b3⟩ := VBn h2
      simp only [Int.toNat_natCast]
      by_cases h3 : buffer_combine.out w n w' n' x y
      · rw [if_pos h3, PUT_out g w n l w' n' s x y a1 a3 h3]
      · rw [if_neg h3, all_eq g q hq w n w' n' l s x y a1 b1 a3 b3 h3]
    · rw [if_neg h2, if_neg (show ¬ (VB W H l ∧ VB SW SH s) from fun h => h2 h.2)]
  · rw [if_neg h1, if_neg (show ¬ (VB W H l ∧ VB SW SH s) from fun h => h1 h.1)]
theorem zipWith_snd (d s : List S43) (h : s.length = d.length) : s = List.zipWith (fun _ s => s) d s := by
  apply List.ext_getElem
  · rw [List.length_zipWith, h, Nat.min_self]
  · intro i h1 h2
    simp
theorem zipWith_flip (d s : List S43) : List.zipWith ov s d = List.zipWith (fun d s => ov s d) d s := by
  apply List.ext_getElem
  · rw [List.length_zipWith, List.length_zipWith, Nat.min_comm]
  · intro i h1 h2
    simp
theorem paste_eq (W H : Int) (l : List S43) (SW SH : Int) (s : List S43) (x y : Int) : buffer_Paste.f W H l SW SH s x y = some (CM (fun _ s => s) W H l SW SH s x y) :=
  combine_eq (fun _ s => s) (fun _ s => s) (fun d s h => zipWith_snd d s h) W H l SW SH s x y
theorem blend_eq (W H : Int) (l : List S43) (SW SH : Int) (s : List S43) (x y : Int) : buffer_BlendOver.f W H l SW SH s x y = some (CM (fun d s => ov s d) W H l SW SH s x y) :=
  combine_eq (fun d s => ov s d) (fun d s => List.zipWith ov s d) (fun d s _ => zipWith_flip d s) W H l SW SH s x y
noncomputable def AT (W H : Int) (l : List S43) (x y : Int) : S43 := if (SZ W ∧ SZ H) ∧ (0 ≤ x ∧ x < W) ∧ (0 ≤ y ∧ y < H) ∧ y * W + x < (l.length : Int) then rd_T43 l (y * W + x) else z43
theorem at_small {W H x y : Int} (hW : SZ W) (hH : SZ H) (hx : 0 ≤ x ∧ x < W) (hy : 0 ≤ y ∧ y < H) : wrap64 (wrap64 (y * W) + x) = y * W + x ∧ 0 ≤ y * W + x ∧ y * W + x < W * H := by
  unfold SZ at hW hH
  have p1 : y * W ≤ (H - 1) * W := Int.mul_le_mul_of_nonneg_right (by omega) (by omega)
  have p2 : 0 ≤ y * W := Int.mul_nonneg hy.1 (by omega)
  have p3 : W * H ≤ 256 * 256 := Int.mul_le_mul hW.2 hH.2 (by omega) (by omega)
  rw [Int.sub_mul, Int.one_mul, Int.mul_comm H W] at p1
  generalize y * W = p at *
  generalize W * H = q at *
  have e : wrap64 p = p := w64 (by omega) (by omega)
  rw [e]
  exact ⟨w64 (by omega) (by omega), by omega, by omega⟩
theorem rat_eq (W H : Int) (l : List S43) (x y : Int) : compositorref09_At.f W H l x y = some ((AT W H l x y).f0, (AT W H l x y).f1, (AT W H l x y).f2, (AT W H l x y).f3) := by
  simp only [compositorref09_At.f, rsize_eq, Option.bind_some, decide_eq_true_eq]
  by_cases hs : SZ W ∧ SZ H
  · rw [if_pos hs]
    by_cases h1 : x < 0
    · rw [if_pos h1, AT, if_neg (by omega)]; rfl
    rw [if_neg h1]
    by_cases h2 : x ≥ W
    · rw [if_pos h2, AT, if_neg (by omega)]; rfl
    rw [if_neg h2]
    by_cases h3 : y < 0
    · rw [if_pos h3, AT, if_neg (by omega)]; rfl
    rw [if_neg h3]
    by_cases h4 : y ≥ H
    · rw [if_pos h4, AT, if_neg (by omega)]; rfl
    rw [if_neg h4]
    obtain ⟨e, h0, _⟩ := at_small hs.1 hs.2 (x := x) (y := y) (by omega) (by omega)
    rw [e]
    by_cases h5 : y * W + x ≥ (l.length : Int)
    · rw [if_pos h5, AT, if_neg (by omega)]; rfl
    · rw [if_neg h5, if_pos h0, if_pos (by omega), AT, if_pos ⟨hs, by omega, by omega, by omega⟩]
  · rw [if_neg hs, AT, if_neg (fun h => hs h.1)]; rfl
def MIX (P l : List S43) (n : Nat) : List S43 := P.take n ++ l.drop n
theorem MIX_len {P l : List S43} (h : P.length = l.length) (n : Nat) : (MIX P l n).length = l.length := by
  unfold MIX
  simp
  omega
theorem mix_set {P l : List S43} (h : P.length = l.length) {n : Nat} (hn : n < l.length) {x : S43} (hx : P.getD n z43 = x) : (MIX P l n).set n x = MIX P l (n + 1) := by
  subst hx
  unfold MIX
  have e : (P.take n).length = n := by rw [List.length_take]; omega
  have e2 : P.getD n z43 = P[n] := by simp [List.getD_eq_getElem?_getD, List.getElem?_eq_getElem (show n < P.length by omega)]
  rw [e2, List.set_append_right _ _ (by rw [e]; exact Nat.le_refl _), e, Nat.sub_self, List.drop_eq_getElem_cons hn, List.take_succ_eq_append_getElem (by omega), List.set_cons_zero, List.append_assoc]
  rfl
theorem mix_skip {P l : List S43} (h : P.length = l.length) {n : Nat} (hn : n < l.length) (hx : P.getD n z43 = l.getD n z43) : MIX P l n = MIX P l (n + 1) := by
  unfold MIX
  rw [List.drop_eq_getElem_cons hn, List.take_succ_eq_append_getElem (by omega)]
  rw [List.getD_eq_getElem?_getD, List.getD_eq_getElem?_getD, List.getElem?_eq_getElem hn, List.getElem?_eq_getElem (show n < P.length by omega)] at hx
  simp only [Option.getD_some] at hx
  rw [hx]
  simp
theorem rover_eq (s d : S43) : compositorref08_Over.f s.f0 s.f1 s.f2 s.f3 d.f0 d.f1 d.f2 d.f3 = some ((ov s d).f0, (ov s d).f1, (ov s d).f2, (ov s d).f3) := ov_some s d
noncomputable def BG (bl : Bool) (d s : S43) : S43 := if bl = true then ov s d else s
theorem AT_in {W H : Nat} (hW : 0 < W ∧ W ≤ 256) (hH : 0 < H ∧ H ≤ 256) {l : List S43} (hl : l.length = H * W) {r c : Nat} (hr : r < H) (hc : c < W) : AT W H l c r = l.getD (r * W + c) z43 := by
  have h := lt_rows hr hc
  have e : (r : Int) * (W : Int) + (c : Int) = ((r * W + c : Nat) : Int) := by rw [Int.natCast_add, Int.natCast_mul]
  rw [AT, e, if_pos]
  · rw [rd_T43, Int.toNat_natCast]
  · refine ⟨⟨by unfold SZ; omega, by unfold SZ; omega⟩, by omega, by omega, by omega⟩
theorem pidx {W H r c : Nat} (hW : W ≤ 256) (hH : H ≤ 256) (hr : r < H) (hc : c < W) : Aside0 (wrap64 (wrap64 ((r : Int) * (W : Int)) + (c : Int)) = ((r * W + c : Nat) : Int)) := by
  have h := lt_rows hr hc
  have m2 : H * W ≤ 256 * 256 := Nat.mul_le_mul hH hW
  rw [← Int.natCast_mul]
  generalize r * W = q at *
  generalize H * W = z at *
  refine ⟨?_⟩
  rw [w64 (x := (q : Int)) (by omega) (by omega), w64 (by omega) (by omega)]
  omega
theorem rput_l1 (bl : Bool) (W H SW SH : Nat) (l s : List S43) (X Y : Int) (hX : -1000 ≤ X ∧ X ≤ 1000) (hY : -1000 ≤ Y ∧ Y ≤ 1000) (hW : 0 < W ∧ W ≤ 256) (hH : 0 < H ∧ H ≤ 256) (hSW : 0 < SW ∧ SW ≤ 256) (hSH : 0 < SH ∧ SH ≤ 256) (hl : l.length = H * W) (hs : s.length = SH * SW) (a b : Int) (r : Nat) (hr : r < H) (k : Nat) :
    ∀ d c, c + d = W → compositorref09_put.l1 (k + 2 * d + 1) X Y bl r c W H l SW SH s a b (MIX (PUT (BG bl) W H l SW SH s X Y) l (r * W + c)) = compositorref09_put.l0 k X Y bl ((r + 1 : Nat) : Int) W H l SW SH s a b (MIX (PUT (BG bl) W H l SW SH s X Y) l (r * W + W)) := by
  have hP : (PUT (BG bl) W H l SW SH s X Y).length = l.length := by rw [PUT_len, hl]
  intro d
  induction d with
  | zero =>
    intro c hc
    obtain rfl : c = W := by omega
    rw [compositorref09_put.l1, if_neg (by omega), wnat (by omega)]
  | succ d ih =>
    intro c hc
    have hcw : c < W := by omega
    have hlt : r * W + c < l.length := by rw [hl]; exact lt_rows hr hcw
    have ih' := Aside0.mk (ih (c + 1) (by omega))
    clear ih
    have hq := PUT_getD (BG bl) W H l SW SH s X Y hr hcw
    have e0 := pidx hW.2 hH.2 hr hcw
    have e1 : Aside0 (wrap64 ((c : Int) - X) = (c : Int) - X) := ⟨w64 (by omega) (by omega)⟩
    have e2 : Aside0 (wrap64 ((r : Int) - Y) = (r : Int) - Y) := ⟨w64 (by omega) (by omega)⟩
    have ex : Aside0 (wrap64 ((c : Int) + 1) = ((c + 1 : Nat) : Int)) := ⟨wnat (by omega)⟩
    rw [show k + 2 * (d + 1) + 1 = (k + 2 * d + 1 + 1) + 1 by omega, compositorref09_put.l1, if_pos (show (c : Int) < (W : Int) by omega), e1.out, e2.out]
    have skip : ¬ ((X ≤ c ∧ (c : Int) < X + SW) ∧ (Y ≤ r ∧ (r : Int) < Y + SH)) → ∀ t, t = true → compositorref09_put.j3 (k + 2 * d + 1 + 1) X Y bl r c t W H l SW SH s a b (MIX (PUT (BG bl) W H l SW SH s X Y) l (r * W + c)) = compositorref09_put.l0 k X Y bl ((r + 1 : Nat) : Int) W H l SW SH s a b (MIX (PUT (BG bl) W H l SW SH s X Y) l (r * W + W)) := by
      intro hn t ht
      rw [compositorref09_put.j3, if_pos ht, ex.out]
      rw [PX, if_neg hn] at hq
      rw [mix_skip hP hlt hq]
      exact ih'.out
    by_cases h1 : (c : Int) - X < 0
    · rw [if_pos h1]; exact skip (by omega) _ rfl
    rw [if_neg h1]
    by_cases h2 : (c : Int) - X ≥ (SW : Int)
    · rw [if_pos h2]; exact skip (by omega) _ rfl
    rw [if_neg h2]
    by_cases h3 : (r : Int) - Y < 0
    · rw [if_pos h3]; exact skip (by omega) _ rfl
    rw [if_neg h3]
    by_cases h4 : (r : Int) - Y ≥ (SH : Int)
    · exact skip (by omega) _ (decide_eq_true h4)
    rw [compositorref09_put.j3, if_neg (by rw [decide_eq_false h4]; simp)]
    rw [e1.out, e2.out, rat_eq, Option.bind_some]
    obtain ⟨c', hc'⟩ : ∃ c' : Nat, (c : Int) - X = c' := ⟨((c : Int) - X).toNat, by omega⟩
    obtain ⟨r', hr'⟩ : ∃ r' : Nat, (r : Int) - Y = r' := ⟨((r : Int) - Y).toNat, by omega⟩
    have hat := AT_in hSW hSH hs (show r' < SH by omega) (show c' < SW by omega)
    rw [hc', hr', hat]
    have hm0 : (0 : Int) ≤ ((r * W + c : Nat) : Int) := Int.natCast_nonneg _
    have hm1 : ((r * W + c : Nat) : Int) < ((MIX (PUT (BG bl) W H l SW SH s X Y) l (r * W + c)).length : Int) := by rw [MIX_len hP]; exact Int.ofNat_lt.mpr hlt
    rw [PX, if_pos (show (X ≤ c ∧ (c : Int) < X + SW) ∧ (Y ≤ r ∧ (r : Int) < Y + SH) by omega), hc', hr'] at hq
    simp only [Int.toNat_natCast] at hq
    rw [e0.out, ex.out]
    have ih2 := ih'.out
    rw [show r * W + (c + 1) = r * W + c + 1 by omega] at ih2
    cases bl with
    | true =>
      have hat2 := AT_in hW hH hl hr hcw
      simp only [BG, if_true] at hq
      simp only [if_true, rat_eq, Option.bind_some, hat2, rover_eq, Int.toNat_natCast]
      rw [if_pos hm0, if_pos hm1, mix_set hP hlt hq]
      exact ih2
    | false =>
      simp only [BG, Bool.false_eq_true, if_false] at hq
      simp only [Bool.false_eq_true, if_false, Int.toNat_natCast]
      rw [if_pos hm0, if_pos hm1, mix_set hP hlt hq]
      exact ih2
theorem rput_l0 (bl : Bool) (W H SW SH : Nat) (l s : List S43) (X Y : Int) (hX : -1000 ≤ X ∧ X ≤ 1000) (hY : -1000 ≤ Y ∧ Y ≤ 1000) (hW : 0 < W ∧ W ≤ 256) (hH : 0 < H ∧ H ≤ 256) (hSW : 0 < SW ∧ SW ≤ 256) (hSH : 0 < SH ∧ SH ≤ 256) (hl : l.length = H * W) (hs : s.length = SH * SW) (a b : Int) :
    ∀ d r, r + d = H → ∀ k, d * (2 * W + 2) + 1 ≤ k → compositorref09_put.l0 k X Y bl r W H l SW SH s a b (MIX (PUT (BG bl) W H l SW SH s X Y) l (r * W)) = some (a, b, PUT (BG bl) W H l SW SH s X Y, 0) := by
  intro d
  induction d with
  | zero =>
    intro r hr k hk
    obtain ⟨k, rfl⟩ : ∃ j, k = j + 1 := ⟨k - 1, by omega⟩
    obtain rfl : r = H := by omega
    rw [compositorref09_put.l0, if_neg (by omega)]
    have e : MIX (PUT (BG bl) W r l SW SH s X Y) l (r * W) = PUT (BG bl) W r l SW SH s X Y := by
      unfold MIX
      rw [List.take_of_length_le (by rw [PUT_len]; exact Nat.le_refl _), List.drop_eq_nil_of_le (by rw [hl]; exact Nat.le_refl _), List.append_nil]
    rw [e]
  | succ d ih =>
    intro r hr k hk
    rw [Nat.succ_mul] at hk
    obtain ⟨j, rfl⟩ : ∃ j, k = (j + 2 * W + 1) + 1 := ⟨k - 2 * W - 2, by omega⟩
    rw [compositorref09_put.l0, if_pos (by omega)]
    have q := rput_l1 bl W H SW SH l s X Y hX hY hW hH hSW hSH hl hs a b r (by omega) j W 0 (by omega)
    simp only [Nat.add_zero] at q
    rw [show ((0 : Nat) : Int) = 0 from rfl] at q
    rw [q, ← Nat.succ_mul]
    exact ih (r + 1) (by omega) j (by omega)
theorem PUT_clamp (g : S43 → S43 → S43) (W H SW SH : Nat) (l s : List S43) (x y : Int) (hW : 0 < W ∧ W ≤ 256) (hH : 0 < H ∧ H ≤ 256) (hSW : 0 < SW ∧ SW ≤ 256) (hSH : 0 < SH ∧ SH ≤ 256) : PUT g W H l SW SH s (mx (-1000) (mn x 1000)) (mx (-1000) (mn y 1000)) = PUT g W H l SW SH s x y := by
  have a1 := mn_spec x 1000
  have a2 := mx_spec (-1000) (mn x 1000)
  have b1 := mn_spec y 1000
  have b2 := mx_spec (-1000) (mn y 1000)
  generalize mn x 1000 = x1 at *
  generalize mn y 1000 = y1 at *
  generalize mx (-1000) x1 = x2 at *
  generalize mx (-1000) y1 = y2 at *
  refine ext_rows hW.1 (PUT_len _ _ _ _ _ _ _ _ _) (PUT_len _ _ _ _ _ _ _ _ _) (fun r c hr hc => ?_)
  rw [PUT_getD _ _ _ _ _ _ _ _ _ hr hc, PUT_getD _ _ _ _ _ _ _ _ _ hr hc, PX, PX]
  by_cases h : (x ≤ c ∧ (c : Int) < x + SW) ∧ (y ≤ r ∧ (r : Int) < y + SH)
  · have ex : x2 = x := by omega
    have ey : y2 = y := by omega
    rw [ex, ey]
  · rw [if_neg h, if_neg (by omega)]
theorem rput_eq (bl : Bool) (W H : Int) (l : List S43) (SW SH : Int) (s : List S43) (x y : Int) (hl : l.length ≤ 100000) (hs : s.length ≤ 100000) (k : Nat) (hk : 200000 ≤ k) : compositorref09_put.f k W H l SW SH s x y bl = some (CM (BG bl) W H l SW SH s x y) := by
  obtain ⟨k, rfl⟩ : ∃ j, k = j + 1 := ⟨k - 1, by omega⟩
  simp only [compositorref09_put.f, rvalid_eq W H l hl (k + 1) (by omega), rvalid_eq SW SH s hs (k + 1) (by omega), Option.bind_some, decide_eq_true_eq, CM, compositorref09_put.j0, if_true]
  by_cases h1 : VB W H l
  · rw [if_pos h1]
    by_cases h2 : VB SW SH s
    · rw [if_neg (show ¬ (!decide (VB SW SH s)) = true by simp [h2]), if_pos (show VB W H l ∧ VB SW SH s from ⟨h1, h2⟩)]
      obtain ⟨w, n, rfl, rfl, c1, c2, a1, a2, a3⟩ := VBn h1
      obtain ⟨w', n', rfl, rfl, d1, d2, b1, b2, b3⟩ := VBn h2
      simp only [Int.toNat_natCast, List.length_nil, Nat.zero_add, List.nil_append]
      rw [if_pos (by omega)]
      have m : n * (2 * w + 2) ≤ 256 * 514 := Nat.mul_le_mul c2 (by omega)
      have X1 := mn_spec x 1000
      have X2 := mx_spec (-1000) (mn x 1000)
      have Y1 := mn_spec y 1000
      have Y2 := mx_spec (-1000) (mn y 1000)
      have q := rput_l0 bl w n w' n' l s (mx (-1000) (mn x 1000)) (mx (-1000) (mn y 1000)) (by omega) (by omega) ⟨a1, c1⟩ ⟨a2, c2⟩ ⟨b1, d1⟩ ⟨b2, d2⟩ a3 b3 w n n 0 (by omega) k (by omega)
      rw [PUT_clamp _ _ _ _ _ _ _ _ _ ⟨a1, c1⟩ ⟨a2, c2⟩ ⟨b1, d1⟩ ⟨b2, d2⟩, Nat.zero_mul] at q
      exact q
    · rw [if_pos (show (!decide (VB SW SH s)) = true by simp [h2]), if_neg (show ¬ (VB W H l ∧ VB SW SH s) from fun h => h2 h.2)]
  · rw [if_neg h1, if_neg (show ¬ (VB W H l ∧ VB SW SH s) from fun h => h1 h.1)]
theorem rpaste_eq (W H : Int) (l : List S43) (SW SH : Int) (s : List S43) (x y : Int) (hl : l.length ≤ 100000) (hs : s.length ≤ 100000) (k : Nat) (hk : 200000 ≤ k) : compositorref09_Paste.f k W H l SW SH s x y = some (CM (fun _ s => s) W H l SW SH s x y) := by
  rw [compositorref09_Paste.f, rput_eq false W H l SW SH s x y hl hs k hk, Option.bind_some]
  rfl
theorem rblend_eq (W H : Int) (l : List S43) (SW SH : Int) (s : List S43) (x y : Int) (hl : l.length ≤ 100000) (hs : s.length ≤ 100000) (k : Nat) (hk : 200000 ≤ k) : compositorref09_BlendOver.f k W H l SW SH s x y = some (CM (fun d s => ov s d) W H l SW SH s x y) := by
  rw [compositorref09_BlendOver.f, rput_eq true W H l SW SH s x y hl hs k hk, Option.bind_some]
  rfl
theorem CM_len (g : S43 → S43 → S43) (W H : Int) (l : List S43) (SW SH : Int) (s : List S43) (x y : Int) : (CM g W H l SW SH s x y).2.2.1.length ≤ l.length := by
  unfold CM
  split
  · rename_i h
    obtain ⟨w, n, rfl, rfl, _, _, a1, a2, a3⟩ := VBn h.1
    simp only [PUT_len, Int.toNat_natCast]
    omega
  · simp
theorem clone_eq (W H : Int) (l : List S43) (hl : l.length ≤ 100000) : compositorlaw09_clone.f W H l = some (W, H, l) := by
  simp only [compositorlaw09_clone.f, Option.bind_some, List.length_nil, Nat.zero_add, List.nil_append]
  rw [if_pos (by omega)]
theorem paste_l0 (W H : Int) (l : List S43) (SW SH : Int) (s : List S43) (hl : l.length ≤ 400) (hs : s.length ≤ 400) (a b : Int) (n : Nat) (hn : n ≤ 400) :
    ∀ d i, i + d = n → ∀ p, p.length = n → ∀ k, d + 1000 ≤ k → compositorlaw09_BufferPaste.l0 k n i W H l SW SH s W H l SW SH s a b p = some true := by
  intro d
  induction d with
  | zero =>
    intro i hi p hp k hk
    obtain ⟨k, rfl⟩ : ∃ j, k = j + 1 := ⟨k - 1, by omega⟩
    rw [compositorlaw09_BufferPaste.l0, if_neg (by omega), requal_refl W H l (by omega) k (by omega), Option.bind_some, if_pos rfl, requal_refl SW SH s (by omega) k (by omega), Option.bind_some, if_pos rfl, example_holds k (by omega)]
    rfl
  | succ d ih =>
    intro i hi p hp k hk
    obtain ⟨k, rfl⟩ : ∃ j, k = j + 1 := ⟨k - 1, by omega⟩
    rw [compositorlaw09_BufferPaste.l0, if_pos (by omega), if_pos (by omega), if_pos (by omega), wnat (by omega)]
    exact ih (i + 1) (by omega) _ (by rw [List.length_set]; exact hp) k (by omega)
theorem pastelaw (W H : Int) (l : List S43) (SW SH : Int) (s : List S43) (x y : Int) : compositorlaw09_BufferPaste.f 200010 W H l SW SH s x y = some true := by
  unfold compositorlaw09_BufferPaste.f
  rw [small_eq, small_eq, Option.bind_some, Option.bind_some]
  simp only [decide_eq_true_eq]
  by_cases h1 : (l.length : Int) ≤ 400
  · rw [if_pos h1]
    by_cases h2 : (s.length : Int) ≤ 400
    · have c1 := CM_len (fun _ s => s) W H l SW SH s x y
      have c2 := CM_len (fun d s => ov s d) W H l SW SH s x y
      rw [decide_eq_true h2]
      simp only [compositorlaw09_BufferPaste.j0, Bool.not_true, Bool.false_eq_true, if_false, clone_eq W H l (by omega), clone_eq SW SH s (by omega), Option.bind_some, paste_eq, rpaste_eq W H l SW SH s x y (by omega) (by omega) 200009 (by omega), if_true, requal_refl _ _ (CM (fun _ s => s) W H l SW SH s x y).2.2.1 (by omega) 200009 (by omega), compositorlaw09_BufferPaste.j1, blend_eq, rblend_eq W H l SW SH s x y (by omega) (by omega) 200008 (by omega), requal_refl _ _ (CM (fun d s => ov s d) W H l SW SH s x y).2.2.1 (by omega) 200008 (by omega), compositorlaw09_BufferPaste.j2]
      generalize (CM (fun d s => ov s d) W H l SW SH s x y).2.2.1 = p at *
      have q := paste_l0 W H l SW SH s (by omega) (by omega) (CM (fun d s => ov s d) W H l SW SH s x y).1 (CM (fun d s => ov s d) W H l SW SH s x y).2.1 p.length (by omega) p.length 0 (by omega) p rfl 200007 (by omega)
      exact q
    · rw [decide_eq_false h2]
      simp only [compositorlaw09_BufferPaste.j0, Bool.not_false, if_true, example_holds 200009 (by omega), Option.bind_some]
  · rw [if_neg h1]
    simp only [compositorlaw09_BufferPaste.j0, if_true, example_holds 200009 (by omega), Option.bind_some]
theorem BufferPaste (x0 : S27) (x1 : S27) (x2 : S41) (ok0 : ((Lit.int .i64 x0.f0).wf = true) ∧ ((Lit.int .i64 x0.f1).wf = true) ∧ (x0.f2.length * 4 ≤ 140737488351232 ∧ x0.f2.length ≤ 9223372036854775807 ∧ ∀ y25 ∈ x0.f2, ((Lit.int .u8 y25.f0).wf = true) ∧ ((Lit.int .u8 y25.f1).wf = true) ∧ ((Lit.int .u8 y25.f2).wf = true) ∧ ((Lit.int .u8 y25.f3).wf = true))) (ok1 : ((Lit.int .i64 x1.f0).wf = true) ∧ ((Lit.int .i64 x1.f1).wf = true) ∧ (x1.f2.length * 4 ≤ 140737488351232 ∧ x1.f2.length ≤ 9223372036854775807 ∧ ∀ y25 ∈ x1.f2, ((Lit.int .u8 y25.f0).wf = true) ∧ ((Lit.int .u8 y25.f1).wf = true) ∧ ((Lit.int .u8 y25.f2).wf = true) ∧ ((Lit.int .u8 y25.f3).wf = true))) (ok2 : ((Lit.int .i64 x2.f0).wf = true) ∧ ((Lit.int .i64 x2.f1).wf = true)) :
    ∃ k, compositorlaw09_BufferPaste.f k x0.f0 x0.f1 x0.f2 x1.f0 x1.f1 x1.f2 x2.f0 x2.f1 = some true := by
  exact ⟨200010, pastelaw _ _ _ _ _ _ _ _⟩
end Go.Proofs.Ytmockeaiccpogaa.Pure
end
section
namespace Go.Proofs.YtmockeaiccpogaaOpens
open Go.ChangeShapes Go.WideShapes Go.RowKit Go.Proofs.YtmockeaiccpogaaW.PrintWords
section
variable {H : Type} {enc : TypeId × Value → H} {P : Program} {W : World}
def Opens {α : Type} (enc : TypeId × Value → H) (P : Program) (W : World) (t : TypeId) (d : Kd α) (ok : α → Prop) : Prop :=
  ∀ fuel cs y, DataW.trod enc P W 0 (fun _ => true) true fuel t cs = some y → (∀ n ∈ y.1.weights P t, n ≤ reachBytes) → ∃ x, d.K W x cs ∧ ok x
theorem opens_int {t : TypeId} {k : IntKind} (ht : P.underlying t = some (.int k)) : Opens enc P W t (Kd.int k) (fun x => (Lit.int k x).wf = true) := by
  intro fuel cs y h _
  obtain ⟨n, rfl, _, hw⟩ := DataW.trod_int ht h
  exact ⟨n, rfl, hw⟩
theorem weightsAll_mem {e : TypeId} : ∀ {l : List (DataW H)} {d : DataW H}, d ∈ l → ∀ n ∈ d.weights P e, n ∈ DataW.weightsAll P e l
  | d0 :: r, d, hd, n, hn => by
    simp only [DataW.weightsAll, List.mem_append]
    rcases List.mem_cons.1 hd with rfl | hd
    · exact .inl hn
    · exact .inr (weightsAll_mem hd n hn)
theorem choose_list {α : Type} (n : Nat) (R : Nat → α → Prop) (h : ∀ i, i < n → ∃ x, R i x) : ∃ l : List α, l.length = n ∧ ∀ i x, l[i]? = some x → R i x := by
  induction n with
  | zero => exact ⟨[], rfl, fun i x hx => by simp at hx⟩
  | succ n ih =>
    obtain ⟨l, hl, hr⟩ := ih (fun i hi => h i (by omega))
    obtain ⟨x, hx⟩ := h n (by omega)
    refine ⟨l ++ [x], by simp [hl], fun i y hy => ?_⟩
    rcases Nat.lt_or_ge i l.length with hi | hi
    · rw [List.getElem?_append_left hi] at hy
      exact hr i y hy
    · rw [List.getElem?_append_right hi] at hy
      obtain ⟨hi2, rfl⟩ : i - l.length = 0 ∧ x = y := by
        rcases Nat.eq_zero_or_pos (i - l.length) with h0 | h0
        · rw [h0] at hy; simp at hy; exact ⟨h0, hy⟩
        · rw [List.getElem?_eq_none (by simp; omega)] at hy; cases hy
      have : i = n := by omega
      subst this
      exact hx
theorem opens_slice {α : Type} {t e : TypeId} {d : Kd α} {ok : α → Prop} {B : Nat} (ht : P.underlying t = some (.slice e)) (hc : P.cellsOf e = d.sz) (hB : P.bytesOf e = B) (he : Opens enc P W e d ok) :
    Opens enc P W t (Kd.slice e d) (fun l => l.length * B ≤ 140737488351232 ∧ l.length ≤ 9223372036854775807 ∧ ∀ x ∈ l, ok x) := by
  intro fuel cs y h hz
  rcases DataW.trod_slice ht h with ⟨rfl, _⟩ | ⟨a, len, cap, elems, rest, n, _, rfl, rfl, _, hl, hm, hlen, hel, _, _⟩
  · exact ⟨[], ⟨none, 0, rfl, by simp, rfl, by simp, fun h0 => absurd h0 (by simp)⟩, by simp, by simp, by simp⟩
  · have hw : ∀ n ∈ (((elems.map (·.1)).length + (rest.map (·.1)).length) * P.bytesOf e) :: (DataW.weightsAll P e (elems.map (·.1)) ++ DataW.weightsAll P e (rest.map (·.1))), n ≤ reachBytes := by
      intro m hm'
      refine hz m ?_
      simp only [DataW.weights, ht]
      exact hm'
    obtain ⟨l, hll, hlr⟩ := choose_list (α := α) len (fun i x => ok x ∧ ∃ c, c.length = d.sz ∧ d.K W x c ∧ ∀ j u, c[j]? = some u → W.cell? (a.add (i * d.sz + j)) = some u) (by
      intro i hi
      have h1 := hel i hi
      rw [List.getElem?_eq_getElem (by omega)] at h1
      obtain ⟨c, hcs, htr⟩ := Option.bind_eq_some_iff.1 h1
      have hmem : (elems[i]'(by omega)).1 ∈ elems.map (·.1) := List.mem_map.2 ⟨_, List.getElem_mem _, rfl⟩
      obtain ⟨x, hK, hok⟩ := he n c _ htr (fun m hm' => hw m (by
        refine List.mem_cons_of_mem _ (List.mem_append_left _ ?_)
        exact weightsAll_mem hmem m hm'))
      refine ⟨x, hok, c, d.K_len hK, hK, fun j u hu => ?_⟩
      rw [hc] at hcs
      unfold World.cells? at hcs
      split at hcs
      · have hj : j < d.sz := by
          have := (List.getElem?_eq_some_iff.1 hu).1
          rw [d.K_len hK] at this
          exact this
        have h2 := mapM_some_get hcs j j (by simp [hj])
        rw [hu] at h2
        rw [← h2]
        congr 1
        have : ∀ (a : Addr) (p q : Nat), (a.add p).add q = a.add (p + q) := by
          intro a p q
          unfold Addr.add
          split
          · split <;> simp_all
          · split <;> simp_all [Nat.add_assoc]
        exact (this a _ _).symm
      · cases hcs)
    refine ⟨l, ⟨some a, cap, by rw [hll], by omega, rfl, by unfold maxLen at hm; omega, fun _ => ⟨a, rfl, fun j p hp => ?_⟩⟩, ?_, by unfold maxLen at hm; omega, fun x hx => ?_⟩
    · obtain ⟨_, c, h1, h2, h3⟩ := hlr j p hp
      exact ⟨c, h1, h2, h3⟩
    · have := hw _ List.mem_cons_self
      rw [hB] at this
      simp only [List.length_map, hlen] at this
      rw [hll]
      unfold reachBytes at this
      exact Nat.le_trans (Nat.mul_le_mul_right _ (Nat.le_add_right _ _)) this
    · obtain ⟨i, hi, rfl⟩ := List.getElem_of_mem hx
      exact (hlr i _ (List.getElem?_eq_getElem hi)).1
def OpensFs {α : Type} (enc : TypeId × Value → H) (P : Program) (W : World) (fs : List Field) (off : Nat) (d : Kd α) (ok : α → Prop) : Prop :=
  ∀ (n : Nat) (cs : List Value) (xs : List (DataW H × List MemPlace)), cs.length = off + d.sz →
    xs.length = fs.length → (∀ (i : Nat) (f : Field), fs[i]? = some f → DataW.trod enc P W 0 (fun _ => true) true n f.type ((cs.drop f.offset).take (P.cellsOf f.type)) = xs[i]?) →
    (∀ m ∈ DataW.weightsEach P (fs.map (·.type)) (xs.map (·.1)), m ≤ reachBytes) → ∃ x, d.K W x (cs.drop off) ∧ ok x
theorem opensFs_last {α : Type} {f : Field} {off : Nat} {d : Kd α} {ok : α → Prop} (ho : f.offset = off) (hc : P.cellsOf f.type = d.sz) (h : Opens enc P W f.type d ok) : OpensFs enc P W [f] off d ok := by
  intro n cs xs hcs hx ht hz
  match xs, hx with
  | [x0], _ =>
    have h0 := ht 0 f rfl
    rw [ho, hc, List.take_of_length_le (by rw [List.length_drop]; omega)] at h0
    exact h n _ x0 (by simpa using h0) (fun m hm => hz m (by simp [DataW.weightsEach, hm]))
theorem opensFs_cons {α β : Type} {f : Field} {fs : List Field} {off : Nat} {d : Kd α} {d' : Kd β} {ok : α → Prop} {ok' : β → Prop} (ho : f.offset = off) (hc : P.cellsOf f.type = d.sz) (h : Opens enc P W f.type d ok)
    (hr : OpensFs enc P W fs (off + d.sz) d' ok') : OpensFs enc P W (f :: fs) off (Kd.pair d d') (fun x => ok x.1 ∧ ok' x.2) := by
  intro n cs xs hcs hx ht hz
  have hcs' : cs.length = off + (d.sz + d'.sz) := hcs
  match xs, hx with
  | x0 :: xs, hx =>
    have h0 := ht 0 f rfl
    rw [ho, hc] at h0
    obtain ⟨x, hK, hok⟩ := h n _ x0 (by simpa using h0) (fun m hm => hz m (by simp [DataW.weightsEach, hm]))
    obtain ⟨x', hK', hok'⟩ := hr n cs xs (by omega) (by simpa using hx) (fun i g hg => by simpa using ht (i + 1) g (by simpa using hg)) (fun m hm => hz m (by simp only [List.map_cons, DataW.weightsEach, List.mem_append]; exact .inr hm))
    refine ⟨(x, x'), ⟨_, _, ?_, hK, hK'⟩, hok, hok'⟩
    rw [← List.drop_drop, List.take_append_drop]
theorem opens_struct {α : Type} {t : TypeId} {fs : Array Field} {d : Kd α} {ok : α → Prop} (ht : P.underlying t = some (.struct fs)) (hc : P.cellsOf t = d.sz) (h : OpensFs enc P W fs.toList 0 d ok) : Opens enc P W t d ok := by
  intro fuel cs y hy hz
  obtain ⟨xs, n, _, rfl, hl, hlen, hf⟩ := DataW.trod_struct ht hy
  obtain ⟨x, hK, hok⟩ := h n cs xs (by omega) (by simpa using hlen) (fun i f hi => hf i f (by simpa using hi)) (fun m hm => hz m (by simp only [DataW.weights, ht]; exact hm))
  exact ⟨x, by simpa using hK, hok⟩
theorem opens_iso {α β : Type} {t : TypeId} {d : Kd α} {ok : α → Prop} (f : β → α) (g : α → β) (hfg : ∀ x, f (g x) = x) (h : Opens enc P W t d ok) : Opens enc P W t (Kd.iso d f) (fun y => ok (f y)) := by
  intro fuel cs y hy hz
  obtain ⟨x, hK, hok⟩ := h fuel cs y hy hz
  exact ⟨g x, by show d.K W (f (g x)) cs; rw [hfg]; exact hK, by show ok (f (g x)); rw [hfg]; exact hok⟩
theorem opens_imp {α : Type} {t : TypeId} {d : Kd α} {ok ok' : α → Prop} (h : Opens enc P W t d ok) (hi : ∀ x, ok x → ok' x) : Opens enc P W t d ok' := by
  intro fuel cs y hy hz
  obtain ⟨x, hK, hok⟩ := h fuel cs y hy hz
  exact ⟨x, hK, hi x hok⟩
theorem opens_arg {α : Type} {ts : List TypeId} {ds : List (DataW H)} {j : Nat} {t : TypeId} {v : Value} {dt : DataW H} {ps : List MemPlace} {d : Kd α} {ok : α → Prop} (h : Opens enc P W t d ok)
    (hsz : (DataW.weightsEach P ts ds).all (· ≤ reachBytes) = true) (ht : ts[j]? = some t) (hd : ds[j]? = some dt) (hr : DataW.Trod enc P W 0 (fun _ => true) true t v dt ps) : ∃ x, d.K W x v.cells.toList ∧ ok x := by
  obtain ⟨fuel, hf⟩ := hr
  exact h fuel _ _ hf (fun n hn => by simpa using List.all_eq_true.1 hsz n (DataW.weights_mem_each ht hd n hn))
end
theorem arr_of {cs : Array Value} {l : List Value} (h : (Value.agg cs).cells.toList = l) : cs = l.toArray := by
  have h' : cs.toList = l := h
  rw [← h', Array.toArray_toList]
end Go.Proofs.YtmockeaiccpogaaOpens
namespace Go.Proofs.YtmockeaiccpogaaOpens
open Go.ChangeShapes Go.WideShapes Go.RowKit Go.Proofs.YtmockeaiccpogaaW.PrintWords
end Go.Proofs.YtmockeaiccpogaaOpens
end
