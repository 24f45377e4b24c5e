/-
  Plain laws (numbers and lists) for the statement Mean: no program in sight.
-/
import Derived.Test.YtdhjbdofklglgaaAllx0
import Derived.Test.YtdhjbdofklglgaaAllx2
import Derived.Test.YtdhjbdofklglgaaAllx3
import Derived.Test.YtdhjbdofklglgaaPureBase
namespace Go.Proofs.Ytdhjbdofklglgaa.Pure
open Go.RowKit Go.Proofs.YtdhjbdofklglgaaW.PrintWords Go.Proofs.YtdhjbdofklglgaaW.PrintMore Go.Proofs.Ytdhjbdofklglgaa.All
set_option linter.unusedVariables false

/-! ### Means -/
def Ok4 (p : S23) : Prop := (0 ≤ p.f0 ∧ p.f0 ≤ 255) ∧ (0 ≤ p.f1 ∧ p.f1 ≤ 255) ∧ (0 ≤ p.f2 ∧ p.f2 ≤ 255) ∧ (0 ≤ p.f3 ∧ p.f3 ≤ 255)
theorem ok4_of {p : S23} (h : ((Lit.int .u8 p.f0).wf = true) ∧ ((Lit.int .u8 p.f1).wf = true) ∧ ((Lit.int .u8 p.f2).wf = true) ∧ ((Lit.int .u8 p.f3).wf = true)) : Ok4 p := ⟨u8 h.1, u8 h.2.1, u8 h.2.2.1, u8 h.2.2.2⟩
/-- A sum over a list. -/
def sm (f : S23 → Int) : List S23 → Int
  | [] => 0
  | p :: r => f p + sm f r
theorem sm_append (f : S23 → Int) (l m : List S23) : sm f (l ++ m) = sm f l + sm f m := by
  induction l with
  | nil => simp [sm]
  | cons p r ih => simp only [List.cons_append, sm, ih]; omega
theorem sm_reverse (f : S23 → Int) (l : List S23) : sm f l.reverse = sm f l := by
  induction l with
  | nil => rfl
  | cons p r ih => rw [List.reverse_cons, sm_append, ih]; simp only [sm]; omega
theorem sm_replicate (f : S23 → Int) (n : Nat) (p : S23) : sm f (List.replicate n p) = n * f p := by
  induction n with
  | zero => simp [sm]
  | succ n ih => rw [List.replicate_succ]; simp only [sm, ih]; rw [Int.natCast_succ, Int.add_mul]; omega
theorem sm_range (f : S23 → Int) (l : List S23) (h : ∀ p ∈ l, 0 ≤ f p ∧ f p ≤ 255) : 0 ≤ sm f l ∧ sm f l ≤ 255 * l.length := by
  induction l with
  | nil => simp [sm]
  | cons p r ih =>
    have h1 := h p (by simp)
    have h2 := ih (fun q hq => h q (by simp [hq]))
    simp only [sm, List.length_cons]
    omega
def c0 (p : S23) : Int := mn p.f0 p.f3
def c1 (p : S23) : Int := mn p.f1 p.f3
def c2 (p : S23) : Int := mn p.f2 p.f3
def c3 (p : S23) : Int := p.f3
theorem c0_r {p : S23} (h : Ok4 p) : 0 ≤ c0 p ∧ c0 p ≤ 255 := ⟨(mn_range h.1.1 h.1.2 h.2.2.2.1 h.2.2.2.2).1, (mn_range h.1.1 h.1.2 h.2.2.2.1 h.2.2.2.2).2.1⟩
theorem c1_r {p : S23} (h : Ok4 p) : 0 ≤ c1 p ∧ c1 p ≤ 255 := ⟨(mn_range h.2.1.1 h.2.1.2 h.2.2.2.1 h.2.2.2.2).1, (mn_range h.2.1.1 h.2.1.2 h.2.2.2.1 h.2.2.2.2).2.1⟩
theorem c2_r {p : S23} (h : Ok4 p) : 0 ≤ c2 p ∧ c2 p ≤ 255 := ⟨(mn_range h.2.2.1.1 h.2.2.1.2 h.2.2.2.1 h.2.2.2.2).1, (mn_range h.2.2.1.1 h.2.2.1.2 h.2.2.2.1 h.2.2.2.2).2.1⟩
theorem c3_r {p : S23} (h : Ok4 p) : 0 ≤ c3 p ∧ c3 p ≤ 255 := h.2.2.2
theorem wr {x : Int} (h0 : 0 ≤ x) (h1 : x ≤ 1000000) : wrap64 x = x := by unfold wrap64; omega
theorem sums_from (l : List S23) (h : ∀ p ∈ l, Ok4 p) : ∀ (s : Int × Int × Int × Int), (0 ≤ s.1 ∧ s.1 + 255 * l.length ≤ 100000) → (0 ≤ s.2.1 ∧ s.2.1 + 255 * l.length ≤ 100000) → (0 ≤ s.2.2.1 ∧ s.2.2.1 + 255 * l.length ≤ 100000) → (0 ≤ s.2.2.2 ∧ s.2.2.2 + 255 * l.length ≤ 100000) →
    l.foldl pixel_Average.step s = (s.1 + sm c0 l, s.2.1 + sm c1 l, s.2.2.1 + sm c2 l, s.2.2.2 + sm c3 l) := by
  induction l with
  | nil => intro s _ _ _ _; simp [sm]
  | cons p r ih =>
    intro s h0 h1 h2 h3
    have hp := h p (by simp)
    have q0 := c0_r hp
    have q1 := c1_r hp
    have q2 := c2_r hp
    have q3 := c3_r hp
    rw [List.foldl_cons]
    have e : pixel_Average.step s p = (s.1 + c0 p, s.2.1 + c1 p, s.2.2.1 + c2 p, s.2.2.2 + c3 p) := by
      simp only [pixel_Average.step]
      simp only [List.length_cons] at h0 h1 h2 h3
      show (wrap64 (s.1 + wrap64 (c0 p)), wrap64 (s.2.1 + wrap64 (c1 p)), wrap64 (s.2.2.1 + wrap64 (c2 p)), wrap64 (s.2.2.2 + wrap64 (c3 p))) = _
      rw [wr q0.1 (by omega), wr q1.1 (by omega), wr q2.1 (by omega), wr q3.1 (by omega), wr (by omega) (by omega), wr (by omega) (by omega), wr (by omega) (by omega), wr (by omega) (by omega)]
    simp only [List.length_cons] at h0 h1 h2 h3
    rw [e, ih (fun q hq => h q (by simp [hq])) _ (by simp only; omega) (by simp only; omega) (by simp only; omega) (by simp only; omega)]
    simp only [sm]
    refine Prod.ext ?_ (Prod.ext ?_ (Prod.ext ?_ ?_)) <;> simp only <;> omega
def me (s n : Int) : Int := (2 * s + n) / (2 * n)
theorem me_range {s n : Int} (hn : 1 ≤ n) (h0 : 0 ≤ s) (h1 : s ≤ 255 * n) : 0 ≤ me s n ∧ me s n ≤ 255 := by
  unfold me
  refine ⟨Int.ediv_nonneg (by omega) (by omega), ?_⟩
  have : (2 * s + n) / (2 * n) < 256 := Int.ediv_lt_of_lt_mul (by omega) (by omega)
  omega
theorem me_const {n c : Int} (hn : 1 ≤ n) : me (n * c) n = c := by
  unfold me
  have e : 2 * (n * c) + n = n + (2 * n) * c := by rw [Int.mul_assoc]; omega
  rw [e, Int.add_mul_ediv_left _ _ (by omega), Int.ediv_eq_zero_of_lt (by omega) (by omega)]
  omega
theorem pme_eq {s n : Int} (hn : 1 ≤ n) (hn' : n ≤ 300) (h0 : 0 ≤ s) (h1 : s ≤ 255 * n) : pixel_Average.me s n = me s n := by
  obtain ⟨p, q⟩ := me_range hn h0 h1
  unfold pixel_Average.me
  rw [IntWalk.i64_left, IntWalk.i64_left, IntWalk.i64_left, IntWalk.i64_left, wr (x := 2 * s) (by omega) (by omega), wr (x := 2 * s + n) (by omega) (by omega), wr (x := 2 * n) (by omega) (by omega), Int.tdiv_eq_ediv_of_nonneg (by omega)]
  show IntKind.u8.wrap (wrap64 (me s n)) = me s n
  rw [wr p (by omega)]
  simp only [IntKind.wrap, IntKind.signed, IntKind.bits]
  simp
  omega
theorem rme_eq {s n : Int} (hn : 1 ≤ n) (hn' : n ≤ 300) (h0 : 0 ≤ s) (h1 : s ≤ 255 * n) : compositorref08_mean.f s n = some (me s n) := by
  obtain ⟨p, q⟩ := me_range hn h0 h1
  unfold compositorref08_mean.f
  rw [wr (x := 2 * s) (by omega) (by omega), wr (x := 2 * s + n) (by omega) (by omega), wr (x := 2 * n) (by omega) (by omega), Int.tdiv_eq_ediv_of_nonneg (by omega), if_neg (by omega)]
  show some (wrap64 (me s n) % 256) = some (me s n)
  rw [wr p (by omega), Int.emod_eq_of_lt p (by omega)]
def av (l : List S23) : Int × Int × Int × Int := if (l.length : Int) = 0 then (0, 0, 0, 0) else (me (sm c0 l) l.length, me (sm c1 l) l.length, me (sm c2 l) l.length, me (sm c3 l) l.length)
theorem avg_eq (l : List S23) (h : ∀ p ∈ l, Ok4 p) (hl : l.length ≤ 300) : pixel_Average.f l = some (av l) := by
  unfold pixel_Average.f av
  by_cases z : (l.length : Int) = 0
  · rw [if_pos z, if_pos z]
  · rw [if_neg z, if_neg z]
    have r0 := sm_range c0 l (fun p hp => c0_r (h p hp))
    have r1 := sm_range c1 l (fun p hp => c1_r (h p hp))
    have r2 := sm_range c2 l (fun p hp => c2_r (h p hp))
    have r3 := sm_range c3 l (fun p hp => c3_r (h p hp))
    have e : pixel_Average.sums l = (sm c0 l, sm c1 l, sm c2 l, sm c3 l) := by
      unfold pixel_Average.sums
      rw [sums_from l h _ (by simp only; omega) (by simp only; omega) (by simp only; omega) (by simp only; omega)]
      simp
    rw [e, IntWalk.i64_left, wr (by omega) (by omega), if_neg (by omega)]
    simp only
    rw [pme_eq (by omega) (by omega) r0.1 r0.2, pme_eq (by omega) (by omega) r1.1 r1.2, pme_eq (by omega) (by omega) r2.1 r2.2, pme_eq (by omega) (by omega) r3.1 r3.2]
theorem ravg_loop (l : List S23) (h : ∀ p ∈ l, Ok4 p) (hl : l.length ≤ 300) (hz : 1 ≤ l.length) : ∀ (d k : Nat) (i : Nat), i + d = l.length → d < k →
    compositorref08_Average.l0 k l (l.length : Int) (sm c0 (l.take i)) (sm c1 (l.take i)) (sm c2 (l.take i)) (sm c3 (l.take i)) (i : Int) = some (av l) := by
  intro d
  induction d with
  | zero =>
    intro k i hi hk
    obtain ⟨k, rfl⟩ : ∃ m, k = m + 1 := ⟨k - 1, by omega⟩
    have r0 := sm_range c0 l (fun p hp => c0_r (h p hp))
    have r1 := sm_range c1 l (fun p hp => c1_r (h p hp))
    have r2 := sm_range c2 l (fun p hp => c2_r (h p hp))
    have r3 := sm_range c3 l (fun p hp => c3_r (h p hp))
    simp only [compositorref08_Average.l0]
    rw [if_neg (by omega), List.take_of_length_le (by omega), rme_eq (by omega) (by omega) r0.1 r0.2, rme_eq (by omega) (by omega) r1.1 r1.2, rme_eq (by omega) (by omega) r2.1 r2.2, rme_eq (by omega) (by omega) r3.1 r3.2]
    simp only [Option.bind_some]
    unfold av
    rw [if_neg (by omega)]
  | succ d ih =>
    intro k i hi hk
    obtain ⟨k, rfl⟩ : ∃ m, k = m + 1 := ⟨k - 1, by omega⟩
    have hil : i < l.length := by omega
    have hp := h l[i] (List.getElem_mem _)
    have e : rd_T23 l (i : Int) = l[i] := by simp [rd_T23, List.getD_eq_getElem?_getD, List.getElem?_eq_getElem hil]
    have ht : ∀ p ∈ l.take i, Ok4 p := fun p hp => h p (List.mem_of_mem_take hp)
    have r0 := sm_range c0 (l.take i) (fun p hp => c0_r (ht p hp))
    have r1 := sm_range c1 (l.take i) (fun p hp => c1_r (ht p hp))
    have r2 := sm_range c2 (l.take i) (fun p hp => c2_r (ht p hp))
    have r3 := sm_range c3 (l.take i) (fun p hp => c3_r (ht p hp))
    have hlen : (l.take i).length = i := by rw [List.length_take]; omega
    rw [hlen] at r0 r1 r2 r3
    have q0 := c0_r hp
    have q1 := c1_r hp
    have q2 := c2_r hp
    have q3 := c3_r hp
    have nx := ih k (i + 1) (by omega) (by omega)
    rw [List.take_succ_eq_append_getElem hil, sm_append, sm_append, sm_append, sm_append] at nx
    simp only [sm, Int.add_zero] at nx
    simp only [compositorref08_Average.l0]
    rw [if_pos (by omega), if_pos (by omega), if_pos (by omega), e, rclamp_eq]
    simp only [Option.bind_some]
    show compositorref08_Average.l0 k l _ (wrap64 (sm c0 (l.take i) + wrap64 (c0 l[i]))) (wrap64 (sm c1 (l.take i) + wrap64 (c1 l[i]))) (wrap64 (sm c2 (l.take i) + wrap64 (c2 l[i]))) (wrap64 (sm c3 (l.take i) + wrap64 (c3 l[i]))) (wrap64 ((i : Int) + 1)) = _
    rw [wr q0.1 (by omega), wr q1.1 (by omega), wr q2.1 (by omega), wr q3.1 (by omega), wr (x := sm c0 (l.take i) + _) (by omega) (by omega), wr (x := sm c1 (l.take i) + _) (by omega) (by omega), wr (x := sm c2 (l.take i) + _) (by omega) (by omega), wr (x := sm c3 (l.take i) + _) (by omega) (by omega), wr (x := (i : Int) + 1) (by omega) (by omega)]
    exact nx
theorem ravg_eq (l : List S23) (h : ∀ p ∈ l, Ok4 p) (hl : l.length ≤ 300) (k : Nat) (hk : 300 < k) : compositorref08_Average.f k l = some (av l) := by
  unfold compositorref08_Average.f
  by_cases z : (l.length : Int) = 0
  · rw [if_pos z]; unfold av; rw [if_pos z]
  · rw [if_neg z]
    have := ravg_loop l h hl (by omega) l.length k 0 (by omega) (by omega)
    simpa [sm] using this
theorem av_reverse (l : List S23) : av l.reverse = av l := by
  unfold av
  rw [List.length_reverse, sm_reverse, sm_reverse, sm_reverse, sm_reverse]
theorem av_replicate (n : Nat) (hn : 1 ≤ n) (p : S23) : av (List.replicate n p) = (c0 p, c1 p, c2 p, c3 p) := by
  unfold av
  rw [List.length_replicate, if_neg (by omega), sm_replicate, sm_replicate, sm_replicate, sm_replicate, me_const (by omega), me_const (by omega), me_const (by omega), me_const (by omega)]

end Go.Proofs.Ytdhjbdofklglgaa.Pure
