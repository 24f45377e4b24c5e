/-
  Plain laws (numbers and lists) for the statement PixelValidity: no program in sight.
-/
import Derived.Test.YtdhjbdofklglgaaAllx0
import Derived.Test.YtdhjbdofklglgaaAllx5
import Derived.Test.YtdhjbdofklglgaaPureMean
import Derived.Test.YtdhjbdofklglgaaPurePack
namespace Go.Proofs.Ytdhjbdofklglgaa.Pure
open Go.RowKit Go.Proofs.YtdhjbdofklglgaaW.PrintWords Go.Proofs.YtdhjbdofklglgaaW.PrintMore Go.Proofs.Ytdhjbdofklglgaa.All
set_option linter.unusedVariables false
theorem mn_le (a d : Int) : mn a d ≤ d := by unfold mn; split <;> omega
theorem vl_true {a b c d : Int} (h1 : a ≤ d) (h2 : b ≤ d) (h3 : c ≤ d) : vl a b c d = true := by simp [vl, h1, h2, h3]
theorem sm_mono (f g : S23 → Int) (l : List S23) (h : ∀ p, f p ≤ g p) : sm f l ≤ sm g l := by
  induction l with
  | nil => simp [sm]
  | cons p r ih => have := h p; simp only [sm]; omega
theorem me_mono {s t n : Int} (hn : 1 ≤ n) (h : s ≤ t) : me s n ≤ me t n := by
  unfold me
  exact Int.ediv_le_ediv (by omega) (by omega)
theorem av_valid (l : List S23) : vl (av l).1 (av l).2.1 (av l).2.2.1 (av l).2.2.2 = true := by
  unfold av
  by_cases z : (l.length : Int) = 0
  · rw [if_pos z]; rfl
  · rw [if_neg z]
    exact vl_true (me_mono (by omega) (sm_mono _ _ l (fun p => mn_le _ _))) (me_mono (by omega) (sm_mono _ _ l (fun p => mn_le _ _))) (me_mono (by omega) (sm_mono _ _ l (fun p => mn_le _ _)))
theorem up_pk {a b c d : Int} (a0 : 0 ≤ a) (a1 : a ≤ 255) (b0 : 0 ≤ b) (b1 : b ≤ 255) (c0 : 0 ≤ c) (c1 : c ≤ 255) (d0 : 0 ≤ d) (d1 : d ≤ 255) : up (pk a b c d) = (mn a d, mn b d, mn c d, d) := by
  have ha := mn_range a0 a1 d0 d1
  have hb := mn_range b0 b1 d0 d1
  have hc := mn_range c0 c1 d0 d1
  unfold up pk
  generalize mn a d = x at *
  generalize mn b d = y at *
  generalize mn c d = z at *
  have e0 : (d * 16777216 + x * 65536 + y * 256 + z) / 16777216 % 256 = d := by omega
  have e1 : (d * 16777216 + x * 65536 + y * 256 + z) / 65536 % 256 = x := by omega
  have e2 : (d * 16777216 + x * 65536 + y * 256 + z) / 256 % 256 = y := by omega
  have e3 : (d * 16777216 + x * 65536 + y * 256 + z) % 256 = z := by omega
  rw [e0, e1, e2, e3]
  have f1 : mn x d = x := by unfold mn; split <;> omega
  have f2 : mn y d = y := by unfold mn; split <;> omega
  have f3 : mn z d = z := by unfold mn; split <;> omega
  rw [f1, f2, f3]
theorem v_j1 {k : Nat} {a b c d : Int} (a0 : 0 ≤ a) (a1 : a ≤ 255) (b0 : 0 ≤ b) (b1 : b ≤ 255) (c0 : 0 ≤ c) (c1 : c ≤ 255) (d0 : 0 ≤ d) (d1 : d ≤ 255) : compositorlaw08_PixelValidity.j1 (k + 1) false a b c d = some true := by
  simp only [compositorlaw08_PixelValidity.j1]
  rw [if_neg (by simp), valid_eq, pack_eq a0 a1 b0 b1 c0 c1 d0 d1]
  simp only [Option.bind_some]
  rw [unpack_eq, up_pk a0 a1 b0 b1 c0 c1 d0 d1, clamp_eq, example_holds]
  simp only [Option.bind_some, vl]
  by_cases h1 : a ≤ d <;> by_cases h2 : b ≤ d <;> simp [h1, h2]
theorem v_j0 {k : Nat} {a b c d : Int} (a0 : 0 ≤ a) (a1 : a ≤ 255) (b0 : 0 ≤ b) (b1 : b ≤ 255) (c0 : 0 ≤ c) (c1 : c ≤ 255) (d0 : 0 ≤ d) (d1 : d ≤ 255) : compositorlaw08_PixelValidity.j0 (k + 1 + 1) false a b c d = some true := by
  have j1 := @v_j1 k a b c d a0 a1 b0 b1 c0 c1 d0 d1
  simp only [compositorlaw08_PixelValidity.j0]
  rw [if_neg (by simp), valid_eq]
  simp only [Option.bind_some]
  by_cases v : vl a b c d = true
  · rw [if_pos v, clamp_eq, pack_eq a0 a1 b0 b1 c0 c1 d0 d1]
    simp only [Option.bind_some]
    rw [unpack_eq, up_pk a0 a1 b0 b1 c0 c1 d0 d1]
    simp only [Option.bind_some]
    have h : a ≤ d ∧ b ≤ d ∧ c ≤ d := by simpa [vl] using v
    have e1 : mn a d = a := by unfold mn; split <;> omega
    have e2 : mn b d = b := by unfold mn; split <;> omega
    have e3 : mn c d = c := by unfold mn; split <;> omega
    rw [e1, e2, e3]
    simpa using j1
  · rw [if_neg v]; exact j1
theorem PixelValidity (x0 : S23) (x1 : S23) (x2 : List S23) (ok0 : ((Lit.int .u8 x0.f0).wf = true) ∧ ((Lit.int .u8 x0.f1).wf = true) ∧ ((Lit.int .u8 x0.f2).wf = true) ∧ ((Lit.int .u8 x0.f3).wf = true)) (ok1 : ((Lit.int .u8 x1.f0).wf = true) ∧ ((Lit.int .u8 x1.f1).wf = true) ∧ ((Lit.int .u8 x1.f2).wf = true) ∧ ((Lit.int .u8 x1.f3).wf = true)) (ok2 : x2.length * 4 ≤ 140737488351232 ∧ x2.length ≤ 9223372036854775807 ∧ ∀ y29 ∈ x2, ((Lit.int .u8 y29.f0).wf = true) ∧ ((Lit.int .u8 y29.f1).wf = true) ∧ ((Lit.int .u8 y29.f2).wf = true) ∧ ((Lit.int .u8 y29.f3).wf = true)) :
    ∃ k, compositorlaw08_PixelValidity.f k x0.f0 x0.f1 x0.f2 x0.f3 x1.f0 x1.f1 x1.f2 x1.f3 x2 = some true := by
  have h2 : ∀ p ∈ x2, Ok4 p := fun p hp => ok4_of (ok2.2.2 p hp)
  obtain ⟨a, b, c, d⟩ := x0
  obtain ⟨a', b', c', d'⟩ := x1
  obtain ⟨a0, a1⟩ := u8 ok0.1
  obtain ⟨b0, b1⟩ := u8 ok0.2.1
  obtain ⟨c0, c1⟩ := u8 ok0.2.2.1
  obtain ⟨d0, d1⟩ := u8 ok0.2.2.2
  obtain ⟨a'0, a'1⟩ := u8 ok1.1
  obtain ⟨b'0, b'1⟩ := u8 ok1.2.1
  obtain ⟨c'0, c'1⟩ := u8 ok1.2.2.1
  obtain ⟨d'0, d'1⟩ := u8 ok1.2.2.2
  simp only at *
  refine ⟨0 + 1 + 1, ?_⟩
  unfold compositorlaw08_PixelValidity.f
  by_cases hl : (x2.length : Int) > 50
  · rw [if_pos hl, example_holds]; rfl
  · have j0 := @v_j0 0 a b c d a0 a1 b0 b1 c0 c1 d0 d1
    have r1 := ov_range a0 a1 d0 d1 a'0 a'1 d'0 d'1
    have r2 := ov_range b0 b1 d0 d1 b'0 b'1 d'0 d'1
    have r3 := ov_range c0 c1 d0 d1 c'0 c'1 d'0 d'1
    rw [if_neg hl, clamp_eq, (premul_eq a0 a1 b0 b1 c0 c1 a'0 a'1).1, scale_eq a0 a1 b0 b1 c0 c1 d0 d1 a'0 a'1, over_eq a0 a1 b0 b1 c0 c1 d0 d1 a'0 a'1 b'0 b'1 c'0 c'1 d'0 d'1, avg_eq x2 h2 (by omega)]
    simp only [Option.bind_some, valid_eq, unpack_eq]
    have p1 : pd a a' ≤ a' := by have := @pd_le a' a a'0 a0 a1; unfold pd at this ⊢; rw [Int.mul_comm a a']; exact this
    have p2 : pd b a' ≤ a' := by have := @pd_le a' b a'0 b0 b1; unfold pd at this ⊢; rw [Int.mul_comm b a']; exact this
    have p3 : pd c a' ≤ a' := by have := @pd_le a' c a'0 c0 c1; unfold pd at this ⊢; rw [Int.mul_comm c a']; exact this
    have s1 : vl (sc a b c d a').1 (sc a b c d a').2.1 (sc a b c d a').2.2.1 (sc a b c d a').2.2.2 = true := vl_true (pd_mono (mn_le _ _) a'0) (pd_mono (mn_le _ _) a'0) (pd_mono (mn_le _ _) a'0)
    have s2 : vl (ov a b c d a' b' c' d').1 (ov a b c d a' b' c' d').2.1 (ov a b c d a' b' c' d').2.2.1 (ov a b c d a' b' c' d').2.2.2 = true := vl_true r1.2.1 r2.2.1 r3.2.1
    rw [if_pos (vl_true (mn_le _ _) (mn_le _ _) (mn_le _ _)), if_pos (vl_true p1 p2 p3), if_pos s1, if_pos s2, if_pos (av_valid x2)]
    rw [show vl (up _).1 (up _).2.1 (up _).2.2.1 (up _).2.2.2 = true from vl_true (mn_le _ _) (mn_le _ _) (mn_le _ _)]
    exact j0

end Go.Proofs.Ytdhjbdofklglgaa.Pure
