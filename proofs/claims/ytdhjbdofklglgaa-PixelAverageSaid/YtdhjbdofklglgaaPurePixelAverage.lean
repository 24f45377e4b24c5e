/-
  Plain laws (numbers and lists) for the statement PixelAverage: no program in sight.
-/
import Derived.Test.YtdhjbdofklglgaaAllx0
import Derived.Test.YtdhjbdofklglgaaAllx4
import Derived.Test.YtdhjbdofklglgaaPureMean
namespace Go.Proofs.Ytdhjbdofklglgaa.Pure
open Go.RowKit Go.Proofs.YtdhjbdofklglgaaW.PrintWords Go.Proofs.YtdhjbdofklglgaaW.PrintMore Go.Proofs.Ytdhjbdofklglgaa.All
set_option linter.unusedVariables false

theorem fill_loop (x0 : List S23) (p : S23) : ∀ (d k : Nat) (x7 : List S23) (i : Nat), i + d ≤ 1000 → x7.length = i →
    compositorlaw08_PixelAverage.l0 (d + 1 + k) x0 x7 ((i : Int) + d) i p.f0 p.f1 p.f2 p.f3 = compositorlaw08_PixelAverage.l1 k x0 (x7 ++ List.replicate d p) [] (wrap64 ((x0.length : Int) - 1)) p.f0 p.f1 p.f2 p.f3 := by
  intro d
  induction d with
  | zero =>
    intro k x7 i hi hx
    rw [show 0 + 1 + k = k + 1 from by omega]
    simp only [compositorlaw08_PixelAverage.l0]
    rw [if_neg (by omega)]
    simp
  | succ d ih =>
    intro k x7 i hi hx
    rw [show d + 1 + 1 + k = (d + 1 + k) + 1 from by omega]
    simp only [compositorlaw08_PixelAverage.l0]
    rw [if_pos (by omega), if_pos (by omega)]
    have e : wrap64 ((i : Int) + 1) = ((i + 1 : Nat) : Int) := by rw [wr (by omega) (by omega)]; omega
    have e2 : (i : Int) + ((d + 1 : Nat) : Int) = ((i + 1 : Nat) : Int) + (d : Int) := by omega
    rw [e, e2, show (⟨p.f0, p.f1, p.f2, p.f3⟩ : S23) = p from rfl, ih k (x7 ++ [p]) (i + 1) (by omega) (by simp [hx])]
    simp [List.replicate_succ]
def fin8 (k : Nat) (x0 x7 x8 : List S23) (p : S23) : Option Bool := compositorlaw08_PixelAverage.l1 (k + 1) x0 x7 x8 (-1) p.f0 p.f1 p.f2 p.f3
theorem back_loop (x0 x7 : List S23) (p : S23) (h0 : x0.length ≤ 300) : ∀ (d k : Nat) (x8 : List S23), d ≤ x0.length → x8 = (x0.drop d).reverse →
    compositorlaw08_PixelAverage.l1 (d + 1 + k) x0 x7 x8 ((d : Int) - 1) p.f0 p.f1 p.f2 p.f3 = fin8 k x0 x7 x0.reverse p := by
  intro d
  induction d with
  | zero =>
    intro k x8 _ hx
    subst hx
    rw [show 0 + 1 + k = k + 1 from by omega]
    simp [fin8]
  | succ d ih =>
    intro k x8 hd hx
    have hdl : d < x0.length := by omega
    have e0 : ((d + 1 : Nat) : Int) - 1 = (d : Int) := by omega
    have hr : rd_T23 x0 (d : Int) = x0[d] := by simp [rd_T23, List.getD_eq_getElem?_getD, List.getElem?_eq_getElem hdl]
    have hlen : x8.length ≤ 300 := by rw [hx, List.length_reverse, List.length_drop]; omega
    rw [show d + 1 + 1 + k = (d + 1 + k) + 1 from by omega, e0]
    simp only [compositorlaw08_PixelAverage.l1]
    rw [if_pos (by omega), if_pos (by omega), if_pos (by omega), if_pos (by omega), hr]
    have e : wrap64 ((d : Int) - 1) = (d : Int) - 1 := by unfold wrap64; omega
    rw [e, show (⟨x0[d].f0, x0[d].f1, x0[d].f2, x0[d].f3⟩ : S23) = x0[d] from rfl]
    refine ih k _ (by omega) ?_
    rw [hx, List.drop_eq_getElem_cons hdl, List.reverse_cons]
theorem PixelAverage (x0 : List S23) (x1 : S23) (x2 : Int) (ok0 : x0.length * 4 ≤ 140737488351232 ∧ x0.length ≤ 9223372036854775807 ∧ ∀ y29 ∈ x0, ((Lit.int .u8 y29.f0).wf = true) ∧ ((Lit.int .u8 y29.f1).wf = true) ∧ ((Lit.int .u8 y29.f2).wf = true) ∧ ((Lit.int .u8 y29.f3).wf = true)) (ok1 : ((Lit.int .u8 x1.f0).wf = true) ∧ ((Lit.int .u8 x1.f1).wf = true) ∧ ((Lit.int .u8 x1.f2).wf = true) ∧ ((Lit.int .u8 x1.f3).wf = true)) (ok2 : (Lit.int .u8 x2).wf = true) :
    ∃ k, compositorlaw08_PixelAverage.f k x0 x1.f0 x1.f1 x1.f2 x1.f3 x2 = some true := by
  have h0 : ∀ p ∈ x0, Ok4 p := fun p hp => ok4_of (ok0.2.2 p hp)
  have h1 := ok4_of ok1
  obtain ⟨k0, k1⟩ := u8 ok2
  by_cases hl : (x0.length : Int) > 300
  · exact ⟨0, by unfold compositorlaw08_PixelAverage.f; rw [if_pos hl, example_holds]; rfl⟩
  · have hl' : x0.length ≤ 300 := by omega
    obtain ⟨n, hn⟩ : ∃ n : Nat, x2 + 1 = n := ⟨(x2 + 1).toNat, by omega⟩
    obtain ⟨K, hK⟩ : ∃ K : Nat, 300 < K := ⟨301, by omega⟩
    refine ⟨n + 1 + (x0.length + 1 + K), ?_⟩
    unfold compositorlaw08_PixelAverage.f
    have e : wrap64 (wrap64 x2 + 1) = ((0 : Nat) : Int) + (n : Int) := by rw [wr k0 (by omega), wr (by omega) (by omega)]; omega
    have f := fill_loop x0 x1 n (x0.length + 1 + K) [] 0 (by omega) rfl
    have b := back_loop x0 ([] ++ List.replicate n x1) x1 hl' x0.length K [] (by omega) (by simp)
    have e2 : wrap64 ((x0.length : Int) - 1) = (x0.length : Int) - 1 := by unfold wrap64; omega
    rw [if_neg (by omega), e]
    rw [e2, b] at f
    refine f.trans ?_
    have hr : ∀ p ∈ List.replicate n x1, Ok4 p := fun p hp => by rw [List.eq_of_mem_replicate hp]; exact h1
    unfold fin8
    simp only [compositorlaw08_PixelAverage.l1]
    rw [if_neg (by omega), avg_eq x0 h0 hl', ravg_eq x0 h0 hl' K hK, avg_eq ([] ++ List.replicate n x1) (by simpa using hr) (by simp; omega), avg_eq x0.reverse (by simpa using h0) (by simpa using hl'), clamp_eq, example_holds]
    rw [List.nil_append, av_replicate n (by omega), av_reverse]
    simp [c0, c1, c2, c3]

end Go.Proofs.Ytdhjbdofklglgaa.Pure
