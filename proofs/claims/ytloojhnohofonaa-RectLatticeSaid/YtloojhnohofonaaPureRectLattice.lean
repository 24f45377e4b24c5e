/-
  Plain laws (numbers and lists) for the statement RectLattice: no program in sight.
-/
import Derived.Test.YtloojhnohofonaaAllx0
import Derived.Test.YtloojhnohofonaaAllx13
import Derived.Test.YtloojhnohofonaaAllx18
import Derived.Test.YtloojhnohofonaaAllx25
import Derived.Test.YtloojhnohofonaaPureCut
import Derived.Test.YtloojhnohofonaaPureWin
namespace Go.Proofs.Ytloojhnohofonaa.Pure
open Go.RowKit Go.Proofs.YtloojhnohofonaaW.PrintWords Go.Proofs.YtloojhnohofonaaW.PrintMore Go.Proofs.Ytloojhnohofonaa.All
set_option linter.unusedVariables false
set_option linter.unusedSimpArgs false
def Bx : Type := Int × Int × Int × Int
def Nt (t : Int × Int × Int × Int) : Prop := NE t.1 t.2.1 t.2.2.1 t.2.2.2
def Ht (t : Int × Int × Int × Int) (x y : Int) : Prop := HAS t.1 t.2.1 t.2.2.1 t.2.2.2 x y
def Wt (s t : Int × Int × Int × Int) : Prop := WIN s.1 s.2.1 s.2.2.1 s.2.2.2 t.1 t.2.1 t.2.2.1 t.2.2.2
noncomputable def It (s t : Int × Int × Int × Int) : Int × Int × Int × Int := isc s.1 s.2.1 s.2.2.1 s.2.2.2 t.1 t.2.1 t.2.2.1 t.2.2.2
noncomputable def Ut (s t : Int × Int × Int × Int) : Int × Int × Int × Int := uni s.1 s.2.1 s.2.2.1 s.2.2.2 t.1 t.2.1 t.2.2.1 t.2.2.2
noncomputable def Kt (t : Int × Int × Int × Int) : Int × Int × Int × Int := can t.1 t.2.1 t.2.2.1 t.2.2.2
/-- A canonical rectangle. -/
def Ct (t : Int × Int × Int × Int) : Prop := Nt t ∨ t = (0, 0, 0, 0)
theorem nt0 : ¬ Nt (0, 0, 0, 0) := not_ne0
theorem has_it (s t : Int × Int × Int × Int) (x y : Int) : Ht (It s t) x y ↔ Ht s x y ∧ Ht t x y := by
  obtain ⟨a, b, c, d⟩ := s
  obtain ⟨a', b', c', d'⟩ := t
  obtain ⟨j0, j1, j2, j3, e', h⟩ := isc_cases a b c d a' b' c' d'
  unfold It Ht
  simp only
  rw [e']
  simp only
  have m1 := mx_spec a a'
  have m2 := mx_spec b b'
  have m3 := mn_spec c c'
  have m4 := mn_spec d d'
  rcases h with ⟨hn, rfl, rfl, rfl, rfl, h⟩ | ⟨hn, h1, h2, rfl, rfl, rfl, rfl⟩
  · constructor
    · intro h; exact absurd h.1 hn
    · rintro ⟨⟨h1, p⟩, ⟨h2, q⟩⟩
      refine absurd ?_ (h h1 h2)
      unfold NE at h1 h2 ⊢
      omega
  · constructor
    · rintro ⟨_, p⟩
      exact ⟨⟨h1, by omega⟩, ⟨h2, by omega⟩⟩
    · rintro ⟨⟨_, p⟩, ⟨_, q⟩⟩
      exact ⟨hn, by omega⟩
theorem corner1 {t : Int × Int × Int × Int} (h : Nt t) : Ht t t.1 t.2.1 := ⟨h, by unfold Nt NE at h; omega⟩
theorem corner2 {t : Int × Int × Int × Int} (h : Nt t) : Ht t (t.2.2.1 - 1) (t.2.2.2 - 1) := ⟨h, by unfold Nt NE at h; omega⟩
theorem wt_iff (s t : Int × Int × Int × Int) : Wt s t ↔ ∀ x y, Ht s x y → Ht t x y := by
  constructor
  · rintro h x y ⟨k1, k2⟩
    obtain ⟨h1, h2⟩ := h k1
    exact ⟨h1, by omega⟩
  · intro h k
    obtain ⟨n1, c1⟩ := h _ _ (corner1 k)
    obtain ⟨_, c2⟩ := h _ _ (corner2 k)
    exact ⟨n1, by omega⟩
theorem ext_ct {s t : Int × Int × Int × Int} (hs : Ct s) (ht : Ct t) (h : ∀ x y, Ht s x y ↔ Ht t x y) : s = t := by
  have e0 : ∀ u, Ct u → ¬ Nt u → u = (0, 0, 0, 0) := fun u hu hn => hu.resolve_left hn
  by_cases n : Nt s
  · obtain ⟨n1, c1⟩ := (h _ _).1 (corner1 n)
    obtain ⟨_, c2⟩ := (h _ _).1 (corner2 n)
    obtain ⟨_, c3⟩ := (h _ _).2 (corner1 n1)
    obtain ⟨_, c4⟩ := (h _ _).2 (corner2 n1)
    obtain ⟨a, b, c, d⟩ := s
    obtain ⟨a', b', c', d'⟩ := t
    simp only at c1 c2 c3 c4
    obtain ⟨rfl, rfl, rfl, rfl⟩ : a = a' ∧ b = b' ∧ c = c' ∧ d = d' := by omega
    rfl
  · by_cases m : Nt t
    · exact absurd ((h _ _).2 (corner1 m)).1 n
    · rw [e0 s hs n, e0 t ht m]
theorem ct_kt (t : Int × Int × Int × Int) : Ct (Kt t) := by
  unfold Kt can
  by_cases h : NE t.1 t.2.1 t.2.2.1 t.2.2.2
  · rw [if_pos h]; exact .inl h
  · rw [if_neg h]; exact .inr rfl
theorem ct_it (s t : Int × Int × Int × Int) : Ct (It s t) := by
  unfold It isc
  by_cases h : NE s.1 s.2.1 s.2.2.1 s.2.2.2 ∧ NE t.1 t.2.1 t.2.2.1 t.2.2.2
  · rw [if_pos h]; exact ct_kt (mx s.1 t.1, mx s.2.1 t.2.1, mn s.2.2.1 t.2.2.1, mn s.2.2.2 t.2.2.2)
  · rw [if_neg h]; exact .inr rfl
theorem has_kt (t : Int × Int × Int × Int) (x y : Int) : Ht (Kt t) x y ↔ Ht t x y := by
  unfold Kt can
  by_cases h : NE t.1 t.2.1 t.2.2.1 t.2.2.2
  · rw [if_pos h]
  · rw [if_neg h]
    exact ⟨fun k => absurd k.1 not_ne0, fun k => absurd k.1 h⟩
theorem uni_facts (s t : Int × Int × Int × Int) : Ct (Ut s t) ∧ ∀ c, Wt (Ut s t) c ↔ Wt s c ∧ Wt t c := by
  obtain ⟨a, b, c, d⟩ := s
  obtain ⟨a', b', c', d'⟩ := t
  have m1 := mn_spec a a'
  have m2 := mn_spec b b'
  have m3 := mx_spec c c'
  have m4 := mx_spec d d'
  unfold Ut uni
  simp only
  by_cases h : NE a b c d
  · by_cases h' : NE a' b' c' d'
    · rw [if_pos h, if_pos h']
      have hn : NE (mn a a') (mn b b') (mx c c') (mx d d') := by unfold NE at *; omega
      refine ⟨.inl hn, ?_⟩
      rintro ⟨a'', b'', c'', d''⟩
      unfold Wt WIN
      simp only
      constructor
      · intro k
        obtain ⟨k1, k2⟩ := k hn
        exact ⟨fun _ => ⟨k1, by omega⟩, fun _ => ⟨k1, by omega⟩⟩
      · rintro ⟨k, k'⟩ _
        obtain ⟨k1, k2⟩ := k h
        obtain ⟨_, k3⟩ := k' h'
        exact ⟨k1, by omega⟩
    · rw [if_pos h, if_neg h']
      refine ⟨.inl h, fun c => ⟨fun k => ⟨k, fun n => absurd n h'⟩, fun k => k.1⟩⟩
  · rw [if_neg h]
    refine ⟨ct_kt (a', b', c', d'), fun e => ?_⟩
    rw [wt_iff (can a' b' c' d') e]
    have q := has_kt (a', b', c', d')
    unfold Kt at q
    simp only at q
    constructor
    · intro k
      exact ⟨fun n => absurd n h, (wt_iff _ _).2 fun x y z => k x y ((q x y).2 z)⟩
    · rintro ⟨_, k⟩ x y z
      exact (wt_iff _ _).1 k x y ((q x y).1 z)
theorem wt_refl (s : Int × Int × Int × Int) : Wt s s := (wt_iff _ _).2 fun _ _ h => h
theorem wt_trans {s t u : Int × Int × Int × Int} (h : Wt s t) (k : Wt t u) : Wt s u := (wt_iff _ _).2 fun x y z => (wt_iff _ _).1 k x y ((wt_iff _ _).1 h x y z)
theorem wt_anti {s t : Int × Int × Int × Int} (hs : Ct s) (ht : Ct t) (h : Wt s t) (k : Wt t s) : s = t :=
  ext_ct hs ht fun x y => ⟨(wt_iff _ _).1 h x y, (wt_iff _ _).1 k x y⟩
theorem wt_ext {s t : Int × Int × Int × Int} (hs : Ct s) (ht : Ct t) (h : ∀ c, Wt s c ↔ Wt t c) : s = t :=
  wt_anti hs ht ((h t).2 (wt_refl t)) ((h s).1 (wt_refl s))
theorem it_comm (s t : Int × Int × Int × Int) : It s t = It t s := ext_ct (ct_it _ _) (ct_it _ _) fun x y => by rw [has_it, has_it]; exact And.comm
theorem it_assoc (s t u : Int × Int × Int × Int) : It (It s t) u = It s (It t u) := ext_ct (ct_it _ _) (ct_it _ _) fun x y => by rw [has_it, has_it, has_it, has_it]; exact and_assoc
theorem ut_comm (s t : Int × Int × Int × Int) : Ut s t = Ut t s := wt_ext (uni_facts _ _).1 (uni_facts _ _).1 fun c => by rw [(uni_facts s t).2, (uni_facts t s).2]; exact And.comm
theorem ut_assoc (s t u : Int × Int × Int × Int) : Ut (Ut s t) u = Ut s (Ut t u) := wt_ext (uni_facts _ _).1 (uni_facts _ _).1 fun c => by
  rw [(uni_facts _ u).2, (uni_facts s t).2, (uni_facts s _).2, (uni_facts t u).2]; exact and_assoc
theorem wt_it (s t : Int × Int × Int × Int) : Wt s t ↔ It s t = Kt s := by
  constructor
  · intro h
    refine ext_ct (ct_it _ _) (ct_kt _) fun x y => ?_
    rw [has_it, has_kt]
    exact ⟨fun k => k.1, fun k => ⟨k, (wt_iff _ _).1 h x y k⟩⟩
  · intro h
    refine (wt_iff _ _).2 fun x y k => ?_
    have := (has_kt s x y).2 k
    rw [← h, has_it] at this
    exact this.2
theorem wt_kt (s t : Int × Int × Int × Int) : Wt (Kt s) t ↔ Wt s t := by
  rw [wt_iff, wt_iff]
  exact ⟨fun h x y k => h x y ((has_kt s x y).2 k), fun h x y k => h x y ((has_kt s x y).1 k)⟩
theorem wt_ut (s t : Int × Int × Int × Int) : Wt s t ↔ Ut s t = Kt t := by
  constructor
  · intro h
    refine wt_ext (uni_facts _ _).1 (ct_kt _) fun c => ?_
    rw [(uni_facts s t).2, wt_kt]
    exact ⟨fun k => k.2, fun k => ⟨wt_trans h k, k⟩⟩
  · intro h
    have k : Wt (Ut s t) (Kt t) := by rw [h]; exact wt_refl _
    have k1 := ((uni_facts s t).2 _).1 k
    refine (wt_iff _ _).2 fun x y z => (has_kt t x y).1 ((wt_iff _ _).1 k1.1 x y z)
theorem wt_in (c s t : Int × Int × Int × Int) : Wt c (It s t) ↔ Wt c s ∧ Wt c t := by
  rw [wt_iff, wt_iff, wt_iff]
  exact ⟨fun h => ⟨fun x y k => ((has_it s t x y).1 (h x y k)).1, fun x y k => ((has_it s t x y).1 (h x y k)).2⟩, fun h x y k => (has_it s t x y).2 ⟨h.1 x y k, h.2 x y k⟩⟩
theorem eq4 (s t : Int × Int × Int × Int) : (s.1 == t.1 && (s.2.1 == t.2.1 && (s.2.2.1 == t.2.2.1 && (s.2.2.2 == t.2.2.2)))) = decide (s = t) := by
  obtain ⟨a, b, c, d⟩ := s
  obtain ⟨a', b', c', d'⟩ := t
  rw [Bool.eq_iff_iff]
  simp [Prod.mk.injEq]
theorem ne4 (s t : Int × Int × Int × Int) : (!(s.1 == t.1) || (!(s.2.1 == t.2.1) || (!(s.2.2.1 == t.2.2.1) || (!(s.2.2.2 == t.2.2.2))))) = !decide (s = t) := by
  rw [← eq4]
  simp [Bool.not_and]
noncomputable instance (s t : Int × Int × Int × Int) : Decidable (Wt s t) := Classical.propDecidable _
theorem win_w (s t : Int × Int × Int × Int) : rect_Within.f s.1 s.2.1 s.2.2.1 s.2.2.2 t.1 t.2.1 t.2.2.1 t.2.2.2 = some (decide (Wt s t)) := by
  rw [win_eq]
  congr 1
theorem lattice_j1 (K : Nat) (hK : compositorlaw04_exampleHolds.f K = some true) (s t u : Int × Int × Int × Int) :
    compositorlaw04_RectLattice.j1 (K + 1) false s.1 s.2.1 s.2.2.1 s.2.2.2 t.1 t.2.1 t.2.2.1 t.2.2.2 u.1 u.2.1 u.2.2.1 u.2.2.2 (It s t).1 (It s t).2.1 (It s t).2.2.1 (It s t).2.2.2 (Ut s t).1 (Ut s t).2.1 (Ut s t).2.2.1 (Ut s t).2.2.2 = some true := by
  rw [compositorlaw04_RectLattice.j1]
  simp only [Bool.false_eq_true, if_false, win_w, Option.bind_some, decide_eq_true_eq, hK]
  have e1 := (uni_facts s t).2 u
  have e2 := wt_in u s t
  by_cases p : Wt s u <;> by_cases q : Wt t u <;> by_cases p' : Wt u s <;> by_cases q' : Wt u t <;> simp [e1, e2, p, q, p', q']
theorem lattice_j0 (K : Nat) (hK : compositorlaw04_exampleHolds.f K = some true) (s t u : Int × Int × Int × Int) :
    compositorlaw04_RectLattice.j0 (K + 2) false s.1 s.2.1 s.2.2.1 s.2.2.2 t.1 t.2.1 t.2.2.1 t.2.2.2 u.1 u.2.1 u.2.2.1 u.2.2.2 (It s t).1 (It s t).2.1 (It s t).2.2.1 (It s t).2.2.2 (Ut s t).1 (Ut s t).2.1 (Ut s t).2.2.1 (Ut s t).2.2.2 = some true := by
  rw [compositorlaw04_RectLattice.j0]
  simp only [Bool.false_eq_true, if_false, win_w, can_eq, Option.bind_some]
  have k1 : can s.1 s.2.1 s.2.2.1 s.2.2.2 = Kt s := rfl
  have k2 : can t.1 t.2.1 t.2.2.1 t.2.2.2 = Kt t := rfl
  rw [k1, k2, eq4, eq4]
  have e1 : decide (Wt s t) = decide (It s t = Kt s) := decide_eq_decide.2 (wt_it s t)
  have e2 : decide (Wt s t) = decide (Ut s t = Kt t) := decide_eq_decide.2 (wt_ut s t)
  have n1 : (decide (Wt s t) != decide (It s t = Kt s)) = false := by rw [e1]; exact bne_self_eq_false _
  have n2 : (decide (Wt s t) != decide (Ut s t = Kt t)) = false := by rw [e2]; exact bne_self_eq_false _
  rw [n1, n2, if_neg (by decide)]
  exact lattice_j1 K hK s t u
theorem RectLattice (x0 : S23) (x1 : S23) (x2 : S23) (ok0 : ((Lit.int .i64 x0.f0).wf = true) ∧ ((Lit.int .i64 x0.f1).wf = true) ∧ ((Lit.int .i64 x0.f2).wf = true) ∧ ((Lit.int .i64 x0.f3).wf = true)) (ok1 : ((Lit.int .i64 x1.f0).wf = true) ∧ ((Lit.int .i64 x1.f1).wf = true) ∧ ((Lit.int .i64 x1.f2).wf = true) ∧ ((Lit.int .i64 x1.f3).wf = true)) (ok2 : ((Lit.int .i64 x2.f0).wf = true) ∧ ((Lit.int .i64 x2.f1).wf = true) ∧ ((Lit.int .i64 x2.f2).wf = true) ∧ ((Lit.int .i64 x2.f3).wf = true)) :
    ∃ k, compositorlaw04_RectLattice.f k x0.f0 x0.f1 x0.f2 x0.f3 x1.f0 x1.f1 x1.f2 x1.f3 x2.f0 x2.f1 x2.f2 x2.f3 = some true := by
  obtain ⟨K, hK⟩ := example_holds
  refine ⟨K + 2, ?_⟩
  have fin := lattice_j0 K (hK K (Nat.le_refl _)) (x0.f0, x0.f1, x0.f2, x0.f3) (x1.f0, x1.f1, x1.f2, x1.f3) (x2.f0, x2.f1, x2.f2, x2.f3)
  have c1 := it_comm (x0.f0, x0.f1, x0.f2, x0.f3) (x1.f0, x1.f1, x1.f2, x1.f3)
  have c2 := ut_comm (x0.f0, x0.f1, x0.f2, x0.f3) (x1.f0, x1.f1, x1.f2, x1.f3)
  have c3 := it_assoc (x0.f0, x0.f1, x0.f2, x0.f3) (x1.f0, x1.f1, x1.f2, x1.f3) (x2.f0, x2.f1, x2.f2, x2.f3)
  have c4 := ut_assoc (x0.f0, x0.f1, x0.f2, x0.f3) (x1.f0, x1.f1, x1.f2, x1.f3) (x2.f0, x2.f1, x2.f2, x2.f3)
  simp only [It, Ut] at c1 c2 c3 c4 fin
  simp only [compositorlaw04_RectLattice.f, isc_eq, uni_eq, Option.bind_some, ne4, ← c1, ← c2, ← c3, ← c4, decide_true, Bool.not_true, Bool.false_eq_true, if_false]
  exact fin

end Go.Proofs.Ytloojhnohofonaa.Pure
