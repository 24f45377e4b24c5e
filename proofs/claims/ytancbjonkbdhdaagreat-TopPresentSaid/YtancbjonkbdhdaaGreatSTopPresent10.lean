-- The texts behind this claim's law, put together by a program of this session (shake.py): what no text uses is left out. Its words are print.sh's.
import Derived.StillTailTactics
import Derived.LoopTactic
import Derived.LoopN
import Derived.Test.YtancbjonkbdhdaaGreatSTopPresent9
section
namespace Go.Proofs.YtancbjonkbdhdaaGreatHand
set_option linter.unusedVariables false
open Go.RowKit Go.Proofs.YtancbjonkbdhdaaGreatW.PrintWords Go.Proofs.YtancbjonkbdhdaaGreatW.PrintLast Go.Proofs.YtancbjonkbdhdaaGreatW.PrintMore
theorem allocs1 (w : World) (o1 : Obj) : (w.alloc o1).heap[w.heap.size]? = some o1 ∧ Below w.heap.size w (w.alloc o1) := ⟨blk_new w o1, below_alloc (Below.refl _ _) _⟩
end Go.Proofs.YtancbjonkbdhdaaGreatHand
namespace Go.Proofs.YtancbjonkbdhdaaGreatSq
set_option linter.unusedVariables false
open Go.RowKit Go.Proofs.YtancbjonkbdhdaaGreatW.PrintWords Go.Proofs.YtancbjonkbdhdaaGreatW.PrintLast Go.Proofs.YtancbjonkbdhdaaGreatW.PrintMore
section
variable {w W w1 w2 : World} {g g' : Nat} {o : Obj}
theorem hq_ (h : Aside0 (Below w.heap.size w W))
    (he : Below w.heap.size w W → Below w.heap.size w w1 := by
      intro h_
      repeat (first | (with_reducible first | exact h_ | apply below_alloc | apply pw_below_drewN | apply below_drew1 | refine below_set ?_ (Aside0.out (by assumption))) | exact h_)) : Below w.heap.size w w1 := he h.out
variable {cs : Array Value} {t : TypeId} {a b c d v : Value} {R : Prop}
end
section
variable {P : Program} {ops : Array Oper} {Q : Exit → Act → World → Prop} {md : Region.Mode} {S : World → Prop} {ds : List Nat} {T : Bool × List (List Nat × List Nat)}
theorem pv_ {oi : Oper} {v : Value} {fuel : Nat} {l : Array Bool} {a : Act} {w : World} (i N : Nat) (l' : Array Bool) (HT : Aside0 (rtab md ops = T)) {a' : Act}
    (h : wpAnyLast P md ops Q S ds fuel l' a' w)
    (hi : ops[i]? = some oi := by rfl) (hN : oi.dst = some N := by rfl) (hc : anyT T l.toList l'.toList i = true := by kernel_rfl)
    (hy : Yields P ops oi v a := by exact Or.inl ⟨by rfl, by intro w'; go_simp; with_reducible rfl⟩)
    (ha : a.put (some N) v = a' := by simp only [Act.put, List.setIfInBounds_toArray, List.set_cons_zero, List.set_cons_succ, i64_w, i32_w]; rfl)
    (hQ : ∀ c a w, Q (.panic c) (a.put oi.dst v) w → Q (.panic c) a w := by exact fun _ _ _ h => h) : wpAnyLast P md ops Q S ds (fuel + 1) l a w :=
  pure_ l' hi hN (any_of HT.out hc) hQ hy ha h
end
end Go.Proofs.YtancbjonkbdhdaaGreatSq
end
