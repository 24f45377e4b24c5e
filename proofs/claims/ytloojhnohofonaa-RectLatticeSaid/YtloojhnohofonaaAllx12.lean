-- Written by a program of this session, which runs the kit's print.py and puts in functions that this session typed. Not trusted: Lean checks it.
import Derived.Test.YtloojhnohofonaaAllx0
import Derived.Test.YtloojhnohofonaaAllx1
import Derived.Test.YtloojhnohofonaaAllx2
import Derived.Test.YtloojhnohofonaaAllx11
namespace Go.Proofs.Ytloojhnohofonaa.All
open Go.RowKit Go.Proofs.YtloojhnohofonaaW.PrintWords Go.Proofs.YtloojhnohofonaaW.PrintLast Go.Proofs.YtloojhnohofonaaW.PrintMore
attribute [local go_sem] max2_int min2_int max_two min_two max_three min_three max_four min_four   -- for this text's walks alone
set_option linter.unusedVariables false
set_option linter.unusedSimpArgs false

/-! ### rect_Subtract: function 34 -/
section
open Go.Proofs.YtloojhnohofonaaHand Go.Shelf
attribute [local go_sem] Oper.semAt_some
def rect_Subtract.enc4 (x : S23) : Value := .agg #[.int .i64 x.f0, .int .i64 x.f1, .int .i64 x.f2, .int .i64 x.f3]
def rect_Subtract.KK (Ba Bi : Nat) (W W' : World) : Prop := W'.heap[Ba]? = W.heap[Ba]? ∧ W'.heap[Bi]? = W.heap[Bi]?
def rect_Subtract.cut4 (a i : S23) : List S23 := [⟨a.f0, a.f1, a.f2, i.f1⟩, ⟨a.f0, i.f3, a.f2, a.f3⟩, ⟨a.f0, i.f1, i.f0, i.f3⟩, ⟨i.f2, i.f1, a.f2, i.f3⟩]
set_option maxRecDepth 100000 in
set_option maxHeartbeats 4000000 in
theorem rect_Subtract.parts1_in (F : Fence) (n : Nat) (h42 : F.fn 42) (hro : F.round = none) (hn : 1 ≤ n) (l Ba Bi : Nat) (a i : S23) (J Jx : List S23 → World → Prop)
    (hY : ∀ pre x W, J pre W → pre.length < 4 → YieldAt F (n - 1) Try.prog l #[rect_Subtract.enc4 x] W fun e W' =>
      (e = .returned (.bool true) ∧ J (pre ++ [x]) W' ∧ rect_Subtract.KK Ba Bi W W') ∨ (e = .returned (.bool false) ∧ Jx (pre ++ [x]) W'))
    (W : World) (ha : W.heap[Ba]? = some (.cells #[.int .i64 a.f0, .int .i64 a.f1, .int .i64 a.f2, .int .i64 a.f3] 23 (0, 0))) (hi : W.heap[Bi]? = some (.cells #[.int .i64 i.f0, .int .i64 i.f1, .int .i64 i.f2, .int .i64 i.f3] 23 (0, 0))) (h0 : J [] W) :
    CallsIn F n Try.prog 42 #[.func (.yield l) #[] #[], .pointer (some ⟨Ba, 0, none⟩), .pointer (some ⟨Bi, 0, none⟩)] W fun e W' => (∃ v, e = .returned v) ∧
      ((∃ ys, ys = rect_Subtract.cut4 a i ∧ J ys W') ∨ (∃ pre, pre <+: rect_Subtract.cut4 a i ∧ Jx pre W')) := by
  refine callsIn_of_wp Try.func42 rfl h42 ?_ hro
  simp only [Try.ntmps42, List.size_toArray, List.length_cons, List.length_nil, Nat.reduceAdd, Nat.reduceSub, Array.replicate_succ, Array.replicate_zero, List.push_toArray, List.append_toArray, List.nil_append, List.cons_append]
  have a0 := (blk_cell ha 0).trans rfl
  have a1 := (blk_cell ha 1).trans rfl
  have a2 := (blk_cell ha 2).trans rfl
  have a3 := (blk_cell ha 3).trans rfl
  have i0 := (blk_cell hi 0).trans rfl
  have i1 := (blk_cell hi 1).trans rfl
  have i2 := (blk_cell hi 2).trans rfl
  have i3 := (blk_cell hi 3).trans rfl
  obtain ⟨fn0, tm0, as0, bo0, hy0, hR0⟩ := hY [] ⟨a.f0, a.f1, a.f2, i.f1⟩ W h0 (by simp)
  dsimp only [rect_Subtract.enc4] at hy0
  gi_wp2
  refine hR0.mono ?_
  rintro e W0 (⟨rfl, hJ0, hk0⟩ | ⟨rfl, hX0⟩)
  rotate_left
  · gi_wp2_with fail
    repeat (refine And.intro (fun (_ : FuncId) (h : none = some _) => (by cases h)) ?_; gi_wp2_with fail)
    first | go_end0 | (refine bodyPost_ret (results_none rfl _ _ _) rfl ?_)
    exact ⟨⟨_, rfl⟩, .inr ⟨_, ⟨[⟨a.f0, i.f3, a.f2, a.f3⟩, ⟨a.f0, i.f1, i.f0, i.f3⟩, ⟨i.f2, i.f1, a.f2, i.f3⟩], rfl⟩, hX0⟩⟩
  clear hy0 hR0 a0 a1 a2 a3 i0 i1 i2 i3
  replace ha := hk0.1.trans ha
  replace hi := hk0.2.trans hi
  have a0 := (blk_cell ha 0).trans rfl
  have a1 := (blk_cell ha 1).trans rfl
  have a2 := (blk_cell ha 2).trans rfl
  have a3 := (blk_cell ha 3).trans rfl
  have i0 := (blk_cell hi 0).trans rfl
  have i1 := (blk_cell hi 1).trans rfl
  have i2 := (blk_cell hi 2).trans rfl
  have i3 := (blk_cell hi 3).trans rfl
  obtain ⟨fn1, tm1, as1, bo1, hy1, hR1⟩ := hY [⟨a.f0, a.f1, a.f2, i.f1⟩] ⟨a.f0, i.f3, a.f2, a.f3⟩ W0 hJ0 (by simp)
  dsimp only [rect_Subtract.enc4] at hy1
  gi_wp2
  refine hR1.mono ?_
  rintro e W1 (⟨rfl, hJ1, hk1⟩ | ⟨rfl, hX1⟩)
  rotate_left
  · gi_wp2_with fail
    repeat (refine And.intro (fun (_ : FuncId) (h : none = some _) => (by cases h)) ?_; gi_wp2_with fail)
    first | go_end0 | (refine bodyPost_ret (results_none rfl _ _ _) rfl ?_)
    exact ⟨⟨_, rfl⟩, .inr ⟨_, ⟨[⟨a.f0, i.f1, i.f0, i.f3⟩, ⟨i.f2, i.f1, a.f2, i.f3⟩], rfl⟩, hX1⟩⟩
  clear hy1 hR1 a0 a1 a2 a3 i0 i1 i2 i3
  replace ha := hk1.1.trans ha
  replace hi := hk1.2.trans hi
  have a0 := (blk_cell ha 0).trans rfl
  have a1 := (blk_cell ha 1).trans rfl
  have a2 := (blk_cell ha 2).trans rfl
  have a3 := (blk_cell ha 3).trans rfl
  have i0 := (blk_cell hi 0).trans rfl
  have i1 := (blk_cell hi 1).trans rfl
  have i2 := (blk_cell hi 2).trans rfl
  have i3 := (blk_cell hi 3).trans rfl
  obtain ⟨fn2, tm2, as2, bo2, hy2, hR2⟩ := hY [⟨a.f0, a.f1, a.f2, i.f1⟩, ⟨a.f0, i.f3, a.f2, a.f3⟩] ⟨a.f0, i.f1, i.f0, i.f3⟩ W1 hJ1 (by simp)
  dsimp only [rect_Subtract.enc4] at hy2
  gi_wp2
  refine hR2.mono ?_
  rintro e W2 (⟨rfl, hJ2, hk2⟩ | ⟨rfl, hX2⟩)
  rotate_left
  · gi_wp2_with fail
    repeat (refine And.intro (fun (_ : FuncId) (h : none = some _) => (by cases h)) ?_; gi_wp2_with fail)
    first | go_end0 | (refine bodyPost_ret (results_none rfl _ _ _) rfl ?_)
    exact ⟨⟨_, rfl⟩, .inr ⟨_, ⟨[⟨i.f2, i.f1, a.f2, i.f3⟩], rfl⟩, hX2⟩⟩
  clear hy2 hR2 a0 a1 a2 a3 i0 i1 i2 i3
  replace ha := hk2.1.trans ha
  replace hi := hk2.2.trans hi
  have a0 := (blk_cell ha 0).trans rfl
  have a1 := (blk_cell ha 1).trans rfl
  have a2 := (blk_cell ha 2).trans rfl
  have a3 := (blk_cell ha 3).trans rfl
  have i0 := (blk_cell hi 0).trans rfl
  have i1 := (blk_cell hi 1).trans rfl
  have i2 := (blk_cell hi 2).trans rfl
  have i3 := (blk_cell hi 3).trans rfl
  obtain ⟨fn3, tm3, as3, bo3, hy3, hR3⟩ := hY [⟨a.f0, a.f1, a.f2, i.f1⟩, ⟨a.f0, i.f3, a.f2, a.f3⟩, ⟨a.f0, i.f1, i.f0, i.f3⟩] ⟨i.f2, i.f1, a.f2, i.f3⟩ W2 hJ2 (by simp)
  dsimp only [rect_Subtract.enc4] at hy3
  gi_wp2
  refine hR3.mono ?_
  rintro e W3 (⟨rfl, hJ3, hk3⟩ | ⟨rfl, hX3⟩)
  rotate_left
  · gi_wp2
    first | go_end0 | (refine bodyPost_ret (results_none rfl _ _ _) rfl ?_)
    exact ⟨⟨_, rfl⟩, .inr ⟨_, ⟨[], rfl⟩, hX3⟩⟩
  clear hy3 hR3 a0 a1 a2 a3 i0 i1 i2 i3
  replace ha := hk3.1.trans ha
  replace hi := hk3.2.trans hi
  have a0 := (blk_cell ha 0).trans rfl
  have a1 := (blk_cell ha 1).trans rfl
  have a2 := (blk_cell ha 2).trans rfl
  have a3 := (blk_cell ha 3).trans rfl
  have i0 := (blk_cell hi 0).trans rfl
  have i1 := (blk_cell hi 1).trans rfl
  have i2 := (blk_cell hi 2).trans rfl
  have i3 := (blk_cell hi 3).trans rfl
  gi_wp2
  first | go_end0 | (refine bodyPost_ret (results_none rfl _ _ _) rfl ?_)
  exact ⟨⟨_, rfl⟩, .inl ⟨_, rfl, hJ3⟩⟩
theorem rect_Subtract.parts_in (F : Fence) (n : Nat) (h41 : F.fn 41) (hro : F.round = none) (a i : S23) (w : World) :
    CallsIn F n Try.prog 41 #[rect_Subtract.enc4 a, rect_Subtract.enc4 i] w fun e w' => e = .returned (.func (.func 42) #[] #[.pointer (some ⟨w.heap.size, 0, none⟩), .pointer (some ⟨w.heap.size + 1, 0, none⟩)]) ∧ w' = (w.alloc (.cells #[.int .i64 a.f0, .int .i64 a.f1, .int .i64 a.f2, .int .i64 a.f3] 23)).alloc (.cells #[.int .i64 i.f0, .int .i64 i.f1, .int .i64 i.f2, .int .i64 i.f3] 23) := by
  refine callsIn_of_wp Try.func41 rfl h41 ?_ hro
  simp only [rect_Subtract.enc4, Try.ntmps41, List.size_toArray, List.length_cons, List.length_nil, Nat.reduceAdd, Nat.reduceSub, Array.replicate_succ, Array.replicate_zero, List.push_toArray, List.append_toArray, List.nil_append, List.cons_append]
  gi_wp2
  go_ret
  exact ⟨rfl, rfl⟩
theorem rect_Subtract.parts_stops (F : Fence) (n : Nat) (h42 : F.fn 42) (hro : F.round = none) (hn : 1 ≤ n) (Ba Bi : Nat) (a i : S23) (w : World)
    (ha : w.heap[Ba]? = some (.cells #[.int .i64 a.f0, .int .i64 a.f1, .int .i64 a.f2, .int .i64 a.f3] 23 (0, 0))) (hi : w.heap[Bi]? = some (.cells #[.int .i64 i.f0, .int .i64 i.f1, .int .i64 i.f2, .int .i64 i.f3] 23 (0, 0))) :
    SeqStopsK F n Try.prog 42 #[.pointer (some ⟨Ba, 0, none⟩), .pointer (some ⟨Bi, 0, none⟩)] (fun x : S23 => #[rect_Subtract.enc4 x]) (rect_Subtract.KK Ba Bi) (fun ys => ys = rect_Subtract.cut4 a i) (fun pre => pre <+: rect_Subtract.cut4 a i) 4 w := fun l J Jx W hW _ _ hY h0 =>
  rect_Subtract.parts1_in F n h42 hro hn l Ba Bi a i J Jx hY W ((hW.block Ba (blk_lt ha)).trans ha) ((hW.block Bi (blk_lt hi)).trans hi) h0
theorem rect_Subtract.kk_t {Ba Bi : Nat} {A B C : World} (h : rect_Subtract.KK Ba Bi A B) (k : rect_Subtract.KK Ba Bi B C) : rect_Subtract.KK Ba Bi A C := ⟨k.1.trans h.1, k.2.trans h.2⟩
theorem rect_Subtract.kk_b {Ba Bi : Nat} {w : World} (h1 : Ba < w.heap.size) (h2 : Bi < w.heap.size) (W : World) (l : Nat) (o o' : Obj) (hl : w.heap.size ≤ l) (_ : W.heap[l]? = some o) (_ : o.isCells = false) (_ : o.isWalk = false) : rect_Subtract.KK Ba Bi W (W.putObj l o') :=
  ⟨World.putObj_heap_other (by omega), World.putObj_heap_other (by omega)⟩
theorem rect_Subtract.kk_below {Ba Bi B : Nat} {W W' : World} (h1 : Ba < B) (h2 : Bi < B) (h : Below B W W') : rect_Subtract.KK Ba Bi W W' := ⟨h.block Ba h1, h.block Bi h2⟩
def rect_Subtract.em (r : S23) : Bool := !(decide (-16384 ≤ r.f0) && decide (r.f0 ≤ 16384) && decide (-16384 ≤ r.f1) && decide (r.f1 ≤ 16384) && decide (-16384 ≤ r.f2) && decide (r.f2 ≤ 16384) && decide (-16384 ≤ r.f3) && decide (r.f3 ≤ 16384)) || (decide (r.f2 ≤ r.f0) || decide (r.f3 ≤ r.f1))
theorem rect_Subtract.vone (x : Int) : rect_valid.f x = some (decide (-16384 ≤ x) && decide (x ≤ 16384)) := by
  unfold rect_valid.f
  by_cases h : x ≥ -16384
  · rw [if_pos h]; simp [h]
  · rw [if_neg h]
    have : ¬ (-16384 ≤ x) := h
    simp [this]
theorem rect_Subtract.em_eq (a b c d : Int) : rect_Empty.f a b c d = some (rect_Subtract.em ⟨a, b, c, d⟩) := by
  simp only [rect_Empty.f, rect_Valid.f, rect_Subtract.vone, Option.bind_some, rect_Subtract.em]
  cases h1 : decide (-16384 ≤ a) <;> cases h2 : decide (a ≤ 16384) <;> cases h3 : decide (-16384 ≤ b) <;> cases h4 : decide (b ≤ 16384) <;> cases h5 : decide (-16384 ≤ c) <;> cases h6 : decide (c ≤ 16384) <;> cases h7 : decide (-16384 ≤ d) <;> cases h8 : decide (d ≤ 16384) <;> simp <;> (by_cases h9 : c ≤ a <;> simp [h9])

def rect_Subtract.cl (x : S23) : List Value := [.int .i64 x.f0, .int .i64 x.f1, .int .i64 x.f2, .int .i64 x.f3]
theorem rect_Subtract.reps_cl (w : World) (base : Nat) (ok : Nat → Prop) (l : List S23) : Reps (k23.M w base ok) 4 l (l.flatMap rect_Subtract.cl) := by
  suffices h : ∀ (l m : List S23), Reps (k23.M w base ok) 4 m (m.flatMap rect_Subtract.cl) → Reps (k23.M w base ok) 4 (m ++ l) ((m ++ l).flatMap rect_Subtract.cl) by simpa using h l [] (Reps.none _ _)
  intro l
  induction l with
  | nil => intro m h; simpa using h
  | cons x r ih =>
    intro m h
    have h3 : Reps (k23.M w base ok) 4 (m ++ [x]) ((m ++ [x]).flatMap rect_Subtract.cl) := by
      rw [List.flatMap_append, show [x].flatMap rect_Subtract.cl = rect_Subtract.cl x by simp]
      exact h.snoc (k23_mkM w base ok x) rfl
    have h2 := ih (m ++ [x]) h3
    rw [List.append_assoc] at h2
    exact h2
theorem rect_Subtract.kdR_cl {w : World} {base : Nat} {v : Value} {l : List S23} (h : w.ownsRow base 23 4 v l.length (l.flatMap rect_Subtract.cl)) : Kd.R k23 23 w base (fun _ => True) v l :=
  ⟨fun _ _ => trivial, _, h, rect_Subtract.reps_cl _ _ _ _⟩
def rect_Subtract.kp (l : List S23) : List S23 := l.filter (fun r => !rect_Subtract.em r)
theorem rect_Subtract.kp_hit (pre : List S23) {x : S23} (h : rect_Subtract.em x = false) : rect_Subtract.kp (pre ++ [x]) = rect_Subtract.kp pre ++ [x] := by simp [rect_Subtract.kp, h]
theorem rect_Subtract.kp_miss (pre : List S23) {x : S23} (h : rect_Subtract.em x = true) : rect_Subtract.kp (pre ++ [x]) = rect_Subtract.kp pre := by simp [rect_Subtract.kp, h]
theorem rect_Subtract.kp_len (pre : List S23) : (rect_Subtract.kp pre).length ≤ pre.length := List.length_filter_le _ _
theorem rect_Subtract.info23 : (Try.prog.info? 23).map (fun i => (i.zero, i.size, i.bytes)) = some (some (.agg #[.int .i64 0, .int .i64 0, .int .i64 0, .int .i64 0]), 4, 32) := by kernel_rfl
def rect_Subtract.f (a0 a1 a2 a3 b0 b1 b2 b3 : Int) : Option (List S23) :=
  (rect_Intersect.f a0 a1 a2 a3 b0 b1 b2 b3).bind fun i => if (i.1 == 0 && (i.2.1 == 0 && (i.2.2.1 == 0 && i.2.2.2 == 0))) = true then (if rect_Subtract.em ⟨a0, a1, a2, a3⟩ = true then some [] else some [⟨a0, a1, a2, a3⟩]) else some (rect_Subtract.kp (rect_Subtract.cut4 ⟨a0, a1, a2, a3⟩ ⟨i.1, i.2.1, i.2.2.1, i.2.2.2⟩))
theorem rect_Subtract.blk_own {β : Type} (g : β → Nat) (cs : β → Array Value) (t : TypeId) : Own (fun (s : β) W => W.heap[g s]? = some (.cells (cs s) t (0, 0))) := by
  intro s X Y row hs hg hrow
  refine (hg.block _ (blk_lt hs) (fun e => ?_)).trans hs
  obtain ⟨o, ho, hc⟩ := hrow _ e.symm
  rw [show X.heap[g s]? = _ from hs] at ho
  cases ho
  cases hc
def rect_Subtract.AxS (a b i : S23) (w : World) (S S2 n1 : Nat) (x : S23) (a' : Act) (W : World) : Prop := ∃ Bx, n1 ≤ Bx ∧ W.heap[Bx]? = some (.cells #[.int .i64 x.f0, .int .i64 x.f1, .int .i64 x.f2, .int .i64 x.f3] 23 (0, 0)) ∧ a' = { tmps := #[Value.agg #[Value.int IntKind.i64 a.f0, Value.int IntKind.i64 a.f1, Value.int IntKind.i64 a.f2, Value.int IntKind.i64 a.f3], Value.agg #[Value.int IntKind.i64 b.f0, Value.int IntKind.i64 b.f1, Value.int IntKind.i64 b.f2, Value.int IntKind.i64 b.f3], Value.pointer (some ⟨w.heap.size, 0, none⟩), Value.pointer (some ⟨w.heap.size + 1, 0, none⟩), Value.slice none 0 0, Value.pointer (some ⟨S, 0, none⟩), Value.pointer (some ⟨S + 1, 0, none⟩), Value.pointer (some ⟨Bx, 0, none⟩), Value.agg #[Value.int IntKind.i64 a.f0, Value.int IntKind.i64 a.f1, Value.int IntKind.i64 a.f2, Value.int IntKind.i64 a.f3], Value.agg #[Value.int IntKind.i64 b.f0, Value.int IntKind.i64 b.f1, Value.int IntKind.i64 b.f2, Value.int IntKind.i64 b.f3], Value.agg #[Value.int IntKind.i64 i.f0, Value.int IntKind.i64 i.f1, Value.int IntKind.i64 i.f2, Value.int IntKind.i64 i.f3], Value.agg #[Value.int IntKind.i64 i.f0, Value.int IntKind.i64 i.f1, Value.int IntKind.i64 i.f2, Value.int IntKind.i64 i.f3], Value.agg #[Value.int IntKind.i64 0, Value.int IntKind.i64 0, Value.int IntKind.i64 0, Value.int IntKind.i64 0], Value.bool false, undef, undef, undef, undef, Value.agg #[Value.int IntKind.i64 a.f0, Value.int IntKind.i64 a.f1, Value.int IntKind.i64 a.f2, Value.int IntKind.i64 a.f3], Value.agg #[Value.int IntKind.i64 i.f0, Value.int IntKind.i64 i.f1, Value.int IntKind.i64 i.f2, Value.int IntKind.i64 i.f3], Value.func (Fn.func 42) #[] #[Value.pointer (some ⟨S2, 0, none⟩), Value.pointer (some ⟨S2 + 1, 0, none⟩)], Value.agg #[Value.int IntKind.i64 x.f0, Value.int IntKind.i64 x.f1, Value.int IntKind.i64 x.f2, Value.int IntKind.i64 x.f3], undef, undef, undef, undef, undef, undef, undef, undef], defers := [] }
theorem rect_Subtract.axS_own (a b i : S23) (w : World) (S S2 n1 B : Nat) (x : S23) (a' : Act) : OwnFrom B (fun (_ : Unit) W => rect_Subtract.AxS a b i w S S2 n1 x a' W) := by
  rintro s X Y row ⟨Bx, h1, h2, h3⟩ hg hrow
  exact ⟨Bx, h1, rect_Subtract.blk_own (fun _ : Unit => Bx) (fun _ => _) 23 () X Y row h2 hg (fun r e => (hrow r e).2), h3⟩
def rect_Subtract.IS4 (w : World) (S n1 : Nat) (pre : List S23) (W : World) : Prop := (∃ v, Boxed W (S + 1) 39 v ∧ W.ownsRow n1 23 4 v (rect_Subtract.kp pre).length ((rect_Subtract.kp pre).flatMap rect_Subtract.cl) ∧ True) ∧ Below w.heap.size w W ∧ n1 ≤ W.heap.size
theorem rect_Subtract.iS4_own (w : World) (S n1 B : Nat) (hB : w.heap.size ≤ B) : OwnFrom B (rect_Subtract.IS4 w S n1) := by
  intro s X Y row ⟨h1, h2, h3⟩ hg hrow
  refine ⟨holdsRow_own n1 (S + 1) 39 23 4 (fun pre => (rect_Subtract.kp pre).length) (fun pre => (rect_Subtract.kp pre).flatMap rect_Subtract.cl) (fun _ _ => True) s X Y row h1 hg (fun r e => (hrow r e).2), ?_, Nat.le_trans h3 hg.size⟩
  exact ownFrom_below (Nat.le_refl _) hB s X Y row h2 hg hrow
attribute [local go_sem high] eqA23
set_option maxRecDepth 100000 in
set_option maxHeartbeats 8000000 in
theorem rect_Subtract.Subtract_in (a b i : S23) (w : World) (hI : rect_Intersect.f a.f0 a.f1 a.f2 a.f3 b.f0 b.f1 b.f2 b.f3 = some (i.f0, i.f1, i.f2, i.f3)) (r : List S23)
    (hr : (if (i.f0 == 0 && (i.f1 == 0 && (i.f2 == 0 && i.f3 == 0))) = true then (if rect_Subtract.em a = true then some [] else some [a]) else some (rect_Subtract.kp (rect_Subtract.cut4 a i))) = some r) :
    CallsIn Fence.wide 5 Try.prog 34 #[rect_Subtract.enc4 a, rect_Subtract.enc4 b] w fun e w' => ∃ v, e = .returned v ∧ Kd.R k23 23 w' w.heap.size (fun _ => True) v r ∧ Below w.heap.size w w' := by
  refine callsIn_of_wp_marks Try.func34 rfl trivial ?_ rfl
  simp only [rect_Subtract.enc4, Try.ntmps34, List.size_toArray, List.length_cons, List.length_nil, Nat.reduceAdd, Nat.reduceSub, Array.replicate_succ, Array.replicate_zero, List.push_toArray, List.append_toArray, List.nil_append, List.cons_append]
  have hi := Aside0.mk hI
  clear hI
  gi_wp2_with fail
  obtain ⟨hA0, hB0, hb0⟩ := allocs2 w (Obj.cells #[Value.int IntKind.i64 a.f0, Value.int IntKind.i64 a.f1, Value.int IntKind.i64 a.f2, Value.int IntKind.i64 a.f3] 23) (Obj.cells #[Value.int IntKind.i64 b.f0, Value.int IntKind.i64 b.f1, Value.int IntKind.i64 b.f2, Value.int IntKind.i64 b.f3] 23)
  generalize (w.alloc (Obj.cells #[Value.int IntKind.i64 a.f0, Value.int IntKind.i64 a.f1, Value.int IntKind.i64 a.f2, Value.int IntKind.i64 a.f3] 23)).alloc (Obj.cells #[Value.int IntKind.i64 b.f0, Value.int IntKind.i64 b.f1, Value.int IntKind.i64 b.f2, Value.int IntKind.i64 b.f3] 23) = W at hA0 hB0 hb0 ⊢
  clear hB0
  refine ⟨trivial, ?_⟩
  refine (callsIn_wide.2 (rect_Intersect.calls _ _ _ _ _ _ _ _ i.f0 i.f1 i.f2 i.f3 W hi.out)).mono ?_
  rintro e w1 ⟨rfl, hb1⟩
  have hA := Aside0.mk (blk_below hA0 hb1)
  have hb := Aside0.mk (below_then hb0 hb0.size hb1)
  clear hA0 hb0 hb1
  have a0 := (blk_cell hA.out 0).trans rfl
  have a1 := (blk_cell hA.out 1).trans rfl
  have a2 := (blk_cell hA.out 2).trans rfl
  have a3 := (blk_cell hA.out 3).trans rfl
  have ha := blk_lt hA.out
  cases hz : (i.f0 == 0 && (i.f1 == 0 && (i.f2 == 0 && i.f3 == 0))) with
  | true =>
    rw [if_pos hz] at hr
    cases he : rect_Subtract.em a with
    | true =>
      rw [if_pos he] at hr
      obtain rfl := Option.some.inj hr
      clear hr
      gi_wp2_with fail
      refine ⟨trivial, ?_⟩
      refine (callsIn_wide.2 (rect_Empty.calls _ _ _ _ true _ (by rw [rect_Subtract.em_eq]; exact congrArg some he))).mono ?_
      rintro e w2 ⟨rfl, hb2⟩
      gi_wp2
      exact ⟨_, results_tmp rfl _ _ _, _, rfl, Kd.R_nil _ _ _ _ _, below_then (below_alloc hb.out _) (by have := hb.out.size; simp; omega) hb2⟩
    | false =>
      rw [if_neg (by rw [he]; simp)] at hr
      obtain rfl := Option.some.inj hr
      clear hr
      gi_wp2_with fail
      refine ⟨trivial, ?_⟩
      refine (callsIn_wide.2 (rect_Empty.calls _ _ _ _ false _ (by rw [rect_Subtract.em_eq]; exact congrArg some he))).mono ?_
      rintro e w2 ⟨rfl, hb2⟩
      have hA2 := Aside0.mk (blk_below (blk_alloc hA.out _) hb2)
      have hbb := Aside0.mk (below_then (below_alloc hb.out _) (by have := hb.out.size; simp; omega) hb2)
      clear hb2 a0 a1 a2 a3
      have a0 := (blk_cell hA2.out 0).trans rfl
      have a1 := (blk_cell hA2.out 1).trans rfl
      have a2 := (blk_cell hA2.out 2).trans rfl
      have a3 := (blk_cell hA2.out 3).trans rfl
      gi_wp2
      refine ⟨_, results_tmp rfl _ _ _, _, rfl, ?_, below_alloc hbb.out _⟩
      refine rect_Subtract.kdR_cl ⟨rfl, .inr ⟨w2.heap.size, 1, _, rfl, by have := hbb.out.size; simpa using this, blk_new _ _, Nat.le_refl _, by decide, rfl, ?_⟩⟩
      rfl
  | false =>
    rw [if_neg (by rw [hz]; simp)] at hr
    obtain rfl := Option.some.inj hr
    clear hr
    gi_wp2_with fail
    clear a0 a1 a2 a3
    obtain ⟨hI0, hL0, hb2⟩ := allocs2 w1 (Obj.cells #[Value.int IntKind.i64 i.f0, Value.int IntKind.i64 i.f1, Value.int IntKind.i64 i.f2, Value.int IntKind.i64 i.f3] 23) (Obj.cells #[Value.slice none 0 0] 39)
    have hA2 := Aside0.mk (blk_below hA.out hb2)
    have hs2 : ((w1.alloc (Obj.cells #[Value.int IntKind.i64 i.f0, Value.int IntKind.i64 i.f1, Value.int IntKind.i64 i.f2, Value.int IntKind.i64 i.f3] 23)).alloc (Obj.cells #[Value.slice none 0 0] 39)).heap.size = w1.heap.size + 1 + 1 := by simp
    have hw1 := hb.out.size
    have hbb := Aside0.mk (below_then hb.out hw1 hb2)
    generalize (w1.alloc (Obj.cells #[Value.int IntKind.i64 i.f0, Value.int IntKind.i64 i.f1, Value.int IntKind.i64 i.f2, Value.int IntKind.i64 i.f3] 23)).alloc (Obj.cells #[Value.slice none 0 0] 39) = W2 at hI0 hL0 hA2 hbb hs2 ⊢
    have hL := Aside0.mk hL0
    have Hs2 := Aside0.mk hs2
    clear hb2 hI0 hL0 hs2
    generalize hS : w1.heap.size = S at hL Hs2 hw1 ⊢
    have HS := Aside0.mk hS
    clear hS hb hA
    refine ⟨trivial, ?_⟩
    refine (rect_Subtract.parts_in Fence.wide 4 trivial rfl a i W2).mono ?_
    rintro e w3 ⟨rfl, hw3⟩
    obtain ⟨hPa, hPi, hb3⟩ := allocs2 W2 (Obj.cells #[Value.int IntKind.i64 a.f0, Value.int IntKind.i64 a.f1, Value.int IntKind.i64 a.f2, Value.int IntKind.i64 a.f3] 23) (Obj.cells #[Value.int IntKind.i64 i.f0, Value.int IntKind.i64 i.f1, Value.int IntKind.i64 i.f2, Value.int IntKind.i64 i.f3] 23)
    rw [← hw3] at hPa hPi hb3
    have hs3 : w3.heap.size = W2.heap.size + 1 + 1 := by rw [hw3]; simp
    clear hw3
    have hL3 := Aside0.mk (blk_below hL.out hb3)
    have hb4 := Aside0.mk (below_then hbb.out (by have := Hs2.out; omega) hb3)
    clear hbb hL hb3 hA2
    gi_wp2_with fail
    have hS2 : w.heap.size < W2.heap.size := by have := Hs2.out; omega
    refine wpIn_rangeFunc_ownH rfl (by omega) (gf := 42) (lb := #[.pointer (some ⟨W2.heap.size, 0, none⟩), .pointer (some ⟨W2.heap.size + 1, 0, none⟩)]) rfl trivial (enters_of Try.func42 (by kernel_rfl) rfl)
      (rect_Subtract.parts_stops Fence.wide (5 - 1) trivial rfl (by omega) W2.heap.size (W2.heap.size + 1) a i w3 hPa hPi) rect_Subtract.kk_t (rect_Subtract.kk_b (by omega) (by omega)) (Below.refl _ _) (fun _ => rfl)
      (rect_Subtract.IS4 w S w3.heap.size) (fun _ _ _ => False) (rect_Subtract.iS4_own w S w3.heap.size _ (by omega)) (fun _ _ _ _ _ hs _ _ => hs)
      ⟨⟨.slice none 0 0, hL3.out, World.ownsRow_nil _ _ _ _, trivial⟩, hb4.out, Nat.le_refl _⟩
      (rect_Subtract.AxS a b i w S W2.heap.size w3.heap.size) (rect_Subtract.axS_own a b i w S W2.heap.size w3.heap.size w3.heap.size) ?assign ?body ?done ?stop
    case assign =>
      intro l pre x W K hI hK
      dsimp only [rect_Subtract.enc4]
      gi_wp2
      obtain ⟨h1, h2, h3⟩ := hI
      have hn := blk_new W (Obj.cells #[Value.int IntKind.i64 x.f0, Value.int IntKind.i64 x.f1, Value.int IntKind.i64 x.f2, Value.int IntKind.i64 x.f3] 23)
      refine hK _ _ ((KeepsOthers.alloc _ _).from _) ⟨Below.heap_alloc _ _ _ (by omega), Below.heap_alloc _ _ _ (by omega)⟩ ?_ ⟨W.heap.size, h3, hn, rfl⟩
      obtain ⟨v, hv, hrow, -⟩ := h1
      exact ⟨⟨v, hv.alloc _, hrow.alloc _, trivial⟩, below_alloc h2 _, by simp; omega⟩
    case body =>
      rintro l pre x a' W hl ⟨rc, hrc⟩ ⟨⟨v, hv, hrow, -⟩, hB, hsz⟩ ⟨Bx, hBx, bX, rfl⟩ hlt
      have hX := Aside0.mk bX
      have x0 := (blk_cell bX 0).trans rfl
      have x1 := (blk_cell bX 1).trans rfl
      have x2 := (blk_cell bX 2).trans rfl
      have x3 := (blk_cell bX 3).trans rfl
      clear bX
      have hV := Aside0.mk hv
      have hRow := Aside0.mk hrow
      have hBB := Aside0.mk hB
      clear hv hrow hB
      gi_wp2_with fail
      refine ⟨trivial, ?_⟩
      refine (CallsIn.inRound l (callsIn_wide.2 (rect_Empty.calls _ _ _ _ (rect_Subtract.em x) W (rect_Subtract.em_eq _ _ _ _)))).mono ?_
      rintro e w4 ⟨rfl, hb5⟩
      have hV4 := Aside0.mk (show Boxed w4 (S + 1) 39 v from blk_below hV.out hb5)
      have hX4 := Aside0.mk (blk_below hX.out hb5)
      have hRow4 := Aside0.mk (hRow.out.kept (row := none) (grown_of_below hb5 none) (by cases v.ownBlock <;> simp))
      have hBB4 := Aside0.mk (below_then hBB.out hBB.out.size hb5)
      have hKK4 := Aside0.mk (rect_Subtract.kk_below (Ba := W2.heap.size) (Bi := W2.heap.size + 1) (B := W.heap.size) (by omega) (by omega) hb5)
      have hsz4 : w3.heap.size ≤ w4.heap.size := Nat.le_trans hsz hb5.size
      have hKF4 := Aside0.mk (show KeepsFrom w3.heap.size W w4 from ⟨hb5.size, fun k o _ hk _ => blk_below hk hb5⟩)
      clear hb5 x0 x1 x2 x3
      cases he : rect_Subtract.em x with
      | true =>
        gi_wp2
        exact ⟨hKF4.out, hKK4.out, ⟨v, hV4.out, by rw [rect_Subtract.kp_miss pre he]; exact hRow4.out, trivial⟩, hBB4.out, hsz4⟩
      | false =>
        have x0 := (blk_cell hX4.out 0).trans rfl
        have x1 := (blk_cell hX4.out 1).trans rfl
        have x2 := (blk_cell hX4.out 2).trans rfl
        have x3 := (blk_cell hX4.out 3).trans rfl
        have hc := hV4.out.cell
        have hlen := rect_Subtract.kp_len pre
        obtain ⟨i0, hi0, hz0, hz1, hz2⟩ := info_parts rect_Subtract.info23
        have hone : ∀ u ∈ rect_Subtract.cl x, u.oneCell' = true := by intro u hu; simp [rect_Subtract.cl] at hu; rcases hu with rfl | rfl | rfl | rfl <;> rfl
        have Hone := Aside0.mk hone
        clear hone
        gi_wp2_with (gi_at_builtin; refine wpListIn_append_own _ rfl _ _ 39 rfl w3.heap.size 23 i0 (.agg #[.int .i64 0, .int .i64 0, .int .i64 0, .int .i64 0]) 4 32 Try.underlying39 hi0 hz0 hz1 hz2 rfl (by decide) _ _ _ rfl (hRow4.out.alloc _) ⟨w4.heap.size, 0, none⟩ 1 1 (rect_Subtract.cl x) rfl rfl (World.news_of_block (heap_alloc_new w4 _)) Hone.out (by simp only [maxLen]; omega) (by omega) (by simp; omega) ?_; intro v' w5 hown' hgrow _; obtain ⟨g', cap', rfl⟩ := ownsRow_succ hown'; have hV5 := Aside0.mk (show Boxed w5 (S + 1) 39 v from (hV4.out.alloc _).kept hgrow (hV4.out.not_row (by decide) hRow4.out)); have hc1 := hV5.out.cell; have hf1 := hV5.out.frozen; have hO5 := Aside0.mk hown'; have hG5 := Aside0.mk (show (w4.alloc (Obj.cells #[Value.int IntKind.i64 x.f0, Value.int IntKind.i64 x.f1, Value.int IntKind.i64 x.f2, Value.int IntKind.i64 x.f3] 23)).grownBy w5 v.ownBlock from hgrow); clear hown' hgrow)
        have hKO : KeepsOthers w4 (w5.setCell ⟨S + 1, 0, none⟩ (.slice (some ⟨g', 0, none⟩) ((rect_Subtract.kp pre).length + 1) cap')) :=
          ((KeepsOthers.alloc w4 _).trans (KeepsOthers.of_grownBy hG5.out (fun j o ej hj => by
            obtain ⟨cells, hcc⟩ := own_typed (hRow4.out.alloc _) j ej
            rw [hcc] at hj
            cases hj
            rfl))).trans (KeepsOthers.setCell _ _ _)
        have hS2e := Hs2.out
        have hkb : ∀ k, k < W2.heap.size + 1 + 1 → k ≠ S + 1 → (w5.setCell ⟨S + 1, 0, none⟩ (.slice (some ⟨g', 0, none⟩) ((rect_Subtract.kp pre).length + 1) cap')).heap[k]? = w4.heap[k]? := fun k hk hne =>
          (Below.heap_setCell _ _ _ k hne).trans ((hG5.out.block k (by simp; omega) (fun e => by have := own_base hRow4.out k e.symm; omega)).trans (Below.heap_alloc _ _ k (by omega)))
        have hB5 : Below w.heap.size w w5 := (below_alloc hBB4.out _).grown hG5.out (by have := hBB4.out.size; simp; omega) (fun k e => by have := own_base hRow4.out k e; omega)
        refine ⟨hKF4.out.trans (hKO.from _), rect_Subtract.kk_t hKK4.out ⟨hkb _ (by omega) (by omega), hkb _ (by omega) (by omega)⟩, ⟨_, hV5.out.set _, ?_, trivial⟩, below_set hB5 (by omega), ?_⟩
        · rw [rect_Subtract.kp_hit pre he, List.length_append, List.flatMap_append, show [x].flatMap rect_Subtract.cl = rect_Subtract.cl x by simp]
          exact hO5.out.kept (grownBy_setCell' w5 (S + 1) _) (.inr (hV5.out.not_row (by decide) hO5.out).symm)
        · have := hG5.out.size
          simp at this ⊢
          omega
    case done =>
      rintro D ys W hD rfl ⟨⟨v, hv, hrow, -⟩, hB, hsz⟩ hK
      have hc := hv.cell
      gi_wp2
      refine ⟨by simp, .inl ⟨_, _, rfl, run_takeDeferred hK, ?_⟩⟩
      refine ⟨_, results_tmp rfl _ _ _, v, rfl, ?_, hB.trans (belowK_b (w := w) (Nat.le_refl _) W D _ _ (by omega) hK rfl rfl)⟩
      have hr2 := ownsRow_putObj hrow (.deferred none) hK rfl
      refine rect_Subtract.kdR_cl (own_weaken hr2 (by omega))
    case stop =>
      rintro D c pre W _ _ h _
      exact h.elim
theorem rect_Subtract.calls (a0_0 a0_1 a0_2 a0_3 a1_0 a1_1 a1_2 a1_3 : Int) (r : List S23) (w : World) (h : rect_Subtract.f a0_0 a0_1 a0_2 a0_3 a1_0 a1_1 a1_2 a1_3 = some r) :
    Calls Try.prog 34 #[.agg #[.int .i64 a0_0, .int .i64 a0_1, .int .i64 a0_2, .int .i64 a0_3], .agg #[.int .i64 a1_0, .int .i64 a1_1, .int .i64 a1_2, .int .i64 a1_3]] w fun e w' => ∃ v0_ : Value, e = .returned (v0_) ∧ Kd.R k23 23 w' w.heap.size (fun _ => True) v0_ r ∧ Below w.heap.size w w' := by
  obtain ⟨⟨i0, i1, i2, i3⟩, hI, h⟩ := Option.bind_eq_some_iff.mp h
  exact callsIn_wide.1 (rect_Subtract.Subtract_in ⟨a0_0, a0_1, a0_2, a0_3⟩ ⟨a1_0, a1_1, a1_2, a1_3⟩ ⟨i0, i1, i2, i3⟩ w hI r h)
end


end Go.Proofs.Ytloojhnohofonaa.All
