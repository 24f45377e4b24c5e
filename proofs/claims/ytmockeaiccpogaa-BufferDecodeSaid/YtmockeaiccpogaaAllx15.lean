-- Written by a program of this session, which runs the kit's print.py and puts in functions that this session typed. Not trusted: Lean checks it.
import Derived.Test.YtmockeaiccpogaaAllx0
namespace Go.Proofs.Ytmockeaiccpogaa.All
open Go.RowKit Go.Proofs.YtmockeaiccpogaaW.PrintWords Go.Proofs.YtmockeaiccpogaaW.PrintLast Go.Proofs.YtmockeaiccpogaaW.PrintMore
attribute [local go_sem] max2_int min2_int max_two min_two max_three min_three max_four min_four   -- for this text's walks alone
set_option linter.unusedVariables false
set_option linter.unusedSimpArgs false

/-! ### buffer_row: function 57 -/
section
open Go.Proofs.YtmockeaiccpogaaHand Go.Proofs.YtmockeaiccpogaaSq
theorem buffer_row.calls (W H y fr tt : Int) (ad : Addr) (n c lo hi : Nat) (w : World) (h1 : wrap64 (wrap64 (y * W) + fr) = lo) (h2 : wrap64 (wrap64 (y * W) + tt) = hi) (hlt : lo < hi) (hc : hi ≤ c) :
    Calls Try.prog 57 #[.agg #[.int .i64 W, .int .i64 H, .slice (some ad) n c], .int .i64 y, .int .i64 fr, .int .i64 tt] w fun e w' => e = .returned (.slice (some (ad.add (lo * 4))) (hi - lo) (hi - lo)) ∧ Below w.heap.size w w' := by
  have q1 : (0 : Int) ≤ (lo : Int) := by omega
  have q2 : (lo : Int) ≤ (hi : Int) := by omega
  have q3 : (hi : Int) ≤ (hi : Int) := by omega
  have q4 : (hi : Int) ≤ (c : Int) := by omega
  have q5 : ¬ hi = lo := by omega
  have q6 : ¬ (hi : Int) = (lo : Int) := by omega
  go_enter Try.func57, Try.ntmps57
  go_wp2
  go_ret
  exact ⟨rfl, below_alloc (Below.refl _ _) _⟩
/-- A buffer laid in a result's block, and handed back. -/
theorem retBuf {W : World} {g : Nat} (h : W.heap[g]? = some (.cells #[.int .i64 0, .int .i64 0, .slice none 0 0] 27 (0, 0))) (n m : Int) (v : Value) :
    (((W.setCell ⟨g, 0, none⟩ (.int .i64 n)).setCell ⟨g, 1, none⟩ (.int .i64 m)).setCell ⟨g, 2, none⟩ v).heap[g]? = some (.cells #[.int .i64 n, .int .i64 m, v] 27 (0, 0)) :=
  blk_put (cs := #[.int .i64 n, .int .i64 m, .slice none 0 0]) (blk_put (cs := #[.int .i64 n, .int .i64 0, .slice none 0 0]) (blk_put (cs := #[.int .i64 0, .int .i64 0, .slice none 0 0]) h 0 _ rfl) 1 _ rfl) 2 _ rfl
theorem retBufR {W : World} {g : Nat} {n m : Int} {v u : Value} {base : Nat} {l : List S43} (h : W.heap[g]? = some (.cells #[.int .i64 0, .int .i64 0, .slice none 0 0] 27 (0, 0))) (hu : Kd.R k43 43 W base (fun _ => True) u l) :
    Kd.R k43 43 (((W.setCell ⟨g, 0, none⟩ (.int .i64 n)).setCell ⟨g, 1, none⟩ (.int .i64 m)).setCell ⟨g, 2, none⟩ v) base (fun _ => True) u l := by
  have q1 := Kd.R_mono (Kd.R_far (p := ⟨g, 0, none⟩) (Kd.R_types hu h (by decide)) (fun _ hk => hk.2) (.int .i64 n)) (ok' := fun _ => True) (fun _ hk => trivial)
  have h1 := blk_put (cs := #[.int .i64 0, .int .i64 0, .slice none 0 0]) h 0 (.int .i64 n) rfl
  have q2 := Kd.R_mono (Kd.R_far (p := ⟨g, 1, none⟩) (Kd.R_types q1 h1 (by decide)) (fun _ hk => hk.2) (.int .i64 m)) (ok' := fun _ => True) (fun _ hk => trivial)
  have h2 := blk_put (cs := #[.int .i64 n, .int .i64 0, .slice none 0 0]) h1 1 (.int .i64 m) rfl
  exact Kd.R_mono (Kd.R_far (p := ⟨g, 2, none⟩) (Kd.R_types q2 h2 (by decide)) (fun _ hk => hk.2) _) (fun _ hk => trivial)
/-- A run of elements laid over a list. -/
def over {α : Type} (l : List α) (lo : Nat) (s : List α) : List α := l.take lo ++ s ++ l.drop (lo + s.length)
theorem over_length {α : Type} (l : List α) (lo : Nat) (s : List α) (h : lo + s.length ≤ l.length) : (over l lo s).length = l.length := by
  unfold over
  simp
  omega
/-- The cells of pixels. -/
def pcells (s : List S43) : List Value := s.flatMap fun p => [.int .u8 p.f0, .int .u8 p.f1, .int .u8 p.f2, .int .u8 p.f3]
theorem pcells_length (s : List S43) : (pcells s).length = s.length * 4 := by
  induction s with
  | nil => rfl
  | cons p s ih => simp only [pcells, List.flatMap_cons, List.length_append, List.length_cons, List.length_nil] at *; omega
theorem pcells_one (s : List S43) : ∀ v ∈ pcells s, v.oneCell' = true := by
  intro v hv
  unfold pcells at hv
  simp only [List.mem_flatMap, List.mem_cons, List.not_mem_nil, or_false] at hv
  obtain ⟨p, _, h⟩ := hv
  rcases h with rfl | rfl | rfl | rfl <;> rfl
theorem pcells_at {s : List S43} {W : World} {ad : Addr} {n : Nat} (h : Kd.C k43 W (some ad) n s) : ∀ j v, (pcells s)[j]? = some v → W.cell? (ad.add j) = some v := by
  intro j v hj
  have hjl : j < s.length * 4 := by rw [← pcells_length]; exact (List.getElem?_eq_some_iff.1 hj).1
  obtain ⟨ad', e, hc⟩ := h.2.2 (by have := h.1; omega)
  injection e with e
  subst e
  have hq : j / 4 < s.length := by omega
  obtain ⟨c, _, hk, hcell⟩ := hc (j / 4) s[j / 4] (List.getElem?_eq_getElem hq)
  obtain rfl := k43_open hk
  have key : ∀ (s : List S43) (q r : Nat) (hq : q < s.length), r < 4 → (pcells s)[q * 4 + r]? = [Value.int .u8 s[q].f0, .int .u8 s[q].f1, .int .u8 s[q].f2, .int .u8 s[q].f3][r]? := by
    intro s
    induction s with
    | nil => intro q r hq; simp at hq
    | cons p s ih =>
      intro q r hq hr
      have e : pcells (p :: s) = [Value.int .u8 p.f0, .int .u8 p.f1, .int .u8 p.f2, .int .u8 p.f3] ++ pcells s := rfl
      cases q with
      | zero => rw [e, List.getElem?_append_left (by simp; omega)]; simp
      | succ q =>
        rw [e, List.getElem?_append_right (by simp; omega)]
        have := ih q r (by simpa using hq) hr
        simp only [List.length_cons, List.length_nil, List.getElem_cons_succ]
        rw [← this]
        congr 1
        omega
  have e2 := key s (j / 4) (j % 4) hq (Nat.mod_lt _ (by decide))
  have ej : j / 4 * 4 + j % 4 = j := by omega
  rw [ej, hj] at e2
  have := hcell (j % 4) v e2.symm
  rw [show k43.sz = 4 from rfl, ej] at this
  exact this
theorem R_over {W : World} {g base n cap : Nat} : ∀ (s : List S43) (l : List S43) (lo : Nat) (W : World), Kd.R k43 43 W base (fun _ => True) (.slice (some ⟨g, 0, none⟩) n cap) l → lo + s.length ≤ n →
    Kd.R k43 43 (W.setCells g (lo * 4) (pcells s)) base (fun _ => True) (.slice (some ⟨g, 0, none⟩) n cap) (over l lo s) ∧ W.grownBy (W.setCells g (lo * 4) (pcells s)) (some g)
  | [], l, lo, W, h, _ => ⟨by unfold over; simpa [pcells, World.setCells] using h, World.grownBy.refl W _⟩
  | p :: s, l, lo, W, h, hl => by
    have hn := (Kd.R_reads' h).1
    simp only [List.length_cons] at hl
    obtain ⟨c, hcl, hM, hcc, hfr⟩ := Kd.R_elem h z43 (lo : Int) (by omega) (by omega)
    have h1 := Kd.R_seg h (lo : Int) (by omega) (by omega) (seg := [.int .u8 p.f0, .int .u8 p.f1, .int .u8 p.f2, .int .u8 p.f3]) (j := 0) hcl hcc (show 0 + 4 ≤ 4 from by decide) (x' := p) (okp := fun k => True ∧ k ≠ g) (by rw [List.drop_eq_nil_of_le (by rw [hcl]; exact Nat.le_refl _)]; exact k43_mkM _ _ _ p) (fun _ hk => hk)
    simp only [Int.toNat_natCast, Nat.add_zero] at h1
    have h2 := R_over (W := W) s (l.set lo p) (lo + 1) _ h1.1 (by omega)
    have e : W.setCells g (lo * 4) (pcells (p :: s)) = (W.setCells g (lo * 4) [.int .u8 p.f0, .int .u8 p.f1, .int .u8 p.f2, .int .u8 p.f3]).setCells g ((lo + 1) * 4) (pcells s) := by
      rw [Nat.succ_mul]
      rfl
    rw [e]
    have e2 : over (l.set lo p) (lo + 1) s = over l lo (p :: s) := by
      unfold over
      have hlt : lo < l.length := by omega
      rw [List.length_cons, List.drop_set_of_lt (by omega), List.take_succ_eq_append_getElem (by simpa using hlt), List.take_set_of_le (by omega)]
      simp [Nat.add_assoc, Nat.add_comm 1]
    rw [e2] at h2
    exact ⟨h2.1, h1.2.trans h2.2⟩
theorem copy_run {W : World} {ty : TypeId} {g lo dLen dCap sLen sCap base n cap : Nat} {sa : Addr} {l sr : List S43} (hR : Kd.R k43 43 W base (fun _ => True) (.slice (some ⟨g, 0, none⟩) n cap) l) (hC : ∀ j v, (pcells sr)[j]? = some v → W.cell? (sa.add j) = some v) (hn : sr.length = Nat.min sLen dLen) (hfit : lo + sr.length ≤ n) :
    (Builtin.copy_ #[25, 25] ty #[.slice (some ⟨g, lo * 4, none⟩) dLen dCap, .slice (some sa) sLen sCap]).run Try.prog W = .ok (goInt sr.length) (W.setCells g (lo * 4) (pcells sr)) := by
  have hl := run_loadCells_list (P := Try.prog) W sa (pcells sr) hC
  rw [pcells_length] at hl
  have hnl := (Kd.R_reads' hR).1
  have hcell : ∀ j, j < (pcells sr).length → (W.cell? ⟨g, lo * 4 + 0 + j, none⟩).isSome = true ∧ W.frozen? ⟨g, lo * 4 + 0 + j, none⟩ = false := by
    intro j hj
    rw [pcells_length] at hj
    obtain ⟨c, hcl, _, hcc, hfr⟩ := Kd.R_elem hR z43 ((lo + j / 4 : Nat) : Int) (by omega) (by omega)
    simp only [Int.toNat_natCast, show k43.sz = 4 from rfl] at hcc hfr hcl
    have e : lo * 4 + 0 + j = (lo + j / 4) * 4 + j % 4 := by omega
    rw [e]
    exact ⟨by rw [hcc (j % 4) _ (List.getElem?_eq_getElem (by omega))]; rfl, hfr (j % 4)⟩
  have hst := run_storeCells_cells (P := Try.prog) g (lo * 4) (pcells sr) 0 W (fun j hj => (hcell j hj).1) (fun j hj => (hcell j hj).2) (pcells_one sr)
  have hi := info43
  cases hq : Try.prog.info? 43 with
  | none => rw [hq] at hi; cases hi
  | some i =>
    rw [hq] at hi
    simp only [Option.map_some, Option.some.injEq, Prod.mk.injEq] at hi
    simp [Builtin.copy_, run_underlying Try.underlying25, Builtin.lenOf, Builtin.firstCells, sizeOf, typeInfo, hq, hi, ← hn, hl, hst]
theorem copyR {ops : Array Oper} {rest : List Oper} {o : Oper} {a : Act} {Q : Exit → Act → World → Prop} {W : World} (hgd : o.guard = none) (d s : Operand) (ho : o.op = .call { callee := .builtin .copy, args := #[d, s], argTypes := #[25, 25] })
    {g lo dLen dCap sLen sCap base n cap : Nat} {sa : Addr} {l sr : List S43} (hd : a.eval d = .slice (some ⟨g, lo * 4, none⟩) dLen dCap) (hs : a.eval s = .slice (some sa) sLen sCap)
    (hR : Kd.R k43 43 W base (fun _ => True) (.slice (some ⟨g, 0, none⟩) n cap) l) (hC : ∀ j v, (pcells sr)[j]? = some v → W.cell? (sa.add j) = some v) (hn : sr.length = Nat.min sLen dLen) (hfit : lo + sr.length ≤ n)
    (h : ∀ w', Kd.R k43 43 w' base (fun _ => True) (.slice (some ⟨g, 0, none⟩) n cap) (over l lo sr) → W.grownBy w' (some g) → wpList Try.prog ops Q rest (a.put o.dst (goInt sr.length)) w') : wpList Try.prog ops Q (o :: rest) a W := by
  refine wpList_plain hgd fun K hK => ?_
  have hrun := copy_run (ty := o.type) (dCap := dCap) (sCap := sCap) hR hC hn hfit
  unfold Oper.wp
  simp [execOp, ho, resolve, invoke, builtin, hd, hs, hrun, Result.andThen]
  exact hK _ _ (h _ (R_over (W := W) sr l lo W hR hfit).1 (R_over (W := W) sr l lo W hR hfit).2)
theorem grownBy_of_below {w w1 : World} {row : Option Nat} (h : Below w.heap.size w w1) : w.grownBy w1 row := ⟨h.os, h.tape, h.output, h.size, fun i hi _ => h.block i hi⟩
/-- A call of a closure that a variable holds. -/
theorem goesV_ {P : Program} {ops : Array Oper} {Q : Exit → Act → World → Prop} {oi : Oper} {N : Option Tmp} {a : Act} {w : World} {K : Act → World → Prop} {f : FuncId} {fn : Func} {t : Tmp} {ars : Array Operand} {ts : Array TypeId} {caps : Array Value} (hf : P.funcs[f]? = some fn) (hname : (fn.name == "runtime.NumGoroutine") = false) (hb : fn.body.isSome = true) (args : Array Value)
    (hw : Region.wanted oi (yielded ops a.tmps) = true) (hN : oi.dst = N) (hop : oi.op = .call { callee := .value (.tmp t), args := ars, argTypes := ts }) (hv : a.eval (.tmp t) = .func (.func f) #[] caps) (hargs : ars.map a.eval ++ caps = args)
    (h : Calls P f args w fun e w' => ∃ v, e = .returned v ∧ K (a.put N v) w') : if Region.wanted oi (yielded ops a.tmps) = true then Oper.wp P oi a w K Q else K (a.put N undef) w := by
  refine call_ f args hw hN ?_ h
  have he := enters_ hf hname hb args w
  unfold execOp
  simp [hop, resolve, Deferred.ofValue, invoke, hv, hargs, he]
theorem midC {W : World} {ad : Addr} {l : List S43} {c lo n : Nat} (h : Kd.C k43 W (some ad) l.length l) (hn : 0 < n) (hle : lo + n ≤ l.length) (hc : l.length ≤ c) : Kd.C k43 W (some (ad.add (lo * 4))) n ((l.drop lo).take n) := by
  have q := Kd.C_mid (lo := lo) (hi := lo + n) h (by omega) hle hc
  rw [if_neg (by omega), List.drop_take, Nat.add_sub_cancel_left] at q
  have e : ((l.drop lo).take n).length = n := by rw [List.length_take, List.length_drop]; omega
  rw [e] at q
  exact q
end


end Go.Proofs.Ytmockeaiccpogaa.All
