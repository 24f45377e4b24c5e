-- Written by a program of this session, which runs the kit's print.py and puts in functions that this session typed. Not trusted: Lean checks it.
import Derived.Test.YtmockeaiccpogaaAllx0
import Derived.Test.YtmockeaiccpogaaAllx15
import Derived.Test.YtmockeaiccpogaaAllx55
namespace Go.Proofs.Ytmockeaiccpogaa.All
open Go.RowKit Go.Proofs.YtmockeaiccpogaaW.PrintWords Go.Proofs.YtmockeaiccpogaaW.PrintLast Go.Proofs.YtmockeaiccpogaaW.PrintMore
attribute [local go_sem] max2_int min2_int max_two min_two max_three min_three max_four min_four   -- for this text's walks alone
set_option linter.unusedVariables false
set_option linter.unusedSimpArgs false

/-! ### api_Pixel_64: function 64 -/
section
open Go.Proofs.YtmockeaiccpogaaHand Go.Proofs.YtmockeaiccpogaaSq
theorem copyR_step {ops : Array Oper} {o : Oper} {a : Act} {K : Act → World → Prop} {Q : Exit → Act → World → Prop} {E : Prop} {W : World} (hgd : o.guard = none) (d s : Operand) (ho : o.op = .call { callee := .builtin .copy, args := #[d, s], argTypes := #[25, 25] })
    {g lo dLen dCap sLen sCap base n cap : Nat} {sa : Addr} {l sr : List S43} (hd : a.eval d = .slice (some ⟨g, lo * 4, none⟩) dLen dCap) (hs : a.eval s = .slice (some sa) sLen sCap)
    (hR : Kd.R k43 43 W base (fun _ => True) (.slice (some ⟨g, 0, none⟩) n cap) l) (hC : ∀ j v, (pcells sr)[j]? = some v → W.cell? (sa.add j) = some v) (hn : sr.length = Nat.min sLen dLen) (hfit : lo + sr.length ≤ n)
    (h : ∀ w', Kd.R k43 43 w' base (fun _ => True) (.slice (some ⟨g, 0, none⟩) n cap) (over l lo sr) → W.grownBy w' (some g) → K (a.put o.dst (goInt sr.length)) w') : if Region.wanted o (yielded ops a.tmps) = true then Oper.wp Try.prog o a W K Q else E := by
  have hw : Region.wanted o (yielded ops a.tmps) = true := by simp [Region.wanted, hgd]
  rw [if_pos hw]
  have hrun := copy_run (ty := o.type) (dCap := dCap) (sCap := sCap) hR hC hn hfit
  unfold Oper.wp
  simp [execOp, ho, resolve, invoke, builtin, hd, hs, hrun, Result.andThen]
  exact h _ (R_over (W := W) sr l lo W hR hfit).1 (R_over (W := W) sr l lo W hR hfit).2
theorem mask1 (n : Nat) (hn : n < 4294967296) : Go.bits .and .u64 (n : Int) 4294967295 = n := by
  have := u64_and_nat n 4294967295 (by omega) (by omega)
  rw [nat_mask32, Nat.mod_eq_of_lt hn] at this
  exact this
theorem mul1 (n : Nat) (hn : n ≤ 65536) : bits_Mul.f 1 n = some (0, (n : Int)) := by
  have e0 := mask1 n (by omega)
  have e1 := mask1 1 (by omega)
  have e2 := mask1 0 (by omega)
  have e3 : (n : Int) / 4294967296 = 0 := by omega
  have e4 : IntKind.u64.wrap (n : Int) = n := by simp [IntKind.wrap, IntKind.signed, IntKind.bits]; omega
  have e5 : IntKind.u64.wrap 0 = 0 := by decide
  have e6 : IntKind.u64.wrap 1 = 1 := by decide
  simp only [Int.natCast_one, Int.natCast_zero] at e1 e2
  have e7 : (1 : Int) / 4294967296 = 0 := by decide
  simp only [bits_Mul.f, bits_Mul64.f, Option.bind_some, e0, e1, e2, e3, e4, e5, e7, Int.zero_mul, Int.mul_zero, Int.one_mul, Int.add_zero, Int.zero_ediv]
/-- k copies of p, then zeros. -/
def rep (p : S43) (n k : Nat) : List S43 := List.replicate k p ++ List.replicate (n - k) z43
theorem rep_length (p : S43) {n k : Nat} (h : k ≤ n) : (rep p n k).length = n := by unfold rep; simp; omega
theorem rep_over (p : S43) {n k j : Nat} (h : k + j ≤ n) : over (rep p n k) k (List.replicate j p) = rep p n (k + j) := by
  unfold over rep
  have e1 : (List.replicate k p ++ List.replicate (n - k) z43).take k = List.replicate k p := by rw [List.take_append_of_le_length (by simp)]; simp
  have e2 : (List.replicate k p ++ List.replicate (n - k) z43).drop (k + (List.replicate j p).length) = List.replicate (n - (k + j)) z43 := by
    rw [List.length_replicate, List.drop_append]
    simp
    omega
  rw [e1, e2, List.replicate_append_replicate]
set_option maxHeartbeats 4000000 in
theorem slices_Repeat.calls (p : S43) (A0 : Option Addr) (c0 : Nat) (n : Nat) (w : World) (hn : 1 ≤ n) (hn2 : n ≤ 65536) (hr0 : Kd.C k43 w A0 1 [p]) (hc0 : 1 ≤ c0) :
    Calls Try.prog 64 #[.slice A0 1 c0, .int .i64 n] w fun e w' => ∃ v, e = .returned v ∧ Kd.R k43 43 w' w.heap.size (fun _ => True) v (List.replicate n p) ∧ Below w.heap.size w w' := by
  obtain ⟨sa, eA, _⟩ := hr0.2.2 (by omega)
  subst eA
  have h0 : ¬ (n : Int) < 0 := by omega
  have e4 : IntKind.u64.wrap (n : Int) = n := by simp [IntKind.wrap, IntKind.signed, IntKind.bits]; omega
  have e5 : IntKind.u64.wrap 1 = 1 := by decide
  have e6 : IntKind.i64.wrap (n : Int) = n := by simp [IntKind.wrap, IntKind.signed, IntKind.bits]; omega
  have hm := mul1 n hn2
  have hm' := Aside0.mk hm
  clear hm
  go_enter Try.func64, Try.ntmps64
  go_wp2_with fail
  refine (bits_Mul.calls 1 n 0 n w hm'.out).mono ?_
  rintro e w1 ⟨rfl, hdr⟩
  have hB1 := Aside0.mk hdr.below
  have hC1 := Aside0.mk (Kd.C_below hr0 hdr.below)
  clear hdr hr0
  have hg0 : ¬ (9223372036854775807 : Int) < n := by omega
  go_wp2_with (first | (at_make; refine Kd.R_make k43 (w0 := w) w.heap.size 43 rfl (N := 30) rfl 25 (.tmp 29) (.tmp 29) rfl (n : Int) rfl rfl Try.underlying25 (.agg #[(.int .u8 0), (.int .u8 0), (.int .u8 0), (.int .u8 0)]) 4 info43 rfl (by decide) (by decide) z43 (ok := fun _ => True) (okp := fun _ => True) ?hz (fun _ hk => hk) trivial ?h0 ?hl ?hB ?hb ?_; (case hz => exact k43_mkM _ _ _ z43); (case h0 => omega); (case hl => simp; omega); (case hB => exact hB1.out); (case hb => exact hB1.out.size); intro v1 w2 ho hb2 hgr hfr; rw [Int.toNat_natCast] at ho; obtain ⟨g, cp, ev, hgb, hgl, _⟩ := Kd.R_form ho (by rw [List.length_replicate]; omega); rw [List.length_replicate] at ev; subst ev; have hR := Aside0.mk ho; have hC2 := Aside0.mk (pcells_at (Kd.C_below hC1.out (show Below w1.heap.size w1 w2 from ⟨hgr.os, hgr.tape, hgr.output, hgr.size, fun i hi => hgr.block i hi (by simp)⟩))); have hB2 := Aside0.mk hb2; clear ho hb2 hgr hfr) | ((with_reducible refine gate_builtin (b := .copy) (xs := #[.tmp 31, .tmp 32]) rfl ?_); refine copyR (lo := 0) (dLen := n) (dCap := cp) rfl (.tmp 31) (.tmp 32) rfl rfl rfl hR.out hC2.out ?hn ?hf ?_; (case hn => exact (Nat.min_eq_left hn).symm); (case hf => simp only [List.length_cons, List.length_nil]; omega); intro w3 hR2 hg2; have hR3 := Aside0.mk hR2; have hB3 := Aside0.mk (pw_below_grown hB2.out (some g) hB2.out.size hg2 (fun _ h => by cases h; exact hgb)); clear hR2 hg2))
  have hcp : n ≤ cp := (Kd.R_reads' hR3.out).2.1
  clear hR hC2 hB2 hB1 hC1
  go_loopw [8] (fun v w' => ∃ k : Nat, 1 ≤ k ∧ k ≤ n ∧ v = .int .i64 k ∧ Aside0 (Kd.R k43 43 w' w.heap.size (fun _ => True) (.slice (some ⟨g, 0, none⟩) n cp) (rep p n k)) ∧ Aside0 (Below w.heap.size w w')) (fun v _ => n - (intOf v).toNat)
  case atStart =>
    refine ⟨1, Nat.le_refl _, hn, rfl, ?_, hB3⟩
    have e := rep_over p (n := n) (k := 0) (j := 1) (by omega)
    have e2 : rep p n 0 = List.replicate n z43 := by simp [rep]
    rw [e2] at e
    exact ⟨by rw [show rep p n 1 = rep p n (0 + 1) from rfl, ← e]; exact hR3.out⟩
  case round =>
    clear hR3 hB3
    obtain ⟨k, hk1, hkn, rfl, hR, hB⟩ := hrel
    by_cases hlt : k < n
    · have hlt' : (k : Int) < (n : Int) := by omega
      have q0 : (0 : Int) ≤ (k : Int) := by omega
      have q1 : (k : Int) ≤ (n : Int) := by omega
      have q2 : (k : Int) ≤ (cp : Int) := by omega
      have q3 : ¬ cp = k := by omega
      have q4 : ¬ (cp : Int) = (k : Int) := by omega
      have q5 : ¬ cp = 0 := by omega
      obtain ⟨j, hj⟩ : ∃ j, j = Nat.min k (n - k) := ⟨_, rfl⟩
      have hj1 : 1 ≤ j ∧ j ≤ k ∧ k + j ≤ n := by rw [hj, show Nat.min k (n - k) = min k (n - k) from rfl]; omega
      have hJ := Aside0.mk (And.intro hj hj1)
      have ekj0 : IntKind.i64.wrap ((k : Int) + (j : Int)) = ((k + j : Nat) : Int) := by rw [IntKind.wrap_i64]; omega
      have ekj := Aside0.mk ekj0
      clear ekj0 hj hj1
      have hcells : ∀ W', Kd.R k43 43 W' w.heap.size (fun _ => True) (.slice (some ⟨g, 0, none⟩) n cp) (rep p n k) → ∀ i v, (pcells (List.replicate j p))[i]? = some v → W'.cell? ((⟨g, 0, none⟩ : Addr).add i) = some v := by
        intro W' hR'
        obtain ⟨r1, r2, r3⟩ := Kd.R_reads' hR'
        have r4 := Kd.C_take r3 (m := j) (by rw [rep_length p hkn]; exact Nat.le_trans hJ.out.2.2.1 hkn)
        have e : (rep p n k).take j = List.replicate j p := by
          unfold rep
          rw [List.take_append_of_le_length (by rw [List.length_replicate]; exact hJ.out.2.2.1), List.take_replicate, Nat.min_eq_left hJ.out.2.2.1]
        rw [e] at r4
        exact pcells_at r4
      have hcl := Aside0.mk hcells
      clear hcells
      go_wp2_with fail
      replace hR := Aside0.mk (Kd.R_drew hR.out)
      replace hB := Aside0.mk (below_drew1 hB.out)
      go_region_held3 (fun _ => True) (trivial) (first | (refine copyR_step (lo := k) (dLen := n - k) (sLen := k) rfl (.tmp 41) (.tmp 44) rfl rfl rfl hR.out (hcl.out _ hR.out) ?hn ?hf ?_; (case hn => rw [List.length_replicate]; exact hJ.out.1); (case hf => rw [List.length_replicate]; exact hJ.out.2.2.2); intro w4 hR2 hg2; rw [rep_over p hJ.out.2.2.2] at hR2; rw [List.length_replicate]; replace hR := Aside0.mk hR2; replace hB := Aside0.mk (pw_below_grown hB.out (some g) hB.out.size hg2 (fun _ h => by cases h; exact hgb)); clear hR2 hg2))
      have ek := ekj.out
      go_wp2
      go_roundw
      case measure =>
        rw [ek]
        simp only [intOf, Int.toNat_natCast]
        have := hJ.out
        omega
      case rel => exact ⟨k + j, by have := hJ.out; omega, hJ.out.2.2.2, by rw [ek], hR, hB⟩
    · obtain rfl : k = n := by omega
      go_wp2
      go_ret
      refine ⟨_, rfl, ?_, hB.out⟩
      have e : rep p k k = List.replicate k p := by simp [rep]
      rw [← e]
      exact hR.out
def api_Pixel_64.f (l : List S43) (n : Int) : Option (List S43) := if l.length = 1 ∧ 1 ≤ n ∧ n ≤ 65536 then some (List.replicate n.toNat (l.getD 0 z43)) else none
theorem api_Pixel_64.calls (A0 : Option Addr) (c0 : Nat) (l0 : List (S43)) (a1 : Int) (r : List (S43)) (w : World) (hr0 : Kd.C k43 w A0 l0.length l0) (hc0 : l0.length ≤ c0) (h : api_Pixel_64.f l0 a1 = some r) :
    Calls Try.prog 64 #[.slice A0 l0.length c0, .int .i64 a1] w fun e w' => ∃ v0_ : Value, e = .returned (v0_) ∧ Kd.R k43 43 w' w.heap.size (fun _ => True) v0_ r ∧ Below w.heap.size w w' := by
  unfold api_Pixel_64.f at h
  split at h
  · rename_i hl
    obtain ⟨h1, h2, h3⟩ := hl
    obtain rfl := Option.some.inj h
    obtain ⟨n, rfl⟩ : ∃ n : Nat, a1 = n := ⟨a1.toNat, by omega⟩
    obtain ⟨p, rfl⟩ : ∃ p, l0 = [p] := by
      cases l0 with
      | nil => cases h1
      | cons p t => cases t with
        | nil => exact ⟨p, rfl⟩
        | cons q t => simp at h1
    exact slices_Repeat.calls p A0 c0 n w (by omega) (by omega) hr0 hc0
  · cases h
end


end Go.Proofs.Ytmockeaiccpogaa.All
