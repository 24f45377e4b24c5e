-- Written by a program of this session, which runs the kit's print.py and puts in functions that this session typed. Not trusted: Lean checks it.
import Derived.Test.YtmockeaiccpogaaHand
import Derived.Test.YtmockeaiccpogaaAllx0
import Derived.Test.YtmockeaiccpogaaAllx8
import Derived.Test.YtmockeaiccpogaaAllx9
import Derived.Test.YtmockeaiccpogaaAllx12
import Derived.Test.YtmockeaiccpogaaAllx14
import Derived.Test.YtmockeaiccpogaaAllx15
namespace Go.Proofs.Ytmockeaiccpogaa.All
open Go.Proofs.YtmockeaiccpogaaSq
open Go.RowKit Go.Proofs.YtmockeaiccpogaaW.PrintWords Go.Proofs.YtmockeaiccpogaaW.PrintLast Go.Proofs.YtmockeaiccpogaaW.PrintMore
attribute [local go_sem] max2_int min2_int max_two min_two max_three min_three max_four min_four   -- for this text's walks alone
set_option linter.unusedVariables false
set_option linter.unusedSimpArgs false

/-! ### buffer_Crop: function 30 -/
section
open Go.Proofs.YtmockeaiccpogaaHand Go.Proofs.YtmockeaiccpogaaSq
/-- The rows of a part of a buffer. -/
def buffer_Crop.rows (l : List S43) (W x0 y0 n k : Nat) : List S43 := (List.range k).flatMap fun j => (l.drop ((y0 + j) * W + x0)).take n
theorem buffer_Crop.rows_succ (l : List S43) (W x0 y0 n k : Nat) : buffer_Crop.rows l W x0 y0 n (k + 1) = buffer_Crop.rows l W x0 y0 n k ++ (l.drop ((y0 + k) * W + x0)).take n := by
  unfold buffer_Crop.rows
  rw [List.range_succ, List.flatMap_append]
  simp
def buffer_Crop.f (a0_0 a0_1 : Int) (l : List S43) (r0 r1 r2 r3 : Int) : Option (Int × Int × List S43 × Int) :=
  (buffer_Valid.f a0_0 a0_1 l).bind fun s1 => if s1 = true then (rect_Empty.f r0 r1 r2 r3).bind fun s2 => if s2 = true then some (0, 0, [], 6) else (rect_Within.f r0 r1 r2 r3 0 0 a0_0 a0_1).bind fun s3 => if s3 = true then (if (0 ≤ r0 ∧ r0 < r2 ∧ r2 ≤ a0_0) ∧ (0 ≤ r1 ∧ r1 < r3 ∧ r3 ≤ a0_1) then some (r2 - r0, r3 - r1, buffer_Crop.rows l a0_0.toNat r0.toNat r1.toNat (r2 - r0).toNat (r3 - r1).toNat, 0) else none) else some (0, 0, [], 6) else some (0, 0, [], 15)
theorem buffer_Crop.rows_le (l : List S43) (W x0 y0 n k : Nat) : (buffer_Crop.rows l W x0 y0 n k).length ≤ k * n := by
  induction k with
  | zero => simp [buffer_Crop.rows]
  | succ k ih =>
    rw [buffer_Crop.rows_succ, List.length_append, Nat.succ_mul]
    exact Nat.add_le_add ih (by rw [List.length_take]; exact Nat.min_le_left _ _)
theorem buffer_Crop.w64 {x : Int} (h : -9223372036854775808 ≤ x) (h' : x ≤ 9223372036854775807) : wrap64 x = x := by unfold wrap64; omega
theorem buffer_Crop.idx2 {p x0 n : Nat} (b1 : p + x0 + n ≤ 65536) : wrap64 (wrap64 (p : Int) + x0) = ((p + x0 : Nat) : Int) ∧ wrap64 (wrap64 (p : Int) + (x0 + n)) = ((p + x0 + n : Nat) : Int) := by
  have e1 : wrap64 (p : Int) = p := buffer_Crop.w64 (by omega) (by omega)
  have e2 : wrap64 ((p : Int) + x0) = p + x0 := buffer_Crop.w64 (by omega) (by omega)
  have e3 : wrap64 ((p : Int) + (x0 + n)) = p + (x0 + n) := buffer_Crop.w64 (by omega) (by omega)
  rw [e1, e2, e3]
  constructor <;> omega
theorem buffer_Crop.idx {a0_0 a0_1 a1_0 a1_1 a1_2 a1_3 : Int} {L : Nat} (hq : (0 ≤ a1_0 ∧ a1_0 < a1_2 ∧ a1_2 ≤ a0_0) ∧ (0 ≤ a1_1 ∧ a1_1 < a1_3 ∧ a1_3 ≤ a0_1)) (hW : 1 ≤ a0_0 ∧ a0_0 ≤ 256) (hH : 1 ≤ a0_1 ∧ a0_1 ≤ 256) (hl : (L : Int) = a0_0 * a0_1) {W x0 y0 n m k : Nat}
    (hN : x0 = a1_0.toNat ∧ y0 = a1_1.toNat ∧ n = (a1_2 - a1_0).toNat ∧ m = (a1_3 - a1_1).toNat ∧ W = a0_0.toNat) (hk : k < m) :
    wrap64 (wrap64 ((a1_1 + k) * a0_0) + a1_0) = (((y0 + k) * W + x0 : Nat) : Int) ∧ wrap64 (wrap64 ((a1_1 + k) * a0_0) + a1_2) = (((y0 + k) * W + x0 + n : Nat) : Int) ∧ (y0 + k) * W + x0 + n ≤ L ∧ L ≤ 65536 := by
  obtain ⟨e1, e2, e3, e4, e5⟩ := hN
  obtain ⟨H, eH⟩ : ∃ H : Nat, a0_1 = H := ⟨a0_1.toNat, by omega⟩
  have eW : a0_0 = W := by omega
  have f1 : a1_0 = x0 := by omega
  have f2 : a1_1 = y0 := by omega
  have f3 : a1_2 = x0 + n := by omega
  subst eH
  have hL : L = W * H := by rw [eW, ← Int.natCast_mul] at hl; exact Int.ofNat.inj hl
  have m1 : (y0 + k + 1) * W ≤ H * W := Nat.mul_le_mul_right W (by omega)
  have m2 : W * H ≤ 256 * 256 := Nat.mul_le_mul (by omega) (by omega)
  rw [Nat.mul_comm H W, Nat.succ_mul] at m1
  have ep : (a1_1 + k) * a0_0 = (((y0 + k) * W : Nat) : Int) := by rw [f2, eW, Int.natCast_mul, Int.natCast_add]
  rw [ep]
  clear ep hl
  generalize (y0 + k) * W = p at *
  generalize W * H = q at *
  have b1 : p + x0 + n ≤ 65536 := by omega
  have b2 : p + x0 + n ≤ L := by omega
  have b3 : L ≤ 65536 := by omega
  obtain ⟨g1, g2⟩ := buffer_Crop.idx2 b1
  rw [f1, f3]
  exact ⟨g1, g2, b2, b3⟩
theorem buffer_Crop.mid {W : World} {ad : Addr} {l : List S43} {c lo n : Nat} (h : Kd.C k43 W (some ad) l.length l) (hn : 0 < n) (hle : lo + n ≤ l.length) (hc : l.length ≤ c) : Kd.C k43 W (some (ad.add (lo * 4))) n ((l.drop lo).take n) := by
  have q := Kd.C_mid (lo := lo) (hi := lo + n) h (by omega) hle hc
  rw [if_neg (by omega), List.drop_take, Nat.add_sub_cancel_left] at q
  have e : ((l.drop lo).take n).length = n := by rw [List.length_take, List.length_drop]; omega
  rw [e] at q
  exact q
/-- What stands still while Crop runs. -/
def buffer_Crop.St (w : World) (a0_0 a0_1 : Int) (A0_2 : Option Addr) (c0_2 : Nat) (l0_2 : List S43) (a1_0 a1_1 a1_2 a1_3 : Int) (W : World) : Prop :=
  W.heap[w.heap.size]? = some (.cells #[.int .i64 a0_0, .int .i64 a0_1, .slice A0_2 l0_2.length c0_2] 27 (0, 0)) ∧ W.heap[w.heap.size + 1]? = some (.cells #[.int .i64 a1_0, .int .i64 a1_1, .int .i64 a1_2, .int .i64 a1_3] 47 (0, 0)) ∧ W.heap[w.heap.size + 1 + 1]? = some (.cells #[.int .i64 0, .int .i64 0, .slice none 0 0] 27 (0, 0)) ∧ Below w.heap.size w W
theorem buffer_Crop.St.below {w : World} {a0_0 a0_1 : Int} {A0_2 : Option Addr} {c0_2 : Nat} {l0_2 : List S43} {a1_0 a1_1 a1_2 a1_3 : Int} {W W2 : World} (h : Aside0 (buffer_Crop.St w a0_0 a0_1 A0_2 c0_2 l0_2 a1_0 a1_1 a1_2 a1_3 W)) (hb : Below W.heap.size W W2) : Aside0 (buffer_Crop.St w a0_0 a0_1 A0_2 c0_2 l0_2 a1_0 a1_1 a1_2 a1_3 W2) :=
  ⟨blk_below h.out.1 hb, blk_below h.out.2.1 hb, blk_below h.out.2.2.1 hb, below_step h.out.2.2.2 hb⟩
theorem buffer_Crop.St.cells {w : World} {a0_0 a0_1 : Int} {A0_2 : Option Addr} {c0_2 : Nat} {l0_2 : List S43} {a1_0 a1_1 a1_2 a1_3 : Int} {W : World} (h : Aside0 (buffer_Crop.St w a0_0 a0_1 A0_2 c0_2 l0_2 a1_0 a1_1 a1_2 a1_3 W)) :
    W.cell? ⟨w.heap.size, 0, none⟩ = some (.int .i64 a0_0) ∧ W.cell? ⟨w.heap.size, 1, none⟩ = some (.int .i64 a0_1) ∧ W.cell? ⟨w.heap.size, 2, none⟩ = some (.slice A0_2 l0_2.length c0_2) ∧ W.cell? ⟨w.heap.size + 1, 0, none⟩ = some (.int .i64 a1_0) ∧ W.cell? ⟨w.heap.size + 1, 1, none⟩ = some (.int .i64 a1_1) ∧ W.cell? ⟨w.heap.size + 1, 2, none⟩ = some (.int .i64 a1_2) ∧ W.cell? ⟨w.heap.size + 1, 3, none⟩ = some (.int .i64 a1_3) :=
  ⟨(blk_cell h.out.1 0).trans rfl, (blk_cell h.out.1 1).trans rfl, (blk_cell h.out.1 2).trans rfl, (blk_cell h.out.2.1 0).trans rfl, (blk_cell h.out.2.1 1).trans rfl, (blk_cell h.out.2.1 2).trans rfl, (blk_cell h.out.2.1 3).trans rfl⟩
theorem buffer_Crop.St.zero {w : World} {a0_0 a0_1 : Int} {A0_2 : Option Addr} {c0_2 : Nat} {l0_2 : List S43} {a1_0 a1_1 a1_2 a1_3 : Int} {W : World} (h : Aside0 (buffer_Crop.St w a0_0 a0_1 A0_2 c0_2 l0_2 a1_0 a1_1 a1_2 a1_3 W)) :
    (W.cell? ⟨w.heap.size + 1 + 1, 0, none⟩ = some (.int .i64 0) ∧ W.cell? ⟨w.heap.size + 1 + 1, 1, none⟩ = some (.int .i64 0) ∧ W.cell? ⟨w.heap.size + 1 + 1, 2, none⟩ = some (.slice none 0 0)) ∧ W.frozen? ⟨w.heap.size + 1 + 1, 0, none⟩ = false ∧ W.frozen? ⟨w.heap.size + 1 + 1, 1, none⟩ = false ∧ W.frozen? ⟨w.heap.size + 1 + 1, 2, none⟩ = false :=
  ⟨⟨(blk_cell h.out.2.2.1 0).trans rfl, (blk_cell h.out.2.2.1 1).trans rfl, (blk_cell h.out.2.2.1 2).trans rfl⟩, blk_frozen h.out.2.2.1 0, blk_frozen h.out.2.2.1 1, blk_frozen h.out.2.2.1 2⟩
theorem buffer_Crop.St.set {w : World} {a0_0 a0_1 : Int} {A0_2 : Option Addr} {c0_2 : Nat} {l0_2 : List S43} {a1_0 a1_1 a1_2 a1_3 : Int} {W : World} (h : Aside0 (buffer_Crop.St w a0_0 a0_1 A0_2 c0_2 l0_2 a1_0 a1_1 a1_2 a1_3 W)) {g : Nat} (hg : w.heap.size + 1 + 1 < g) (j : Nat) (v : Value) : Aside0 (buffer_Crop.St w a0_0 a0_1 A0_2 c0_2 l0_2 a1_0 a1_1 a1_2 a1_3 (W.setCell ⟨g, j, none⟩ v)) :=
  ⟨blk_far h.out.1 (p := ⟨g, j, none⟩) (by simp only; omega) _, blk_far h.out.2.1 (p := ⟨g, j, none⟩) (by simp only; omega) _, blk_far h.out.2.2.1 (p := ⟨g, j, none⟩) (by simp only; omega) _, below_set h.out.2.2.2 (by omega)⟩
theorem buffer_Crop.St.grown {w : World} {a0_0 a0_1 : Int} {A0_2 : Option Addr} {c0_2 : Nat} {l0_2 : List S43} {a1_0 a1_1 a1_2 a1_3 : Int} {W W2 : World} (h : Aside0 (buffer_Crop.St w a0_0 a0_1 A0_2 c0_2 l0_2 a1_0 a1_1 a1_2 a1_3 W)) {base : Nat} {ok : Nat → Prop} {v : Value} {xs : List S43} (hu : Kd.R k43 43 W base ok v xs) (hg : W.grownBy W2 v.ownBlock) (hb : Below w.heap.size w W2) : Aside0 (buffer_Crop.St w a0_0 a0_1 A0_2 c0_2 l0_2 a1_0 a1_1 a1_2 a1_3 W2) :=
  ⟨blk_grown h.out.1 hg (Kd.R_ne hu h.out.1 (by decide)), blk_grown h.out.2.1 hg (Kd.R_ne hu h.out.2.1 (by decide)), blk_grown h.out.2.2.1 hg (Kd.R_ne hu h.out.2.2.1 (by decide)), hb⟩
theorem buffer_Crop.oc {w : World} {a0_0 a0_1 : Int} {A0_2 : Option Addr} {c0_2 : Nat} {l0_2 : List S43} {a1_0 a1_1 a1_2 a1_3 : Int} {W : World} (h : Aside0 (buffer_Crop.St w a0_0 a0_1 A0_2 c0_2 l0_2 a1_0 a1_1 a1_2 a1_3 W)) {g6 : Nat} {n m : Int} {u : Value} (hO : Aside0 (W.heap[g6]? = some (.cells #[.int .i64 n, .int .i64 m, u] 27 (0, 0)))) :
    W.cell? ⟨w.heap.size, 0, none⟩ = some (.int .i64 a0_0) ∧ W.cell? ⟨w.heap.size, 1, none⟩ = some (.int .i64 a0_1) ∧ W.cell? ⟨w.heap.size, 2, none⟩ = some (.slice A0_2 l0_2.length c0_2) ∧ W.cell? ⟨w.heap.size + 1, 0, none⟩ = some (.int .i64 a1_0) ∧ W.cell? ⟨w.heap.size + 1, 1, none⟩ = some (.int .i64 a1_1) ∧ W.cell? ⟨w.heap.size + 1, 2, none⟩ = some (.int .i64 a1_2) ∧ W.cell? ⟨w.heap.size + 1, 3, none⟩ = some (.int .i64 a1_3) ∧ W.cell? ⟨g6, 2, none⟩ = some u :=
  ⟨(blk_cell h.out.1 0).trans rfl, (blk_cell h.out.1 1).trans rfl, (blk_cell h.out.1 2).trans rfl, (blk_cell h.out.2.1 0).trans rfl, (blk_cell h.out.2.1 1).trans rfl, (blk_cell h.out.2.1 2).trans rfl, (blk_cell h.out.2.1 3).trans rfl, (blk_cell hO.out 2).trans rfl⟩
set_option maxHeartbeats 4000000 in
theorem buffer_Crop.calls (a0_0 a0_1 : Int) (A0_2 : Option Addr) (c0_2 : Nat) (l0_2 : List S43) (a1_0 a1_1 a1_2 a1_3 : Int) (r1 r2 : Int) (r3 : List S43) (r4 : Int) (w : World) (hr0_2 : Kd.C k43 w A0_2 l0_2.length l0_2) (hc0_2 : l0_2.length ≤ c0_2) (h : buffer_Crop.f a0_0 a0_1 l0_2 a1_0 a1_1 a1_2 a1_3 = some (r1, r2, r3, r4)) :
    Calls Try.prog 30 #[.agg #[.int .i64 a0_0, .int .i64 a0_1, .slice A0_2 l0_2.length c0_2], .agg #[.int .i64 a1_0, .int .i64 a1_1, .int .i64 a1_2, .int .i64 a1_3]] w fun e w' => ∃ v2_ : Value, e = .returned (.tuple #[.agg #[.int .i64 r1, .int .i64 r2, v2_], .int .i64 r4]) ∧ Kd.R k43 43 w' w.heap.size (fun _ => True) v2_ r3 ∧ Below w.heap.size w w' := by
  replace h := Option.bind_eq_some_iff.mp h
  obtain ⟨s1, hs1, h⟩ := h
  have hs := Aside0.mk hs1
  clear hs1
  go_enter Try.func30, Try.ntmps30
  go_wp2_with fail
  obtain ⟨hA0, hB0, hC0, hD0⟩ := allocs3 w (Obj.cells #[.int .i64 a0_0, .int .i64 a0_1, .slice A0_2 l0_2.length c0_2] 27) (Obj.cells #[.int .i64 a1_0, .int .i64 a1_1, .int .i64 a1_2, .int .i64 a1_3] 47) (Obj.cells #[.int .i64 0, .int .i64 0, .slice none 0 0] 27)
  generalize ((w.alloc (Obj.cells #[.int .i64 a0_0, .int .i64 a0_1, .slice A0_2 l0_2.length c0_2] 27)).alloc (Obj.cells #[.int .i64 a1_0, .int .i64 a1_1, .int .i64 a1_2, .int .i64 a1_3] 47)).alloc (Obj.cells #[.int .i64 0, .int .i64 0, .slice none 0 0] 27) = V at hA0 hB0 hC0 hD0 ⊢
  have hS : Aside0 (buffer_Crop.St w a0_0 a0_1 A0_2 c0_2 l0_2 a1_0 a1_1 a1_2 a1_3 V) := ⟨hA0, hB0, hC0, hD0⟩
  have hR := Aside0.mk hr0_2
  clear hA0 hB0 hC0 hD0 hr0_2
  refine (buffer_Valid.calls a0_0 a0_1 A0_2 c0_2 l0_2 s1 V (Kd.C_below hR.out hS.out.2.2.2) hc0_2 hs.out).mono ?_
  rintro e w1 ⟨rfl, hb1⟩
  replace hS := buffer_Crop.St.below hS hb1
  clear hb1
  cases s1 with
  | false =>
    obtain ⟨rfl, rfl, rfl, rfl⟩ : 0 = r1 ∧ 0 = r2 ∧ [] = r3 ∧ 15 = r4 := by simpa using h
    clear h
    obtain ⟨⟨z0, z1, z2⟩, f0, f1, f2⟩ := buffer_Crop.St.zero hS
    go_wp2
    refine bodyPost_ret (results_ct rfl _ _ (w.heap.size + 1 + 1) 27 #[.int .i64 0, .int .i64 0, .slice none 0 0] (0, 0) _ rfl (retBuf hS.out.2.2.1 0 0 _) Try.underlying27 rfl (by kernel_rfl)) rfl ⟨_, rfl, Kd.R_nil _ _ _ _ _, below_set (below_set (below_set hS.out.2.2.2 (by omega)) (by omega)) (by omega)⟩
  | true =>
    rw [if_pos rfl] at h
    replace h := Option.bind_eq_some_iff.mp h
    obtain ⟨s2, hs2, h⟩ := h
    have hs' := Aside0.mk hs2
    clear hs2
    try go_wp2_with fail
    replace hS : Aside0 (buffer_Crop.St w a0_0 a0_1 A0_2 c0_2 l0_2 a1_0 a1_1 a1_2 a1_3 w1.drew) := buffer_Crop.St.below hS (below_drew (Below.refl _ _))
    cases s2 with
    | true =>
      obtain ⟨rfl, rfl, rfl, rfl⟩ : 0 = r1 ∧ 0 = r2 ∧ [] = r3 ∧ 6 = r4 := by simpa using h
      clear h
      refine start_ (n := 10) (S := fun w' => w'.cell? ⟨w.heap.size, 0, none⟩ = some (.int .i64 a0_0) ∧ w'.cell? ⟨w.heap.size, 1, none⟩ = some (.int .i64 a0_1) ∧ w'.cell? ⟨w.heap.size, 2, none⟩ = some (.slice A0_2 l0_2.length c0_2) ∧ w'.cell? ⟨w.heap.size + 1, 0, none⟩ = some (.int .i64 a1_0) ∧ w'.cell? ⟨w.heap.size + 1, 1, none⟩ = some (.int .i64 a1_1) ∧ w'.cell? ⟨w.heap.size + 1, 2, none⟩ = some (.int .i64 a1_2) ∧ w'.cell? ⟨w.heap.size + 1, 3, none⟩ = some (.int .i64 a1_3)) (ds := []) #[false, false, false, false, false, false, false, false, false, false] (by kernel_rfl) rfl rfl (buffer_Crop.St.cells hS) (fun hHeld => ?_)
      have HT_ : Aside0 (rtab .any (opsOf Try.f30 3) = rtab .any (opsOf Try.f30 3)) := ⟨rfl⟩
      refine take_ (i := 0) (N := some 14) (v := ?_) (a' := ?_) #[true, false, false, false, false, false, false, false, false, false] rfl rfl (take_of HT_.out (by kernel_rfl)) (fun _ _ _ h => h) (Or.inl ⟨by rfl, ?_⟩) hHeld ?_ ?_
      rotate_left
      · rintro w' ⟨s0, s1, s2, s3, s4, s5, s6⟩
        go_simp
        with_reducible rfl
      rotate_left
      · simp only [Act.put, List.setIfInBounds_toArray, List.set_cons_zero, List.set_cons_succ, i64_w, i32_w]
        rfl
      refine one_ (i := 1) (N := some 15) #[true, true, false, false, false, false, false, false, false, false] rfl rfl (one_of HT_.out (by kernel_rfl)) (by decide) (fun K hK => ?_)
      refine goes_ Try.func55 (by kernel_rfl) rfl #[.agg #[.int .i64 a1_0, .int .i64 a1_1, .int .i64 a1_2, .int .i64 a1_3]] (by rfl) rfl rfl (by (try simp only [List.map_toArray, List.map_cons, List.map_nil]); first | done | rfl) ?_
      refine (rect_Empty.calls a1_0 a1_1 a1_2 a1_3 true _ hs'.out).mono ?_
      rintro e w2 ⟨rfl, hb1⟩
      refine ⟨_, rfl, ?_⟩
      replace hS := buffer_Crop.St.below hS hb1
      clear hb1
      refine hK.out _ _ (buffer_Crop.St.cells hS) (fun hHeld => ?_)
      clear hK K
      refine norm_ (a' := ?_) ?_ ?_
      rotate_left
      · show Act.put _ (some 15) _ = _
        simp only [Act.put, List.setIfInBounds_toArray, List.set_cons_zero, List.set_cons_succ, i64_w, i32_w]
        rfl
      refine pv_ 2 16 #[true, true, true, false, false, false, false, false, false, false] HT_ ?_
      refine pu_ 3 17 #[true, true, true, true, false, false, false, false, false, false] HT_ ?_
      refine pu_ 4 18 #[true, true, true, true, true, false, false, false, false, false] HT_ ?_
      refine pu_ 5 19 #[true, true, true, true, true, true, false, false, false, false] HT_ ?_
      refine pu_ 6 20 #[true, true, true, true, true, true, true, false, false, false] HT_ ?_
      refine pu_ 7 21 #[true, true, true, true, true, true, true, true, false, false] HT_ ?_
      refine pv_ 8 22 #[true, true, true, true, true, true, true, true, true, false] HT_ ?_
      refine pv_ 9 13 #[true, true, true, true, true, true, true, true, true, true] HT_ ?_
      refine done_ (done_of HT_.out (by kernel_rfl)) ?_
      obtain ⟨⟨z0, z1, z2⟩, f0, f1, f2⟩ := buffer_Crop.St.zero hS
      go_wp2
      refine bodyPost_ret (results_ct rfl _ _ (w.heap.size + 1 + 1) 27 #[.int .i64 0, .int .i64 0, .slice none 0 0] (0, 0) _ rfl (retBuf hS.out.2.2.1 0 0 _) Try.underlying27 rfl (by kernel_rfl)) rfl ⟨_, rfl, Kd.R_nil _ _ _ _ _, below_set (below_set (below_set hS.out.2.2.2 (by omega)) (by omega)) (by omega)⟩
    | false =>
      rw [if_neg (by simp)] at h
      replace h := Option.bind_eq_some_iff.mp h
      obtain ⟨s3, hs3, h⟩ := h
      have hs2' := Aside0.mk hs3
      clear hs3
      cases s3 with
      | false =>
        obtain ⟨rfl, rfl, rfl, rfl⟩ : 0 = r1 ∧ 0 = r2 ∧ [] = r3 ∧ 6 = r4 := by simpa using h
        clear h
        first | (go_region_held3 (fun w' => w'.cell? ⟨w.heap.size, 0, none⟩ = some (.int .i64 a0_0) ∧ w'.cell? ⟨w.heap.size, 1, none⟩ = some (.int .i64 a0_1) ∧ w'.cell? ⟨w.heap.size, 2, none⟩ = some (.slice A0_2 l0_2.length c0_2) ∧ w'.cell? ⟨w.heap.size + 1, 0, none⟩ = some (.int .i64 a1_0) ∧ w'.cell? ⟨w.heap.size + 1, 1, none⟩ = some (.int .i64 a1_1) ∧ w'.cell? ⟨w.heap.size + 1, 2, none⟩ = some (.int .i64 a1_2) ∧ w'.cell? ⟨w.heap.size + 1, 3, none⟩ = some (.int .i64 a1_3)) (exact buffer_Crop.St.cells hS) (first | (go_at_call 55; refine (rect_Empty.calls a1_0 a1_1 a1_2 a1_3 false _ hs'.out).mono ?_; rintro e w2 ⟨rfl, hb1⟩; replace hS := buffer_Crop.St.below hS hb1; clear hb1) | (go_at_call 43; refine (buffer_frame.calls a0_0 a0_1 A0_2 c0_2 l0_2 0 0 a0_0 a0_1 _ (Kd.C_below hR.out hS.out.2.2.2) hc0_2 rfl).mono ?_; rintro e w2 ⟨rfl, hb1⟩; replace hS := buffer_Crop.St.below hS hb1; clear hb1) | (go_at_call 56; refine (rect_Within.calls a1_0 a1_1 a1_2 a1_3 0 0 a0_0 a0_1 false _ hs2'.out).mono ?_; rintro e w2 ⟨rfl, hb1⟩; replace hS := buffer_Crop.St.below hS hb1; clear hb1))) | fail
        obtain ⟨⟨z0, z1, z2⟩, f0, f1, f2⟩ := buffer_Crop.St.zero hS
        go_wp2
        refine bodyPost_ret (results_ct rfl _ _ (w.heap.size + 1 + 1) 27 #[.int .i64 0, .int .i64 0, .slice none 0 0] (0, 0) _ rfl (retBuf hS.out.2.2.1 0 0 _) Try.underlying27 rfl (by kernel_rfl)) rfl ⟨_, rfl, Kd.R_nil _ _ _ _ _, below_set (below_set (below_set hS.out.2.2.2 (by omega)) (by omega)) (by omega)⟩
      | true =>
        rw [if_pos rfl] at h
        by_cases hq : (0 ≤ a1_0 ∧ a1_0 < a1_2 ∧ a1_2 ≤ a0_0) ∧ (0 ≤ a1_1 ∧ a1_1 < a1_3 ∧ a1_3 ≤ a0_1)
        · rw [if_pos hq] at h
          obtain ⟨rfl, rfl, rfl, rfl⟩ : a1_2 - a1_0 = r1 ∧ a1_3 - a1_1 = r2 ∧ buffer_Crop.rows l0_2 a0_0.toNat a1_0.toNat a1_1.toNat (a1_2 - a1_0).toNat (a1_3 - a1_1).toNat = r3 ∧ 0 = r4 := by simpa using h
          clear h
          first | (go_region_held3 (fun w' => w'.cell? ⟨w.heap.size, 0, none⟩ = some (.int .i64 a0_0) ∧ w'.cell? ⟨w.heap.size, 1, none⟩ = some (.int .i64 a0_1) ∧ w'.cell? ⟨w.heap.size, 2, none⟩ = some (.slice A0_2 l0_2.length c0_2) ∧ w'.cell? ⟨w.heap.size + 1, 0, none⟩ = some (.int .i64 a1_0) ∧ w'.cell? ⟨w.heap.size + 1, 1, none⟩ = some (.int .i64 a1_1) ∧ w'.cell? ⟨w.heap.size + 1, 2, none⟩ = some (.int .i64 a1_2) ∧ w'.cell? ⟨w.heap.size + 1, 3, none⟩ = some (.int .i64 a1_3)) (exact buffer_Crop.St.cells hS) (first | (go_at_call 55; refine (rect_Empty.calls a1_0 a1_1 a1_2 a1_3 false _ hs'.out).mono ?_; rintro e w2 ⟨rfl, hb1⟩; replace hS := buffer_Crop.St.below hS hb1; clear hb1) | (go_at_call 43; refine (buffer_frame.calls a0_0 a0_1 A0_2 c0_2 l0_2 0 0 a0_0 a0_1 _ (Kd.C_below hR.out hS.out.2.2.2) hc0_2 rfl).mono ?_; rintro e w2 ⟨rfl, hb1⟩; replace hS := buffer_Crop.St.below hS hb1; clear hb1) | (go_at_call 56; refine (rect_Within.calls a1_0 a1_1 a1_2 a1_3 0 0 a0_0 a0_1 true _ hs2'.out).mono ?_; rintro e w2 ⟨rfl, hb1⟩; replace hS := buffer_Crop.St.below hS hb1; clear hb1))) | fail
          obtain ⟨hW, hH, hl⟩ := buffer_Valid.of_valid hs.out
          have hpos : 0 < l0_2.length := by
            have := Int.mul_pos (show 0 < a0_0 by omega) (show 0 < a0_1 by omega)
            omega
          obtain ⟨ad, eA, _⟩ := hR.out.2.2 hpos
          subst eA
          have ew1 : wrap64 (a1_2 - a1_0) = a1_2 - a1_0 := by unfold wrap64; omega
          have ew2 : wrap64 (a1_3 - a1_1) = a1_3 - a1_1 := by unfold wrap64; omega
          obtain ⟨b0, b1, b2, c0, c1, c2, c3⟩ := buffer_Crop.St.cells hS
          have hS2 := buffer_Crop.St.below hS (below_alloc (Below.refl w2.heap.size w2) (Obj.cells #[Value.int IntKind.i64 (a1_2 - a1_0), Value.int IntKind.i64 (a1_3 - a1_1), Value.slice none 0 0] 27))
          obtain ⟨_, _, _, _, d1, _, d3⟩ := buffer_Crop.St.cells hS2
          have hq' := Aside0.mk hq
          have hW' := Aside0.mk hW
          have hH' := Aside0.mk hH
          have hl' := Aside0.mk hl
          obtain ⟨x0, hx0⟩ : ∃ x0, x0 = a1_0.toNat := ⟨_, rfl⟩
          obtain ⟨y0, hy0⟩ : ∃ y0, y0 = a1_1.toNat := ⟨_, rfl⟩
          obtain ⟨n, hn⟩ : ∃ n, n = (a1_2 - a1_0).toNat := ⟨_, rfl⟩
          obtain ⟨m, hm⟩ : ∃ m, m = (a1_3 - a1_1).toNat := ⟨_, rfl⟩
          obtain ⟨W, hWn⟩ : ∃ W, W = a0_0.toNat := ⟨_, rfl⟩
          have hN := Aside0.mk (And.intro hx0 (And.intro hy0 (And.intro hn (And.intro hm hWn))))
          clear hx0 hy0 hn hm hWn hq hW hH hl
          go_wp2_with fail
          clear b0 b1 b2 c0 c1 c2 c3 d1 d3
          have hO0 := blk_new w2 (Obj.cells #[Value.int IntKind.i64 (a1_2 - a1_0), Value.int IntKind.i64 (a1_3 - a1_1), Value.slice none 0 0] 27)
          have hg6 : w.heap.size + 1 + 1 < w2.heap.size := blk_lt hS.out.2.2.1
          generalize hV : w2.alloc (Obj.cells #[Value.int IntKind.i64 (a1_2 - a1_0), Value.int IntKind.i64 (a1_3 - a1_1), Value.slice none 0 0] 27) = V2 at hO0 hS2 ⊢
          clear hV hS
          generalize w2.heap.size = g6 at hO0 hg6 ⊢
          have hO := Aside0.mk hO0
          have hG := Aside0.mk hg6
          clear hO0 hg6
          go_loopw [7] (fun v w' => ∃ (k : Nat) (u : Value), k ≤ m ∧ v = .int .i64 (a1_1 + k) ∧ Aside0 (Kd.R k43 43 w' w.heap.size (fun _ => True) u (buffer_Crop.rows l0_2 W x0 y0 n k)) ∧ Aside0 (w'.heap[g6]? = some (.cells #[.int .i64 (a1_2 - a1_0), .int .i64 (a1_3 - a1_1), u] 27 (0, 0))) ∧ Aside0 (buffer_Crop.St w a0_0 a0_1 (some ad) c0_2 l0_2 a1_0 a1_1 a1_2 a1_3 w')) (fun v _ => (a1_3 - intOf v).toNat)
          case atStart => exact ⟨0, .slice none 0 0, Nat.zero_le _, by simp, ⟨Kd.R_nil _ _ _ _ _⟩, hO, hS2⟩
          case round =>
            clear hO hS2
            obtain ⟨k, u, hk, rfl, hu, hO, hS⟩ := hrel
            obtain ⟨b0, b1, b2, c0, c1, c2, c3⟩ := buffer_Crop.St.cells hS
            have hm3 : a1_3 = a1_1 + m := by have := hN.out; have := hq'.out; omega
            by_cases hlt : k < m
            · have hlt' : (a1_1 + k) < a1_3 := by omega
              obtain ⟨hlo0, hhi0, hhl0, hL0⟩ := buffer_Crop.idx hq'.out hW'.out hH'.out hl'.out hN.out hlt
              have hlo := Aside0.mk hlo0
              have hhi := Aside0.mk hhi0
              have hhl := Aside0.mk hhl0
              clear hlo0 hhi0 hhl0
              obtain ⟨lo, elo⟩ : ∃ lo, lo = (y0 + k) * W + x0 := ⟨_, rfl⟩
              obtain ⟨hi, ehi⟩ : ∃ hi, hi = lo + n := ⟨_, rfl⟩
              have hrs : Aside0 (buffer_Crop.rows l0_2 W x0 y0 n (k + 1) = buffer_Crop.rows l0_2 W x0 y0 n k ++ (l0_2.drop lo).take n) := ⟨by rw [elo]; exact buffer_Crop.rows_succ _ _ _ _ _ _⟩
              rw [← elo] at hlo hhl
              rw [← elo, ← ehi] at hhi
              rw [← ehi] at hhl
              have hnp : 0 < n := by have := hN.out; have := hq'.out; omega
              have hlt3 : Aside0 (lo < hi) := ⟨by omega⟩
              have hhc : Aside0 (hi ≤ c0_2) := ⟨Nat.le_trans hhl.out hc0_2⟩
              have hsub : hi - lo = n := by omega
              have hrow : Aside0 (∀ W', Below w.heap.size w W' → Kd.C k43 W' (some (ad.add (lo * 4))) (hi - lo) ((l0_2.drop lo).take n)) := ⟨fun W' hb => by rw [hsub]; exact buffer_Crop.mid (Kd.C_below hR.out hb) hnp (by have := hhl.out; omega) hc0_2⟩
              have hcap : Aside0 (((buffer_Crop.rows l0_2 W x0 y0 n k).length + (hi - lo)) * 4 ≤ 140737488355328) := ⟨by
                have h1 := buffer_Crop.rows_le l0_2 W x0 y0 n k
                have h2 : k * n ≤ 256 * 256 := Nat.mul_le_mul (by have := hN.out; have := hq'.out; have := hH'.out; omega) (by have := hN.out; have := hq'.out; have := hW'.out; omega)
                have := hhl.out
                omega⟩
              clear hsub hL0
              have hltm := Aside0.mk hlt
              clear elo ehi hnp hlt hm3 b0 b1 b2 c0 c2
              go_wp2_with fail
              refine start_ (n := 12) (S := fun w' => w'.cell? ⟨w.heap.size, 0, none⟩ = some (.int .i64 a0_0) ∧ w'.cell? ⟨w.heap.size, 1, none⟩ = some (.int .i64 a0_1) ∧ w'.cell? ⟨w.heap.size, 2, none⟩ = some (.slice (some ad) l0_2.length c0_2) ∧ w'.cell? ⟨w.heap.size + 1, 0, none⟩ = some (.int .i64 a1_0) ∧ w'.cell? ⟨w.heap.size + 1, 1, none⟩ = some (.int .i64 a1_1) ∧ w'.cell? ⟨w.heap.size + 1, 2, none⟩ = some (.int .i64 a1_2) ∧ w'.cell? ⟨w.heap.size + 1, 3, none⟩ = some (.int .i64 a1_3) ∧ w'.cell? ⟨g6, 2, none⟩ = some u) (ds := [11]) #[false, false, false, false, false, false, false, false, false, false, false, false] (by kernel_rfl) rfl rfl (buffer_Crop.oc hS hO) (fun hHeld => ?_)
              have HT_ : Aside0 (rtab .any (opsOf Try.f30 9) = rtab .any (opsOf Try.f30 9)) := ⟨rfl⟩
              replace hu := Aside0.mk (Kd.R_drew hu.out)
              replace hO := Aside0.mk (blk_drew hO.out)
              replace hS := buffer_Crop.St.below hS (below_drew (Below.refl _ _))
              generalize wr.drew = w3 at hu hO hS hHeld ⊢
              refine pv_ 0 43 #[true, false, false, false, false, false, false, false, false, false, false, false] HT_ ?_
              refine pv_ 3 46 #[true, false, false, true, false, false, false, false, false, false, false, false] HT_ ?_
              refine pv_ 4 47 #[true, false, false, true, true, false, false, false, false, false, false, false] HT_ ?_
              refine pv_ 6 49 #[true, false, false, true, true, false, true, false, false, false, false, false] HT_ ?_
              refine take_ (i := 1) (N := some 44) (v := ?_) (a' := ?_) #[true, true, false, true, true, false, true, false, false, false, false, false] rfl rfl (take_of HT_.out (by kernel_rfl)) (fun _ _ _ h => h) (Or.inl ⟨by rfl, ?_⟩) hHeld ?_ ?_
              rotate_left
              · rintro w' ⟨s0, s1, s2, s3, s4, s5, s6, s7⟩
                go_simp
                with_reducible rfl
              rotate_left
              · simp only [Act.put, List.setIfInBounds_toArray, List.set_cons_zero, List.set_cons_succ, i64_w, i32_w]
                rfl
              refine take_ (i := 2) (N := some 45) (v := ?_) (a' := ?_) #[true, true, true, true, true, false, true, false, false, false, false, false] rfl rfl (take_of HT_.out (by kernel_rfl)) (fun _ _ _ h => h) (Or.inl ⟨by rfl, ?_⟩) hHeld ?_ ?_
              rotate_left
              · rintro w' ⟨s0, s1, s2, s3, s4, s5, s6, s7⟩
                go_simp
                with_reducible rfl
              rotate_left
              · simp only [Act.put, List.setIfInBounds_toArray, List.set_cons_zero, List.set_cons_succ, i64_w, i32_w]
                rfl
              refine take_ (i := 5) (N := some 48) (v := ?_) (a' := ?_) #[true, true, true, true, true, true, true, false, false, false, false, false] rfl rfl (take_of HT_.out (by kernel_rfl)) (fun _ _ _ h => h) (Or.inl ⟨by rfl, ?_⟩) hHeld ?_ ?_
              rotate_left
              · rintro w' ⟨s0, s1, s2, s3, s4, s5, s6, s7⟩
                go_simp
                with_reducible rfl
              rotate_left
              · simp only [Act.put, List.setIfInBounds_toArray, List.set_cons_zero, List.set_cons_succ, i64_w, i32_w]
                rfl
              refine take_ (i := 7) (N := some 50) (v := ?_) (a' := ?_) #[true, true, true, true, true, true, true, true, false, false, false, false] rfl rfl (take_of HT_.out (by kernel_rfl)) (fun _ _ _ h => h) (Or.inl ⟨by rfl, ?_⟩) hHeld ?_ ?_
              rotate_left
              · rintro w' ⟨s0, s1, s2, s3, s4, s5, s6, s7⟩
                go_simp
                with_reducible rfl
              rotate_left
              · simp only [Act.put, List.setIfInBounds_toArray, List.set_cons_zero, List.set_cons_succ, i64_w, i32_w]
                rfl
              refine one_ (i := 8) (N := some 51) #[true, true, true, true, true, true, true, true, true, false, false, false] rfl rfl (one_of HT_.out (by kernel_rfl)) (by decide) (fun K hK => ?_)
              refine goes_ Try.func57 (by kernel_rfl) rfl #[.agg #[.int .i64 a0_0, .int .i64 a0_1, .slice (some ad) l0_2.length c0_2], .int .i64 (a1_1 + k), .int .i64 a1_0, .int .i64 a1_2] (by rfl) rfl rfl (by (try simp only [List.map_toArray, List.map_cons, List.map_nil]); first | done | rfl) ?_
              refine (buffer_row.calls a0_0 a0_1 (a1_1 + k) a1_0 a1_2 ad l0_2.length c0_2 lo hi _ hlo.out hhi.out hlt3.out hhc.out).mono ?_
              rintro e w4 ⟨rfl, hb1⟩
              refine ⟨_, rfl, ?_⟩
              replace hS := buffer_Crop.St.below hS hb1
              replace hO := Aside0.mk (blk_below hO.out hb1)
              replace hu := Aside0.mk (Kd.R_below hu.out hb1)
              clear hb1
              refine hK.out _ _ (buffer_Crop.oc hS hO) (fun hHeld => ?_)
              clear hK K
              refine norm_ (a' := ?_) ?_ ?_
              rotate_left
              · show Act.put _ (some 51) _ = _
                simp only [Act.put, List.setIfInBounds_toArray, List.set_cons_zero, List.set_cons_succ, i64_w, i32_w]
                rfl
              refine one_ (i := 9) (N := some 52) #[true, true, true, true, true, true, true, true, true, true, false, false] rfl rfl (one_of HT_.out (by kernel_rfl)) (by decide) (fun K hK => ?_)
              refine Kd.R_append_rows_step k43 (w0 := w) w.heap.size (by rfl) (.tmp 44) (.tmp 51) 25 43 (.agg #[(.int .u8 0), (.int .u8 0), (.int .u8 0), (.int .u8 0)]) 4 rfl Try.underlying25 info43 rfl (by decide) (by decide) u (buffer_Crop.rows l0_2 W x0 y0 n k) ((l0_2.drop lo).take n) (some (ad.add (lo * 4))) (hi - lo) (hi - lo) (fun _ => True) (fun _ => False) rfl rfl ?aO ?aR (fun _ _ h => h) (fun _ h => h.elim) ?aF ?aB ?aS ?aL ?_
              (case aO => exact hu.out)
              (case aR => exact hrow.out w4 hS.out.2.2.2)
              (case aF => exact fun _ _ => trivial)
              (case aB => exact hS.out.2.2.2)
              (case aS => exact hS.out.2.2.2.size)
              (case aL => exact hcap.out)
              intro v4 w5 ho hb hg hat
              rw [← hrs.out] at ho
              replace hS := buffer_Crop.St.grown hS hu.out hg hb
              replace hO := Aside0.mk (blk_grown hO.out hg (Kd.R_ne hu.out hO.out (by decide)))
              replace hu := Aside0.mk ho
              clear ho hb hg hat
              refine hK.out _ _ (buffer_Crop.oc hS hO) (fun hHeld => ?_)
              clear hK K
              refine norm_ (a' := ?_) ?_ ?_
              rotate_left
              · show Act.put _ (some 52) _ = _
                simp only [Act.put, List.setIfInBounds_toArray, List.set_cons_zero, List.set_cons_succ, i64_w, i32_w]
                rfl
              refine pv_ 10 53 #[true, true, true, true, true, true, true, true, true, true, true, false] HT_ ?_
              refine last_ (i := 11) (N := none) #[true, true, true, true, true, true, true, true, true, true, true, true] rfl rfl (one_of HT_.out (by kernel_rfl)) (by decide) (fun K hK => ?_)
              have hs26 : w5.cell? ⟨g6, 2, none⟩ = some u := (blk_cell hO.out 2).trans rfl
              have hfs26 := blk_frozen hO.out 2
              obtain ⟨Ao, co, eo⟩ := Kd.R_slice hu.out
              subst eo
              refine skip_ (w1 := ?_) (by rfl) rfl ?_ ?_
              rotate_left
              · go_simp
                rfl
              refine hK.out _ _ ?_
              clear hK K
              refine done_ (done_of HT_.out (by kernel_rfl)) ?_
              have ek : wrap64 (a1_1 + k + 1) = a1_1 + k + 1 := by have := hq'.out; have := hH'.out; unfold wrap64; omega
              try go_wp2
              go_roundw
              case measure => simp [intOf, ek]; omega
              case rel =>
                refine ⟨k + 1, .slice Ao (buffer_Crop.rows l0_2 W x0 y0 n (k + 1)).length co, hltm.out, ?_, ⟨?_⟩, ⟨?_⟩, ?_⟩
                · rw [Int.natCast_add, ← Int.add_assoc, ek]; rfl
                · exact Kd.R_mono (Kd.R_far (p := ⟨g6, 2, none⟩) (Kd.R_types hu.out hO.out (by decide)) (fun _ hk => hk.2) _) (fun _ hk => trivial)
                · exact blk_put (cs := #[.int .i64 (a1_2 - a1_0), .int .i64 (a1_3 - a1_1), u]) hO.out 2 _ rfl
                · exact buffer_Crop.St.set hS hG.out 2 _
            · obtain rfl : k = m := by omega
              have hlt' : ¬ (a1_1 + k) < a1_3 := by omega
              obtain ⟨⟨z0, z1, z2⟩, f0, f1, f2⟩ := buffer_Crop.St.zero hS
              have o0 := (blk_cell hO.out 0).trans rfl
              have o1 := (blk_cell hO.out 1).trans rfl
              have o2 := (blk_cell hO.out 2).trans rfl
              obtain ⟨Ao, co, eo⟩ := Kd.R_slice hu.out
              subst eo
              clear hm3 hlt
              go_wp2
              refine bodyPost_ret (results_ct rfl _ _ (w.heap.size + 1 + 1) 27 #[.int .i64 (a1_2 - a1_0), .int .i64 (a1_3 - a1_1), .slice Ao (buffer_Crop.rows l0_2 W x0 y0 n k).length co] (0, 0) _ rfl (retBuf hS.out.2.2.1 _ _ _) Try.underlying27 rfl (by kernel_rfl)) rfl ⟨_, rfl, ?_, below_set (below_set (below_set hS.out.2.2.2 (by omega)) (by omega)) (by omega)⟩
              obtain ⟨e1, e2, e3, e4, e5⟩ := hN.out
              rw [← e1, ← e2, ← e3, ← e4, ← e5]
              exact retBufR hS.out.2.2.1 hu.out
        · rw [if_neg hq] at h
          cases h
end


end Go.Proofs.Ytmockeaiccpogaa.All
