-- The texts behind this claim's law, put together by a program of this session (shake.py): what no text uses is left out. Its words are print.sh's.
import Derived.Test.YtmockeaiccpogaaSBufferCovers15
section
namespace Go.Proofs.Ytmockeaiccpogaa.All
open Go.Proofs.YtmockeaiccpogaaSq
open Go.RowKit Go.Proofs.YtmockeaiccpogaaW.PrintWords Go.Proofs.YtmockeaiccpogaaW.PrintLast Go.Proofs.YtmockeaiccpogaaW.PrintMore
attribute [local go_sem] max2_int min2_int max_two min_two max_three min_three max_four min_four
set_option linter.unusedVariables false
set_option linter.unusedSimpArgs false
section
open Go.Proofs.YtmockeaiccpogaaHand Go.Proofs.YtmockeaiccpogaaSq
def buffer_combine.St (w : World) (a0_0 a0_1 : Int) (A0_2 : Option Addr) (c0_2 : Nat) (l0_2 : List S43) (a1_0 a1_1 : Int) (A1_2 : Option Addr) (c1_2 : Nat) (l1_2 : List S43) (W : World) : Prop :=
  W.heap[w.heap.size]? = some (.cells #[.int .i64 a0_0, .int .i64 a0_1, .slice A0_2 l0_2.length c0_2] 27 (0, 0)) ∧ W.heap[w.heap.size + 1]? = some (.cells #[.int .i64 a1_0, .int .i64 a1_1, .slice A1_2 l1_2.length c1_2] 27 (0, 0)) ∧ W.heap[w.heap.size + 1 + 1]? = some (.cells #[.int .i64 0, .int .i64 0, .slice none 0 0] 27 (0, 0)) ∧ Below w.heap.size w W
theorem buffer_combine.St.below {w : World} {a0_0 a0_1 : Int} {A0_2 : Option Addr} {c0_2 : Nat} {l0_2 : List S43} {a1_0 a1_1 : Int} {A1_2 : Option Addr} {c1_2 : Nat} {l1_2 : List S43} {W W2 : World} (h : Aside0 (buffer_combine.St w a0_0 a0_1 A0_2 c0_2 l0_2 a1_0 a1_1 A1_2 c1_2 l1_2 W)) (hb : Below W.heap.size W W2) : Aside0 (buffer_combine.St w a0_0 a0_1 A0_2 c0_2 l0_2 a1_0 a1_1 A1_2 c1_2 l1_2 W2) :=
  ⟨blk_below h.out.1 hb, blk_below h.out.2.1 hb, blk_below h.out.2.2.1 hb, below_step h.out.2.2.2 hb⟩
theorem buffer_combine.St.cells {w : World} {a0_0 a0_1 : Int} {A0_2 : Option Addr} {c0_2 : Nat} {l0_2 : List S43} {a1_0 a1_1 : Int} {A1_2 : Option Addr} {c1_2 : Nat} {l1_2 : List S43} {W : World} (h : Aside0 (buffer_combine.St w a0_0 a0_1 A0_2 c0_2 l0_2 a1_0 a1_1 A1_2 c1_2 l1_2 W)) :
    W.cell? ⟨w.heap.size, 0, none⟩ = some (.int .i64 a0_0) ∧ W.cell? ⟨w.heap.size, 1, none⟩ = some (.int .i64 a0_1) ∧ W.cell? ⟨w.heap.size, 2, none⟩ = some (.slice A0_2 l0_2.length c0_2) ∧ W.cell? ⟨w.heap.size + 1, 0, none⟩ = some (.int .i64 a1_0) ∧ W.cell? ⟨w.heap.size + 1, 1, none⟩ = some (.int .i64 a1_1) ∧ W.cell? ⟨w.heap.size + 1, 2, none⟩ = some (.slice A1_2 l1_2.length c1_2) :=
  ⟨(blk_cell h.out.1 0).trans rfl, (blk_cell h.out.1 1).trans rfl, (blk_cell h.out.1 2).trans rfl, (blk_cell h.out.2.1 0).trans rfl, (blk_cell h.out.2.1 1).trans rfl, (blk_cell h.out.2.1 2).trans rfl⟩
theorem buffer_combine.St.zero {w : World} {a0_0 a0_1 : Int} {A0_2 : Option Addr} {c0_2 : Nat} {l0_2 : List S43} {a1_0 a1_1 : Int} {A1_2 : Option Addr} {c1_2 : Nat} {l1_2 : List S43} {W : World} (h : Aside0 (buffer_combine.St w a0_0 a0_1 A0_2 c0_2 l0_2 a1_0 a1_1 A1_2 c1_2 l1_2 W)) :
    (W.cell? ⟨w.heap.size + 1 + 1, 0, none⟩ = some (.int .i64 0) ∧ W.cell? ⟨w.heap.size + 1 + 1, 1, none⟩ = some (.int .i64 0) ∧ W.cell? ⟨w.heap.size + 1 + 1, 2, none⟩ = some (.slice none 0 0)) ∧ W.frozen? ⟨w.heap.size + 1 + 1, 0, none⟩ = false ∧ W.frozen? ⟨w.heap.size + 1 + 1, 1, none⟩ = false ∧ W.frozen? ⟨w.heap.size + 1 + 1, 2, none⟩ = false :=
  ⟨⟨(blk_cell h.out.2.2.1 0).trans rfl, (blk_cell h.out.2.2.1 1).trans rfl, (blk_cell h.out.2.2.1 2).trans rfl⟩, blk_frozen h.out.2.2.1 0, blk_frozen h.out.2.2.1 1, blk_frozen h.out.2.2.1 2⟩
theorem buffer_combine.St.row {w : World} {a0_0 a0_1 : Int} {A0_2 : Option Addr} {c0_2 : Nat} {l0_2 : List S43} {a1_0 a1_1 : Int} {A1_2 : Option Addr} {c1_2 : Nat} {l1_2 : List S43} {W W2 : World} (h : Aside0 (buffer_combine.St w a0_0 a0_1 A0_2 c0_2 l0_2 a1_0 a1_1 A1_2 c1_2 l1_2 W)) {g : Nat} (hg : W.grownBy W2 (some g)) (hG : w.heap.size + 1 + 1 < g) : Aside0 (buffer_combine.St w a0_0 a0_1 A0_2 c0_2 l0_2 a1_0 a1_1 A1_2 c1_2 l1_2 W2) :=
  ⟨blk_grown h.out.1 hg (by simp; omega), blk_grown h.out.2.1 hg (by simp; omega), blk_grown h.out.2.2.1 hg (by simp; omega), pw_below_grown h.out.2.2.2 (some g) h.out.2.2.2.size hg (fun _ e => by cases e; omega)⟩
theorem buffer_combine.St.set {w : World} {a0_0 a0_1 : Int} {A0_2 : Option Addr} {c0_2 : Nat} {l0_2 : List S43} {a1_0 a1_1 : Int} {A1_2 : Option Addr} {c1_2 : Nat} {l1_2 : List S43} {W : World} (h : Aside0 (buffer_combine.St w a0_0 a0_1 A0_2 c0_2 l0_2 a1_0 a1_1 A1_2 c1_2 l1_2 W)) {g : Nat} (hg : w.heap.size + 1 + 1 < g) (j : Nat) (v : Value) : Aside0 (buffer_combine.St w a0_0 a0_1 A0_2 c0_2 l0_2 a1_0 a1_1 A1_2 c1_2 l1_2 (W.setCell ⟨g, j, none⟩ v)) :=
  ⟨blk_far h.out.1 (p := ⟨g, j, none⟩) (by simp only; omega) _, blk_far h.out.2.1 (p := ⟨g, j, none⟩) (by simp only; omega) _, blk_far h.out.2.2.1 (p := ⟨g, j, none⟩) (by simp only; omega) _, below_set h.out.2.2.2 (by omega)⟩
def buffer_combine.rows (q : List S43 → List S43 → List S43) (s : List S43) (W SW t0 fr v0 u0 n : Nat) : Nat → List S43 → List S43
  | 0, l => l
  | k + 1, l => over (buffer_combine.rows q s W SW t0 fr v0 u0 n k l) ((t0 + k) * W + fr) (q (((buffer_combine.rows q s W SW t0 fr v0 u0 n k l).drop ((t0 + k) * W + fr)).take n) ((s.drop ((v0 + k) * SW + u0)).take n))
def buffer_combine.out (a0_0 a0_1 a1_0 a1_1 x y : Int) : Prop := x ≤ -a1_0 ∨ y ≤ -a1_1 ∨ x ≥ a0_0 ∨ y ≥ a0_1
instance (a0_0 a0_1 a1_0 a1_1 x y : Int) : Decidable (buffer_combine.out a0_0 a0_1 a1_0 a1_1 x y) := by unfold buffer_combine.out; infer_instance
def buffer_combine.all (q : List S43 → List S43 → List S43) (a0_0 a0_1 : Int) (l : List S43) (a1_0 a1_1 : Int) (s : List S43) (x y : Int) : List S43 :=
  buffer_combine.rows q s a0_0.toNat a1_0.toNat (mx y 0).toNat (mx x 0).toNat (mx y 0 - y).toNat (mx x 0 - x).toNat (mn (x + a1_0) a0_0 - mx x 0).toNat (mn (y + a1_1) a0_1 - mx y 0).toNat l
def buffer_combine.g (q : List S43 → List S43 → List S43) (a0_0 a0_1 : Int) (l : List S43) (a1_0 a1_1 : Int) (s : List S43) (x y : Int) : Option (Int × Int × List S43 × Int) :=
  (buffer_Valid.f a0_0 a0_1 l).bind fun s1 => if s1 = true then (buffer_Valid.f a1_0 a1_1 s).bind fun s2 => if s2 = true then (if buffer_combine.out a0_0 a0_1 a1_0 a1_1 x y then some (a0_0, a0_1, l, 0) else some (a0_0, a0_1, buffer_combine.all q a0_0 a0_1 l a1_0 a1_1 s x y, 0)) else some (0, 0, [], 15) else some (0, 0, [], 15)
theorem buffer_combine.oc {w : World} {a0_0 a0_1 : Int} {A0_2 : Option Addr} {c0_2 : Nat} {l0_2 : List S43} {a1_0 a1_1 : Int} {A1_2 : Option Addr} {c1_2 : Nat} {l1_2 : List S43} {W : World} (h : Aside0 (buffer_combine.St w a0_0 a0_1 A0_2 c0_2 l0_2 a1_0 a1_1 A1_2 c1_2 l1_2 W)) {g6 : Nat} {n m : Int} {u : Value} (hO : Aside0 (W.heap[g6]? = some (.cells #[.int .i64 n, .int .i64 m, u] 27 (0, 0)))) :
    W.cell? ⟨w.heap.size + 1, 0, none⟩ = some (.int .i64 a1_0) ∧ W.cell? ⟨w.heap.size + 1, 1, none⟩ = some (.int .i64 a1_1) ∧ W.cell? ⟨w.heap.size + 1, 2, none⟩ = some (.slice A1_2 l1_2.length c1_2) ∧ W.cell? ⟨g6, 0, none⟩ = some (.int .i64 n) ∧ W.cell? ⟨g6, 1, none⟩ = some (.int .i64 m) ∧ W.cell? ⟨g6, 2, none⟩ = some u :=
  ⟨(blk_cell h.out.2.1 0).trans rfl, (blk_cell h.out.2.1 1).trans rfl, (blk_cell h.out.2.1 2).trans rfl, (blk_cell hO.out 0).trans rfl, (blk_cell hO.out 1).trans rfl, (blk_cell hO.out 2).trans rfl⟩
theorem w64k {x : Int} (h : -9223372036854775808 ≤ x) (h' : x ≤ 9223372036854775807) : wrap64 x = x := by unfold wrap64; omega
theorem rowIdx2 {p x0 n : Nat} (b1 : p + x0 + n ≤ 65536) : wrap64 (wrap64 (p : Int) + x0) = ((p + x0 : Nat) : Int) ∧ wrap64 (wrap64 (p : Int) + (x0 + n)) = ((p + x0 + n : Nat) : Int) := by
  have e1 : wrap64 (p : Int) = p := w64k (by omega) (by omega)
  have e2 : wrap64 ((p : Int) + x0) = p + x0 := w64k (by omega) (by omega)
  have e3 : wrap64 ((p : Int) + (x0 + n)) = p + (x0 + n) := w64k (by omega) (by omega)
  rw [e1, e2, e3]
  constructor <;> omega
theorem rowIdx {W H y x n L : Nat} (hy : y < H) (hx : x + n ≤ W) (hL : L = W * H) (hW : W ≤ 256) (hH : H ≤ 256) :
    wrap64 (wrap64 ((y : Int) * W) + x) = ((y * W + x : Nat) : Int) ∧ wrap64 (wrap64 ((y : Int) * W) + (x + n)) = ((y * W + x + n : Nat) : Int) ∧ y * W + x + n ≤ L ∧ L ≤ 65536 := by
  have m1 : (y + 1) * W ≤ H * W := Nat.mul_le_mul_right W hy
  have m2 : W * H ≤ 256 * 256 := Nat.mul_le_mul hW hH
  rw [Nat.mul_comm H W, Nat.succ_mul] at m1
  rw [← Int.natCast_mul]
  generalize y * W = p at *
  generalize W * H = q at *
  obtain ⟨g1, g2⟩ := rowIdx2 (p := p) (x0 := x) (n := n) (by omega)
  exact ⟨g1, g2, by omega, by omega⟩
theorem buffer_combine.idx {a0_0 a0_1 a1_0 a1_1 x y X M T B : Int} {L L1 : Nat} (ha : (1 ≤ a0_0 ∧ a0_0 ≤ 256) ∧ (1 ≤ a0_1 ∧ a0_1 ≤ 256) ∧ (L : Int) = a0_0 * a0_1 ∧ (1 ≤ a1_0 ∧ a1_0 ≤ 256) ∧ (1 ≤ a1_1 ∧ a1_1 ≤ 256) ∧ (L1 : Int) = a1_0 * a1_1)
    (hN : mx x 0 = X ∧ mn (x + a1_0) a0_0 = M ∧ mx y 0 = T ∧ mn (y + a1_1) a0_1 = B) (hc : -a1_0 < x ∧ -a1_1 < y ∧ x < a0_0 ∧ y < a0_1) {W SW t0 fr v0 u0 n m k : Nat}
    (hD : W = a0_0.toNat ∧ SW = a1_0.toNat ∧ t0 = T.toNat ∧ fr = X.toNat ∧ v0 = (T - y).toNat ∧ u0 = (X - x).toNat ∧ n = (M - X).toNat ∧ m = (B - T).toNat) (hk : k < m) :
    (wrap64 (wrap64 ((T + k) * a0_0) + X) = (((t0 + k) * W + fr : Nat) : Int) ∧ wrap64 (wrap64 ((T + k) * a0_0) + M) = (((t0 + k) * W + fr + n : Nat) : Int) ∧ (t0 + k) * W + fr + n ≤ L ∧ L ≤ 65536) ∧
    (wrap64 (wrap64 ((T + k - y) * a1_0) + (X - x)) = (((v0 + k) * SW + u0 : Nat) : Int) ∧ wrap64 (wrap64 ((T + k - y) * a1_0) + (M - x)) = (((v0 + k) * SW + u0 + n : Nat) : Int) ∧ (v0 + k) * SW + u0 + n ≤ L1 ∧ L1 ≤ 65536) ∧
    (wrap64 (T + k - y) = T + k - y ∧ wrap64 (X - x) = X - x ∧ wrap64 (M - x) = M - x ∧ wrap64 (T + k + 1) = T + k + 1) ∧ 0 < n := by
  obtain ⟨⟨a1, a2⟩, ⟨a3, a4⟩, hL, ⟨a5, a6⟩, ⟨a7, a8⟩, hL1⟩ := ha
  obtain ⟨n1, n2, n3, n4⟩ := hN
  obtain ⟨c1, c2, c3, c4⟩ := hc
  obtain ⟨d1, d2, d3, d4, d5, d6, d7, d8⟩ := hD
  have X1 : 0 ≤ X ∧ x ≤ X ∧ (X = 0 ∨ X = x) := by unfold mx at n1; split at n1 <;> omega
  have T1 : 0 ≤ T ∧ y ≤ T ∧ (T = 0 ∨ T = y) := by unfold mx at n3; split at n3 <;> omega
  have M1 : M ≤ a0_0 ∧ M ≤ x + a1_0 ∧ (M = a0_0 ∨ M = x + a1_0) := by unfold mn at n2; split at n2 <;> omega
  have B1 : B ≤ a0_1 ∧ B ≤ y + a1_1 ∧ (B = a0_1 ∨ B = y + a1_1) := by unfold mn at n4; split at n4 <;> omega
  obtain ⟨H, eH⟩ : ∃ H : Nat, a0_1 = H := ⟨a0_1.toNat, by omega⟩
  obtain ⟨SH, eSH⟩ : ∃ H : Nat, a1_1 = H := ⟨a1_1.toNat, by omega⟩
  have eW : a0_0 = W := by omega
  have eSW : a1_0 = SW := by omega
  have hL2 : L = W * H := by rw [eW, eH, ← Int.natCast_mul] at hL; exact Int.ofNat.inj hL
  have hL3 : L1 = SW * SH := by rw [eSW, eSH, ← Int.natCast_mul] at hL1; exact Int.ofNat.inj hL1
  clear hL hL1 n1 n2 n3 n4
  replace hL2 := Aside0.mk hL2
  replace hL3 := Aside0.mk hL3
  have f1 : T + k = ((t0 + k : Nat) : Int) := by omega
  have f2 : T + k - y = ((v0 + k : Nat) : Int) := by omega
  have f3 : X = (fr : Int) := by omega
  have f4 : M = (fr : Int) + n := by omega
  have f5 : X - x = (u0 : Int) := by omega
  have f6 : M - x = (u0 : Int) + n := by omega
  have g0 : 0 < n := by omega
  have g1 : wrap64 (T + k - y) = T + k - y := w64k (by omega) (by omega)
  have g2 : wrap64 (X - x) = X - x := w64k (by omega) (by omega)
  have g3 : wrap64 (M - x) = M - x := w64k (by omega) (by omega)
  have g4 : wrap64 (T + k + 1) = T + k + 1 := w64k (by omega) (by omega)
  have gg := Aside0.mk (And.intro g1 (And.intro g2 (And.intro g3 g4)))
  clear g1 g2 g3 g4
  have q1 : t0 + k < H := by omega
  have q2 : fr + n ≤ W := by omega
  have q3 : v0 + k < SH := by omega
  have q4 : u0 + n ≤ SW := by omega
  have r1 := rowIdx (W := W) (H := H) (y := t0 + k) (x := fr) (n := n) (L := L) q1 q2 hL2.out (by omega) (by omega)
  have r2 := rowIdx (W := SW) (H := SH) (y := v0 + k) (x := u0) (n := n) (L := L1) q3 q4 hL3.out (by clear r1; omega) (by clear r1; omega)
  refine ⟨?_, ?_, gg.out, g0⟩
  · rw [f1, eW, f4, f3]; exact r1
  · rw [f2, eSW, f6, f5]; exact r2
theorem buffer_combine.some_rows {a0_1 a1_1 y T B : Int} {m : Nat} (h1 : 1 ≤ a0_1) (h2 : 1 ≤ a1_1) (n3 : mx y 0 = T) (n4 : mn (y + a1_1) a0_1 = B) (c2 : -a1_1 < y) (c4 : y < a0_1) (hm : m = (B - T).toNat) : B = T + m ∧ 0 < m := by
  unfold mx at n3
  unfold mn at n4
  split at n3 <;> split at n4 <;> omega
set_option maxHeartbeats 4000000 in
theorem buffer_combine.calls (q : List S43 → List S43 → List S43) (hq : ∀ d s, s.length = d.length → (q d s).length = d.length) (f : FuncId) (fn : Func) (caps : Array Value) (hf : Try.prog.funcs[f]? = some fn) (hname : (fn.name == "runtime.NumGoroutine") = false) (hbody : fn.body.isSome = true)
    (a0_0 a0_1 : Int) (A0_2 : Option Addr) (c0_2 : Nat) (l0_2 : List S43) (a1_0 a1_1 : Int) (A1_2 : Option Addr) (c1_2 : Nat) (l1_2 : List S43) (x y : Int) (r1 r2 : Int) (r3 : List S43) (r4 : Int) (w : World) (hr0_2 : Kd.C k43 w A0_2 l0_2.length l0_2) (hc0_2 : l0_2.length ≤ c0_2) (hr1_2 : Kd.C k43 w A1_2 l1_2.length l1_2) (hc1_2 : l1_2.length ≤ c1_2)
    (hcl : ∀ (W : World) (g lo n cap : Nat) (sa : Addr) (l sr : List S43), Below w.heap.size w W → w.heap.size ≤ g → Kd.R k43 43 W w.heap.size (fun _ => True) (.slice (some ⟨g, 0, none⟩) l.length cap) l → Kd.C k43 w (some sa) n sr → 0 < n → lo + n ≤ l.length → Calls Try.prog f (#[.slice (some ⟨g, lo * 4, none⟩) n n, .slice (some sa) n n] ++ caps) W fun e w' => e = .returned (.tuple #[]) ∧ Kd.R k43 43 w' w.heap.size (fun _ => True) (.slice (some ⟨g, 0, none⟩) l.length cap) (over l lo (q ((l.drop lo).take n) sr)) ∧ W.grownBy w' (some g))
    (h : buffer_combine.g q a0_0 a0_1 l0_2 a1_0 a1_1 l1_2 x y = some (r1, r2, r3, r4)) :
    Calls Try.prog 59 #[.agg #[.int .i64 a0_0, .int .i64 a0_1, .slice A0_2 l0_2.length c0_2], .agg #[.int .i64 a1_0, .int .i64 a1_1, .slice A1_2 l1_2.length c1_2], .int .i64 x, .int .i64 y, .func (.func f) #[] caps] w fun e w' => ∃ v2_ : Value, e = .returned (.tuple #[.agg #[.int .i64 r1, .int .i64 r2, v2_], .int .i64 r4]) ∧ Kd.R k43 43 w' w.heap.size (fun _ => True) v2_ r3 ∧ Below w.heap.size w w' := by
  replace h := Option.bind_eq_some_iff.mp h
  obtain ⟨s1, hs1, h⟩ := h
  have hs := Aside0.mk hs1
  have hCl := Aside0.mk hcl
  have hQ := Aside0.mk hq
  clear hs1 hcl hq
  go_enter Try.func59, Try.ntmps59
  go_wp2_with fail
  obtain ⟨hA0, hB0, hC0, hD0⟩ := allocs3 w (Obj.cells #[.int .i64 a0_0, .int .i64 a0_1, .slice A0_2 l0_2.length c0_2] 27) (Obj.cells #[.int .i64 a1_0, .int .i64 a1_1, .slice A1_2 l1_2.length c1_2] 27) (Obj.cells #[.int .i64 0, .int .i64 0, .slice none 0 0] 27)
  generalize ((w.alloc (Obj.cells #[.int .i64 a0_0, .int .i64 a0_1, .slice A0_2 l0_2.length c0_2] 27)).alloc (Obj.cells #[.int .i64 a1_0, .int .i64 a1_1, .slice A1_2 l1_2.length c1_2] 27)).alloc (Obj.cells #[.int .i64 0, .int .i64 0, .slice none 0 0] 27) = V at hA0 hB0 hC0 hD0 ⊢
  have hS : Aside0 (buffer_combine.St w a0_0 a0_1 A0_2 c0_2 l0_2 a1_0 a1_1 A1_2 c1_2 l1_2 V) := ⟨hA0, hB0, hC0, hD0⟩
  have hR0 := Aside0.mk hr0_2
  have hR1 := Aside0.mk hr1_2
  clear hA0 hB0 hC0 hD0 hr0_2 hr1_2
  refine (buffer_Valid.calls a0_0 a0_1 A0_2 c0_2 l0_2 s1 V (Kd.C_below hR0.out hS.out.2.2.2) hc0_2 hs.out).mono ?_
  rintro e w1 ⟨rfl, hb1⟩
  replace hS := buffer_combine.St.below hS hb1
  clear hb1
  cases s1 with
  | false =>
    obtain ⟨rfl, rfl, rfl, rfl⟩ : 0 = r1 ∧ 0 = r2 ∧ [] = r3 ∧ 15 = r4 := by simpa using h
    clear h
    obtain ⟨⟨z0, z1, z2⟩, f0, f1, f2⟩ := buffer_combine.St.zero hS
    go_wp2
    refine bodyPost_ret (results_ct rfl _ _ (w.heap.size + 1 + 1) 27 #[.int .i64 0, .int .i64 0, .slice none 0 0] (0, 0) _ rfl (retBuf hS.out.2.2.1 0 0 _) Try.underlying27 rfl (by kernel_rfl)) rfl ⟨_, rfl, Kd.R_nil _ _ _ _ _, below_set (below_set (below_set hS.out.2.2.2 (by omega)) (by omega)) (by omega)⟩
  | true =>
    rw [if_pos rfl] at h
    replace h := Option.bind_eq_some_iff.mp h
    obtain ⟨s2, hs2, h⟩ := h
    have hs' := Aside0.mk hs2
    clear hs2
    obtain ⟨b0, b1, b2, d0, d1, d2⟩ := buffer_combine.St.cells hS
    go_wp2_with fail
    clear b0 b1 b2 d0 d1 d2
    refine (buffer_Valid.calls a1_0 a1_1 A1_2 c1_2 l1_2 s2 w1 (Kd.C_below hR1.out hS.out.2.2.2) hc1_2 hs'.out).mono ?_
    rintro e w2 ⟨rfl, hb1⟩
    replace hS := buffer_combine.St.below hS hb1
    clear hb1
    cases s2 with
    | false =>
      obtain ⟨rfl, rfl, rfl, rfl⟩ : 0 = r1 ∧ 0 = r2 ∧ [] = r3 ∧ 15 = r4 := by simpa using h
      clear h
      obtain ⟨⟨z0, z1, z2⟩, f0, f1, f2⟩ := buffer_combine.St.zero hS
      go_wp2
      refine bodyPost_ret (results_ct rfl _ _ (w.heap.size + 1 + 1) 27 #[.int .i64 0, .int .i64 0, .slice none 0 0] (0, 0) _ rfl (retBuf hS.out.2.2.1 0 0 _) Try.underlying27 rfl (by kernel_rfl)) rfl ⟨_, rfl, Kd.R_nil _ _ _ _ _, below_set (below_set (below_set hS.out.2.2.2 (by omega)) (by omega)) (by omega)⟩
    | true =>
      rw [if_pos rfl] at h
      go_wp2_with fail
      obtain ⟨hW, hH, hl⟩ := buffer_Valid.of_valid hs.out
      obtain ⟨hW1, hH1, hl1⟩ := buffer_Valid.of_valid hs'.out
      have hlc : l0_2.length < 35184372088832 := by
        have := Int.mul_le_mul hW.2 hH.2 (by omega) (by omega : (0 : Int) ≤ 256)
        omega
      have hcl : slices_Clone.f l0_2 = some l0_2 := by unfold slices_Clone.f; rw [if_pos hlc]
      have hcl' := Aside0.mk hcl
      clear hlc hcl
      replace hS := buffer_combine.St.below hS (below_drew (Below.refl _ _))
      refine start_ (n := 10) (S := fun w' => w'.cell? ⟨w.heap.size, 0, none⟩ = some (.int .i64 a0_0) ∧ w'.cell? ⟨w.heap.size, 1, none⟩ = some (.int .i64 a0_1) ∧ w'.cell? ⟨w.heap.size, 2, none⟩ = some (.slice A0_2 l0_2.length c0_2) ∧ w'.cell? ⟨w.heap.size + 1, 0, none⟩ = some (.int .i64 a1_0) ∧ w'.cell? ⟨w.heap.size + 1, 1, none⟩ = some (.int .i64 a1_1) ∧ w'.cell? ⟨w.heap.size + 1, 2, none⟩ = some (.slice A1_2 l1_2.length c1_2)) (ds := []) #[false, false, false, false, false, false, false, false, false, false] (by kernel_rfl) rfl rfl (buffer_combine.St.cells hS) (fun hHeld => ?_)
      have HT_ : Aside0 (rtab .any (opsOf Try.f59 3) = rtab .any (opsOf Try.f59 3)) := ⟨rfl⟩
      generalize w2.drew = w3 at hS hHeld ⊢
      refine pv_ 0 25 #[true, false, false, false, false, false, false, false, false, false] HT_ ?_
      refine pv_ 2 27 #[true, false, true, false, false, false, false, false, false, false] HT_ ?_
      refine pv_ 4 29 #[true, false, true, false, true, false, false, false, false, false] HT_ ?_
      refine take_ (i := 1) (N := some 26) (v := ?_) (a' := ?_) #[true, true, true, false, true, false, false, false, false, false] rfl rfl (take_of HT_.out (by kernel_rfl)) (fun _ _ _ h => h) (Or.inl ⟨by rfl, ?_⟩) hHeld ?_ ?_
      rotate_left
      · rintro w' ⟨s0, s1, s2, s3, s4, s5⟩
        go_simp
        with_reducible rfl
      rotate_left
      · simp only [Act.put, List.setIfInBounds_toArray, List.set_cons_zero, List.set_cons_succ, i64_w, i32_w]
        rfl
      refine take_ (i := 3) (N := some 28) (v := ?_) (a' := ?_) #[true, true, true, true, true, false, false, false, false, false] rfl rfl (take_of HT_.out (by kernel_rfl)) (fun _ _ _ h => h) (Or.inl ⟨by rfl, ?_⟩) hHeld ?_ ?_
      rotate_left
      · rintro w' ⟨s0, s1, s2, s3, s4, s5⟩
        go_simp
        with_reducible rfl
      rotate_left
      · simp only [Act.put, List.setIfInBounds_toArray, List.set_cons_zero, List.set_cons_succ, i64_w, i32_w]
        rfl
      refine take_ (i := 5) (N := some 30) (v := ?_) (a' := ?_) #[true, true, true, true, true, true, false, false, false, false] rfl rfl (take_of HT_.out (by kernel_rfl)) (fun _ _ _ h => h) (Or.inl ⟨by rfl, ?_⟩) hHeld ?_ ?_
      rotate_left
      · rintro w' ⟨s0, s1, s2, s3, s4, s5⟩
        go_simp
        with_reducible rfl
      rotate_left
      · simp only [Act.put, List.setIfInBounds_toArray, List.set_cons_zero, List.set_cons_succ, i64_w, i32_w]
        rfl
      refine join_ (σ := Option Addr × Nat × Nat) 1 #[true, true, true, true, true, true, true, true, true, false] (fun s_ => [(31, .slice s_.1 l0_2.length s_.2.1), (12, .pointer (some ⟨s_.2.2, 0, none⟩)), (32, .agg #[.int .i64 a0_0, .int .i64 a0_1, .slice s_.1 l0_2.length s_.2.1])]) (fun s_ w' => buffer_combine.St w a0_0 a0_1 A0_2 c0_2 l0_2 a1_0 a1_1 A1_2 c1_2 l1_2 w' ∧ Kd.R k43 43 w' w.heap.size (fun _ => True) (.slice s_.1 l0_2.length s_.2.1) l0_2 ∧ w'.heap[s_.2.2]? = some (.cells #[.int .i64 0, .int .i64 0, .slice none 0 0] 27 (0, 0)) ∧ w.heap.size + 1 + 1 < s_.2.2) ?_ ?_
      rotate_left
      · intro hCont
        refine two_ (i := 6) (j := 8) (Ni := some 31) (Nj := some 12) #[true, true, true, true, true, true, true, false, false, false] #[true, true, true, true, true, true, false, false, true, false] rfl rfl rfl rfl (two_of HT_.out (by kernel_rfl)) (by decide) (by decide) (fun K hK => ?_) (fun K hK => ?_)
        ·
          refine goes_ Try.func70 (by kernel_rfl) rfl #[.slice A0_2 l0_2.length c0_2] (by rfl) rfl rfl (by (try simp only [List.map_toArray, List.map_cons, List.map_nil]); first | done | rfl) ?_
          refine (slices_Clone.calls A0_2 c0_2 l0_2 l0_2 _ (Kd.C_below hR0.out hS.out.2.2.2) hc0_2 hcl'.out).mono ?_
          rintro e w4 ⟨v, rfl, hv, hb1⟩
          obtain ⟨Ao, co, eo⟩ := Kd.R_slice hv
          subst eo
          refine ⟨_, rfl, ?_⟩
          have hu := Aside0.mk (Kd.R_lower hv hS.out.2.2.2.size)
          replace hS := buffer_combine.St.below hS hb1
          clear hb1 hv
          refine hK.out _ _ (buffer_combine.St.cells hS) (fun hHeld => ?_)
          clear hK K
          refine norm_ (a' := ?_) ?_ ?_
          rotate_left
          · show Act.put _ (some 31) _ = _
            simp only [Act.put, List.setIfInBounds_toArray, List.set_cons_zero, List.set_cons_succ, i64_w, i32_w]
            rfl
          refine pv_ 7 32 #[true, true, true, true, true, true, true, true, false, false] HT_ ?_
          refine one_ (i := 8) (N := some 12) #[true, true, true, true, true, true, true, true, true, false] rfl rfl (one_of HT_.out (by kernel_rfl)) (by decide) (fun K hK => ?_)
          refine box_step ?hg (N := 12) ?hd (cs := #[.int .i64 0, .int .i64 0, .slice none 0 0]) (t := 27) ?hr ?_; (case hd => rfl); (case hg => rfl); (case hr => first | (go_simp; done) | (go_simp; rfl))
          intro g6 hg w5 hbox hb1
          have hG : Aside0 (w.heap.size + 1 + 1 < g6) := ⟨by rw [hg]; exact blk_lt hS.out.2.2.1⟩
          have hO := Aside0.mk hbox
          replace hS := buffer_combine.St.below hS hb1
          replace hu := Aside0.mk (Kd.R_below hu.out hb1)
          clear hb1 hbox hg
          refine hK.out _ _ (buffer_combine.St.cells hS) (fun hHeld => ?_)
          clear hK K
          refine norm_ (a' := ?_) ?_ ?_
          rotate_left
          · show Act.put _ (some 12) _ = _
            simp only [Act.put, List.setIfInBounds_toArray, List.set_cons_zero, List.set_cons_succ, i64_w, i32_w]
            rfl
          exact norm_ (by simp only [putAll, Act.put, List.setIfInBounds_toArray, List.set_cons_zero, List.set_cons_succ]) (hCont (Ao, co, g6) _ ⟨hS.out, hu.out, hO.out, hG.out⟩)
        ·
          refine box_step ?hg (N := 12) ?hd (cs := #[.int .i64 0, .int .i64 0, .slice none 0 0]) (t := 27) ?hr ?_; (case hd => rfl); (case hg => rfl); (case hr => first | (go_simp; done) | (go_simp; rfl))
          intro g6 hg w4 hbox hb1
          have hG : Aside0 (w.heap.size + 1 + 1 < g6) := ⟨by rw [hg]; exact blk_lt hS.out.2.2.1⟩
          have hO := Aside0.mk hbox
          replace hS := buffer_combine.St.below hS hb1
          clear hb1 hbox hg
          refine hK.out _ _ (buffer_combine.St.cells hS) (fun hHeld => ?_)
          clear hK K
          refine norm_ (a' := ?_) ?_ ?_
          rotate_left
          · show Act.put _ (some 12) _ = _
            simp only [Act.put, List.setIfInBounds_toArray, List.set_cons_zero, List.set_cons_succ, i64_w, i32_w]
            rfl
          refine one_ (i := 6) (N := some 31) #[true, true, true, true, true, true, true, false, true, false] rfl rfl (one_of HT_.out (by kernel_rfl)) (by decide) (fun K hK => ?_)
          refine goes_ Try.func70 (by kernel_rfl) rfl #[.slice A0_2 l0_2.length c0_2] (by rfl) rfl rfl (by (try simp only [List.map_toArray, List.map_cons, List.map_nil]); first | done | rfl) ?_
          refine (slices_Clone.calls A0_2 c0_2 l0_2 l0_2 _ (Kd.C_below hR0.out hS.out.2.2.2) hc0_2 hcl'.out).mono ?_
          rintro e w5 ⟨v, rfl, hv, hb1⟩
          obtain ⟨Ao, co, eo⟩ := Kd.R_slice hv
          subst eo
          refine ⟨_, rfl, ?_⟩
          have hu := Aside0.mk (Kd.R_lower hv hS.out.2.2.2.size)
          replace hS := buffer_combine.St.below hS hb1
          replace hO := Aside0.mk (blk_below hO.out hb1)
          clear hb1 hv
          refine hK.out _ _ (buffer_combine.St.cells hS) (fun hHeld => ?_)
          clear hK K
          refine norm_ (a' := ?_) ?_ ?_
          rotate_left
          · show Act.put _ (some 31) _ = _
            simp only [Act.put, List.setIfInBounds_toArray, List.set_cons_zero, List.set_cons_succ, i64_w, i32_w]
            rfl
          refine pv_ 7 32 #[true, true, true, true, true, true, true, true, true, false] HT_ ?_
          exact norm_ (by simp only [putAll, Act.put, List.setIfInBounds_toArray, List.set_cons_zero, List.set_cons_succ]) (hCont (Ao, co, g6) _ ⟨hS.out, hu.out, hO.out, hG.out⟩)
      rintro ⟨Ao, co, g6⟩ w6 ⟨hS', hu', hO', hG'⟩
      replace hS := Aside0.mk hS'
      have hu := Aside0.mk hu'
      have hO := Aside0.mk hO'
      have hG := Aside0.mk hG'
      clear hS' hu' hO' hG' hHeld
      refine norm_ (a' := ?_) ?_ ?_
      rotate_left
      · simp only [putAll, Act.put, List.setIfInBounds_toArray, List.set_cons_zero, List.set_cons_succ]
        rfl
      refine one_ (i := 9) (N := none) #[true, true, true, true, true, true, true, true, true, true] rfl rfl (one_of HT_.out (by kernel_rfl)) (by decide) (fun K hK => ?_)
      have o0 : w6.cell? ⟨g6, 0, none⟩ = some (.int .i64 0) := (blk_cell hO.out 0).trans rfl
      have o1 : w6.cell? ⟨g6, 1, none⟩ = some (.int .i64 0) := (blk_cell hO.out 1).trans rfl
      have o2 : w6.cell? ⟨g6, 2, none⟩ = some (.slice none 0 0) := (blk_cell hO.out 2).trans rfl
      have f0 := blk_frozen hO.out 0
      have f1 := blk_frozen hO.out 1
      have f2 := blk_frozen hO.out 2
      refine skip_ (w1 := ?_) (by rfl) rfl ?_ ?_
      rotate_left
      · go_simp
        rfl
      clear o0 o1 o2 f0 f1 f2
      have hu2 := Aside0.mk (retBufR (n := a0_0) (m := a0_1) (v := .slice Ao l0_2.length co) hO.out hu.out)
      have hO2 := Aside0.mk (retBuf hO.out a0_0 a0_1 (.slice Ao l0_2.length co))
      have hS2 := buffer_combine.St.set (buffer_combine.St.set (buffer_combine.St.set hS hG.out 0 (.int .i64 a0_0)) hG.out 1 (.int .i64 a0_1)) hG.out 2 (.slice Ao l0_2.length co)
      clear hS hu hO
      generalize ((w6.setCell ⟨g6, 0, none⟩ (.int .i64 a0_0)).setCell ⟨g6, 1, none⟩ (.int .i64 a0_1)).setCell ⟨g6, 2, none⟩ (.slice Ao l0_2.length co) = w7 at hu2 hO2 hS2 ⊢
      refine hK.out _ _ (buffer_combine.St.cells hS2) (fun hHeld => ?_)
      clear hK K
      refine done_ (done_of HT_.out (by kernel_rfl)) ?_
      clear hHeld
      have ha := Aside0.mk (And.intro hW (And.intro hH (And.intro hl (And.intro hW1 (And.intro hH1 hl1)))))
      have en1 : wrap64 (-a1_0) = -a1_0 := by unfold wrap64; omega
      have en2 : wrap64 (-a1_1) = -a1_1 := by unfold wrap64; omega
      obtain ⟨b0, b1, b2, d0, d1, d2⟩ := buffer_combine.St.cells hS2
      have o0 : w7.cell? ⟨g6, 0, none⟩ = some (.int .i64 a0_0) := (blk_cell hO2.out 0).trans rfl
      have o1 : w7.cell? ⟨g6, 1, none⟩ = some (.int .i64 a0_1) := (blk_cell hO2.out 1).trans rfl
      have o2 : w7.cell? ⟨g6, 2, none⟩ = some (.slice Ao l0_2.length co) := (blk_cell hO2.out 2).trans rfl
      by_cases ho : buffer_combine.out a0_0 a0_1 a1_0 a1_1 x y
      · rw [if_pos ho] at h
        obtain ⟨rfl, rfl, rfl, rfl⟩ : a0_0 = r1 ∧ a0_1 = r2 ∧ l0_2 = r3 ∧ 0 = r4 := by simpa using h
        clear h
        obtain ⟨⟨z0, z1, z2⟩, f0, f1, f2⟩ := buffer_combine.St.zero hS2
        have hcs : x ≤ -a1_0 ∨ (¬ x ≤ -a1_0 ∧ y ≤ -a1_1) ∨ (¬ x ≤ -a1_0 ∧ ¬ y ≤ -a1_1 ∧ a0_0 ≤ x) ∨ (¬ x ≤ -a1_0 ∧ ¬ y ≤ -a1_1 ∧ ¬ a0_0 ≤ x ∧ a0_1 ≤ y) := by unfold buffer_combine.out at ho; omega
        clear ho hW hH hl hW1 hH1 hl1
        rcases hcs with c1 | ⟨c1, c2⟩ | ⟨c1, c2, c3⟩ | ⟨c1, c2, c3, c4⟩
        all_goals
          go_wp2
          refine bodyPost_ret (results_ct rfl _ _ (w.heap.size + 1 + 1) 27 #[.int .i64 a0_0, .int .i64 a0_1, .slice Ao l0_2.length co] (0, 0) _ rfl (retBuf hS2.out.2.2.1 _ _ _) Try.underlying27 rfl (by kernel_rfl)) rfl ⟨_, rfl, retBufR hS2.out.2.2.1 hu2.out, below_set (below_set (below_set hS2.out.2.2.2 (by omega)) (by omega)) (by omega)⟩
      · rw [if_neg ho] at h
        obtain ⟨rfl, rfl, rfl, rfl⟩ : a0_0 = r1 ∧ a0_1 = r2 ∧ buffer_combine.all q a0_0 a0_1 l0_2 a1_0 a1_1 l1_2 x y = r3 ∧ 0 = r4 := by simpa using h
        clear h
        have c1 : ¬ x ≤ -a1_0 := fun c => ho (by unfold buffer_combine.out; omega)
        have c2 : ¬ y ≤ -a1_1 := fun c => ho (by unfold buffer_combine.out; omega)
        have c3 : ¬ a0_0 ≤ x := fun c => ho (by unfold buffer_combine.out; omega)
        have c4 : ¬ a0_1 ≤ y := fun c => ho (by unfold buffer_combine.out; omega)
        clear ho
        have e1 : wrap64 (x + a1_0) = x + a1_0 := by unfold wrap64; omega
        have e2 : wrap64 (y + a1_1) = y + a1_1 := by unfold wrap64; omega
        clear hW hH hl hW1 hH1 hl1
        obtain ⟨X, hX⟩ : ∃ X, mx x 0 = X := ⟨_, rfl⟩
        obtain ⟨M, hM⟩ : ∃ M, mn (x + a1_0) a0_0 = M := ⟨_, rfl⟩
        obtain ⟨T, hT⟩ : ∃ T, mx y 0 = T := ⟨_, rfl⟩
        obtain ⟨B, hB⟩ : ∃ B, mn (y + a1_1) a0_1 = B := ⟨_, rfl⟩
        have hX' : (if x < 0 then 0 else x) = X := hX
        have hM' : (if a0_0 < x + a1_0 then a0_0 else x + a1_0) = M := hM
        have hT' : (if y < 0 then 0 else y) = T := hT
        have hB' : (if a0_1 < y + a1_1 then a0_1 else y + a1_1) = B := hB
        have hN := Aside0.mk (And.intro hX (And.intro hM (And.intro hT hB)))
        clear hX hM hT hB
        go_wp2
        go_quiet (fail)
        go_wp2_with fail
        clear b0 b1 b2 d0 d1 d2 o0 o1 o2 hX' hM' hT' hB' en1 en2
        replace hS2 := buffer_combine.St.below hS2 (pw_below_drewN (Below.refl _ _) nq)
        replace hO2 := Aside0.mk (blk_drewN hO2.out nq)
        replace hu2 := Aside0.mk (Kd.R_drewN hu2.out nq)
        generalize w7.drewN nq = w8 at hS2 hO2 hu2 ⊢
        have hpos : 0 < l0_2.length := by
          obtain ⟨q1, q2, q3, _⟩ := ha.out
          have := Int.mul_pos (show 0 < a0_0 by omega) (show 0 < a0_1 by omega)
          omega
        have hpos1 : 0 < l1_2.length := by
          obtain ⟨_, _, _, q1, q2, q3⟩ := ha.out
          have := Int.mul_pos (show 0 < a1_0 by omega) (show 0 < a1_1 by omega)
          omega
        obtain ⟨ad, eA, _⟩ := hR1.out.2.2 hpos1
        subst eA
        obtain ⟨g7, co', eo, gb, gl, cl, HG⟩ := Kd.R_form hu2.out hpos
        injection eo with ea en ec
        subst ea ec
        have hn1 := Kd.R_ne hu2.out hS2.out.1 (by decide)
        have hn2 := Kd.R_ne hu2.out hS2.out.2.1 (by decide)
        have hn3 := Kd.R_ne hu2.out hS2.out.2.2.1 (by decide)
        have hn6 := Kd.R_ne hu2.out hO2.out (by decide)
        simp only [Value.ownBlock, ne_eq, Option.some.injEq] at hn1 hn2 hn3 hn6
        have hG7 : Aside0 (w.heap.size + 1 + 1 < g7 ∧ g6 ≠ g7) := ⟨by refine ⟨?_, hn6⟩; omega⟩
        clear hn1 hn2 hn3 hn6 HG gl cl hpos hpos1 gb
        obtain ⟨W, hWn⟩ : ∃ W, W = a0_0.toNat := ⟨_, rfl⟩
        obtain ⟨SW, hSWn⟩ : ∃ SW, SW = a1_0.toNat := ⟨_, rfl⟩
        obtain ⟨t0, ht0⟩ : ∃ t0, t0 = T.toNat := ⟨_, rfl⟩
        obtain ⟨fr, hfr⟩ : ∃ fr, fr = X.toNat := ⟨_, rfl⟩
        obtain ⟨v0, hv0⟩ : ∃ v0, v0 = (T - y).toNat := ⟨_, rfl⟩
        obtain ⟨u0, hu0⟩ : ∃ u0, u0 = (X - x).toNat := ⟨_, rfl⟩
        obtain ⟨n, hn⟩ : ∃ n, n = (M - X).toNat := ⟨_, rfl⟩
        obtain ⟨m, hm⟩ : ∃ m, m = (B - T).toNat := ⟨_, rfl⟩
        have hD := Aside0.mk (And.intro hWn (And.intro hSWn (And.intro ht0 (And.intro hfr (And.intro hv0 (And.intro hu0 (And.intro hn hm)))))))
        have hc := Aside0.mk (And.intro c1 (And.intro c2 (And.intro c3 c4)))
        clear hWn hSWn ht0 hfr hv0 hu0 hn hm c1 c2 c3 c4
        have hB0 : Aside0 (B = T + m ∧ 0 < m) := ⟨buffer_combine.some_rows ha.out.2.1.1 ha.out.2.2.2.2.1.1 hN.out.2.2.1 hN.out.2.2.2 hc.out.2.1 hc.out.2.2.2 hD.out.2.2.2.2.2.2.2⟩
        go_loopw [15] (fun v w' => ∃ (k : Nat), k ≤ m ∧ v = .int .i64 (T + k) ∧ Aside0 (Kd.R k43 43 w' w.heap.size (fun _ => True) (.slice (some ⟨g7, 0, none⟩) l0_2.length co) (buffer_combine.rows q l1_2 W SW t0 fr v0 u0 n k l0_2)) ∧ Aside0 (w'.heap[g6]? = some (.cells #[.int .i64 a0_0, .int .i64 a0_1, .slice (some ⟨g7, 0, none⟩) l0_2.length co] 27 (0, 0))) ∧ Aside0 (buffer_combine.St w a0_0 a0_1 A0_2 c0_2 l0_2 a1_0 a1_1 (some ad) c1_2 l1_2 w')) (fun v _ => (B - intOf v).toNat)
        case atStart => exact ⟨0, Nat.zero_le _, by simp, hu2, hO2, hS2⟩
        case round =>
          clear hu2 hO2 hS2
          obtain ⟨k, hk, rfl, hu, hO, hS⟩ := hrel
          obtain ⟨b0, b1, b2, d0, d1, d2⟩ := buffer_combine.St.cells hS
          have hB' : (if a0_1 < y + a1_1 then a0_1 else y + a1_1) = B := hN.out.2.2.2
          by_cases hlt : k < m
          · have hlt' : T + (k : Int) < B := by have := hB0.out; omega
            obtain ⟨⟨i1, i2, i3, i4⟩, ⟨i5, i6, i7, i8⟩, ⟨i9, i10, i11, i12⟩, i13⟩ := buffer_combine.idx ha.out hN.out hc.out hD.out hlt
            obtain ⟨lo, elo⟩ : ∃ lo, lo = (t0 + k) * W + fr := ⟨_, rfl⟩
            obtain ⟨so, eso⟩ : ∃ so, so = (v0 + k) * SW + u0 := ⟨_, rfl⟩
            rw [← elo] at i1 i2 i3
            rw [← eso] at i5 i6 i7
            have hlo := Aside0.mk i1
            have hhi := Aside0.mk i2
            have hll := Aside0.mk i3
            have hso := Aside0.mk i5
            have hsi := Aside0.mk i6
            have hsl := Aside0.mk i7
            have hn0 := Aside0.mk i13
            have hk1 := Aside0.mk i12
            have j9 := Aside0.mk i9
            have j10 := Aside0.mk i10
            have j11 := Aside0.mk i11
            obtain ⟨lr, elr⟩ : ∃ lr, buffer_combine.rows q l1_2 W SW t0 fr v0 u0 n k l0_2 = lr := ⟨_, rfl⟩
            have hrs : Aside0 (buffer_combine.rows q l1_2 W SW t0 fr v0 u0 n (k + 1) l0_2 = over lr lo (q ((lr.drop lo).take n) ((l1_2.drop so).take n))) := ⟨by rw [elo, eso, ← elr]; rfl⟩
            rw [elr] at hu
            have hlen : Aside0 (lr.length = l0_2.length) := ⟨by have := (Kd.R_reads' hu.out).1; omega⟩
            have hhc : Aside0 (lo + n ≤ co) := ⟨Nat.le_trans i3 (Kd.R_reads' hu.out).2.1⟩
            have hsc : Aside0 (so + n ≤ c1_2) := ⟨Nat.le_trans i7 hc1_2⟩
            have hkm := Aside0.mk hlt
            clear i1 i2 i3 i4 i5 i6 i7 i8 i9 i10 i11 i12 i13 elo eso elr hlt
            go_wp2_with fail
            refine start_ (n := 18) (S := fun w' => w'.cell? ⟨w.heap.size + 1, 0, none⟩ = some (.int .i64 a1_0) ∧ w'.cell? ⟨w.heap.size + 1, 1, none⟩ = some (.int .i64 a1_1) ∧ w'.cell? ⟨w.heap.size + 1, 2, none⟩ = some (.slice (some ad) l1_2.length c1_2) ∧ w'.cell? ⟨g6, 0, none⟩ = some (.int .i64 a0_0) ∧ w'.cell? ⟨g6, 1, none⟩ = some (.int .i64 a0_1) ∧ w'.cell? ⟨g6, 2, none⟩ = some (.slice (some ⟨g7, 0, none⟩) l0_2.length co)) (ds := []) #[false, false, false, false, false, false, false, false, false, false, false, false, false, false, false, false, false, false] (by kernel_rfl) rfl rfl (buffer_combine.oc hS hO) (fun hHeld => ?_)
            have HT_ : Aside0 (rtab .any (opsOf Try.f59 10) = rtab .any (opsOf Try.f59 10)) := ⟨rfl⟩
            replace hu := Aside0.mk (Kd.R_drew hu.out)
            replace hO := Aside0.mk (blk_drew hO.out)
            replace hS := buffer_combine.St.below hS (below_drew (Below.refl _ _))
            generalize wr.drew = w9 at hu hO hS hHeld ⊢
            refine pv_ 0 80 #[true, false, false, false, false, false, false, false, false, false, false, false, false, false, false, false, false, false] HT_ ?_
            refine pv_ 2 82 #[true, false, true, false, false, false, false, false, false, false, false, false, false, false, false, false, false, false] HT_ ?_
            refine pv_ 3 83 #[true, false, true, true, false, false, false, false, false, false, false, false, false, false, false, false, false, false] HT_ ?_
            refine pv_ 4 84 #[true, false, true, true, true, false, false, false, false, false, false, false, false, false, false, false, false, false] HT_ ?_
            refine pv_ 7 87 #[true, false, true, true, true, false, false, true, false, false, false, false, false, false, false, false, false, false] HT_ ?_
            refine pv_ 8 88 #[true, false, true, true, true, false, false, true, true, false, false, false, false, false, false, false, false, false] HT_ ?_
            refine pv_ 9 89 #[true, false, true, true, true, false, false, true, true, true, false, false, false, false, false, false, false, false] HT_ ?_
            refine pv_ 10 90 #[true, false, true, true, true, false, false, true, true, true, true, false, false, false, false, false, false, false] HT_ ?_
            refine pv_ 11 91 #[true, false, true, true, true, false, false, true, true, true, true, true, false, false, false, false, false, false] HT_ ?_
            refine pv_ 12 92 #[true, false, true, true, true, false, false, true, true, true, true, true, true, false, false, false, false, false] HT_ ?_
            refine pv_ 13 93 #[true, false, true, true, true, false, false, true, true, true, true, true, true, true, false, false, false, false] HT_ ?_
            refine pv_ 14 94 #[true, false, true, true, true, false, false, true, true, true, true, true, true, true, true, false, false, false] HT_ ?_
            refine pv_ 15 95 #[true, false, true, true, true, false, false, true, true, true, true, true, true, true, true, true, false, false] HT_ ?_
            refine take_ (i := 1) (N := some 81) (v := ?_) (a' := ?_) #[true, true, true, true, true, false, false, true, true, true, true, true, true, true, true, true, false, false] rfl rfl (take_of HT_.out (by kernel_rfl)) (fun _ _ _ h => h) (Or.inl ⟨by rfl, ?_⟩) hHeld ?_ ?_
            rotate_left
            · rintro w' ⟨s0, s1, s2, s3, s4, s5⟩
              go_simp
              with_reducible rfl
            rotate_left
            · simp only [Act.put, List.setIfInBounds_toArray, List.set_cons_zero, List.set_cons_succ, i64_w, i32_w]
              rfl
            refine take_ (i := 6) (N := some 86) (v := ?_) (a' := ?_) #[true, true, true, true, true, false, true, true, true, true, true, true, true, true, true, true, false, false] rfl rfl (take_of HT_.out (by kernel_rfl)) (fun _ _ _ h => h) (Or.inl ⟨by rfl, ?_⟩) hHeld ?_ ?_
            rotate_left
            · rintro w' ⟨s0, s1, s2, s3, s4, s5⟩
              go_simp
              with_reducible rfl
            rotate_left
            · simp only [Act.put, List.setIfInBounds_toArray, List.set_cons_zero, List.set_cons_succ, i64_w, i32_w]
              rfl
            refine one_ (i := 5) (N := some 85) #[true, true, true, true, true, true, true, true, true, true, true, true, true, true, true, true, false, false] rfl rfl (one_of HT_.out (by kernel_rfl)) (by decide) (fun K hK => ?_)
            refine goes_ Try.func57 (by kernel_rfl) rfl #[.agg #[.int .i64 a0_0, .int .i64 a0_1, .slice (some ⟨g7, 0, none⟩) l0_2.length co], .int .i64 (T + k), .int .i64 X, .int .i64 M] (by rfl) rfl rfl (by (try simp only [List.map_toArray, List.map_cons, List.map_nil]); first | done | rfl) ?_
            refine (buffer_row.calls a0_0 a0_1 (T + k) X M ⟨g7, 0, none⟩ l0_2.length co lo (lo + n) _ hlo.out hhi.out (Nat.lt_add_of_pos_right hn0.out) hhc.out).mono ?_
            rintro e w10 ⟨rfl, hb1⟩
            refine ⟨_, rfl, ?_⟩
            rw [add_plain, Nat.add_sub_cancel_left]
            replace hS := buffer_combine.St.below hS hb1
            replace hO := Aside0.mk (blk_below hO.out hb1)
            replace hu := Aside0.mk (Kd.R_below hu.out hb1)
            clear hb1
            refine hK.out _ _ (buffer_combine.oc hS hO) (fun hHeld => ?_)
            clear hK K
            refine norm_ (a' := ?_) ?_ ?_
            rotate_left
            · show Act.put _ (some 85) _ = _
              simp only [Act.put, List.setIfInBounds_toArray, List.set_cons_zero, List.set_cons_succ, i64_w, i32_w]
              rfl
            refine one_ (i := 16) (N := some 96) #[true, true, true, true, true, true, true, true, true, true, true, true, true, true, true, true, true, false] rfl rfl (one_of HT_.out (by kernel_rfl)) (by decide) (fun K hK => ?_)
            refine goes_ Try.func57 (by kernel_rfl) rfl #[.agg #[.int .i64 a1_0, .int .i64 a1_1, .slice (some ad) l1_2.length c1_2], .int .i64 (wrap64 (T + k - y)), .int .i64 (wrap64 (X - x)), .int .i64 (wrap64 (M - x))] (by rfl) rfl rfl (by (try simp only [List.map_toArray, List.map_cons, List.map_nil]); first | done | rfl) ?_
            rw [j9.out, j10.out, j11.out]
            refine (buffer_row.calls a1_0 a1_1 (T + k - y) (X - x) (M - x) ad l1_2.length c1_2 so (so + n) _ hso.out hsi.out (Nat.lt_add_of_pos_right hn0.out) hsc.out).mono ?_
            rintro e w11 ⟨rfl, hb1⟩
            refine ⟨_, rfl, ?_⟩
            rw [Nat.add_sub_cancel_left]
            replace hS := buffer_combine.St.below hS hb1
            replace hO := Aside0.mk (blk_below hO.out hb1)
            replace hu := Aside0.mk (Kd.R_below hu.out hb1)
            clear hb1
            refine hK.out _ _ (buffer_combine.oc hS hO) (fun hHeld => ?_)
            clear hK K
            refine norm_ (a' := ?_) ?_ ?_
            rotate_left
            · show Act.put _ (some 96) _ = _
              simp only [Act.put, List.setIfInBounds_toArray, List.set_cons_zero, List.set_cons_succ, i64_w, i32_w]
              rfl
            refine one_ (i := 17) (N := some 97) #[true, true, true, true, true, true, true, true, true, true, true, true, true, true, true, true, true, true] rfl rfl (one_of HT_.out (by kernel_rfl)) (by decide) (fun K hK => ?_)
            refine goesV_ hf hname hbody (#[.slice (some ⟨g7, lo * 4, none⟩) n n, .slice (some (ad.add (so * 4))) n n] ++ caps) (by rfl) rfl rfl rfl (by (try simp only [List.map_toArray, List.map_cons, List.map_nil]); rfl) ?_
            have hLr := hlen.out
            have hcall := hCl.out w11 g7 lo n co (ad.add (so * 4)) lr ((l1_2.drop so).take n) hS.out.2.2.2 (Nat.le_of_lt (Nat.lt_of_le_of_lt (by omega) hG7.out.1)) (by rw [hLr]; exact hu.out) (midC hR1.out hn0.out hsl.out hc1_2) hn0.out (by rw [hLr]; exact hll.out)
            refine hcall.mono ?_
            rintro e w13 ⟨rfl, hu3, hg3⟩
            refine ⟨_, rfl, ?_⟩
            rw [← hrs.out, hLr] at hu3
            replace hS := buffer_combine.St.row hS hg3 hG7.out.1
            replace hO := Aside0.mk (blk_grown hO.out hg3 (by simp only [ne_eq, Option.some.injEq]; exact hG7.out.2))
            replace hu := Aside0.mk hu3
            clear hu3 hg3 hcall
            refine hK.out _ _ (buffer_combine.oc hS hO) (fun hHeld => ?_)
            clear hK K
            refine norm_ (a' := ?_) ?_ ?_
            rotate_left
            · show Act.put _ (some 97) _ = _
              simp only [Act.put, List.setIfInBounds_toArray, List.set_cons_zero, List.set_cons_succ, i64_w, i32_w]
              rfl
            refine done_ (done_of HT_.out (by kernel_rfl)) ?_
            have hk2 := hk1.out
            try go_wp2
            go_roundw
            case measure => simp [intOf, hk2]; omega
            case rel =>
              exact ⟨k + 1, hkm.out, by rw [Int.natCast_add, ← Int.add_assoc]; rfl, hu⟩
          · obtain rfl : k = m := by omega
            have hlt' : ¬ T + (k : Int) < B := by have := hB0.out; omega
            obtain ⟨⟨z0, z1, z2⟩, f0, f1, f2⟩ := buffer_combine.St.zero hS
            have o0 : wr.cell? ⟨g6, 0, none⟩ = some (.int .i64 a0_0) := (blk_cell hO.out 0).trans rfl
            have o1 : wr.cell? ⟨g6, 1, none⟩ = some (.int .i64 a0_1) := (blk_cell hO.out 1).trans rfl
            have o2 : wr.cell? ⟨g6, 2, none⟩ = some (.slice (some ⟨g7, 0, none⟩) l0_2.length co) := (blk_cell hO.out 2).trans rfl
            clear hlt
            go_wp2
            refine bodyPost_ret (results_ct rfl _ _ (w.heap.size + 1 + 1) 27 #[.int .i64 a0_0, .int .i64 a0_1, .slice (some ⟨g7, 0, none⟩) l0_2.length co] (0, 0) _ rfl (retBuf hS.out.2.2.1 _ _ _) Try.underlying27 rfl (by kernel_rfl)) rfl ⟨_, rfl, ?_, below_set (below_set (below_set hS.out.2.2.2 (by omega)) (by omega)) (by omega)⟩
            obtain ⟨e1, e2, e3, e4⟩ := hN.out
            obtain ⟨e5, e6, e7, e8, e9, e10, e11, e12⟩ := hD.out
            unfold buffer_combine.all
            rw [e1, e2, e3, e4, ← e5, ← e6, ← e7, ← e8, ← e9, ← e10, ← e11, ← e12]
            exact retBufR hS.out.2.2.1 hu.out
end
end Go.Proofs.Ytmockeaiccpogaa.All
end
section
namespace Go.Proofs.Ytmockeaiccpogaa.All
open Go.RowKit Go.Proofs.YtmockeaiccpogaaW.PrintWords Go.Proofs.YtmockeaiccpogaaW.PrintLast Go.Proofs.YtmockeaiccpogaaW.PrintMore
attribute [local go_sem] max2_int min2_int max_two min_two max_three min_three max_four min_four
set_option linter.unusedVariables false
set_option linter.unusedSimpArgs false
section
open Go.Proofs.YtmockeaiccpogaaHand Go.Proofs.YtmockeaiccpogaaSq
theorem buffer_Paste.lit_calls (w W : World) (g lo n cap base : Nat) (sa : Addr) (l sr : List S43) (hb : Below w.heap.size w W) (hR : Kd.R k43 43 W base (fun _ => True) (.slice (some ⟨g, 0, none⟩) l.length cap) l) (hC : Kd.C k43 w (some sa) n sr) (hn : 0 < n) (hfit : lo + n ≤ l.length) :
    Calls Try.prog 60 #[.slice (some ⟨g, lo * 4, none⟩) n n, .slice (some sa) n n] W fun e w' => e = .returned (.tuple #[]) ∧ Kd.R k43 43 w' base (fun _ => True) (.slice (some ⟨g, 0, none⟩) l.length cap) (over l lo sr) ∧ W.grownBy w' (some g) := by
  have hC2 := pcells_at (Kd.C_below hC hb)
  have hln := hC.1
  go_enter Try.func60, Try.ntmps60
  go_wp2_with (first | ((with_reducible refine gate_builtin (b := .copy) (xs := #[.tmp 4, .tmp 5]) rfl ?_); refine copyR rfl (.tmp 4) (.tmp 5) rfl rfl rfl hR hC2 ?hn ?hf ?_; (case hn => rw [hln]; exact (Nat.min_self n).symm); (case hf => omega); intro w2 hR2 hg2))
  go_end0
  exact ⟨rfl, hR2, hg2⟩
def buffer_Paste.f (a0_0 a0_1 : Int) (l : List S43) (a1_0 a1_1 : Int) (s : List S43) (x y : Int) : Option (Int × Int × List S43 × Int) := buffer_combine.g (fun _ s => s) a0_0 a0_1 l a1_0 a1_1 s x y
set_option maxHeartbeats 2000000 in
theorem buffer_Paste.calls (a0_0 a0_1 : Int) (A0_2 : Option Addr) (c0_2 : Nat) (l0_2 : List S43) (a1_0 a1_1 : Int) (A1_2 : Option Addr) (c1_2 : Nat) (l1_2 : List S43) (x y : Int) (r1 r2 : Int) (r3 : List S43) (r4 : Int) (w : World) (hr0_2 : Kd.C k43 w A0_2 l0_2.length l0_2) (hc0_2 : l0_2.length ≤ c0_2) (hr1_2 : Kd.C k43 w A1_2 l1_2.length l1_2) (hc1_2 : l1_2.length ≤ c1_2)
    (h : buffer_Paste.f a0_0 a0_1 l0_2 a1_0 a1_1 l1_2 x y = some (r1, r2, r3, r4)) :
    Calls Try.prog 32 #[.agg #[.int .i64 a0_0, .int .i64 a0_1, .slice A0_2 l0_2.length c0_2], .agg #[.int .i64 a1_0, .int .i64 a1_1, .slice A1_2 l1_2.length c1_2], .int .i64 x, .int .i64 y] w fun e w' => ∃ v2_ : Value, e = .returned (.tuple #[.agg #[.int .i64 r1, .int .i64 r2, v2_], .int .i64 r4]) ∧ Kd.R k43 43 w' w.heap.size (fun _ => True) v2_ r3 ∧ Below w.heap.size w w' := by
  have hh := Aside0.mk h
  clear h
  go_enter Try.func32, Try.ntmps32
  go_wp2_with fail
  obtain ⟨hA0, hB0, hC0, hD0⟩ := allocs3 w (Obj.cells #[.int .i64 a0_0, .int .i64 a0_1, .slice A0_2 l0_2.length c0_2] 27) (Obj.cells #[.int .i64 a1_0, .int .i64 a1_1, .slice A1_2 l1_2.length c1_2] 27) (Obj.cells #[.int .i64 0, .int .i64 0, .slice none 0 0] 27)
  generalize ((w.alloc (Obj.cells #[.int .i64 a0_0, .int .i64 a0_1, .slice A0_2 l0_2.length c0_2] 27)).alloc (Obj.cells #[.int .i64 a1_0, .int .i64 a1_1, .slice A1_2 l1_2.length c1_2] 27)).alloc (Obj.cells #[.int .i64 0, .int .i64 0, .slice none 0 0] 27) = V at hA0 hB0 hC0 hD0 ⊢
  have hR0 := Aside0.mk (Kd.C_below hr0_2 hD0)
  have hR1 := Aside0.mk (Kd.C_below hr1_2 hD0)
  have hC := Aside0.mk hC0
  have hD := Aside0.mk hD0
  clear hA0 hB0 hC0 hD0 hr0_2 hr1_2
  refine (buffer_combine.calls (fun _ s => s) (fun d s h => h) 60 Try.f60 #[] Try.func60 (by kernel_rfl) rfl a0_0 a0_1 A0_2 c0_2 l0_2 a1_0 a1_1 A1_2 c1_2 l1_2 x y r1 r2 r3 r4 V hR0.out hc0_2 hR1.out hc1_2 ?hcl hh.out).mono ?_
  case hcl =>
    intro W g lo n cap sa l sr hb hg hR hC hn hl
    exact buffer_Paste.lit_calls V W g lo n cap V.heap.size sa l sr hb hR hC hn hl
  rintro e w1 ⟨v, rfl, hv, hb1⟩
  obtain ⟨Ao, co, eo⟩ := Kd.R_slice hv
  subst eo
  have hu := Aside0.mk (Kd.R_lower hv hD.out.size)
  replace hC := Aside0.mk (blk_below hC.out hb1)
  replace hD := Aside0.mk (below_step hD.out hb1)
  clear hv hb1 hR0 hR1
  have z0 := (blk_cell hC.out 0).trans rfl
  have z1 := (blk_cell hC.out 1).trans rfl
  have z2 := (blk_cell hC.out 2).trans rfl
  have f0 := blk_frozen hC.out 0
  have f1 := blk_frozen hC.out 1
  have f2 := blk_frozen hC.out 2
  go_wp2
  exact bodyPost_ret (results_ct rfl _ _ (w.heap.size + 1 + 1) 27 #[.int .i64 r1, .int .i64 r2, .slice Ao r3.length co] (0, 0) _ rfl (retBuf hC.out _ _ _) Try.underlying27 rfl (by kernel_rfl)) rfl ⟨_, rfl, retBufR hC.out hu.out, below_set (below_set (below_set hD.out (by omega)) (by omega)) (by omega)⟩
end
end Go.Proofs.Ytmockeaiccpogaa.All
end
