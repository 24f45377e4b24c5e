-- The texts behind this claim's law, put together by a program of this session (shake.py): what no text uses is left out. Its words are print.sh's.
import Derived.Test.YtdhjbdofklglgaaProg
import Derived.Below
import Derived.Deep.Draws
import Derived.Deep.AppendLies
import Derived.Maps.AppendAt
import Derived.OwnWalk
import Derived.Laws.BytesArg
import Derived.Laws.MakeOwn
import Derived.Laws.OwnMore
import Derived.Deep.OwnRows
import Derived.Tactics
import Derived.Lib.ConvBytes
import Derived.Laws.Slices
import Derived.WalkKit
import Derived.KernelRfl
import Derived.RowKit3
import Derived.Deep.LoopGhost
import Derived.Deep.QuietTactic
import Derived.BigQuiet
import Derived.WideLaws
import Derived.Deep.DeepCutAuto
import Derived.Deep.CutBlock
import Derived.Deep.RegionHeld3
import Derived.Laws.Rows
import Derived.Lib.AppendStr
import Derived.ArgAppend
import Derived.Laws.IdiomCopy
import Derived.OrdersHeld
import Derived.Laws.BitsLemmas
import Derived.RowKit
import Derived.Test.YtdhjbdofklglgaaSPixelOverAssociativity12
section
namespace Go.Proofs.Ytdhjbdofklglgaa.All
open Go.RowKit Go.Proofs.YtdhjbdofklglgaaW.PrintWords Go.Proofs.YtdhjbdofklglgaaW.PrintLast Go.Proofs.YtdhjbdofklglgaaW.PrintMore
attribute [local go_sem] max2_int min2_int max_two min_two max_three min_three max_four min_four
set_option linter.unusedVariables false
set_option linter.unusedSimpArgs false
def errW : Option Int → Value
  | none => .nilIface
  | some c => .iface 0 (.int .i64 c)
theorem errW_none : errW none = .nilIface := rfl
theorem errW_some (c : Int) : errW (some c) = .iface 0 (.int .i64 c) := rfl
structure S23 where
  f0 : Int
  f1 : Int
  f2 : Int
  f3 : Int
def z23 : S23 := ⟨(0 : Int), (0 : Int), (0 : Int), (0 : Int)⟩
def k23 : Kd S23 := Kd.iso (Kd.pair (Kd.int .u8) (Kd.pair (Kd.int .u8) (Kd.pair (Kd.int .u8) (Kd.int .u8)))) (fun x : S23 => (x.f0, x.f1, x.f2, x.f3))
theorem k23_open {w : World} {x : S23} {cs : List Value} (h : k23.K w x cs) : cs = [.int .u8 x.f0, .int .u8 x.f1, .int .u8 x.f2, .int .u8 x.f3] := by
  obtain ⟨_, _, rfl, rfl, ⟨_, _, rfl, rfl, ⟨_, _, rfl, rfl, rfl⟩⟩⟩ := h
  exact rfl
theorem k23_mkM (w : World) (base : Nat) (ok : Nat → Prop) (x : S23)  : k23.M w base ok x [.int .u8 x.f0, .int .u8 x.f1, .int .u8 x.f2, .int .u8 x.f3] := ⟨[.int .u8 x.f0], [.int .u8 x.f1, .int .u8 x.f2, .int .u8 x.f3], rfl, rfl, ⟨[.int .u8 x.f1], [.int .u8 x.f2, .int .u8 x.f3], rfl, rfl, ⟨[.int .u8 x.f2], [.int .u8 x.f3], rfl, rfl, rfl⟩⟩⟩
def rd_T23 (xs : List S23) (i : Int) : S23 := xs.getD i.toNat z23
theorem at_T23 {w : World} {A : Option Addr} {n : Nat} {xs : List S23} (h : Kd.C k23 w A n xs) (i : Int) (h0 : 0 ≤ i) (h1 : i < n) : ∃ ad , A = some ad ∧ w.cell? (ad.add (i.toNat * 4)) = some (.int .u8 (rd_T23 xs i).f0) ∧ w.cell? ⟨(ad.add (i.toNat * 4)).block, (ad.add (i.toNat * 4)).off + 1, none⟩ = some (.int .u8 (rd_T23 xs i).f1) ∧ w.cell? ⟨(ad.add (i.toNat * 4)).block, (ad.add (i.toNat * 4)).off + 2, none⟩ = some (.int .u8 (rd_T23 xs i).f2) ∧ w.cell? ⟨(ad.add (i.toNat * 4)).block, (ad.add (i.toNat * 4)).off + 3, none⟩ = some (.int .u8 (rd_T23 xs i).f3) := by
  obtain ⟨ad, c, e, _, hK, hc0⟩ := Kd.C_get h z23 i h0 h1
  have hc : ∀ j u, c[j]? = some u → w.cell? (ad.add (i.toNat * 4 + j)) = some u := hc0
  obtain rfl := k23_open hK
  exact ⟨ad, e, hc 0 _ rfl, by rw [← add_field _ _ 1 (by omega)]; exact hc 1 _ rfl, by rw [← add_field _ _ 2 (by omega)]; exact hc 2 _ rfl, by rw [← add_field _ _ 3 (by omega)]; exact hc 3 _ rfl⟩
end Go.Proofs.Ytdhjbdofklglgaa.All
end
section
namespace Go.Proofs.Ytdhjbdofklglgaa.All
open Go.RowKit Go.Proofs.YtdhjbdofklglgaaW.PrintWords Go.Proofs.YtdhjbdofklglgaaW.PrintLast Go.Proofs.YtdhjbdofklglgaaW.PrintMore
attribute [local go_sem] max2_int min2_int max_two min_two max_three min_three max_four min_four
set_option linter.unusedVariables false
set_option linter.unusedSimpArgs false
theorem eqA23 (d : Nat) (w : World) (x0 y0 : Int) (x1 y1 : Int) (x2 y2 : Int) (x3 y3 : Int) :
    (Op.equalIn (d + 2) 23 (.agg #[.int .u8 x0, .int .u8 x1, .int .u8 x2, .int .u8 x3]) (.agg #[.int .u8 y0, .int .u8 y1, .int .u8 y2, .int .u8 y3])).run Try.prog w = .ok (x0 == y0 && (x1 == y1 && (x2 == y2 && (x3 == y3)))) w := by
  refine eqA_of Try.underlying23 (by kernel_rfl) ?_
  refine eqf_cons (by rfl) (by go_simp; rfl) (by go_simp; rfl) (by go_simp) ?_
  refine eqf_cons (by rfl) (by go_simp; rfl) (by go_simp; rfl) (by go_simp) ?_
  refine eqf_cons (by rfl) (by go_simp; rfl) (by go_simp; rfl) (by go_simp) ?_
  exact eqf_last (by rfl) (by go_simp; rfl) (by go_simp; rfl) (by go_simp)
end Go.Proofs.Ytdhjbdofklglgaa.All
end
section
namespace Go.Proofs.Ytdhjbdofklglgaa.All
open Go.RowKit Go.Proofs.YtdhjbdofklglgaaW.PrintWords Go.Proofs.YtdhjbdofklglgaaW.PrintLast Go.Proofs.YtdhjbdofklglgaaW.PrintMore
attribute [local go_sem] max2_int min2_int max_two min_two max_three min_three max_four min_four
set_option linter.unusedVariables false
set_option linter.unusedSimpArgs false
def pixel_Clamp.f (a0_0 : Int) (a0_1 : Int) (a0_2 : Int) (a0_3 : Int) : Option (Int × Int × Int × Int) := some (mn a0_0 a0_3, mn a0_1 a0_3, mn a0_2 a0_3, a0_3)
set_option maxHeartbeats 8000000 in
set_option maxRecDepth 100000 in
theorem pixel_Clamp.calls (a0_0 : Int) (a0_1 : Int) (a0_2 : Int) (a0_3 : Int) (r1 : Int) (r2 : Int) (r3 : Int) (r4 : Int) (w : World) (h : pixel_Clamp.f a0_0 a0_1 a0_2 a0_3 = some (r1, r2, r3, r4)) :
    Calls Try.prog 18 #[.agg #[.int .u8 a0_0, .int .u8 a0_1, .int .u8 a0_2, .int .u8 a0_3]] w fun e w' => e = .returned (.agg #[.int .u8 r1, .int .u8 r2, .int .u8 r3, .int .u8 r4]) ∧ Below w.heap.size w w' := by
  have hu23 := Try.underlying23
  have HB := Aside0.mk (Below.refl w.heap.size w)
  have H : (some (mn a0_0 a0_3, mn a0_1 a0_3, mn a0_2 a0_3, a0_3)) = some (r1, r2, r3, r4) := h
  clear h
  obtain ⟨ji2, hji2⟩ : ∃ j_ : Int, (mn a0_0 a0_3) = j_ := ⟨_, rfl⟩
  replace H : (some (ji2, mn a0_1 a0_3, mn a0_2 a0_3, a0_3)) = some (r1, r2, r3, r4) := by first | (rw [hji2] at H; exact H) | (simp only [hji2] at H ⊢; exact H)
  have hji2_ : (if a0_3 < a0_0 then a0_3 else a0_0) = ji2 := hji2
  obtain ⟨ji3, hji3⟩ : ∃ j_ : Int, (mn a0_1 a0_3) = j_ := ⟨_, rfl⟩
  replace H : (some (ji2, ji3, mn a0_2 a0_3, a0_3)) = some (r1, r2, r3, r4) := by first | (rw [hji3] at H; exact H) | (simp only [hji3] at H ⊢; exact H)
  have hji3_ : (if a0_3 < a0_1 then a0_3 else a0_1) = ji3 := hji3
  obtain ⟨ji4, hji4⟩ : ∃ j_ : Int, (mn a0_2 a0_3) = j_ := ⟨_, rfl⟩
  replace H : (some (ji2, ji3, ji4, a0_3)) = some (r1, r2, r3, r4) := by first | (rw [hji4] at H; exact H) | (simp only [hji4] at H ⊢; exact H)
  have hji4_ : (if a0_3 < a0_2 then a0_3 else a0_2) = ji4 := hji4
  simp only [Option.some.injEq, Prod.mk.injEq] at H
  obtain ⟨rfl, rfl, rfl, rfl⟩ := H
  go_enter Try.func18, Try.ntmps18
  go_wp2_with (first | ((with_reducible refine gate_dst (N := 1) rfl ?_); refine box_event ?hg (N := 1) ?hd (cs := #[.int .u8 a0_0, .int .u8 a0_1, .int .u8 a0_2, .int .u8 a0_3]) (t := 23) ?hr ?_; (case hd => rfl); (case hg => rfl); (case hr => first | (go_simp; done) | (go_simp; rfl)); intro gb101 hg w5 hbox hb; have n0_ := Aside0.mk (below_step (by repeat (first | (with_reducible first | exact HB.out | apply below_alloc | apply pw_below_drewN | apply below_drew1) | exact HB.out)) hb); have n1_ := Aside0.mk (hbox); have n2_ := Aside0.mk ((by rw [hg]; exact (below_size (by repeat (first | (with_reducible first | exact HB.out | apply below_alloc | apply pw_below_drewN | apply below_drew1) | exact HB.out))) : w.heap.size ≤ gb101)); have n3_ := Aside0.mk ((by rw [hg]; exact (below_size (by repeat (first | (with_reducible first | exact HB.out | apply below_alloc | apply pw_below_drewN | apply below_drew1) | exact HB.out))) : w.heap.size ≤ gb101)); clear HB; have HB := n0_; have BK101 := n1_; have GW101 := n2_; have GE101 := n3_; clear n0_ n1_ n2_ n3_; clear hb hbox hg) | ((with_reducible refine gate_dst (N := 2) rfl ?_); refine box_event ?hg (N := 2) ?hd (cs := #[.int .u8 0, .int .u8 0, .int .u8 0, .int .u8 0]) (t := 23) ?hr ?_; (case hd => rfl); (case hg => rfl); (case hr => first | (go_simp; done) | (go_simp; rfl)); intro gb102 hg w6 hbox hb; have n0_ := Aside0.mk (blk_below (g := gb101) (o := .cells #[.int .u8 a0_0, .int .u8 a0_1, .int .u8 a0_2, .int .u8 a0_3] 23 (0, 0)) (by (with_reducible repeat (first | refine blk_drewN ?_ _ | refine blk_drew ?_ | refine blk_alloc ?_ _)); exact BK101.out) hb); have n1_ := Aside0.mk (below_step (by repeat (first | (with_reducible first | exact HB.out | apply below_alloc | apply pw_below_drewN | apply below_drew1 | refine below_set ?_ GE101.out) | exact HB.out)) hb); have n2_ := Aside0.mk (hbox); have n3_ := Aside0.mk ((by rw [hg]; exact (below_size (by repeat (first | (with_reducible first | exact HB.out | apply below_alloc | apply pw_below_drewN | apply below_drew1 | refine below_set ?_ GE101.out) | exact HB.out))) : w.heap.size ≤ gb102)); have n4_ := Aside0.mk ((by rw [hg]; exact (below_size (by repeat (first | (with_reducible first | exact HB.out | apply below_alloc | apply pw_below_drewN | apply below_drew1 | refine below_set ?_ GE101.out) | exact HB.out))) : w.heap.size ≤ gb102)); have n5_ := Aside0.mk ((by rw [hg]; exact Nat.ne_of_lt (blk_lt (g := gb101) (o := .cells #[.int .u8 a0_0, .int .u8 a0_1, .int .u8 a0_2, .int .u8 a0_3] 23 (0, 0)) (by (with_reducible repeat (first | refine blk_drewN ?_ _ | refine blk_drew ?_ | refine blk_alloc ?_ _)); exact BK101.out)) : gb101 ≠ gb102)); have n6_ := Aside0.mk ((by rw [hg]; exact Nat.ne_of_gt (blk_lt (g := gb101) (o := .cells #[.int .u8 a0_0, .int .u8 a0_1, .int .u8 a0_2, .int .u8 a0_3] 23 (0, 0)) (by (with_reducible repeat (first | refine blk_drewN ?_ _ | refine blk_drew ?_ | refine blk_alloc ?_ _)); exact BK101.out)) : gb102 ≠ gb101)); clear BK101; clear HB; have BK101 := n0_; have HB := n1_; have BK102 := n2_; have GW102 := n3_; have GE102 := n4_; have NB101_102 := n5_; have NB102_101 := n6_; clear n0_ n1_ n2_ n3_ n4_ n5_ n6_; clear hb hbox hg; have hnb7 := NB101_102.out; have hnc7 := NB102_101.out; have hcz8_0 : w6.cell? ⟨gb101, 0, none⟩ = some (.int .u8 a0_0) := (blk_cell BK101.out 0).trans rfl; have hcz8_1 : w6.cell? ⟨gb101, 1, none⟩ = some (.int .u8 a0_1) := (blk_cell BK101.out 1).trans rfl; have hcz8_2 : w6.cell? ⟨gb101, 2, none⟩ = some (.int .u8 a0_2) := (blk_cell BK101.out 2).trans rfl; have hcz8_3 : w6.cell? ⟨gb101, 3, none⟩ = some (.int .u8 a0_3) := (blk_cell BK101.out 3).trans rfl; have hfz8_0 := blk_frozen BK101.out 0; have hfz8_1 := blk_frozen BK101.out 1; have hfz8_2 := blk_frozen BK101.out 2; have hfz8_3 := blk_frozen BK101.out 3; have hcz9_0 : w6.cell? ⟨gb102, 0, none⟩ = some (.int .u8 0) := (blk_cell BK102.out 0).trans rfl; have hcz9_1 : w6.cell? ⟨gb102, 1, none⟩ = some (.int .u8 0) := (blk_cell BK102.out 1).trans rfl; have hcz9_2 : w6.cell? ⟨gb102, 2, none⟩ = some (.int .u8 0) := (blk_cell BK102.out 2).trans rfl; have hcz9_3 : w6.cell? ⟨gb102, 3, none⟩ = some (.int .u8 0) := (blk_cell BK102.out 3).trans rfl; have hfz9_0 := blk_frozen BK102.out 0; have hfz9_1 := blk_frozen BK102.out 1; have hfz9_2 := blk_frozen BK102.out 2; have hfz9_3 := blk_frozen BK102.out 3))
  refine bodyPost_ret (results_cell_row rfl _ _ gb102 23 #[.int .u8 ji2, .int .u8 ji3, .int .u8 ji4, .int .u8 a0_3] (0, 0) _ rfl (by (with_reducible repeat (first | refine blk_drewN ?_ _ | refine blk_drew ?_ | refine blk_alloc ?_ _)); refine blk_put (cs := #[.int .u8 ji2, .int .u8 ji3, .int .u8 ji4, .int .u8 0]) ?_ 3 _ rfl; (with_reducible repeat (first | refine blk_drewN ?_ _ | refine blk_drew ?_ | refine blk_alloc ?_ _)); refine blk_put (cs := #[.int .u8 ji2, .int .u8 ji3, .int .u8 0, .int .u8 0]) ?_ 2 _ rfl; (with_reducible repeat (first | refine blk_drewN ?_ _ | refine blk_drew ?_ | refine blk_alloc ?_ _)); refine blk_put (cs := #[.int .u8 ji2, .int .u8 0, .int .u8 0, .int .u8 0]) ?_ 1 _ rfl; (with_reducible repeat (first | refine blk_drewN ?_ _ | refine blk_drew ?_ | refine blk_alloc ?_ _)); refine blk_put (cs := #[.int .u8 0, .int .u8 0, .int .u8 0, .int .u8 0]) ?_ 0 _ rfl; (with_reducible repeat (first | refine blk_drewN ?_ _ | refine blk_drew ?_ | refine blk_alloc ?_ _)); exact BK102.out) Try.underlying23 rfl (by kernel_rfl)) rfl ?_
  exact ⟨by first | rfl | (simp [errW_none, errW_some] <;> rfl) | (simp only [← hji2, ← hji3, ← hji4]; first | rfl | (simp [errW_none, errW_some] <;> rfl)) | (simp [*, errW_none, errW_some] <;> rfl), by repeat (first | (with_reducible first | exact HB.out | apply below_alloc | apply pw_below_drewN | apply below_drew1 | refine below_set ?_ GE101.out | refine below_set ?_ GE102.out) | exact HB.out)⟩
section
open Go.Proofs.YtdhjbdofklglgaaHand
def pixel_Scale.pr (a b : Int) : Int := (wrap64 (Int.tdiv (wrap64 ((wrap64 ((wrap64 (a)) * (wrap64 (b)))) + 127)) 255)) % 256
theorem pixel_Scale.product_calls (a0 a1 : Int) (w : World) : Calls Try.prog 32 #[.int .u8 a0, .int .u8 a1] w fun e w' => e = .returned (.int .u8 (pixel_Scale.pr a0 a1)) ∧ w' = w := by
  go_enter Try.func32, Try.ntmps32
  go_wp2
  go_ret
  exact ⟨rfl, rfl⟩
theorem pixel_Scale.lit_calls (a0 k : Int) (g : Nat) (w : World) (hk : w.cell? ⟨g, 0, none⟩ = some (.int .u8 k)) : Calls Try.prog 31 #[.int .u8 a0, .pointer (some ⟨g, 0, none⟩)] w fun e w' => e = .returned (.int .u8 (pixel_Scale.pr a0 k)) ∧ w' = w := by
  go_enter Try.func31, Try.ntmps31
  go_wp2_with (go_at_call 32; refine (pixel_Scale.product_calls _ _ _).mono ?_; rintro e w' ⟨rfl, rfl⟩)
  go_ret
  exact ⟨rfl, rfl⟩
set_option maxHeartbeats 2000000 in
theorem pixel_Scale.each_calls (a b c d k : Int) (g : Nat) (w : World) (hk : w.cell? ⟨g, 0, none⟩ = some (.int .u8 k)) : Calls Try.prog 30 #[.agg #[.int .u8 a, .int .u8 b, .int .u8 c, .int .u8 d], .func (Fn.func 31) #[] #[.pointer (some ⟨g, 0, none⟩)]] w fun e w' => e = .returned (.agg #[.int .u8 (pixel_Scale.pr a k), .int .u8 (pixel_Scale.pr b k), .int .u8 (pixel_Scale.pr c k), .int .u8 (pixel_Scale.pr d k)]) ∧ Below w.heap.size w w' := by
  go_enter Try.func30, Try.ntmps30
  go_wp2_with fail
  have hg : g < w.heap.size := World.block_lt_of_cell? w _ hk
  have F : ∀ W : World, W = (w.alloc (Obj.cells #[Value.int IntKind.u8 a, Value.int IntKind.u8 b, Value.int IntKind.u8 c, Value.int IntKind.u8 d] 23)).alloc (Obj.cells #[Value.int IntKind.u8 0, Value.int IntKind.u8 0, Value.int IntKind.u8 0, Value.int IntKind.u8 0] 23) →
     W.cell? ⟨g, 0, none⟩ = some (.int .u8 k) ∧ W.cell? ⟨w.heap.size, 0, none⟩ = some (.int .u8 a) ∧ W.cell? ⟨w.heap.size, 1, none⟩ = some (.int .u8 b) ∧ W.cell? ⟨w.heap.size, 2, none⟩ = some (.int .u8 c) ∧ W.cell? ⟨w.heap.size, 3, none⟩ = some (.int .u8 d) ∧ W.heap[w.heap.size + 1]? = some (.cells #[Value.int IntKind.u8 0, Value.int IntKind.u8 0, Value.int IntKind.u8 0, Value.int IntKind.u8 0] 23 (0, 0)) ∧ Below w.heap.size w W := by
    rintro W rfl
    refine ⟨?_, ?_, ?_, ?_, ?_, ?_, ?_⟩
    · rw [World.cell?_alloc_past _ _ _ (by simp; omega), World.cell?_alloc_past _ _ _ (by omega)]; exact hk
    · rw [World.cell?_alloc_past _ _ _ (by simp)]; exact (blk_cell (blk_new w _) 0).trans rfl
    · rw [World.cell?_alloc_past _ _ _ (by simp)]; exact (blk_cell (blk_new w _) 1).trans rfl
    · rw [World.cell?_alloc_past _ _ _ (by simp)]; exact (blk_cell (blk_new w _) 2).trans rfl
    · rw [World.cell?_alloc_past _ _ _ (by simp)]; exact (blk_cell (blk_new w _) 3).trans rfl
    · have := blk_new (w.alloc (Obj.cells #[Value.int IntKind.u8 a, Value.int IntKind.u8 b, Value.int IntKind.u8 c, Value.int IntKind.u8 d] 23)) (Obj.cells #[Value.int IntKind.u8 0, Value.int IntKind.u8 0, Value.int IntKind.u8 0, Value.int IntKind.u8 0] 23)
      simpa using this
    · exact below_alloc (below_alloc (Below.refl _ _) _) _
  generalize (w.alloc (Obj.cells #[Value.int IntKind.u8 a, Value.int IntKind.u8 b, Value.int IntKind.u8 c, Value.int IntKind.u8 d] 23)).alloc (Obj.cells #[Value.int IntKind.u8 0, Value.int IntKind.u8 0, Value.int IntKind.u8 0, Value.int IntKind.u8 0] 23) = W at *
  obtain ⟨h0, h1, h2, h3, h4, hB, hBel⟩ := F W rfl
  clear F hk
  go_still_tail 17, (by kernel_rfl)
  still_call (pixel_Scale.lit_calls a k g _ (by exact h0))
  repeat still_step
  still_call (pixel_Scale.lit_calls b k g _ (by exact h0))
  repeat still_step
  still_call (pixel_Scale.lit_calls c k g _ (by exact h0))
  repeat still_step
  still_call (pixel_Scale.lit_calls d k g _ (by exact h0))
  repeat still_step
  refine wpStill_nil ?_
  change wpList _ _ _ _ _ W.drew
  have hB2 : W.drew.heap[w.heap.size + 1]? = some (.cells #[Value.int IntKind.u8 0, Value.int IntKind.u8 0, Value.int IntKind.u8 0, Value.int IntKind.u8 0] 23 (0, 0)) := hB
  have hBel2 := below_drew hBel
  clear h0 h1 h2 h3 h4 hBel hB
  generalize W.drew = W2 at hB2 hBel2 ⊢
  have hc0 := (blk_cell hB2 0).trans rfl
  have hc1 := (blk_cell hB2 1).trans rfl
  have hc2 := (blk_cell hB2 2).trans rfl
  have hc3 := (blk_cell hB2 3).trans rfl
  have hf0 := blk_frozen hB2 0
  have hf1 := blk_frozen hB2 1
  have hf2 := blk_frozen hB2 2
  have hf3 := blk_frozen hB2 3
  have hB3 := Aside0.mk hB2
  clear hB2
  go_wp2
  refine bodyPost_ret (results_cell_row rfl _ _ (w.heap.size + 1) 23 #[.int .u8 (pixel_Scale.pr a k), .int .u8 (pixel_Scale.pr b k), .int .u8 (pixel_Scale.pr c k), .int .u8 (pixel_Scale.pr d k)] (0, 0) _ rfl (by
    refine blk_put (cs := #[.int .u8 (pixel_Scale.pr a k), .int .u8 (pixel_Scale.pr b k), .int .u8 (pixel_Scale.pr c k), .int .u8 0]) ?_ 3 _ rfl
    refine blk_put (cs := #[.int .u8 (pixel_Scale.pr a k), .int .u8 (pixel_Scale.pr b k), .int .u8 0, .int .u8 0]) ?_ 2 _ rfl
    refine blk_put (cs := #[.int .u8 (pixel_Scale.pr a k), .int .u8 0, .int .u8 0, .int .u8 0]) ?_ 1 _ rfl
    refine blk_put (cs := #[.int .u8 0, .int .u8 0, .int .u8 0, .int .u8 0]) ?_ 0 _ rfl
    exact hB3.out) Try.underlying23 rfl (by kernel_rfl)) rfl ?_
  refine ⟨rfl, ?_⟩
  repeat (first | exact hBel2 | refine below_set ?_ (by omega))
def pixel_Scale.f (a0_0 a0_1 a0_2 a0_3 a1 : Int) : Option (Int × Int × Int × Int) := (pixel_Clamp.f a0_0 a0_1 a0_2 a0_3).bind fun c => some (pixel_Scale.pr c.1 a1, pixel_Scale.pr c.2.1 a1, pixel_Scale.pr c.2.2.1 a1, pixel_Scale.pr c.2.2.2 a1)
set_option maxHeartbeats 2000000 in
theorem pixel_Scale.calls (a0_0 a0_1 a0_2 a0_3 a1 r1 r2 r3 r4 : Int) (w : World) (h : pixel_Scale.f a0_0 a0_1 a0_2 a0_3 a1 = some (r1, r2, r3, r4)) :
    Calls Try.prog 11 #[.agg #[.int .u8 a0_0, .int .u8 a0_1, .int .u8 a0_2, .int .u8 a0_3], .int .u8 a1] w fun e w' => e = .returned (.agg #[.int .u8 r1, .int .u8 r2, .int .u8 r3, .int .u8 r4]) ∧ Below w.heap.size w w' := by
  obtain ⟨⟨c0, c1, c2, c3⟩, hcl0, h⟩ := Option.bind_eq_some_iff.mp h
  obtain ⟨rfl, rfl, rfl, rfl⟩ : pixel_Scale.pr c0 a1 = r1 ∧ pixel_Scale.pr c1 a1 = r2 ∧ pixel_Scale.pr c2 a1 = r3 ∧ pixel_Scale.pr c3 a1 = r4 := by simpa using h
  have hcl := Aside0.mk hcl0
  clear hcl0 h
  go_enter Try.func11, Try.ntmps11
  go_wp2_with fail
  obtain ⟨-, hK0, hR0, hb0⟩ := allocs3 w (Obj.cells #[Value.int IntKind.u8 a0_0, Value.int IntKind.u8 a0_1, Value.int IntKind.u8 a0_2, Value.int IntKind.u8 a0_3] 23) (Obj.cells #[.int .u8 a1] 5) (Obj.cells #[Value.int IntKind.u8 0, Value.int IntKind.u8 0, Value.int IntKind.u8 0, Value.int IntKind.u8 0] 23)
  generalize ((w.alloc (Obj.cells #[Value.int IntKind.u8 a0_0, Value.int IntKind.u8 a0_1, Value.int IntKind.u8 a0_2, Value.int IntKind.u8 a0_3] 23)).alloc (Obj.cells #[.int .u8 a1] 5)).alloc (Obj.cells #[Value.int IntKind.u8 0, Value.int IntKind.u8 0, Value.int IntKind.u8 0, Value.int IntKind.u8 0] 23) = W at hK0 hR0 hb0 ⊢
  have hK := Aside0.mk hK0
  have hR := Aside0.mk hR0
  have hb := Aside0.mk hb0
  clear hK0 hR0 hb0
  refine (pixel_Clamp.calls _ _ _ _ c0 c1 c2 c3 W hcl.out).mono ?_
  rintro e w1 ⟨rfl, hb1⟩
  have hb2 := Aside0.mk hb1
  clear hb1
  go_wp2_with fail
  refine (pixel_Scale.each_calls c0 c1 c2 c3 a1 (w.heap.size + 1) w1 ((blk_cell (blk_below hK.out hb2.out) 0).trans rfl)).mono ?_
  rintro e w2 ⟨rfl, hb3⟩
  have hB3 := Aside0.mk (blk_below (blk_below hR.out hb2.out) hb3)
  have hBel2 := Aside0.mk (below_then (below_then hb.out (by have := hb.out.size; omega) hb2.out) (by have := hb.out.size; have := hb2.out.size; omega) hb3)
  clear hb3
  have hc0 := (blk_cell hB3.out 0).trans rfl
  have hc1 := (blk_cell hB3.out 1).trans rfl
  have hc2 := (blk_cell hB3.out 2).trans rfl
  have hc3 := (blk_cell hB3.out 3).trans rfl
  have hf0 := blk_frozen hB3.out 0
  have hf1 := blk_frozen hB3.out 1
  have hf2 := blk_frozen hB3.out 2
  have hf3 := blk_frozen hB3.out 3
  go_wp2
  refine bodyPost_ret (results_cell_row rfl _ _ (w.heap.size + 1 + 1) 23 #[.int .u8 (pixel_Scale.pr c0 a1), .int .u8 (pixel_Scale.pr c1 a1), .int .u8 (pixel_Scale.pr c2 a1), .int .u8 (pixel_Scale.pr c3 a1)] (0, 0) _ rfl (by
    refine blk_put (cs := #[.int .u8 (pixel_Scale.pr c0 a1), .int .u8 (pixel_Scale.pr c1 a1), .int .u8 (pixel_Scale.pr c2 a1), .int .u8 0]) ?_ 3 _ rfl
    refine blk_put (cs := #[.int .u8 (pixel_Scale.pr c0 a1), .int .u8 (pixel_Scale.pr c1 a1), .int .u8 0, .int .u8 0]) ?_ 2 _ rfl
    refine blk_put (cs := #[.int .u8 (pixel_Scale.pr c0 a1), .int .u8 0, .int .u8 0, .int .u8 0]) ?_ 1 _ rfl
    refine blk_put (cs := #[.int .u8 0, .int .u8 0, .int .u8 0, .int .u8 0]) ?_ 0 _ rfl
    exact hB3.out) Try.underlying23 rfl (by kernel_rfl)) rfl ?_
  refine ⟨rfl, ?_⟩
  repeat (first | exact hBel2.out | refine below_set ?_ (by omega))
end
def pixel_Premultiply.f (a0 : Int) (a1 : Int) (a2 : Int) (a3 : Int) : Option (Int × Int × Int × Int) := (pixel_Scale.f a0 a1 a2 255 a3).bind fun bt104 => (some (bt104.1, bt104.2.1, bt104.2.2.1, bt104.2.2.2))
set_option maxHeartbeats 8000000 in
set_option maxRecDepth 100000 in
theorem pixel_Premultiply.calls (a0 : Int) (a1 : Int) (a2 : Int) (a3 : Int) (r1 : Int) (r2 : Int) (r3 : Int) (r4 : Int) (w : World) (h : pixel_Premultiply.f a0 a1 a2 a3 = some (r1, r2, r3, r4)) :
    Calls Try.prog 9 #[.int .u8 a0, .int .u8 a1, .int .u8 a2, .int .u8 a3] w fun e w' => e = .returned (.agg #[.int .u8 r1, .int .u8 r2, .int .u8 r3, .int .u8 r4]) ∧ Below w.heap.size w w' := by
  have hu23 := Try.underlying23
  have HB := Aside0.mk (Below.refl w.heap.size w)
  have H : ((pixel_Scale.f a0 a1 a2 255 a3).bind fun bt104 => (some (bt104.1, bt104.2.1, bt104.2.2.1, bt104.2.2.2))) = some (r1, r2, r3, r4) := h
  clear h
  replace H := Option.bind_eq_some_iff.mp H
  obtain ⟨⟨t104, t105, t106, t107⟩, A50, H⟩ := H
  replace H : (some (t104, t105, t106, t107)) = some (r1, r2, r3, r4) := H
  have A5 := Aside0.mk A50
  clear A50
  simp only [Option.some.injEq, Prod.mk.injEq] at H
  obtain ⟨rfl, rfl, rfl, rfl⟩ := H
  go_enter Try.func9, Try.ntmps9
  go_wp2_with (first | ((with_reducible refine gate_dst (N := 8) rfl ?_); refine box_event ?hg (N := 8) ?hd (cs := #[.int .u8 0, .int .u8 0, .int .u8 0, .int .u8 0]) (t := 23) ?hr ?_; (case hd => rfl); (case hg => rfl); (case hr => first | (go_simp; done) | (go_simp; rfl)); intro gb103 hg w6 hbox hb; have n0_ := Aside0.mk (below_step (by repeat (first | (with_reducible first | exact HB.out | apply below_alloc | apply pw_below_drewN | apply below_drew1) | exact HB.out)) hb); have n1_ := Aside0.mk (hbox); have n2_ := Aside0.mk ((by rw [hg]; exact (below_size (by repeat (first | (with_reducible first | exact HB.out | apply below_alloc | apply pw_below_drewN | apply below_drew1) | exact HB.out))) : w.heap.size ≤ gb103)); have n3_ := Aside0.mk ((by rw [hg]; exact (below_size (by repeat (first | (with_reducible first | exact HB.out | apply below_alloc | apply pw_below_drewN | apply below_drew1) | exact HB.out))) : w.heap.size ≤ gb103)); clear HB; have HB := n0_; have BK103 := n1_; have GW103 := n2_; have GE103 := n3_; clear n0_ n1_ n2_ n3_; clear hb hbox hg) | ((with_reducible refine gate_callee (f := 11) rfl ?_); refine goesL_ (some 14) rfl rfl Try.func11 (by kernel_rfl) rfl #[.agg #[.int .u8 a0, .int .u8 a1, .int .u8 a2, .int .u8 255], .int .u8 a3] rfl (by (try simp only [List.map_toArray, List.map_cons, List.map_nil]); first | done | rfl | (simp only [List.length_drop, List.length_take]; rfl)) ?_; (with_reducible refine (pixel_Scale.calls a0 a1 a2 255 a3 t104 t105 t106 t107 _ A5.out).mono ?_); rintro e w7 ⟨rfl, hb⟩; refine ⟨_, rfl, ?_⟩; have n0_ := Aside0.mk (blk_below (g := gb103) (o := .cells #[.int .u8 0, .int .u8 0, .int .u8 0, .int .u8 0] 23 (0, 0)) (by (with_reducible repeat (first | refine blk_drewN ?_ _ | refine blk_drew ?_ | refine blk_alloc ?_ _)); exact BK103.out) hb); have n1_ := Aside0.mk (below_step (by repeat (first | (with_reducible first | exact HB.out | apply below_alloc | apply pw_below_drewN | apply below_drew1 | refine below_set ?_ GE103.out) | exact HB.out)) hb); clear BK103; clear HB; have BK103 := n0_; have HB := n1_; clear n0_ n1_; (try clear hb); (try clear hb2); (try clear hk); (try clear hi); have hcz8_0 : w7.cell? ⟨gb103, 0, none⟩ = some (.int .u8 0) := (blk_cell BK103.out 0).trans rfl; have hcz8_1 : w7.cell? ⟨gb103, 1, none⟩ = some (.int .u8 0) := (blk_cell BK103.out 1).trans rfl; have hcz8_2 : w7.cell? ⟨gb103, 2, none⟩ = some (.int .u8 0) := (blk_cell BK103.out 2).trans rfl; have hcz8_3 : w7.cell? ⟨gb103, 3, none⟩ = some (.int .u8 0) := (blk_cell BK103.out 3).trans rfl; have hfz8_0 := blk_frozen BK103.out 0; have hfz8_1 := blk_frozen BK103.out 1; have hfz8_2 := blk_frozen BK103.out 2; have hfz8_3 := blk_frozen BK103.out 3))
  refine bodyPost_ret (results_cell_row rfl _ _ gb103 23 #[.int .u8 t104, .int .u8 t105, .int .u8 t106, .int .u8 t107] (0, 0) _ rfl (by (with_reducible repeat (first | refine blk_drewN ?_ _ | refine blk_drew ?_ | refine blk_alloc ?_ _)); refine blk_put (cs := #[.int .u8 t104, .int .u8 t105, .int .u8 t106, .int .u8 0]) ?_ 3 _ rfl; (with_reducible repeat (first | refine blk_drewN ?_ _ | refine blk_drew ?_ | refine blk_alloc ?_ _)); refine blk_put (cs := #[.int .u8 t104, .int .u8 t105, .int .u8 0, .int .u8 0]) ?_ 2 _ rfl; (with_reducible repeat (first | refine blk_drewN ?_ _ | refine blk_drew ?_ | refine blk_alloc ?_ _)); refine blk_put (cs := #[.int .u8 t104, .int .u8 0, .int .u8 0, .int .u8 0]) ?_ 1 _ rfl; (with_reducible repeat (first | refine blk_drewN ?_ _ | refine blk_drew ?_ | refine blk_alloc ?_ _)); refine blk_put (cs := #[.int .u8 0, .int .u8 0, .int .u8 0, .int .u8 0]) ?_ 0 _ rfl; (with_reducible repeat (first | refine blk_drewN ?_ _ | refine blk_drew ?_ | refine blk_alloc ?_ _)); exact BK103.out) Try.underlying23 rfl (by kernel_rfl)) rfl ?_
  exact ⟨by first | rfl | (simp [errW_none, errW_some] <;> rfl) | (simp [*, errW_none, errW_some] <;> rfl), by repeat (first | (with_reducible first | exact HB.out | apply below_alloc | apply pw_below_drewN | apply below_drew1 | refine below_set ?_ GE103.out) | exact HB.out)⟩
end Go.Proofs.Ytdhjbdofklglgaa.All
end
section
namespace Go.Proofs.Ytdhjbdofklglgaa.All
open Go.Proofs.YtdhjbdofklglgaaSq
open Go.RowKit Go.Proofs.YtdhjbdofklglgaaW.PrintWords Go.Proofs.YtdhjbdofklglgaaW.PrintLast Go.Proofs.YtdhjbdofklglgaaW.PrintMore
attribute [local go_sem] max2_int min2_int max_two min_two max_three min_three max_four min_four
set_option linter.unusedVariables false
set_option linter.unusedSimpArgs false
end Go.Proofs.Ytdhjbdofklglgaa.All
end
section
namespace Go.Proofs.Ytdhjbdofklglgaa.All
open Go.RowKit Go.Proofs.YtdhjbdofklglgaaW.PrintWords Go.Proofs.YtdhjbdofklglgaaW.PrintLast Go.Proofs.YtdhjbdofklglgaaW.PrintMore
attribute [local go_sem] max2_int min2_int max_two min_two max_three min_three max_four min_four
set_option linter.unusedVariables false
set_option linter.unusedSimpArgs false
abbrev zq12.q0 := Go.Proofs.YtdhjbdofklglgaaHand.bz 18 0
abbrev zq12.q1 := Go.Proofs.YtdhjbdofklglgaaHand.bz 18 1
abbrev zq12.q2 := Go.Proofs.YtdhjbdofklglgaaHand.bz 18 5
abbrev zq12.q3 := Go.Proofs.YtdhjbdofklglgaaHand.bz 18 21
abbrev zq12.q4 := Go.Proofs.YtdhjbdofklglgaaHand.bz 18 85
abbrev zq12.q5 := Go.Proofs.YtdhjbdofklglgaaHand.bz 18 341
abbrev zq12.q6 := Go.Proofs.YtdhjbdofklglgaaHand.bz 18 1365
abbrev zq12.q7 := Go.Proofs.YtdhjbdofklglgaaHand.bz 18 5461
abbrev zq12.q8 := Go.Proofs.YtdhjbdofklglgaaHand.bz 18 21845
abbrev zq12.q9 := Go.Proofs.YtdhjbdofklglgaaHand.bz 18 21847
abbrev zq12.q10 := Go.Proofs.YtdhjbdofklglgaaHand.bz 18 21879
abbrev zq12.q11 := Go.Proofs.YtdhjbdofklglgaaHand.bz 18 22391
abbrev zq12.q12 := Go.Proofs.YtdhjbdofklglgaaHand.bz 18 30583
abbrev zq12.q13 := Go.Proofs.YtdhjbdofklglgaaHand.bz 18 30591
abbrev zq12.q14 := Go.Proofs.YtdhjbdofklglgaaHand.bz 18 30719
abbrev zq12.q15 := Go.Proofs.YtdhjbdofklglgaaHand.bz 18 32767
abbrev zq12.q16 := Go.Proofs.YtdhjbdofklglgaaHand.bz 18 65535
abbrev zq12.q17 := Go.Proofs.YtdhjbdofklglgaaHand.bz 18 131071
abbrev zq12.q18 := Go.Proofs.YtdhjbdofklglgaaHand.bz 18 262143
end Go.Proofs.Ytdhjbdofklglgaa.All
end
section
namespace Go.Proofs.Ytdhjbdofklglgaa.All
open Go.RowKit Go.Proofs.YtdhjbdofklglgaaW.PrintWords Go.Proofs.YtdhjbdofklglgaaW.PrintLast Go.Proofs.YtdhjbdofklglgaaW.PrintMore
attribute [local go_sem] max2_int min2_int max_two min_two max_three min_three max_four min_four
set_option linter.unusedVariables false
set_option linter.unusedSimpArgs false
def pixel_Over.f (a0_0 : Int) (a0_1 : Int) (a0_2 : Int) (a0_3 : Int) (a1_0 : Int) (a1_1 : Int) (a1_2 : Int) (a1_3 : Int) : Option (Int × Int × Int × Int) := (pixel_Clamp.f a0_0 a0_1 a0_2 a0_3).bind fun bt127 => ((pixel_Scale.f a1_0 a1_1 a1_2 a1_3 ((255 - bt127.2.2.2) % 256)).bind fun bt131 => (some ((bt127.1 + bt131.1) % 256, (bt127.2.1 + bt131.2.1) % 256, (bt127.2.2.1 + bt131.2.2.1) % 256, (bt127.2.2.2 + bt131.2.2.2) % 256)))
set_option maxHeartbeats 8000000 in
set_option maxRecDepth 100000 in
theorem pixel_Over.calls (a0_0 : Int) (a0_1 : Int) (a0_2 : Int) (a0_3 : Int) (a1_0 : Int) (a1_1 : Int) (a1_2 : Int) (a1_3 : Int) (r1 : Int) (r2 : Int) (r3 : Int) (r4 : Int) (w : World) (h : pixel_Over.f a0_0 a0_1 a0_2 a0_3 a1_0 a1_1 a1_2 a1_3 = some (r1, r2, r3, r4)) :
    Calls Try.prog 13 #[.agg #[.int .u8 a0_0, .int .u8 a0_1, .int .u8 a0_2, .int .u8 a0_3], .agg #[.int .u8 a1_0, .int .u8 a1_1, .int .u8 a1_2, .int .u8 a1_3]] w fun e w' => e = .returned (.agg #[.int .u8 r1, .int .u8 r2, .int .u8 r3, .int .u8 r4]) ∧ Below w.heap.size w w' := by
  have hu23 := Try.underlying23
  have HB := Aside0.mk (Below.refl w.heap.size w)
  have H : ((pixel_Clamp.f a0_0 a0_1 a0_2 a0_3).bind fun bt127 => ((pixel_Scale.f a1_0 a1_1 a1_2 a1_3 ((255 - bt127.2.2.2) % 256)).bind fun bt131 => (some ((bt127.1 + bt131.1) % 256, (bt127.2.1 + bt131.2.1) % 256, (bt127.2.2.1 + bt131.2.2.1) % 256, (bt127.2.2.2 + bt131.2.2.2) % 256)))) = some (r1, r2, r3, r4) := h
  clear h
  replace H := Option.bind_eq_some_iff.mp H
  obtain ⟨⟨t127, t128, t129, t130⟩, A30, H⟩ := H
  replace H : ((pixel_Scale.f a1_0 a1_1 a1_2 a1_3 ((255 - t130) % 256)).bind fun bt131 => (some ((t127 + bt131.1) % 256, (t128 + bt131.2.1) % 256, (t129 + bt131.2.2.1) % 256, (t130 + bt131.2.2.2) % 256))) = some (r1, r2, r3, r4) := H
  have A3 := Aside0.mk A30
  clear A30
  replace H := Option.bind_eq_some_iff.mp H
  obtain ⟨⟨t131, t132, t133, t134⟩, A40, H⟩ := H
  replace H : (some ((t127 + t131) % 256, (t128 + t132) % 256, (t129 + t133) % 256, (t130 + t134) % 256)) = some (r1, r2, r3, r4) := H
  have A4 := Aside0.mk A40
  clear A40
  simp only [Option.some.injEq, Prod.mk.injEq] at H
  obtain ⟨rfl, rfl, rfl, rfl⟩ := H
  go_enter Try.func13, Try.ntmps13
  go_wp2_with (first | ((with_reducible refine gate_dst (N := 2) rfl ?_); refine box_event ?hg (N := 2) ?hd (cs := #[.int .u8 a0_0, .int .u8 a0_1, .int .u8 a0_2, .int .u8 a0_3]) (t := 23) ?hr ?_; (case hd => rfl); (case hg => rfl); (case hr => first | (go_simp; done) | (go_simp; rfl)); intro gb124 hg w5 hbox hb; have n0_ := Aside0.mk (below_step (by repeat (first | (with_reducible first | exact HB.out | apply below_alloc | apply pw_below_drewN | apply below_drew1) | exact HB.out)) hb); have n1_ := Aside0.mk (hbox); have n2_ := Aside0.mk ((by rw [hg]; exact (below_size (by repeat (first | (with_reducible first | exact HB.out | apply below_alloc | apply pw_below_drewN | apply below_drew1) | exact HB.out))) : w.heap.size ≤ gb124)); have n3_ := Aside0.mk ((by rw [hg]; exact (below_size (by repeat (first | (with_reducible first | exact HB.out | apply below_alloc | apply pw_below_drewN | apply below_drew1) | exact HB.out))) : w.heap.size ≤ gb124)); clear HB; have HB := n0_; have BK124 := n1_; have GW124 := n2_; have GE124 := n3_; clear n0_ n1_ n2_ n3_; clear hb hbox hg) | ((with_reducible refine gate_dst (N := 3) rfl ?_); refine box_event ?hg (N := 3) ?hd (cs := #[.int .u8 a1_0, .int .u8 a1_1, .int .u8 a1_2, .int .u8 a1_3]) (t := 23) ?hr ?_; (case hd => rfl); (case hg => rfl); (case hr => first | (go_simp; done) | (go_simp; rfl)); intro gb125 hg w6 hbox hb; have n0_ := Aside0.mk (blk_below (g := gb124) (o := .cells #[.int .u8 a0_0, .int .u8 a0_1, .int .u8 a0_2, .int .u8 a0_3] 23 (0, 0)) (by (with_reducible repeat (first | refine blk_drewN ?_ _ | refine blk_drew ?_ | refine blk_alloc ?_ _)); exact BK124.out) hb); have n1_ := Aside0.mk (below_step (by repeat (first | (with_reducible first | exact HB.out | apply below_alloc | apply pw_below_drewN | apply below_drew1 | refine below_set ?_ GE124.out) | exact HB.out)) hb); have n2_ := Aside0.mk (hbox); have n3_ := Aside0.mk ((by rw [hg]; exact (below_size (by repeat (first | (with_reducible first | exact HB.out | apply below_alloc | apply pw_below_drewN | apply below_drew1 | refine below_set ?_ GE124.out) | exact HB.out))) : w.heap.size ≤ gb125)); have n4_ := Aside0.mk ((by rw [hg]; exact (below_size (by repeat (first | (with_reducible first | exact HB.out | apply below_alloc | apply pw_below_drewN | apply below_drew1 | refine below_set ?_ GE124.out) | exact HB.out))) : w.heap.size ≤ gb125)); have n5_ := Aside0.mk ((by rw [hg]; exact Nat.ne_of_lt (blk_lt (g := gb124) (o := .cells #[.int .u8 a0_0, .int .u8 a0_1, .int .u8 a0_2, .int .u8 a0_3] 23 (0, 0)) (by (with_reducible repeat (first | refine blk_drewN ?_ _ | refine blk_drew ?_ | refine blk_alloc ?_ _)); exact BK124.out)) : gb124 ≠ gb125)); have n6_ := Aside0.mk ((by rw [hg]; exact Nat.ne_of_gt (blk_lt (g := gb124) (o := .cells #[.int .u8 a0_0, .int .u8 a0_1, .int .u8 a0_2, .int .u8 a0_3] 23 (0, 0)) (by (with_reducible repeat (first | refine blk_drewN ?_ _ | refine blk_drew ?_ | refine blk_alloc ?_ _)); exact BK124.out)) : gb125 ≠ gb124)); clear BK124; clear HB; have BK124 := n0_; have HB := n1_; have BK125 := n2_; have GW125 := n3_; have GE125 := n4_; have NB124_125 := n5_; have NB125_124 := n6_; clear n0_ n1_ n2_ n3_ n4_ n5_ n6_; clear hb hbox hg) | ((with_reducible refine gate_dst (N := 4) rfl ?_); refine box_event ?hg (N := 4) ?hd (cs := #[.int .u8 0, .int .u8 0, .int .u8 0, .int .u8 0]) (t := 23) ?hr ?_; (case hd => rfl); (case hg => rfl); (case hr => first | (go_simp; done) | (go_simp; rfl)); intro gb126 hg w7 hbox hb; have n0_ := Aside0.mk (blk_below (g := gb124) (o := .cells #[.int .u8 a0_0, .int .u8 a0_1, .int .u8 a0_2, .int .u8 a0_3] 23 (0, 0)) (by (with_reducible repeat (first | refine blk_drewN ?_ _ | refine blk_drew ?_ | refine blk_alloc ?_ _)); exact BK124.out) hb); have n1_ := Aside0.mk (blk_below (g := gb125) (o := .cells #[.int .u8 a1_0, .int .u8 a1_1, .int .u8 a1_2, .int .u8 a1_3] 23 (0, 0)) (by (with_reducible repeat (first | refine blk_drewN ?_ _ | refine blk_drew ?_ | refine blk_alloc ?_ _)); exact BK125.out) hb); have n2_ := Aside0.mk (below_step (by repeat (first | (with_reducible first | exact HB.out | apply below_alloc | apply pw_below_drewN | apply below_drew1 | refine below_set ?_ GE124.out | refine below_set ?_ GE125.out) | exact HB.out)) hb); have n3_ := Aside0.mk (hbox); have n4_ := Aside0.mk ((by rw [hg]; exact (below_size (by repeat (first | (with_reducible first | exact HB.out | apply below_alloc | apply pw_below_drewN | apply below_drew1 | refine below_set ?_ GE124.out | refine below_set ?_ GE125.out) | exact HB.out))) : w.heap.size ≤ gb126)); have n5_ := Aside0.mk ((by rw [hg]; exact (below_size (by repeat (first | (with_reducible first | exact HB.out | apply below_alloc | apply pw_below_drewN | apply below_drew1 | refine below_set ?_ GE124.out | refine below_set ?_ GE125.out) | exact HB.out))) : w.heap.size ≤ gb126)); have n6_ := Aside0.mk ((by rw [hg]; exact Nat.ne_of_lt (blk_lt (g := gb124) (o := .cells #[.int .u8 a0_0, .int .u8 a0_1, .int .u8 a0_2, .int .u8 a0_3] 23 (0, 0)) (by (with_reducible repeat (first | refine blk_drewN ?_ _ | refine blk_drew ?_ | refine blk_alloc ?_ _)); exact BK124.out)) : gb124 ≠ gb126)); have n7_ := Aside0.mk ((by rw [hg]; exact Nat.ne_of_gt (blk_lt (g := gb124) (o := .cells #[.int .u8 a0_0, .int .u8 a0_1, .int .u8 a0_2, .int .u8 a0_3] 23 (0, 0)) (by (with_reducible repeat (first | refine blk_drewN ?_ _ | refine blk_drew ?_ | refine blk_alloc ?_ _)); exact BK124.out)) : gb126 ≠ gb124)); have n8_ := Aside0.mk ((by rw [hg]; exact Nat.ne_of_lt (blk_lt (g := gb125) (o := .cells #[.int .u8 a1_0, .int .u8 a1_1, .int .u8 a1_2, .int .u8 a1_3] 23 (0, 0)) (by (with_reducible repeat (first | refine blk_drewN ?_ _ | refine blk_drew ?_ | refine blk_alloc ?_ _)); exact BK125.out)) : gb125 ≠ gb126)); have n9_ := Aside0.mk ((by rw [hg]; exact Nat.ne_of_gt (blk_lt (g := gb125) (o := .cells #[.int .u8 a1_0, .int .u8 a1_1, .int .u8 a1_2, .int .u8 a1_3] 23 (0, 0)) (by (with_reducible repeat (first | refine blk_drewN ?_ _ | refine blk_drew ?_ | refine blk_alloc ?_ _)); exact BK125.out)) : gb126 ≠ gb125)); clear BK124; clear BK125; clear HB; have BK124 := n0_; have BK125 := n1_; have HB := n2_; have BK126 := n3_; have GW126 := n4_; have GE126 := n5_; have NB124_126 := n6_; have NB126_124 := n7_; have NB125_126 := n8_; have NB126_125 := n9_; clear n0_ n1_ n2_ n3_ n4_ n5_ n6_ n7_ n8_ n9_; clear hb hbox hg; have hnb8 := NB124_125.out; have hnc8 := NB125_124.out; have hnb9 := NB124_126.out; have hnc9 := NB126_124.out; have hcz10_0 : w7.cell? ⟨gb124, 0, none⟩ = some (.int .u8 a0_0) := (blk_cell BK124.out 0).trans rfl; have hcz10_1 : w7.cell? ⟨gb124, 1, none⟩ = some (.int .u8 a0_1) := (blk_cell BK124.out 1).trans rfl; have hcz10_2 : w7.cell? ⟨gb124, 2, none⟩ = some (.int .u8 a0_2) := (blk_cell BK124.out 2).trans rfl; have hcz10_3 : w7.cell? ⟨gb124, 3, none⟩ = some (.int .u8 a0_3) := (blk_cell BK124.out 3).trans rfl; have hfz10_0 := blk_frozen BK124.out 0; have hfz10_1 := blk_frozen BK124.out 1; have hfz10_2 := blk_frozen BK124.out 2; have hfz10_3 := blk_frozen BK124.out 3) | ((with_reducible refine gate_callee (f := 18) rfl ?_); refine goesL_ (some 6) rfl rfl Try.func18 (by kernel_rfl) rfl #[.agg #[.int .u8 a0_0, .int .u8 a0_1, .int .u8 a0_2, .int .u8 a0_3]] rfl (by (try simp only [List.map_toArray, List.map_cons, List.map_nil]); first | done | rfl | (simp only [List.length_drop, List.length_take]; rfl)) ?_; (with_reducible refine (pixel_Clamp.calls a0_0 a0_1 a0_2 a0_3 t127 t128 t129 t130 _ A3.out).mono ?_); rintro e w11 ⟨rfl, hb⟩; refine ⟨_, rfl, ?_⟩; have n0_ := Aside0.mk (blk_below (g := gb124) (o := .cells #[.int .u8 a0_0, .int .u8 a0_1, .int .u8 a0_2, .int .u8 a0_3] 23 (0, 0)) (by (with_reducible repeat (first | refine blk_drewN ?_ _ | refine blk_drew ?_ | refine blk_alloc ?_ _)); exact BK124.out) hb); have n1_ := Aside0.mk (blk_below (g := gb125) (o := .cells #[.int .u8 a1_0, .int .u8 a1_1, .int .u8 a1_2, .int .u8 a1_3] 23 (0, 0)) (by (with_reducible repeat (first | refine blk_drewN ?_ _ | refine blk_drew ?_ | refine blk_alloc ?_ _)); exact BK125.out) hb); have n2_ := Aside0.mk (blk_below (g := gb126) (o := .cells #[.int .u8 0, .int .u8 0, .int .u8 0, .int .u8 0] 23 (0, 0)) (by (with_reducible repeat (first | refine blk_drewN ?_ _ | refine blk_drew ?_ | refine blk_alloc ?_ _)); exact BK126.out) hb); have n3_ := Aside0.mk (below_step (by repeat (first | (with_reducible first | exact HB.out | apply below_alloc | apply pw_below_drewN | apply below_drew1 | refine below_set ?_ GE124.out | refine below_set ?_ GE125.out | refine below_set ?_ GE126.out) | exact HB.out)) hb); clear BK124; clear BK125; clear BK126; clear HB; have BK124 := n0_; have BK125 := n1_; have BK126 := n2_; have HB := n3_; clear n0_ n1_ n2_ n3_; (try clear hb); (try clear hb2); (try clear hk); (try clear hi); have hcz12_0 : w11.cell? ⟨gb124, 0, none⟩ = some (.int .u8 a0_0) := (blk_cell BK124.out 0).trans rfl; have hcz12_1 : w11.cell? ⟨gb124, 1, none⟩ = some (.int .u8 a0_1) := (blk_cell BK124.out 1).trans rfl; have hcz12_2 : w11.cell? ⟨gb124, 2, none⟩ = some (.int .u8 a0_2) := (blk_cell BK124.out 2).trans rfl; have hcz12_3 : w11.cell? ⟨gb124, 3, none⟩ = some (.int .u8 a0_3) := (blk_cell BK124.out 3).trans rfl; have hfz12_0 := blk_frozen BK124.out 0; have hfz12_1 := blk_frozen BK124.out 1; have hfz12_2 := blk_frozen BK124.out 2; have hfz12_3 := blk_frozen BK124.out 3; have hnb13 := NB125_126.out; have hnc13 := NB126_125.out; have hcz14_0 : w11.cell? ⟨gb125, 0, none⟩ = some (.int .u8 a1_0) := (blk_cell BK125.out 0).trans rfl; have hcz14_1 : w11.cell? ⟨gb125, 1, none⟩ = some (.int .u8 a1_1) := (blk_cell BK125.out 1).trans rfl; have hcz14_2 : w11.cell? ⟨gb125, 2, none⟩ = some (.int .u8 a1_2) := (blk_cell BK125.out 2).trans rfl; have hcz14_3 : w11.cell? ⟨gb125, 3, none⟩ = some (.int .u8 a1_3) := (blk_cell BK125.out 3).trans rfl; have hfz14_0 := blk_frozen BK125.out 0; have hfz14_1 := blk_frozen BK125.out 1; have hfz14_2 := blk_frozen BK125.out 2; have hfz14_3 := blk_frozen BK125.out 3) | ((with_reducible refine gate_callee (f := 11) rfl ?_); refine goesL_ (some 11) rfl rfl Try.func11 (by kernel_rfl) rfl #[.agg #[.int .u8 a1_0, .int .u8 a1_1, .int .u8 a1_2, .int .u8 a1_3], .int .u8 ((255 - t130) % 256)] rfl (by (try simp only [List.map_toArray, List.map_cons, List.map_nil]); first | done | rfl | (simp only [List.length_drop, List.length_take]; rfl)) ?_; (with_reducible refine (pixel_Scale.calls a1_0 a1_1 a1_2 a1_3 ((255 - t130) % 256) t131 t132 t133 t134 _ A4.out).mono ?_); rintro e w15 ⟨rfl, hb⟩; refine ⟨_, rfl, ?_⟩; have n0_ := Aside0.mk (blk_below (g := gb124) (o := .cells #[.int .u8 t127, .int .u8 t128, .int .u8 t129, .int .u8 t130] 23 (0, 0)) (by (with_reducible repeat (first | refine blk_drewN ?_ _ | refine blk_drew ?_ | refine blk_alloc ?_ _)); refine blk_put (cs := #[.int .u8 t127, .int .u8 t128, .int .u8 t129, .int .u8 a0_3]) ?_ 3 _ rfl; (with_reducible repeat (first | refine blk_drewN ?_ _ | refine blk_drew ?_ | refine blk_alloc ?_ _)); refine blk_put (cs := #[.int .u8 t127, .int .u8 t128, .int .u8 a0_2, .int .u8 a0_3]) ?_ 2 _ rfl; (with_reducible repeat (first | refine blk_drewN ?_ _ | refine blk_drew ?_ | refine blk_alloc ?_ _)); refine blk_put (cs := #[.int .u8 t127, .int .u8 a0_1, .int .u8 a0_2, .int .u8 a0_3]) ?_ 1 _ rfl; (with_reducible repeat (first | refine blk_drewN ?_ _ | refine blk_drew ?_ | refine blk_alloc ?_ _)); refine blk_put (cs := #[.int .u8 a0_0, .int .u8 a0_1, .int .u8 a0_2, .int .u8 a0_3]) ?_ 0 _ rfl; (with_reducible repeat (first | refine blk_drewN ?_ _ | refine blk_drew ?_ | refine blk_alloc ?_ _)); exact BK124.out) hb); have n1_ := Aside0.mk (blk_below (g := gb125) (o := .cells #[.int .u8 a1_0, .int .u8 a1_1, .int .u8 a1_2, .int .u8 a1_3] 23 (0, 0)) (by (with_reducible repeat (first | refine blk_drewN ?_ _ | refine blk_drew ?_ | refine blk_alloc ?_ _)); refine blk_far ?_ NB125_124.out _; (with_reducible repeat (first | refine blk_drewN ?_ _ | refine blk_drew ?_ | refine blk_alloc ?_ _)); refine blk_far ?_ NB125_124.out _; (with_reducible repeat (first | refine blk_drewN ?_ _ | refine blk_drew ?_ | refine blk_alloc ?_ _)); refine blk_far ?_ NB125_124.out _; (with_reducible repeat (first | refine blk_drewN ?_ _ | refine blk_drew ?_ | refine blk_alloc ?_ _)); refine blk_far ?_ NB125_124.out _; (with_reducible repeat (first | refine blk_drewN ?_ _ | refine blk_drew ?_ | refine blk_alloc ?_ _)); exact BK125.out) hb); have n2_ := Aside0.mk (blk_below (g := gb126) (o := .cells #[.int .u8 0, .int .u8 0, .int .u8 0, .int .u8 0] 23 (0, 0)) (by (with_reducible repeat (first | refine blk_drewN ?_ _ | refine blk_drew ?_ | refine blk_alloc ?_ _)); refine blk_far ?_ NB126_124.out _; (with_reducible repeat (first | refine blk_drewN ?_ _ | refine blk_drew ?_ | refine blk_alloc ?_ _)); refine blk_far ?_ NB126_124.out _; (with_reducible repeat (first | refine blk_drewN ?_ _ | refine blk_drew ?_ | refine blk_alloc ?_ _)); refine blk_far ?_ NB126_124.out _; (with_reducible repeat (first | refine blk_drewN ?_ _ | refine blk_drew ?_ | refine blk_alloc ?_ _)); refine blk_far ?_ NB126_124.out _; (with_reducible repeat (first | refine blk_drewN ?_ _ | refine blk_drew ?_ | refine blk_alloc ?_ _)); exact BK126.out) hb); have n3_ := Aside0.mk (below_step (by repeat (first | (with_reducible first | exact HB.out | apply below_alloc | apply pw_below_drewN | apply below_drew1 | refine below_set ?_ GE124.out | refine below_set ?_ GE125.out | refine below_set ?_ GE126.out) | exact HB.out)) hb); clear BK124; clear BK125; clear BK126; clear HB; have BK124 := n0_; have BK125 := n1_; have BK126 := n2_; have HB := n3_; clear n0_ n1_ n2_ n3_; (try clear hb); (try clear hb2); (try clear hk); (try clear hi); have hcz16_0 : w15.cell? ⟨gb125, 0, none⟩ = some (.int .u8 a1_0) := (blk_cell BK125.out 0).trans rfl; have hcz16_1 : w15.cell? ⟨gb125, 1, none⟩ = some (.int .u8 a1_1) := (blk_cell BK125.out 1).trans rfl; have hcz16_2 : w15.cell? ⟨gb125, 2, none⟩ = some (.int .u8 a1_2) := (blk_cell BK125.out 2).trans rfl; have hcz16_3 : w15.cell? ⟨gb125, 3, none⟩ = some (.int .u8 a1_3) := (blk_cell BK125.out 3).trans rfl; have hfz16_0 := blk_frozen BK125.out 0; have hfz16_1 := blk_frozen BK125.out 1; have hfz16_2 := blk_frozen BK125.out 2; have hfz16_3 := blk_frozen BK125.out 3; have hcz17_0 : w15.cell? ⟨gb124, 0, none⟩ = some (.int .u8 t127) := (blk_cell BK124.out 0).trans rfl; have hcz17_1 : w15.cell? ⟨gb124, 1, none⟩ = some (.int .u8 t128) := (blk_cell BK124.out 1).trans rfl; have hcz17_2 : w15.cell? ⟨gb124, 2, none⟩ = some (.int .u8 t129) := (blk_cell BK124.out 2).trans rfl; have hcz17_3 : w15.cell? ⟨gb124, 3, none⟩ = some (.int .u8 t130) := (blk_cell BK124.out 3).trans rfl; have hfz17_0 := blk_frozen BK124.out 0; have hfz17_1 := blk_frozen BK124.out 1; have hfz17_2 := blk_frozen BK124.out 2; have hfz17_3 := blk_frozen BK124.out 3; have hcz18_0 : w15.cell? ⟨gb126, 0, none⟩ = some (.int .u8 0) := (blk_cell BK126.out 0).trans rfl; have hcz18_1 : w15.cell? ⟨gb126, 1, none⟩ = some (.int .u8 0) := (blk_cell BK126.out 1).trans rfl; have hcz18_2 : w15.cell? ⟨gb126, 2, none⟩ = some (.int .u8 0) := (blk_cell BK126.out 2).trans rfl; have hcz18_3 : w15.cell? ⟨gb126, 3, none⟩ = some (.int .u8 0) := (blk_cell BK126.out 3).trans rfl; have hfz18_0 := blk_frozen BK126.out 0; have hfz18_1 := blk_frozen BK126.out 1; have hfz18_2 := blk_frozen BK126.out 2; have hfz18_3 := blk_frozen BK126.out 3))
  refine bodyPost_ret (results_cell_row rfl _ _ gb126 23 #[.int .u8 ((t127 + t131) % 256), .int .u8 ((t128 + t132) % 256), .int .u8 ((t129 + t133) % 256), .int .u8 ((t130 + t134) % 256)] (0, 0) _ rfl (by (with_reducible repeat (first | refine blk_drewN ?_ _ | refine blk_drew ?_ | refine blk_alloc ?_ _)); refine blk_put (cs := #[.int .u8 ((t127 + t131) % 256), .int .u8 ((t128 + t132) % 256), .int .u8 ((t129 + t133) % 256), .int .u8 0]) ?_ 3 _ rfl; (with_reducible repeat (first | refine blk_drewN ?_ _ | refine blk_drew ?_ | refine blk_alloc ?_ _)); refine blk_put (cs := #[.int .u8 ((t127 + t131) % 256), .int .u8 ((t128 + t132) % 256), .int .u8 0, .int .u8 0]) ?_ 2 _ rfl; (with_reducible repeat (first | refine blk_drewN ?_ _ | refine blk_drew ?_ | refine blk_alloc ?_ _)); refine blk_put (cs := #[.int .u8 ((t127 + t131) % 256), .int .u8 0, .int .u8 0, .int .u8 0]) ?_ 1 _ rfl; (with_reducible repeat (first | refine blk_drewN ?_ _ | refine blk_drew ?_ | refine blk_alloc ?_ _)); refine blk_put (cs := #[.int .u8 0, .int .u8 0, .int .u8 0, .int .u8 0]) ?_ 0 _ rfl; (with_reducible repeat (first | refine blk_drewN ?_ _ | refine blk_drew ?_ | refine blk_alloc ?_ _)); refine blk_far ?_ NB126_125.out _; (with_reducible repeat (first | refine blk_drewN ?_ _ | refine blk_drew ?_ | refine blk_alloc ?_ _)); refine blk_far ?_ NB126_125.out _; (with_reducible repeat (first | refine blk_drewN ?_ _ | refine blk_drew ?_ | refine blk_alloc ?_ _)); refine blk_far ?_ NB126_125.out _; (with_reducible repeat (first | refine blk_drewN ?_ _ | refine blk_drew ?_ | refine blk_alloc ?_ _)); refine blk_far ?_ NB126_125.out _; (with_reducible repeat (first | refine blk_drewN ?_ _ | refine blk_drew ?_ | refine blk_alloc ?_ _)); exact BK126.out) Try.underlying23 rfl (by kernel_rfl)) rfl ?_
  exact ⟨by first | rfl | (simp [errW_none, errW_some] <;> rfl) | (simp [*, errW_none, errW_some] <;> rfl), by repeat (first | (with_reducible first | exact HB.out | apply below_alloc | apply pw_below_drewN | apply below_drew1 | refine below_set ?_ GE124.out | refine below_set ?_ GE125.out | refine below_set ?_ GE126.out) | exact HB.out)⟩
end Go.Proofs.Ytdhjbdofklglgaa.All
end
section
namespace Go.Proofs.Ytdhjbdofklglgaa.All
open Go.RowKit Go.Proofs.YtdhjbdofklglgaaW.PrintWords Go.Proofs.YtdhjbdofklglgaaW.PrintLast Go.Proofs.YtdhjbdofklglgaaW.PrintMore
attribute [local go_sem] max2_int min2_int max_two min_two max_three min_three max_four min_four
set_option linter.unusedVariables false
set_option linter.unusedSimpArgs false
section
open Go.Proofs.YtdhjbdofklglgaaHand
def pixel_Average.me (s n : Int) : Int := IntKind.u8.wrap (IntKind.i64.wrap ((IntKind.i64.wrap (IntKind.i64.wrap (2 * s) + n)).tdiv (IntKind.i64.wrap (2 * n))))
theorem pixel_Average.lit0 (s n : Int) (gs gn : Nat) (w : World) (hs : w.cell? ⟨gs, 0, none⟩ = some (.int .i64 s)) (hn : w.cell? ⟨gn, 0, none⟩ = some (.int .i64 n)) (h0 : ¬ IntKind.i64.wrap (2 * n) = 0) :
    Calls Try.prog 33 #[.int .i64 0, .pointer (some ⟨gs, 0, none⟩), .pointer (some ⟨gn, 0, none⟩)] w fun e w' => e = .returned (.int .u8 (pixel_Average.me s n)) ∧ Drawn0 w w' := by
  go_enter Try.func33, Try.ntmps33
  go_wp2_with fail
  go_quiet (fail)
  go_wp2
  go_ret
  exact ⟨rfl, by repeat (first | exact Drawn0.refl _ | apply Drawn0.step)⟩
theorem pixel_Average.lit1 (s n : Int) (gs gn : Nat) (w : World) (hs : w.cell? ⟨gs, 1, none⟩ = some (.int .i64 s)) (hn : w.cell? ⟨gn, 0, none⟩ = some (.int .i64 n)) (h0 : ¬ IntKind.i64.wrap (2 * n) = 0) :
    Calls Try.prog 33 #[.int .i64 1, .pointer (some ⟨gs, 0, none⟩), .pointer (some ⟨gn, 0, none⟩)] w fun e w' => e = .returned (.int .u8 (pixel_Average.me s n)) ∧ Drawn0 w w' := by
  go_enter Try.func33, Try.ntmps33
  go_wp2_with fail
  go_quiet (fail)
  go_wp2
  go_ret
  exact ⟨rfl, by repeat (first | exact Drawn0.refl _ | apply Drawn0.step)⟩
theorem pixel_Average.lit2 (s n : Int) (gs gn : Nat) (w : World) (hs : w.cell? ⟨gs, 2, none⟩ = some (.int .i64 s)) (hn : w.cell? ⟨gn, 0, none⟩ = some (.int .i64 n)) (h0 : ¬ IntKind.i64.wrap (2 * n) = 0) :
    Calls Try.prog 33 #[.int .i64 2, .pointer (some ⟨gs, 0, none⟩), .pointer (some ⟨gn, 0, none⟩)] w fun e w' => e = .returned (.int .u8 (pixel_Average.me s n)) ∧ Drawn0 w w' := by
  go_enter Try.func33, Try.ntmps33
  go_wp2_with fail
  go_quiet (fail)
  go_wp2
  go_ret
  exact ⟨rfl, by repeat (first | exact Drawn0.refl _ | apply Drawn0.step)⟩
theorem pixel_Average.lit3 (s n : Int) (gs gn : Nat) (w : World) (hs : w.cell? ⟨gs, 3, none⟩ = some (.int .i64 s)) (hn : w.cell? ⟨gn, 0, none⟩ = some (.int .i64 n)) (h0 : ¬ IntKind.i64.wrap (2 * n) = 0) :
    Calls Try.prog 33 #[.int .i64 3, .pointer (some ⟨gs, 0, none⟩), .pointer (some ⟨gn, 0, none⟩)] w fun e w' => e = .returned (.int .u8 (pixel_Average.me s n)) ∧ Drawn0 w w' := by
  go_enter Try.func33, Try.ntmps33
  go_wp2_with fail
  go_quiet (fail)
  go_wp2
  go_ret
  exact ⟨rfl, by repeat (first | exact Drawn0.refl _ | apply Drawn0.step)⟩
def pixel_Average.step (s : Int × Int × Int × Int) (p : S23) : Int × Int × Int × Int := (wrap64 (s.1 + wrap64 (mn p.f0 p.f3)), wrap64 (s.2.1 + wrap64 (mn p.f1 p.f3)), wrap64 (s.2.2.1 + wrap64 (mn p.f2 p.f3)), wrap64 (s.2.2.2 + wrap64 p.f3))
def pixel_Average.sums (l : List S23) : Int × Int × Int × Int := l.foldl pixel_Average.step (0, 0, 0, 0)
theorem pixel_Average.sums_snoc (l : List S23) (i : Nat) (h : i < l.length) : pixel_Average.sums (l.take (i + 1)) = pixel_Average.step (pixel_Average.sums (l.take i)) (rd_T23 l i) := by
  unfold pixel_Average.sums
  rw [List.take_succ_eq_append_getElem h, List.foldl_append]
  simp [rd_T23, List.getD_eq_getElem?_getD, List.getElem?_eq_getElem h]
def pixel_Average.f (l0 : List S23) : Option (Int × Int × Int × Int) := if (l0.length : Int) = 0 then some (0, 0, 0, 0) else
  if IntKind.i64.wrap (2 * (l0.length : Int)) = 0 then none else some (pixel_Average.me (pixel_Average.sums l0).1 l0.length, pixel_Average.me (pixel_Average.sums l0).2.1 l0.length, pixel_Average.me (pixel_Average.sums l0).2.2.1 l0.length, pixel_Average.me (pixel_Average.sums l0).2.2.2 l0.length)
set_option maxHeartbeats 4000000 in
theorem pixel_Average.calls (A0 : Option Addr) (c0 : Nat) (l0 : List S23) (r1 r2 r3 r4 : Int) (w : World) (hr0 : Kd.C k23 w A0 l0.length l0) (hc0 : l0.length ≤ c0) (h : pixel_Average.f l0 = some (r1, r2, r3, r4)) :
    Calls Try.prog 16 #[.slice A0 l0.length c0] w fun e w' => e = .returned (.agg #[.int .u8 r1, .int .u8 r2, .int .u8 r3, .int .u8 r4]) ∧ Below w.heap.size w w' := by
  unfold pixel_Average.f at h
  have hmax : l0.length ≤ 9223372036854775807 := hr0.2.1
  have hr := Aside0.mk hr0
  clear hr0
  by_cases z : (l0.length : Int) = 0
  · rw [if_pos z] at h
    obtain ⟨rfl, rfl, rfl, rfl⟩ : 0 = r1 ∧ 0 = r2 ∧ 0 = r3 ∧ 0 = r4 := by simpa using h
    have z1 : ((l0.length : Int) == 0) = true := beq_iff_eq.mpr z
    clear z h
    go_enter Try.func16, Try.ntmps16
    go_wp2_with fail
    obtain ⟨hR0, -, hb0⟩ := allocs2 w (Obj.cells #[Value.int IntKind.u8 0, Value.int IntKind.u8 0, Value.int IntKind.u8 0, Value.int IntKind.u8 0] 23) (Obj.cells #[.int .i64 l0.length] 3)
    exact bodyPost_ret (results_cell_row rfl _ _ w.heap.size 23 #[.int .u8 0, .int .u8 0, .int .u8 0, .int .u8 0] (0, 0) _ rfl hR0 Try.underlying23 rfl (by kernel_rfl)) rfl ⟨rfl, hb0⟩
  · rw [if_neg z] at h
    have z1 : ((l0.length : Int) == 0) = false := beq_eq_false_iff_ne.mpr z
    by_cases zn : IntKind.i64.wrap (2 * (l0.length : Int)) = 0
    · rw [if_pos zn] at h; cases h
    rw [if_neg zn] at h
    obtain ⟨rfl, rfl, rfl, rfl⟩ : pixel_Average.me (pixel_Average.sums l0).1 l0.length = r1 ∧ pixel_Average.me (pixel_Average.sums l0).2.1 l0.length = r2 ∧ pixel_Average.me (pixel_Average.sums l0).2.2.1 l0.length = r3 ∧ pixel_Average.me (pixel_Average.sums l0).2.2.2 l0.length = r4 := by simpa using h
    have hzn := Aside0.mk zn
    clear z h zn
    go_enter Try.func16, Try.ntmps16
    go_wp2_with fail
    obtain ⟨hR0, hN0, hS0, hb0⟩ := allocs3 w (Obj.cells #[Value.int IntKind.u8 0, Value.int IntKind.u8 0, Value.int IntKind.u8 0, Value.int IntKind.u8 0] 23) (Obj.cells #[.int .i64 l0.length] 3) (Obj.cells #[Value.int IntKind.i64 0, Value.int IntKind.i64 0, Value.int IntKind.i64 0, Value.int IntKind.i64 0] 46)
    generalize ((w.alloc (Obj.cells #[Value.int IntKind.u8 0, Value.int IntKind.u8 0, Value.int IntKind.u8 0, Value.int IntKind.u8 0] 23)).alloc (Obj.cells #[.int .i64 l0.length] 3)).alloc (Obj.cells #[Value.int IntKind.i64 0, Value.int IntKind.i64 0, Value.int IntKind.i64 0, Value.int IntKind.i64 0] 46) = W at hR0 hN0 hS0 hb0 ⊢
    have hR := Aside0.mk hR0
    have hN := Aside0.mk hN0
    have hS := Aside0.mk hS0
    have hb := Aside0.mk hb0
    clear hR0 hN0 hS0 hb0
    clear z1
    go_loopw [17] (fun v w' => ∃ i : Nat, i ≤ l0.length ∧ v = .int .i64 i ∧ Aside0 (w'.heap[w.heap.size]? = some (.cells #[Value.int IntKind.u8 0, Value.int IntKind.u8 0, Value.int IntKind.u8 0, Value.int IntKind.u8 0] 23 (0, 0)))
      ∧ Aside0 (w'.heap[w.heap.size + 1]? = some (.cells #[.int .i64 l0.length] 3 (0, 0)))
      ∧ Aside0 (w'.heap[w.heap.size + 1 + 1]? = some (.cells #[.int .i64 (pixel_Average.sums (l0.take i)).1, .int .i64 (pixel_Average.sums (l0.take i)).2.1, .int .i64 (pixel_Average.sums (l0.take i)).2.2.1, .int .i64 (pixel_Average.sums (l0.take i)).2.2.2] 46 (0, 0)))
      ∧ Aside0 (Below w.heap.size w w')) (fun v _ => l0.length - (intOf v).toNat)
    case atStart => exact ⟨0, Nat.zero_le _, rfl, hR, hN, ⟨hS.out⟩, hb⟩
    case round =>
      clear hR hN hS hb
      obtain ⟨i, hi, rfl, hR, hN, hS, hb⟩ := hrel
      by_cases hlt : i < l0.length
      · obtain ⟨ad, e0, x0, x1, x2, x3⟩ := at_T23 hr.out (i : Int) (by omega) (by omega)
        cases e0
        simp only [Int.toNat_natCast] at x0 x1 x2 x3
        replace x0 := (hb.out.cell (World.block_lt_of_cell? w _ x0)).trans x0
        replace x1 := (hb.out.cell (World.block_lt_of_cell? w _ x1)).trans x1
        replace x2 := (hb.out.cell (World.block_lt_of_cell? w _ x2)).trans x2
        replace x3 := (hb.out.cell (World.block_lt_of_cell? w _ x3)).trans x3
        go_wp2_with fail
        generalize hp : rd_T23 l0 (i : Int) = p at x0 x1 x2 x3 ⊢
        have Hp := Aside0.mk hp
        clear hp x0 x1 x2 x3
        have hgb := blk_lt hS.out
        obtain ⟨hP0, hb1⟩ := allocs1 wr (Obj.cells #[Value.int IntKind.u8 p.f0, Value.int IntKind.u8 p.f1, Value.int IntKind.u8 p.f2, Value.int IntKind.u8 p.f3] 23)
        replace hR := Aside0.mk (blk_below hR.out hb1)
        replace hN := Aside0.mk (blk_below hN.out hb1)
        replace hS := Aside0.mk (blk_below hS.out hb1)
        have hge := hb.out.size
        replace hb := Aside0.mk (below_then hb.out (by omega) hb1)
        generalize wr.alloc (Obj.cells #[Value.int IntKind.u8 p.f0, Value.int IntKind.u8 p.f1, Value.int IntKind.u8 p.f2, Value.int IntKind.u8 p.f3] 23) = W1 at hR hN hS hb hb1 hP0 ⊢
        have hP := Aside0.mk hP0
        clear hb1 hP0
        refine (pixel_Clamp.calls _ _ _ _ (mn p.f0 p.f3) (mn p.f1 p.f3) (mn p.f2 p.f3) p.f3 W1 rfl).mono ?_
        rintro e w1 ⟨rfl, hb1⟩
        replace hR := Aside0.mk (blk_below hR.out hb1)
        replace hN := Aside0.mk (blk_below hN.out hb1)
        replace hS := Aside0.mk (blk_below hS.out hb1)
        replace hP := Aside0.mk (blk_below hP.out hb1)
        have hge1 := hb.out.size
        replace hb := Aside0.mk (below_then hb.out (by omega) hb1)
        clear hb1 hge1
        have y0 := (blk_cell hP.out 0).trans rfl
        have y1 := (blk_cell hP.out 1).trans rfl
        have y2 := (blk_cell hP.out 2).trans rfl
        have y3 := (blk_cell hP.out 3).trans rfl
        have z0 := blk_frozen hP.out 0
        have z1 := blk_frozen hP.out 1
        have z2 := blk_frozen hP.out 2
        have z3 := blk_frozen hP.out 3
        go_wp2_with fail
        replace hR := Aside0.mk (blk_far (blk_far (blk_far (blk_far hR.out (p := ⟨wr.heap.size, 0, none⟩) (by simp; omega) (.int .u8 (mn p.f0 p.f3))) (p := ⟨wr.heap.size, 1, none⟩) (by simp; omega) (.int .u8 (mn p.f1 p.f3))) (p := ⟨wr.heap.size, 2, none⟩) (by simp; omega) (.int .u8 (mn p.f2 p.f3))) (p := ⟨wr.heap.size, 3, none⟩) (by simp; omega) (.int .u8 p.f3))
        replace hN := Aside0.mk (blk_far (blk_far (blk_far (blk_far hN.out (p := ⟨wr.heap.size, 0, none⟩) (by simp; omega) (.int .u8 (mn p.f0 p.f3))) (p := ⟨wr.heap.size, 1, none⟩) (by simp; omega) (.int .u8 (mn p.f1 p.f3))) (p := ⟨wr.heap.size, 2, none⟩) (by simp; omega) (.int .u8 (mn p.f2 p.f3))) (p := ⟨wr.heap.size, 3, none⟩) (by simp; omega) (.int .u8 p.f3))
        replace hS := Aside0.mk (blk_far (blk_far (blk_far (blk_far hS.out (p := ⟨wr.heap.size, 0, none⟩) (by simp; omega) (.int .u8 (mn p.f0 p.f3))) (p := ⟨wr.heap.size, 1, none⟩) (by simp; omega) (.int .u8 (mn p.f1 p.f3))) (p := ⟨wr.heap.size, 2, none⟩) (by simp; omega) (.int .u8 (mn p.f2 p.f3))) (p := ⟨wr.heap.size, 3, none⟩) (by simp; omega) (.int .u8 p.f3))
        replace hb := Aside0.mk (below_set (below_set (below_set (below_set hb.out (g := wr.heap.size) (j := 0) (v := .int .u8 (mn p.f0 p.f3)) hge) (g := wr.heap.size) (j := 1) (v := .int .u8 (mn p.f1 p.f3)) hge) (g := wr.heap.size) (j := 2) (v := .int .u8 (mn p.f2 p.f3)) hge) (g := wr.heap.size) (j := 3) (v := .int .u8 p.f3) hge)
        clear y0 y1 y2 y3 z0 z1 z2 z3 hP
        generalize ((((w1.setCell { block := wr.heap.size, off := 0 } (Value.int IntKind.u8 (mn p.f0 p.f3))).setCell { block := wr.heap.size, off := 1 } (Value.int IntKind.u8 (mn p.f1 p.f3))).setCell { block := wr.heap.size, off := 2 } (Value.int IntKind.u8 (mn p.f2 p.f3))).setCell { block := wr.heap.size, off := 3 } (Value.int IntKind.u8 p.f3)) = W3 at hR hN hS hb ⊢
        have i0 : ∀ W, (Instr.index 47 (.agg #[Value.int IntKind.u8 (mn p.f0 p.f3), Value.int IntKind.u8 (mn p.f1 p.f3), Value.int IntKind.u8 (mn p.f2 p.f3), Value.int IntKind.u8 p.f3]) (.int .i64 0)).run Try.prog W = .ok (Value.int IntKind.u8 (mn p.f0 p.f3)) W := fun _ => by kernel_rfl
        have i1 : ∀ W, (Instr.index 47 (.agg #[Value.int IntKind.u8 (mn p.f0 p.f3), Value.int IntKind.u8 (mn p.f1 p.f3), Value.int IntKind.u8 (mn p.f2 p.f3), Value.int IntKind.u8 p.f3]) (.int .i64 1)).run Try.prog W = .ok (Value.int IntKind.u8 (mn p.f1 p.f3)) W := fun _ => by kernel_rfl
        have i2 : ∀ W, (Instr.index 47 (.agg #[Value.int IntKind.u8 (mn p.f0 p.f3), Value.int IntKind.u8 (mn p.f1 p.f3), Value.int IntKind.u8 (mn p.f2 p.f3), Value.int IntKind.u8 p.f3]) (.int .i64 2)).run Try.prog W = .ok (Value.int IntKind.u8 (mn p.f2 p.f3)) W := fun _ => by kernel_rfl
        have i3 : ∀ W, (Instr.index 47 (.agg #[Value.int IntKind.u8 (mn p.f0 p.f3), Value.int IntKind.u8 (mn p.f1 p.f3), Value.int IntKind.u8 (mn p.f2 p.f3), Value.int IntKind.u8 p.f3]) (.int .i64 3)).run Try.prog W = .ok (Value.int IntKind.u8 p.f3) W := fun _ => by kernel_rfl
        generalize hs : pixel_Average.sums (l0.take i) = s at hS
        have Hs := Aside0.mk hs
        clear hs
        have y0 := (blk_cell hS.out 0).trans rfl
        have y1 := (blk_cell hS.out 1).trans rfl
        have y2 := (blk_cell hS.out 2).trans rfl
        have y3 := (blk_cell hS.out 3).trans rfl
        have z0 := blk_frozen hS.out 0
        have z1 := blk_frozen hS.out 1
        have z2 := blk_frozen hS.out 2
        have z3 := blk_frozen hS.out 3
        refine wp_loop_rounds 5 ?_
        rw [rounds_succ]
        go_wp2
        rw [rounds_succ]
        go_wp2
        rw [rounds_succ]
        go_wp2
        rw [rounds_succ]
        go_wp2
        rw [rounds_succ]
        go_wp2
        go_roundw
        case rel =>
          have hs1 := pixel_Average.sums_snoc l0 i hlt
          rw [Hs.out, Hp.out] at hs1
          refine ⟨i + 1, by omega, by go_num, ⟨?_⟩, ⟨?_⟩, ⟨?_⟩, ⟨?_⟩⟩
          · refine blk_far (blk_far (blk_far (blk_far hR.out ?_ _) ?_ _) ?_ _) ?_ _ <;> (simp; try omega)
          · refine blk_far (blk_far (blk_far (blk_far hN.out ?_ _) ?_ _) ?_ _) ?_ _ <;> (simp; try omega)
          · rw [hs1]
            exact blk_put (blk_put (blk_put (blk_put hS.out 0 _ rfl) 1 _ rfl) 2 _ rfl) 3 _ rfl
          · exact below_set (below_set (below_set (below_set hb.out (by omega)) (by omega)) (by omega)) (by omega)
        case measure => simp [intOf]; omega
      · obtain rfl : i = l0.length := by omega
        rw [List.take_length] at hS
        go_wp2_with fail
        refine (pixel_Average.lit0 _ _ (w.heap.size + 1 + 1) (w.heap.size + 1) wr ((blk_cell hS.out 0).trans rfl) ((blk_cell hN.out 0).trans rfl) hzn.out).mono ?_
        rintro e w1 ⟨rfl, hd⟩
        replace hR := Aside0.mk (cells_drawn hd hR.out)
        replace hN := Aside0.mk (cells_drawn hd hN.out)
        replace hS := Aside0.mk (cells_drawn hd hS.out)
        replace hb := Aside0.mk (below_then hb.out hb.out.size hd.below)
        clear hd
        go_wp2_with fail
        refine (pixel_Average.lit1 _ _ (w.heap.size + 1 + 1) (w.heap.size + 1) w1 ((blk_cell hS.out 1).trans rfl) ((blk_cell hN.out 0).trans rfl) hzn.out).mono ?_
        rintro e w2 ⟨rfl, hd⟩
        replace hR := Aside0.mk (cells_drawn hd hR.out)
        replace hN := Aside0.mk (cells_drawn hd hN.out)
        replace hS := Aside0.mk (cells_drawn hd hS.out)
        replace hb := Aside0.mk (below_then hb.out hb.out.size hd.below)
        clear hd
        go_wp2_with fail
        refine (pixel_Average.lit2 _ _ (w.heap.size + 1 + 1) (w.heap.size + 1) w2 ((blk_cell hS.out 2).trans rfl) ((blk_cell hN.out 0).trans rfl) hzn.out).mono ?_
        rintro e w3 ⟨rfl, hd⟩
        replace hR := Aside0.mk (cells_drawn hd hR.out)
        replace hN := Aside0.mk (cells_drawn hd hN.out)
        replace hS := Aside0.mk (cells_drawn hd hS.out)
        replace hb := Aside0.mk (below_then hb.out hb.out.size hd.below)
        clear hd
        go_wp2_with fail
        refine (pixel_Average.lit3 _ _ (w.heap.size + 1 + 1) (w.heap.size + 1) w3 ((blk_cell hS.out 3).trans rfl) ((blk_cell hN.out 0).trans rfl) hzn.out).mono ?_
        rintro e w4 ⟨rfl, hd⟩
        replace hR := Aside0.mk (cells_drawn hd hR.out)
        replace hb := Aside0.mk (below_then hb.out hb.out.size hd.below)
        clear hd hN hS
        have y0 := (blk_cell hR.out 0).trans rfl
        have y1 := (blk_cell hR.out 1).trans rfl
        have y2 := (blk_cell hR.out 2).trans rfl
        have y3 := (blk_cell hR.out 3).trans rfl
        have z0 := blk_frozen hR.out 0
        have z1 := blk_frozen hR.out 1
        have z2 := blk_frozen hR.out 2
        have z3 := blk_frozen hR.out 3
        go_wp2
        exact bodyPost_ret (results_cell_row rfl _ _ w.heap.size 23 _ (0, 0) _ rfl (blk_put (blk_put (blk_put (blk_put hR.out 0 _ rfl) 1 _ rfl) 2 _ rfl) 3 _ rfl) Try.underlying23 rfl (by kernel_rfl)) rfl ⟨rfl, below_set (below_set (below_set (below_set hb.out (Nat.le_refl _)) (Nat.le_refl _)) (Nat.le_refl _)) (Nat.le_refl _)⟩
end
end Go.Proofs.Ytdhjbdofklglgaa.All
end
section
namespace Go.Proofs.Ytdhjbdofklglgaa.All
open Go.RowKit Go.Proofs.YtdhjbdofklglgaaW.PrintWords Go.Proofs.YtdhjbdofklglgaaW.PrintLast Go.Proofs.YtdhjbdofklglgaaW.PrintMore
attribute [local go_sem] max2_int min2_int max_two min_two max_three min_three max_four min_four
set_option linter.unusedVariables false
set_option linter.unusedSimpArgs false
attribute [local go_sem high] eqA23
def compositorlaw08_exampleHolds.f  : Option (Bool) := (pixel_Over.f 128 128 128 128 0 0 0 255).bind fun bt146 => (if (bt146.1 == 128 && (bt146.2.1 == 128 && (bt146.2.2.1 == 128 && (bt146.2.2.2 == 255)))) = true then ((pixel_Premultiply.f 255 100 0 128).bind fun bt150 => (if (bt150.1 == 128 && (bt150.2.1 == 50 && (bt150.2.2.1 == 0 && (bt150.2.2.2 == 128)))) = true then ((pixel_Average.f (([(⟨1, 0, 0, 2⟩ : S23), (⟨2, 0, 0, 2⟩ : S23)] : List (S23)))).bind fun bt157 => (some (bt157.1 == 2 && (bt157.2.1 == 0 && (bt157.2.2.1 == 0 && (bt157.2.2.2 == 2)))))) else (some false))) else (some false))
set_option maxHeartbeats 8000000 in
set_option maxRecDepth 100000 in
theorem compositorlaw08_exampleHolds.calls  (r : Bool) (w : World) (h : compositorlaw08_exampleHolds.f  = some r) :
    Calls Try.prog 15 #[] w fun e w' => e = .returned (.bool r) ∧ Below w.heap.size w w' := by
  have hu23 := Try.underlying23
  have HB := Aside0.mk (Below.refl w.heap.size w)
  have H : ((pixel_Over.f 128 128 128 128 0 0 0 255).bind fun bt146 => (if (bt146.1 == 128 && (bt146.2.1 == 128 && (bt146.2.2.1 == 128 && (bt146.2.2.2 == 255)))) = true then ((pixel_Premultiply.f 255 100 0 128).bind fun bt150 => (if (bt150.1 == 128 && (bt150.2.1 == 50 && (bt150.2.2.1 == 0 && (bt150.2.2.2 == 128)))) = true then ((pixel_Average.f (([(⟨1, 0, 0, 2⟩ : S23), (⟨2, 0, 0, 2⟩ : S23)] : List (S23)))).bind fun bt157 => (some (bt157.1 == 2 && (bt157.2.1 == 0 && (bt157.2.2.1 == 0 && (bt157.2.2.2 == 2)))))) else (some false))) else (some false))) = some r := h
  clear h
  replace H := Option.bind_eq_some_iff.mp H
  obtain ⟨⟨t146, t147, t148, t149⟩, A10, H⟩ := H
  replace H : (if (t146 == 128 && (t147 == 128 && (t148 == 128 && (t149 == 255)))) = true then ((pixel_Premultiply.f 255 100 0 128).bind fun bt150 => (if (bt150.1 == 128 && (bt150.2.1 == 50 && (bt150.2.2.1 == 0 && (bt150.2.2.2 == 128)))) = true then ((pixel_Average.f (([(⟨1, 0, 0, 2⟩ : S23), (⟨2, 0, 0, 2⟩ : S23)] : List (S23)))).bind fun bt157 => (some (bt157.1 == 2 && (bt157.2.1 == 0 && (bt157.2.2.1 == 0 && (bt157.2.2.2 == 2)))))) else (some false))) else (some false)) = some r := H
  have A1 := Aside0.mk A10
  clear A10
  by_cases c2 : (t146 == 128 && (t147 == 128 && (t148 == 128 && (t149 == 255)))) = true
  · rw [if_pos c2] at H
    have c2b0 : (t146 == 128 && (t147 == 128 && (t148 == 128 && (t149 == 255)))) = true := c2
    (try (have c2b1 : decide (t146 = 128 && (t147 == 128 && (t148 == 128 && (t149 == 255)))) = true := by simpa using c2))
    (try (have c2b2 : (t146 == 128 && (t147 == 128 && (t148 == 128 && (t149 == 255)))) = true := by simpa using c2))
    clear c2
    replace H := Option.bind_eq_some_iff.mp H
    obtain ⟨⟨t150, t151, t152, t153⟩, A30, H⟩ := H
    replace H : (if (t150 == 128 && (t151 == 50 && (t152 == 0 && (t153 == 128)))) = true then ((pixel_Average.f (([(⟨1, 0, 0, 2⟩ : S23), (⟨2, 0, 0, 2⟩ : S23)] : List (S23)))).bind fun bt157 => (some (bt157.1 == 2 && (bt157.2.1 == 0 && (bt157.2.2.1 == 0 && (bt157.2.2.2 == 2)))))) else (some false)) = some r := H
    have A3 := Aside0.mk A30
    clear A30
    by_cases c4 : (t150 == 128 && (t151 == 50 && (t152 == 0 && (t153 == 128)))) = true
    · rw [if_pos c4] at H
      have c4b0 : (t150 == 128 && (t151 == 50 && (t152 == 0 && (t153 == 128)))) = true := c4
      (try (have c4b1 : decide (t150 = 128 && (t151 == 50 && (t152 == 0 && (t153 == 128)))) = true := by simpa using c4))
      (try (have c4b2 : (t150 == 128 && (t151 == 50 && (t152 == 0 && (t153 == 128)))) = true := by simpa using c4))
      clear c4
      obtain ⟨y154, hy154⟩ : ∃ y_ : List (S23), y_ = (([(⟨1, 0, 0, 2⟩ : S23), (⟨2, 0, 0, 2⟩ : S23)] : List (S23))) := ⟨_, rfl⟩
      replace H : ((pixel_Average.f y154).bind fun bt157 => (some (bt157.1 == 2 && (bt157.2.1 == 0 && (bt157.2.2.1 == 0 && (bt157.2.2.2 == 2)))))) = some r := by first | (rw [hy154]; with_reducible exact H) | (have H2_ := (Option.bind_some _ _).symm.trans H; rw [hy154]; with_reducible exact H2_) | (have H2_ := (Option.bind_some _ _).symm.trans H; with_reducible exact H2_) | with_reducible exact H | (rw [hy154]; exact H) | exact H
      have Ny154 := Aside0.mk hy154
      clear hy154
      replace H := Option.bind_eq_some_iff.mp H
      obtain ⟨⟨t157, t158, t159, t160⟩, A50, H⟩ := H
      replace H : (some (t157 == 2 && (t158 == 0 && (t159 == 0 && (t160 == 2))))) = some r := H
      have A5 := Aside0.mk A50
      clear A50
      obtain rfl := Option.some.inj H
      go_enter Try.func15, Try.ntmps15
      go_wp2_with (first | ((with_reducible refine gate_callee (f := 13) rfl ?_); refine goesL_ (some 3) rfl rfl Try.func13 (by kernel_rfl) rfl #[.agg #[.int .u8 128, .int .u8 128, .int .u8 128, .int .u8 128], .agg #[.int .u8 0, .int .u8 0, .int .u8 0, .int .u8 255]] rfl (by (try simp only [List.map_toArray, List.map_cons, List.map_nil]); first | done | rfl | (simp only [List.length_drop, List.length_take]; rfl)) ?_; (with_reducible refine (pixel_Over.calls 128 128 128 128 0 0 0 255 t146 t147 t148 t149 _ A1.out).mono ?_); rintro e w6 ⟨rfl, hb⟩; refine ⟨_, rfl, ?_⟩; have n0_ := Aside0.mk (below_step (by repeat (first | (with_reducible first | exact HB.out | apply below_alloc | apply pw_below_drewN | apply below_drew1) | exact HB.out)) hb); clear HB; have HB := n0_; clear n0_; (try clear hb); (try clear hb2); (try clear hk); (try clear hi)) | (go_at_call 9; (with_reducible refine (pixel_Premultiply.calls 255 100 0 128 t150 t151 t152 t153 _ A3.out).mono ?_); rintro e w7 ⟨rfl, hb⟩; have n0_ := Aside0.mk (below_step (by repeat (first | (with_reducible first | exact HB.out | apply below_alloc | apply pw_below_drewN | apply below_drew1) | exact HB.out)) hb); clear HB; have HB := n0_; clear n0_; (try clear hb); (try clear hb2); (try clear hk); (try clear hi)) | ((with_reducible refine gate_dst (N := 14) rfl ?_); (try (refine gate_guard (by rfl) ?_; dsimp only)); refine Kd.R_lit k23 _ 23 ?hg (N := 14) ?hd (xs := ([(⟨1, 0, 0, 2⟩ : S23), (⟨2, 0, 0, 2⟩ : S23)] : List (S23))) (inner := [.int .u8 1, .int .u8 0, .int .u8 0, .int .u8 2, .int .u8 2, .int .u8 0, .int .u8 0, .int .u8 2]) (ok := fun _ => True) (okp := fun _ => True) ?hr ?hp (fun _ hk => hk) trivial (Below.refl _ _) (Nat.le_refl _) (by simp) ?_; (case hd => rfl); (case hg => rfl); (case hr => first | (go_simp; done) | (go_simp; rfl)); (case hp => exact (Reps.c4 (show Kd.M k23 _ _ _ (⟨1, 0, 0, 2⟩ : S23) [.int .u8 1, .int .u8 0, .int .u8 0, .int .u8 2] from (k23_mkM _ _ _ (⟨1, 0, 0, 2⟩ : S23) )) (Reps.c4 (show Kd.M k23 _ _ _ (⟨2, 0, 0, 2⟩ : S23) [.int .u8 2, .int .u8 0, .int .u8 0, .int .u8 2] from (k23_mkM _ _ _ (⟨2, 0, 0, 2⟩ : S23) )) (Reps.none _ _)))); intro v155 w8 ho9 hb hg_ hnew_; clear hg_ hnew_; (first | rw [← Ny154.out] at ho9 | (simp only [Int.reduceToNat] at ho9; rw [← Ny154.out] at ho9)); have n0_ := Aside0.mk (Kd.R_lower ho9 (below_size (by repeat (first | (with_reducible first | exact HB.out | apply below_alloc | apply pw_below_drewN | apply below_drew1) | exact HB.out)))); have n1_ := Aside0.mk (below_step (by repeat (first | (with_reducible first | exact HB.out | apply below_alloc | apply pw_below_drewN | apply below_drew1) | exact HB.out)) hb); clear HB; have HO156 := n0_; have HB := n1_; clear n0_ n1_; clear hb ho9; obtain ⟨Ao10, co10, eo10⟩ := Kd.R_slice HO156.out; subst eo10) | (go_at_call 16; (with_reducible refine (pixel_Average.calls _ _ y154 t157 t158 t159 t160 _ ?side1 ?side2 A5.out).mono ?_); (case side1 => repeat (first | exact (Kd.R_reads' HO156.out).2.2 | (with_reducible refine Kd.C_alloc ?_ _) | (with_reducible refine Kd.C_drewN ?_ _) | (with_reducible refine Kd.C_drew ?_))); (case side2 => exact (Kd.R_reads' HO156.out).2.1); rintro e w11 ⟨rfl, hb⟩; have n0_ := Aside0.mk (Kd.R_below (by (with_reducible repeat (first | apply Kd.R_alloc | apply Kd.R_drewN | apply Kd.R_drew)); exact HO156.out) hb); have n1_ := Aside0.mk (below_step (by repeat (first | (with_reducible first | exact HB.out | apply below_alloc | apply pw_below_drewN | apply below_drew1) | exact HB.out)) hb); clear HO156; clear HB; have HO156 := n0_; have HB := n1_; clear n0_ n1_; (try clear hb); (try clear hb2); (try clear hk); (try clear hi)))
      go_ret
      exact ⟨by first | rfl | (simp [errW_none, errW_some] <;> rfl) | (simp [*, errW_none, errW_some] <;> rfl), by repeat (first | (with_reducible first | exact HB.out | apply below_alloc | apply pw_below_drewN | apply below_drew1) | exact HB.out)⟩
    · rw [if_neg c4] at H
      have c4b0 : (t150 == 128 && (t151 == 50 && (t152 == 0 && (t153 == 128)))) = false := by simpa using c4
      (try (have c4b1 : decide (t150 = 128 && (t151 == 50 && (t152 == 0 && (t153 == 128)))) = false := by simpa using c4))
      (try (have c4b2 : (t150 == 128 && (t151 == 50 && (t152 == 0 && (t153 == 128)))) = false := by simpa using c4))
      (try (have c4b3 : ¬ (t150 = 128 && (t151 == 50 && (t152 == 0 && (t153 == 128)))) := by simpa using c4))
      clear c4
      obtain rfl := Option.some.inj H
      go_enter Try.func15, Try.ntmps15
      go_wp2_with (first | ((with_reducible refine gate_callee (f := 13) rfl ?_); refine goesL_ (some 3) rfl rfl Try.func13 (by kernel_rfl) rfl #[.agg #[.int .u8 128, .int .u8 128, .int .u8 128, .int .u8 128], .agg #[.int .u8 0, .int .u8 0, .int .u8 0, .int .u8 255]] rfl (by (try simp only [List.map_toArray, List.map_cons, List.map_nil]); first | done | rfl | (simp only [List.length_drop, List.length_take]; rfl)) ?_; (with_reducible refine (pixel_Over.calls 128 128 128 128 0 0 0 255 t146 t147 t148 t149 _ A1.out).mono ?_); rintro e w12 ⟨rfl, hb⟩; refine ⟨_, rfl, ?_⟩; have n0_ := Aside0.mk (below_step (by repeat (first | (with_reducible first | exact HB.out | apply below_alloc | apply pw_below_drewN | apply below_drew1) | exact HB.out)) hb); clear HB; have HB := n0_; clear n0_; (try clear hb); (try clear hb2); (try clear hk); (try clear hi)) | (go_at_call 9; (with_reducible refine (pixel_Premultiply.calls 255 100 0 128 t150 t151 t152 t153 _ A3.out).mono ?_); rintro e w13 ⟨rfl, hb⟩; have n0_ := Aside0.mk (below_step (by repeat (first | (with_reducible first | exact HB.out | apply below_alloc | apply pw_below_drewN | apply below_drew1) | exact HB.out)) hb); clear HB; have HB := n0_; clear n0_; (try clear hb); (try clear hb2); (try clear hk); (try clear hi)))
      go_ret
      exact ⟨by first | rfl | (simp [errW_none, errW_some] <;> rfl) | (simp [*, errW_none, errW_some] <;> rfl), by repeat (first | (with_reducible first | exact HB.out | apply below_alloc | apply pw_below_drewN | apply below_drew1) | exact HB.out)⟩
  · rw [if_neg c2] at H
    have c2b0 : (t146 == 128 && (t147 == 128 && (t148 == 128 && (t149 == 255)))) = false := by simpa using c2
    (try (have c2b1 : decide (t146 = 128 && (t147 == 128 && (t148 == 128 && (t149 == 255)))) = false := by simpa using c2))
    (try (have c2b2 : (t146 == 128 && (t147 == 128 && (t148 == 128 && (t149 == 255)))) = false := by simpa using c2))
    (try (have c2b3 : ¬ (t146 = 128 && (t147 == 128 && (t148 == 128 && (t149 == 255)))) := by simpa using c2))
    clear c2
    obtain rfl := Option.some.inj H
    go_enter Try.func15, Try.ntmps15
    go_wp2_with (first | ((with_reducible refine gate_callee (f := 13) rfl ?_); refine goesL_ (some 3) rfl rfl Try.func13 (by kernel_rfl) rfl #[.agg #[.int .u8 128, .int .u8 128, .int .u8 128, .int .u8 128], .agg #[.int .u8 0, .int .u8 0, .int .u8 0, .int .u8 255]] rfl (by (try simp only [List.map_toArray, List.map_cons, List.map_nil]); first | done | rfl | (simp only [List.length_drop, List.length_take]; rfl)) ?_; (with_reducible refine (pixel_Over.calls 128 128 128 128 0 0 0 255 t146 t147 t148 t149 _ A1.out).mono ?_); rintro e w14 ⟨rfl, hb⟩; refine ⟨_, rfl, ?_⟩; have n0_ := Aside0.mk (below_step (by repeat (first | (with_reducible first | exact HB.out | apply below_alloc | apply pw_below_drewN | apply below_drew1) | exact HB.out)) hb); clear HB; have HB := n0_; clear n0_; (try clear hb); (try clear hb2); (try clear hk); (try clear hi)))
    go_ret
    exact ⟨by first | rfl | (simp [errW_none, errW_some] <;> rfl) | (simp [*, errW_none, errW_some] <;> rfl), by repeat (first | (with_reducible first | exact HB.out | apply below_alloc | apply pw_below_drewN | apply below_drew1) | exact HB.out)⟩
end Go.Proofs.Ytdhjbdofklglgaa.All
end
section
namespace Go.Proofs.Ytdhjbdofklglgaa.All
open Go.RowKit Go.Proofs.YtdhjbdofklglgaaW.PrintWords Go.Proofs.YtdhjbdofklglgaaW.PrintLast Go.Proofs.YtdhjbdofklglgaaW.PrintMore
attribute [local go_sem] max2_int min2_int max_two min_two max_three min_three max_four min_four
set_option linter.unusedVariables false
set_option linter.unusedSimpArgs false
def compositorlaw08_near.f (a0 : Int) (a1 : Int) : Option (Bool) := if (wrap64 ((wrap64 (a0)) - (wrap64 (a1)))) ≤ 2 then (some (decide ((wrap64 ((wrap64 (a1)) - (wrap64 (a0)))) ≤ 2))) else (some false)
set_option maxHeartbeats 8000000 in
set_option maxRecDepth 100000 in
theorem compositorlaw08_near.calls (a0 : Int) (a1 : Int) (r : Bool) (w : World) (h : compositorlaw08_near.f a0 a1 = some r) :
    Calls Try.prog 19 #[.int .u8 a0, .int .u8 a1] w fun e w' => e = .returned (.bool r) ∧ Drawn0 w w' := by
  have H : (if (wrap64 ((wrap64 (a0)) - (wrap64 (a1)))) ≤ 2 then (some (decide ((wrap64 ((wrap64 (a1)) - (wrap64 (a0)))) ≤ 2))) else (some false)) = some r := h
  clear h
  by_cases c3 : (wrap64 ((wrap64 (a0)) - (wrap64 (a1)))) ≤ 2
  · rw [if_pos c3] at H
    have c3b0 : decide ((wrap64 ((wrap64 (a0)) - (wrap64 (a1)))) ≤ 2) = true := decide_eq_true c3
    clear c3
    obtain rfl := Option.some.inj H
    go_enter Try.func19, Try.ntmps19
    go_wp2
    go_ret
    exact ⟨by first | rfl | (simp; done) | (simp [*]; done), by repeat (first | exact Drawn0.refl _ | apply Drawn0.step)⟩
  · rw [if_neg c3] at H
    have c3b0 : decide ((wrap64 ((wrap64 (a0)) - (wrap64 (a1)))) ≤ 2) = false := decide_eq_false c3
    clear c3
    obtain rfl := Option.some.inj H
    go_enter Try.func19, Try.ntmps19
    go_wp2
    go_ret
    exact ⟨by first | rfl | (simp; done) | (simp [*]; done), by repeat (first | exact Drawn0.refl _ | apply Drawn0.step)⟩
end Go.Proofs.Ytdhjbdofklglgaa.All
end
