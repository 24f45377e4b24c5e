-- The texts behind this claim's law, put together by a program of this session (shake.py): what no text uses is left out. Its words are print.sh's.
import Derived.Test.YtmockeaiccpogaaProg
import Derived.Below
import Derived.Deep.Draws
import Derived.Deep.AppendLies
import Derived.Maps.AppendAt
import Derived.OwnWalk
import Derived.Laws.BytesArg
import Derived.Laws.MakeOwn
import Derived.Laws.OwnMore
import Derived.Deep.OwnRows
import Derived.Tactics
import Derived.Lib.ConvBytes
import Derived.Laws.Slices
import Derived.WalkKit
import Derived.KernelRfl
import Derived.RowKit3
import Derived.Deep.LoopGhost
import Derived.Deep.QuietTactic
import Derived.BigQuiet
import Derived.WideLaws
import Derived.Deep.DeepCutAuto
import Derived.Deep.CutBlock
import Derived.Deep.RegionHeld3
import Derived.Laws.Rows
import Derived.Lib.AppendStr
import Derived.ArgAppend
import Derived.Laws.IdiomCopy
import Derived.OrdersHeld
import Derived.Laws.BitsLemmas
import Derived.RowKit
import Derived.Lib.SliceRun
import Derived.Test.YtmockeaiccpogaaSBufferCovers13
section
namespace Go.Proofs.Ytmockeaiccpogaa.All
open Go.RowKit Go.Proofs.YtmockeaiccpogaaW.PrintWords Go.Proofs.YtmockeaiccpogaaW.PrintLast Go.Proofs.YtmockeaiccpogaaW.PrintMore
attribute [local go_sem] max2_int min2_int max_two min_two max_three min_three max_four min_four
set_option linter.unusedVariables false
set_option linter.unusedSimpArgs false
def errW : Option Int → Value
  | none => .nilIface
  | some c => .iface 0 (.int .i64 c)
theorem errW_none : errW none = .nilIface := rfl
theorem errW_some (c : Int) : errW (some c) = .iface 0 (.int .i64 c) := rfl
theorem info5 : (Try.prog.info? 5).map (fun i => (i.zero, i.size, i.bytes)) = some (some (.int .u8 0), 1, 1) := by kernel_rfl
theorem info43 : (Try.prog.info? 43).map (fun i => (i.zero, i.size, i.bytes)) = some (some (.agg #[(.int .u8 0), (.int .u8 0), (.int .u8 0), (.int .u8 0)]), 4, 4) := by kernel_rfl
theorem info47 : (Try.prog.info? 47).map (fun i => (i.zero, i.size, i.bytes)) = some (some (.agg #[(.int .i64 0), (.int .i64 0), (.int .i64 0), (.int .i64 0)]), 4, 32) := by kernel_rfl
structure S43 where
  f0 : Int
  f1 : Int
  f2 : Int
  f3 : Int
def z43 : S43 := ⟨(0 : Int), (0 : Int), (0 : Int), (0 : Int)⟩
def k43 : Kd S43 := Kd.iso (Kd.pair (Kd.int .u8) (Kd.pair (Kd.int .u8) (Kd.pair (Kd.int .u8) (Kd.int .u8)))) (fun x : S43 => (x.f0, x.f1, x.f2, x.f3))
theorem k43_open {w : World} {x : S43} {cs : List Value} (h : k43.K w x cs) : cs = [.int .u8 x.f0, .int .u8 x.f1, .int .u8 x.f2, .int .u8 x.f3] := by
  obtain ⟨_, _, rfl, rfl, ⟨_, _, rfl, rfl, ⟨_, _, rfl, rfl, rfl⟩⟩⟩ := h
  exact rfl
theorem k43_mkM (w : World) (base : Nat) (ok : Nat → Prop) (x : S43)  : k43.M w base ok x [.int .u8 x.f0, .int .u8 x.f1, .int .u8 x.f2, .int .u8 x.f3] := ⟨[.int .u8 x.f0], [.int .u8 x.f1, .int .u8 x.f2, .int .u8 x.f3], rfl, rfl, ⟨[.int .u8 x.f1], [.int .u8 x.f2, .int .u8 x.f3], rfl, rfl, ⟨[.int .u8 x.f2], [.int .u8 x.f3], rfl, rfl, rfl⟩⟩⟩
def rd_T43 (xs : List S43) (i : Int) : S43 := xs.getD i.toNat z43
theorem at_T43 {w : World} {A : Option Addr} {n : Nat} {xs : List S43} (h : Kd.C k43 w A n xs) (i : Int) (h0 : 0 ≤ i) (h1 : i < n) : ∃ ad , A = some ad ∧ w.cell? (ad.add (i.toNat * 4)) = some (.int .u8 (rd_T43 xs i).f0) ∧ w.cell? ⟨(ad.add (i.toNat * 4)).block, (ad.add (i.toNat * 4)).off + 1, none⟩ = some (.int .u8 (rd_T43 xs i).f1) ∧ w.cell? ⟨(ad.add (i.toNat * 4)).block, (ad.add (i.toNat * 4)).off + 2, none⟩ = some (.int .u8 (rd_T43 xs i).f2) ∧ w.cell? ⟨(ad.add (i.toNat * 4)).block, (ad.add (i.toNat * 4)).off + 3, none⟩ = some (.int .u8 (rd_T43 xs i).f3) := by
  obtain ⟨ad, c, e, _, hK, hc0⟩ := Kd.C_get h z43 i h0 h1
  have hc : ∀ j u, c[j]? = some u → w.cell? (ad.add (i.toNat * 4 + j)) = some u := hc0
  obtain rfl := k43_open hK
  exact ⟨ad, e, hc 0 _ rfl, by rw [← add_field _ _ 1 (by omega)]; exact hc 1 _ rfl, by rw [← add_field _ _ 2 (by omega)]; exact hc 2 _ rfl, by rw [← add_field _ _ 3 (by omega)]; exact hc 3 _ rfl⟩
structure S47 where
  f0 : Int
  f1 : Int
  f2 : Int
  f3 : Int
def z47 : S47 := ⟨(0 : Int), (0 : Int), (0 : Int), (0 : Int)⟩
def k47 : Kd S47 := Kd.iso (Kd.pair (Kd.int .i64) (Kd.pair (Kd.int .i64) (Kd.pair (Kd.int .i64) (Kd.int .i64)))) (fun x : S47 => (x.f0, x.f1, x.f2, x.f3))
theorem k47_open {w : World} {x : S47} {cs : List Value} (h : k47.K w x cs) : cs = [.int .i64 x.f0, .int .i64 x.f1, .int .i64 x.f2, .int .i64 x.f3] := by
  obtain ⟨_, _, rfl, rfl, ⟨_, _, rfl, rfl, ⟨_, _, rfl, rfl, rfl⟩⟩⟩ := h
  exact rfl
theorem k47_openM {w : World} {base : Nat} {ok : Nat → Prop} {x : S47} {cs : List Value} (h : k47.M w base ok x cs) : cs = [.int .i64 x.f0, .int .i64 x.f1, .int .i64 x.f2, .int .i64 x.f3] := by
  obtain ⟨_, _, rfl, rfl, ⟨_, _, rfl, rfl, ⟨_, _, rfl, rfl, rfl⟩⟩⟩ := h
  exact rfl
theorem k47_mkM (w : World) (base : Nat) (ok : Nat → Prop) (x : S47)  : k47.M w base ok x [.int .i64 x.f0, .int .i64 x.f1, .int .i64 x.f2, .int .i64 x.f3] := ⟨[.int .i64 x.f0], [.int .i64 x.f1, .int .i64 x.f2, .int .i64 x.f3], rfl, rfl, ⟨[.int .i64 x.f1], [.int .i64 x.f2, .int .i64 x.f3], rfl, rfl, ⟨[.int .i64 x.f2], [.int .i64 x.f3], rfl, rfl, rfl⟩⟩⟩
def rd_T47 (xs : List S47) (i : Int) : S47 := xs.getD i.toNat z47
theorem at_T47 {w : World} {A : Option Addr} {n : Nat} {xs : List S47} (h : Kd.C k47 w A n xs) (i : Int) (h0 : 0 ≤ i) (h1 : i < n) : ∃ ad , A = some ad ∧ w.cell? (ad.add (i.toNat * 4)) = some (.int .i64 (rd_T47 xs i).f0) ∧ w.cell? ⟨(ad.add (i.toNat * 4)).block, (ad.add (i.toNat * 4)).off + 1, none⟩ = some (.int .i64 (rd_T47 xs i).f1) ∧ w.cell? ⟨(ad.add (i.toNat * 4)).block, (ad.add (i.toNat * 4)).off + 2, none⟩ = some (.int .i64 (rd_T47 xs i).f2) ∧ w.cell? ⟨(ad.add (i.toNat * 4)).block, (ad.add (i.toNat * 4)).off + 3, none⟩ = some (.int .i64 (rd_T47 xs i).f3) := by
  obtain ⟨ad, c, e, _, hK, hc0⟩ := Kd.C_get h z47 i h0 h1
  have hc : ∀ j u, c[j]? = some u → w.cell? (ad.add (i.toNat * 4 + j)) = some u := hc0
  obtain rfl := k47_open hK
  exact ⟨ad, e, hc 0 _ rfl, by rw [← add_field _ _ 1 (by omega)]; exact hc 1 _ rfl, by rw [← add_field _ _ 2 (by omega)]; exact hc 2 _ rfl, by rw [← add_field _ _ 3 (by omega)]; exact hc 3 _ rfl⟩
end Go.Proofs.Ytmockeaiccpogaa.All
end
section
namespace Go.Proofs.Ytmockeaiccpogaa.All
open Go.RowKit Go.Proofs.YtmockeaiccpogaaW.PrintWords Go.Proofs.YtmockeaiccpogaaW.PrintLast Go.Proofs.YtmockeaiccpogaaW.PrintMore
attribute [local go_sem] max2_int min2_int max_two min_two max_three min_three max_four min_four
set_option linter.unusedVariables false
set_option linter.unusedSimpArgs false
theorem eqA43 (d : Nat) (w : World) (x0 y0 : Int) (x1 y1 : Int) (x2 y2 : Int) (x3 y3 : Int) :
    (Op.equalIn (d + 2) 43 (.agg #[.int .u8 x0, .int .u8 x1, .int .u8 x2, .int .u8 x3]) (.agg #[.int .u8 y0, .int .u8 y1, .int .u8 y2, .int .u8 y3])).run Try.prog w = .ok (x0 == y0 && (x1 == y1 && (x2 == y2 && (x3 == y3)))) w := by
  refine eqA_of Try.underlying43 (by kernel_rfl) ?_
  refine eqf_cons (by rfl) (by go_simp; rfl) (by go_simp; rfl) (by go_simp) ?_
  refine eqf_cons (by rfl) (by go_simp; rfl) (by go_simp; rfl) (by go_simp) ?_
  refine eqf_cons (by rfl) (by go_simp; rfl) (by go_simp; rfl) (by go_simp) ?_
  exact eqf_last (by rfl) (by go_simp; rfl) (by go_simp; rfl) (by go_simp)
end Go.Proofs.Ytmockeaiccpogaa.All
end
section
namespace Go.Proofs.Ytmockeaiccpogaa.All
open Go.RowKit Go.Proofs.YtmockeaiccpogaaW.PrintWords Go.Proofs.YtmockeaiccpogaaW.PrintLast Go.Proofs.YtmockeaiccpogaaW.PrintMore
attribute [local go_sem] max2_int min2_int max_two min_two max_three min_three max_four min_four
set_option linter.unusedVariables false
set_option linter.unusedSimpArgs false
theorem eqA47 (d : Nat) (w : World) (x0 y0 : Int) (x1 y1 : Int) (x2 y2 : Int) (x3 y3 : Int) :
    (Op.equalIn (d + 2) 47 (.agg #[.int .i64 x0, .int .i64 x1, .int .i64 x2, .int .i64 x3]) (.agg #[.int .i64 y0, .int .i64 y1, .int .i64 y2, .int .i64 y3])).run Try.prog w = .ok (x0 == y0 && (x1 == y1 && (x2 == y2 && (x3 == y3)))) w := by
  refine eqA_of Try.underlying47 (by kernel_rfl) ?_
  refine eqf_cons (by rfl) (by go_simp; rfl) (by go_simp; rfl) (by go_simp) ?_
  refine eqf_cons (by rfl) (by go_simp; rfl) (by go_simp; rfl) (by go_simp) ?_
  refine eqf_cons (by rfl) (by go_simp; rfl) (by go_simp; rfl) (by go_simp) ?_
  exact eqf_last (by rfl) (by go_simp; rfl) (by go_simp; rfl) (by go_simp)
end Go.Proofs.Ytmockeaiccpogaa.All
end
section
namespace Go.Proofs.Ytmockeaiccpogaa.All
open Go.RowKit Go.Proofs.YtmockeaiccpogaaW.PrintWords Go.Proofs.YtmockeaiccpogaaW.PrintLast Go.Proofs.YtmockeaiccpogaaW.PrintMore
attribute [local go_sem] max2_int min2_int max_two min_two max_three min_three max_four min_four
set_option linter.unusedVariables false
set_option linter.unusedSimpArgs false
attribute [local go_sem high] eqA43
def pixel_Clamp.f (a0_0 : Int) (a0_1 : Int) (a0_2 : Int) (a0_3 : Int) : Option (Int × Int × Int × Int) := some (mn a0_0 a0_3, mn a0_1 a0_3, mn a0_2 a0_3, a0_3)
set_option maxHeartbeats 8000000 in
set_option maxRecDepth 100000 in
theorem pixel_Clamp.calls (a0_0 : Int) (a0_1 : Int) (a0_2 : Int) (a0_3 : Int) (r1 : Int) (r2 : Int) (r3 : Int) (r4 : Int) (w : World) (h : pixel_Clamp.f a0_0 a0_1 a0_2 a0_3 = some (r1, r2, r3, r4)) :
    Calls Try.prog 40 #[.agg #[.int .u8 a0_0, .int .u8 a0_1, .int .u8 a0_2, .int .u8 a0_3]] w fun e w' => e = .returned (.agg #[.int .u8 r1, .int .u8 r2, .int .u8 r3, .int .u8 r4]) ∧ Below w.heap.size w w' := by
  have hu43 := Try.underlying43
  have HB := Aside0.mk (Below.refl w.heap.size w)
  have H : (some (mn a0_0 a0_3, mn a0_1 a0_3, mn a0_2 a0_3, a0_3)) = some (r1, r2, r3, r4) := h
  clear h
  obtain ⟨ji2, hji2⟩ : ∃ j_ : Int, (mn a0_0 a0_3) = j_ := ⟨_, rfl⟩
  replace H : (some (ji2, mn a0_1 a0_3, mn a0_2 a0_3, a0_3)) = some (r1, r2, r3, r4) := by first | (rw [hji2] at H; exact H) | (simp only [hji2] at H ⊢; exact H)
  have hji2_ : (if a0_3 < a0_0 then a0_3 else a0_0) = ji2 := hji2
  obtain ⟨ji3, hji3⟩ : ∃ j_ : Int, (mn a0_1 a0_3) = j_ := ⟨_, rfl⟩
  replace H : (some (ji2, ji3, mn a0_2 a0_3, a0_3)) = some (r1, r2, r3, r4) := by first | (rw [hji3] at H; exact H) | (simp only [hji3] at H ⊢; exact H)
  have hji3_ : (if a0_3 < a0_1 then a0_3 else a0_1) = ji3 := hji3
  obtain ⟨ji4, hji4⟩ : ∃ j_ : Int, (mn a0_2 a0_3) = j_ := ⟨_, rfl⟩
  replace H : (some (ji2, ji3, ji4, a0_3)) = some (r1, r2, r3, r4) := by first | (rw [hji4] at H; exact H) | (simp only [hji4] at H ⊢; exact H)
  have hji4_ : (if a0_3 < a0_2 then a0_3 else a0_2) = ji4 := hji4
  simp only [Option.some.injEq, Prod.mk.injEq] at H
  obtain ⟨rfl, rfl, rfl, rfl⟩ := H
  go_enter Try.func40, Try.ntmps40
  go_wp2_with (first | ((with_reducible refine gate_dst (N := 1) rfl ?_); refine box_event ?hg (N := 1) ?hd (cs := #[.int .u8 a0_0, .int .u8 a0_1, .int .u8 a0_2, .int .u8 a0_3]) (t := 43) ?hr ?_; (case hd => rfl); (case hg => rfl); (case hr => first | (go_simp; done) | (go_simp; rfl)); intro gb101 hg w5 hbox hb; have n0_ := Aside0.mk (below_step (by repeat (first | (with_reducible first | exact HB.out | apply below_alloc | apply pw_below_drewN | apply below_drew1) | exact HB.out)) hb); have n1_ := Aside0.mk (hbox); have n2_ := Aside0.mk ((by rw [hg]; exact (below_size (by repeat (first | (with_reducible first | exact HB.out | apply below_alloc | apply pw_below_drewN | apply below_drew1) | exact HB.out))) : w.heap.size ≤ gb101)); have n3_ := Aside0.mk ((by rw [hg]; exact (below_size (by repeat (first | (with_reducible first | exact HB.out | apply below_alloc | apply pw_below_drewN | apply below_drew1) | exact HB.out))) : w.heap.size ≤ gb101)); clear HB; have HB := n0_; have BK101 := n1_; have GW101 := n2_; have GE101 := n3_; clear n0_ n1_ n2_ n3_; clear hb hbox hg) | ((with_reducible refine gate_dst (N := 2) rfl ?_); refine box_event ?hg (N := 2) ?hd (cs := #[.int .u8 0, .int .u8 0, .int .u8 0, .int .u8 0]) (t := 43) ?hr ?_; (case hd => rfl); (case hg => rfl); (case hr => first | (go_simp; done) | (go_simp; rfl)); intro gb102 hg w6 hbox hb; have n0_ := Aside0.mk (blk_below (g := gb101) (o := .cells #[.int .u8 a0_0, .int .u8 a0_1, .int .u8 a0_2, .int .u8 a0_3] 43 (0, 0)) (by (with_reducible repeat (first | refine blk_drewN ?_ _ | refine blk_drew ?_ | refine blk_alloc ?_ _)); exact BK101.out) hb); have n1_ := Aside0.mk (below_step (by repeat (first | (with_reducible first | exact HB.out | apply below_alloc | apply pw_below_drewN | apply below_drew1 | refine below_set ?_ GE101.out) | exact HB.out)) hb); have n2_ := Aside0.mk (hbox); have n3_ := Aside0.mk ((by rw [hg]; exact (below_size (by repeat (first | (with_reducible first | exact HB.out | apply below_alloc | apply pw_below_drewN | apply below_drew1 | refine below_set ?_ GE101.out) | exact HB.out))) : w.heap.size ≤ gb102)); have n4_ := Aside0.mk ((by rw [hg]; exact (below_size (by repeat (first | (with_reducible first | exact HB.out | apply below_alloc | apply pw_below_drewN | apply below_drew1 | refine below_set ?_ GE101.out) | exact HB.out))) : w.heap.size ≤ gb102)); have n5_ := Aside0.mk ((by rw [hg]; exact Nat.ne_of_lt (blk_lt (g := gb101) (o := .cells #[.int .u8 a0_0, .int .u8 a0_1, .int .u8 a0_2, .int .u8 a0_3] 43 (0, 0)) (by (with_reducible repeat (first | refine blk_drewN ?_ _ | refine blk_drew ?_ | refine blk_alloc ?_ _)); exact BK101.out)) : gb101 ≠ gb102)); have n6_ := Aside0.mk ((by rw [hg]; exact Nat.ne_of_gt (blk_lt (g := gb101) (o := .cells #[.int .u8 a0_0, .int .u8 a0_1, .int .u8 a0_2, .int .u8 a0_3] 43 (0, 0)) (by (with_reducible repeat (first | refine blk_drewN ?_ _ | refine blk_drew ?_ | refine blk_alloc ?_ _)); exact BK101.out)) : gb102 ≠ gb101)); clear BK101; clear HB; have BK101 := n0_; have HB := n1_; have BK102 := n2_; have GW102 := n3_; have GE102 := n4_; have NB101_102 := n5_; have NB102_101 := n6_; clear n0_ n1_ n2_ n3_ n4_ n5_ n6_; clear hb hbox hg; have hnb7 := NB101_102.out; have hnc7 := NB102_101.out; have hcz8_0 : w6.cell? ⟨gb101, 0, none⟩ = some (.int .u8 a0_0) := (blk_cell BK101.out 0).trans rfl; have hcz8_1 : w6.cell? ⟨gb101, 1, none⟩ = some (.int .u8 a0_1) := (blk_cell BK101.out 1).trans rfl; have hcz8_2 : w6.cell? ⟨gb101, 2, none⟩ = some (.int .u8 a0_2) := (blk_cell BK101.out 2).trans rfl; have hcz8_3 : w6.cell? ⟨gb101, 3, none⟩ = some (.int .u8 a0_3) := (blk_cell BK101.out 3).trans rfl; have hfz8_0 := blk_frozen BK101.out 0; have hfz8_1 := blk_frozen BK101.out 1; have hfz8_2 := blk_frozen BK101.out 2; have hfz8_3 := blk_frozen BK101.out 3; have hcz9_0 : w6.cell? ⟨gb102, 0, none⟩ = some (.int .u8 0) := (blk_cell BK102.out 0).trans rfl; have hcz9_1 : w6.cell? ⟨gb102, 1, none⟩ = some (.int .u8 0) := (blk_cell BK102.out 1).trans rfl; have hcz9_2 : w6.cell? ⟨gb102, 2, none⟩ = some (.int .u8 0) := (blk_cell BK102.out 2).trans rfl; have hcz9_3 : w6.cell? ⟨gb102, 3, none⟩ = some (.int .u8 0) := (blk_cell BK102.out 3).trans rfl; have hfz9_0 := blk_frozen BK102.out 0; have hfz9_1 := blk_frozen BK102.out 1; have hfz9_2 := blk_frozen BK102.out 2; have hfz9_3 := blk_frozen BK102.out 3))
  refine bodyPost_ret (results_cell_row rfl _ _ gb102 43 #[.int .u8 ji2, .int .u8 ji3, .int .u8 ji4, .int .u8 a0_3] (0, 0) _ rfl (by (with_reducible repeat (first | refine blk_drewN ?_ _ | refine blk_drew ?_ | refine blk_alloc ?_ _)); refine blk_put (cs := #[.int .u8 ji2, .int .u8 ji3, .int .u8 ji4, .int .u8 0]) ?_ 3 _ rfl; (with_reducible repeat (first | refine blk_drewN ?_ _ | refine blk_drew ?_ | refine blk_alloc ?_ _)); refine blk_put (cs := #[.int .u8 ji2, .int .u8 ji3, .int .u8 0, .int .u8 0]) ?_ 2 _ rfl; (with_reducible repeat (first | refine blk_drewN ?_ _ | refine blk_drew ?_ | refine blk_alloc ?_ _)); refine blk_put (cs := #[.int .u8 ji2, .int .u8 0, .int .u8 0, .int .u8 0]) ?_ 1 _ rfl; (with_reducible repeat (first | refine blk_drewN ?_ _ | refine blk_drew ?_ | refine blk_alloc ?_ _)); refine blk_put (cs := #[.int .u8 0, .int .u8 0, .int .u8 0, .int .u8 0]) ?_ 0 _ rfl; (with_reducible repeat (first | refine blk_drewN ?_ _ | refine blk_drew ?_ | refine blk_alloc ?_ _)); exact BK102.out) Try.underlying43 rfl (by kernel_rfl)) rfl ?_
  exact ⟨by first | rfl | (simp [errW_none, errW_some] <;> rfl) | (simp only [← hji2, ← hji3, ← hji4]; first | rfl | (simp [errW_none, errW_some] <;> rfl)) | (simp [*, errW_none, errW_some] <;> rfl), by repeat (first | (with_reducible first | exact HB.out | apply below_alloc | apply pw_below_drewN | apply below_drew1 | refine below_set ?_ GE101.out | refine below_set ?_ GE102.out) | exact HB.out)⟩
def pixel_Valid.f (a0_0 : Int) (a0_1 : Int) (a0_2 : Int) (a0_3 : Int) : Option (Bool) := (pixel_Clamp.f a0_0 a0_1 a0_2 a0_3).bind fun bt104 => (some (bt104.1 == a0_0 && (bt104.2.1 == a0_1 && (bt104.2.2.1 == a0_2 && (bt104.2.2.2 == a0_3)))))
set_option maxHeartbeats 8000000 in
set_option maxRecDepth 100000 in
theorem pixel_Valid.calls (a0_0 : Int) (a0_1 : Int) (a0_2 : Int) (a0_3 : Int) (r : Bool) (w : World) (h : pixel_Valid.f a0_0 a0_1 a0_2 a0_3 = some r) :
    Calls Try.prog 53 #[.agg #[.int .u8 a0_0, .int .u8 a0_1, .int .u8 a0_2, .int .u8 a0_3]] w fun e w' => e = .returned (.bool r) ∧ Below w.heap.size w w' := by
  have hu43 := Try.underlying43
  have HB := Aside0.mk (Below.refl w.heap.size w)
  have H : ((pixel_Clamp.f a0_0 a0_1 a0_2 a0_3).bind fun bt104 => (some (bt104.1 == a0_0 && (bt104.2.1 == a0_1 && (bt104.2.2.1 == a0_2 && (bt104.2.2.2 == a0_3)))))) = some r := h
  clear h
  replace H := Option.bind_eq_some_iff.mp H
  obtain ⟨⟨t104, t105, t106, t107⟩, A20, H⟩ := H
  replace H : (some (t104 == a0_0 && (t105 == a0_1 && (t106 == a0_2 && (t107 == a0_3))))) = some r := H
  have A2 := Aside0.mk A20
  clear A20
  obtain rfl := Option.some.inj H
  go_enter Try.func53, Try.ntmps53
  try go_wp2_with (first | ((with_reducible refine gate_dst (N := 1) rfl ?_); refine box_event ?hg (N := 1) ?hd (cs := #[.int .u8 a0_0, .int .u8 a0_1, .int .u8 a0_2, .int .u8 a0_3]) (t := 43) ?hr ?_; (case hd => rfl); (case hg => rfl); (case hr => first | (go_simp; done) | (go_simp; rfl)); intro gb103 hg w3 hbox hb; have n0_ := Aside0.mk (below_step (by repeat (first | (with_reducible first | exact HB.out | apply below_alloc | apply pw_below_drewN | apply below_drew1) | exact HB.out)) hb); have n1_ := Aside0.mk (hbox); have n2_ := Aside0.mk ((by rw [hg]; exact (below_size (by repeat (first | (with_reducible first | exact HB.out | apply below_alloc | apply pw_below_drewN | apply below_drew1) | exact HB.out))) : w.heap.size ≤ gb103)); have n3_ := Aside0.mk ((by rw [hg]; exact (below_size (by repeat (first | (with_reducible first | exact HB.out | apply below_alloc | apply pw_below_drewN | apply below_drew1) | exact HB.out))) : w.heap.size ≤ gb103)); clear HB; have HB := n0_; have BK103 := n1_; have GW103 := n2_; have GE103 := n3_; clear n0_ n1_ n2_ n3_; clear hb hbox hg))
  have n0_ := Aside0.mk (blk_drew BK103.out)
  have n1_ := Aside0.mk (below_drew1 HB.out)
  clear BK103
  clear HB
  have BK103 := n0_
  have HB := n1_
  clear n0_ n1_
  refine start_ (n := 5) (S := fun w' => w'.cell? ⟨gb103, 0, none⟩ = some (.int .u8 a0_0) ∧ w'.cell? ⟨gb103, 1, none⟩ = some (.int .u8 a0_1) ∧ w'.cell? ⟨gb103, 2, none⟩ = some (.int .u8 a0_2) ∧ w'.cell? ⟨gb103, 3, none⟩ = some (.int .u8 a0_3)) (ds := []) #[false, false, false, false, false] (by kernel_rfl) rfl rfl ⟨(blk_cell BK103.out 0).trans rfl, (blk_cell BK103.out 1).trans rfl, (blk_cell BK103.out 2).trans rfl, (blk_cell BK103.out 3).trans rfl⟩ (fun hHeld => ?_)
  generalize w3.drew = w4 at BK103 HB hHeld ⊢
  refine take_ (i := 0) (N := some 3) (v := ?_) (a' := ?_) #[true, false, false, false, false] rfl rfl (by kernel_rfl) (fun _ _ _ h => h) (Or.inl ⟨by rfl, ?_⟩) hHeld ?_ ?_
  rotate_left
  · rintro w' ⟨s0, s1, s2, s3⟩
    go_simp
    with_reducible rfl
  rotate_left
  · simp only [Act.put, List.setIfInBounds_toArray, List.set_cons_zero, List.set_cons_succ, i64_w, i32_w]
    rfl
  refine take_ (i := 2) (N := some 5) (v := ?_) (a' := ?_) #[true, false, true, false, false] rfl rfl (by kernel_rfl) (fun _ _ _ h => h) (Or.inl ⟨by rfl, ?_⟩) hHeld ?_ ?_
  rotate_left
  · rintro w' ⟨s0, s1, s2, s3⟩
    go_simp
    with_reducible rfl
  rotate_left
  · simp only [Act.put, List.setIfInBounds_toArray, List.set_cons_zero, List.set_cons_succ, i64_w, i32_w]
    rfl
  refine one_ (i := 1) (N := some 4) #[true, true, true, false, false] rfl rfl (by kernel_rfl) (by decide) (fun K hK => ?_)
  refine goes_ Try.func40 (by kernel_rfl) rfl #[.agg #[.int .u8 a0_0, .int .u8 a0_1, .int .u8 a0_2, .int .u8 a0_3]] (by rfl) rfl rfl (by (try simp only [List.map_toArray, List.map_cons, List.map_nil]); first | done | rfl | (simp only [List.length_drop, List.length_take]; rfl)) ?_
  with_reducible refine (pixel_Clamp.calls a0_0 a0_1 a0_2 a0_3 t104 t105 t106 t107 _ A2.out).mono ?_
  rintro e w5 ⟨rfl, hb⟩
  refine ⟨_, rfl, ?_⟩
  have n0_ := Aside0.mk (blk_below (g := gb103) (o := .cells #[.int .u8 a0_0, .int .u8 a0_1, .int .u8 a0_2, .int .u8 a0_3] 43 (0, 0)) (by (with_reducible repeat (first | refine blk_drewN ?_ _ | refine blk_drew ?_ | refine blk_alloc ?_ _)); exact BK103.out) hb)
  have n1_ := Aside0.mk (below_step (by repeat (first | (with_reducible first | exact HB.out | apply below_alloc | apply pw_below_drewN | apply below_drew1 | refine below_set ?_ GE103.out) | exact HB.out)) hb)
  clear BK103
  clear HB
  have BK103 := n0_
  have HB := n1_
  clear n0_ n1_
  (try clear hb)
  (try clear hb2)
  (try clear hk)
  (try clear hi)
  refine hK.out _ _ ⟨(blk_cell BK103.out 0).trans rfl, (blk_cell BK103.out 1).trans rfl, (blk_cell BK103.out 2).trans rfl, (blk_cell BK103.out 3).trans rfl⟩ (fun hHeld => ?_)
  clear hK K
  refine norm_ (a' := ?_) ?_ ?_
  rotate_left
  · show Act.put _ (some 4) _ = _
    simp only [Act.put, List.setIfInBounds_toArray, List.set_cons_zero, List.set_cons_succ, i64_w, i32_w]
    rfl
  refine pure_ (i := 3) (N := some 6) (v := ?_) (a' := ?_) #[true, true, true, true, false] rfl rfl (by kernel_rfl) (fun _ _ _ h => h) (Or.inl ⟨by rfl, ?_⟩) ?_ ?_
  rotate_left
  · intro w'
    go_simp
    with_reducible rfl
  rotate_left
  · simp only [Act.put, List.setIfInBounds_toArray, List.set_cons_zero, List.set_cons_succ, i64_w, i32_w]
    rfl
  refine pure_ (i := 4) (N := some 2) (v := ?_) (a' := ?_) #[true, true, true, true, true] rfl rfl (by kernel_rfl) (fun _ _ _ h => h) (Or.inl ⟨by rfl, ?_⟩) ?_ ?_
  rotate_left
  · intro w'
    go_simp
    with_reducible rfl
  rotate_left
  · simp only [Act.put, List.setIfInBounds_toArray, List.set_cons_zero, List.set_cons_succ, i64_w, i32_w]
    rfl
  refine done_ (by kernel_rfl) ?_
  try go_wp2
  go_ret
  exact ⟨by first | rfl | (simp [errW_none, errW_some] <;> rfl) | (simp [*, errW_none, errW_some] <;> rfl), by repeat (first | (with_reducible first | exact HB.out | apply below_alloc | apply pw_below_drewN | apply below_drew1 | refine below_set ?_ GE103.out) | exact HB.out)⟩
end Go.Proofs.Ytmockeaiccpogaa.All
end
section
namespace Go.Proofs.Ytmockeaiccpogaa.All
open Go.RowKit Go.Proofs.YtmockeaiccpogaaW.PrintWords Go.Proofs.YtmockeaiccpogaaW.PrintLast Go.Proofs.YtmockeaiccpogaaW.PrintMore
attribute [local go_sem] max2_int min2_int max_two min_two max_three min_three max_four min_four
set_option linter.unusedVariables false
set_option linter.unusedSimpArgs false
def buffer_size.f (a0 : Int) : Option (Bool) := if a0 ≥ 1 then (some (decide (a0 ≤ 256))) else (some false)
set_option maxHeartbeats 8000000 in
set_option maxRecDepth 100000 in
theorem buffer_size.calls (a0 : Int) (r : Bool) (w : World) (h : buffer_size.f a0 = some r) :
    Calls Try.prog 39 #[.int .i64 a0] w fun e w' => e = .returned (.bool r) ∧ Drawn0 w w' := by
  have H : (if a0 ≥ 1 then (some (decide (a0 ≤ 256))) else (some false)) = some r := h
  clear h
  by_cases c2 : a0 ≥ 1
  · rw [if_pos c2] at H
    have c2b0 : decide (1 ≤ a0) = true := decide_eq_true c2
    clear c2
    obtain rfl := Option.some.inj H
    go_enter Try.func39, Try.ntmps39
    go_wp2
    go_ret
    exact ⟨by first | rfl | (simp; done) | (simp [*]; done), by repeat (first | exact Drawn0.refl _ | apply Drawn0.step)⟩
  · rw [if_neg c2] at H
    have c2b0 : decide (1 ≤ a0) = false := decide_eq_false c2
    clear c2
    obtain rfl := Option.some.inj H
    go_enter Try.func39, Try.ntmps39
    go_wp2
    go_ret
    exact ⟨by first | rfl | (simp; done) | (simp [*]; done), by repeat (first | exact Drawn0.refl _ | apply Drawn0.step)⟩
end Go.Proofs.Ytmockeaiccpogaa.All
end
section
namespace Go.Proofs.Ytmockeaiccpogaa.All
open Go.Proofs.YtmockeaiccpogaaSq
open Go.RowKit Go.Proofs.YtmockeaiccpogaaW.PrintWords Go.Proofs.YtmockeaiccpogaaW.PrintLast Go.Proofs.YtmockeaiccpogaaW.PrintMore
attribute [local go_sem] max2_int min2_int max_two min_two max_three min_three max_four min_four
set_option linter.unusedVariables false
set_option linter.unusedSimpArgs false
abbrev zq14.q0 := Go.Proofs.YtmockeaiccpogaaHand.bz 15 0
abbrev zq14.q1 := Go.Proofs.YtmockeaiccpogaaHand.bz 15 1
abbrev zq14.q2 := Go.Proofs.YtmockeaiccpogaaHand.bz 15 3
abbrev zq14.q3 := Go.Proofs.YtmockeaiccpogaaHand.bz 15 11
abbrev zq14.q4 := Go.Proofs.YtmockeaiccpogaaHand.bz 15 27
abbrev zq14.q5 := Go.Proofs.YtmockeaiccpogaaHand.bz 15 91
abbrev zq14.q6 := Go.Proofs.YtmockeaiccpogaaHand.bz 15 219
abbrev zq14.q7 := Go.Proofs.YtmockeaiccpogaaHand.bz 15 731
abbrev zq14.q8 := Go.Proofs.YtmockeaiccpogaaHand.bz 15 1755
abbrev zq14.q9 := Go.Proofs.YtmockeaiccpogaaHand.bz 15 1759
abbrev zq14.q10 := Go.Proofs.YtmockeaiccpogaaHand.bz 15 1791
abbrev zq14.q11 := Go.Proofs.YtmockeaiccpogaaHand.bz 15 2047
abbrev zq14.q12 := Go.Proofs.YtmockeaiccpogaaHand.bz 15 4095
abbrev zq14.q13 := Go.Proofs.YtmockeaiccpogaaHand.bz 15 8191
abbrev zq14.q14 := Go.Proofs.YtmockeaiccpogaaHand.bz 15 16383
abbrev zq14.q15 := Go.Proofs.YtmockeaiccpogaaHand.bz 15 32767
abbrev zq14.q16 := Go.Proofs.YtmockeaiccpogaaHand.bz 8 0
abbrev zq14.q17 := Go.Proofs.YtmockeaiccpogaaHand.bz 8 1
abbrev zq14.q18 := Go.Proofs.YtmockeaiccpogaaHand.bz 8 3
abbrev zq14.q19 := Go.Proofs.YtmockeaiccpogaaHand.bz 8 7
abbrev zq14.q20 := Go.Proofs.YtmockeaiccpogaaHand.bz 8 15
abbrev zq14.q21 := Go.Proofs.YtmockeaiccpogaaHand.bz 8 31
abbrev zq14.q22 := Go.Proofs.YtmockeaiccpogaaHand.bz 8 63
abbrev zq14.q23 := Go.Proofs.YtmockeaiccpogaaHand.bz 8 127
abbrev zq14.q24 := Go.Proofs.YtmockeaiccpogaaHand.bz 8 255
mutual
def buffer_Decode.j0 : Nat → Int → Int → Int → Int → List Int → Bool → Option (Int × Int × (List (S43)) × Int)
 | 0, _, _, _, _, _, _ => none
 | k + 1, x0, x1, x2, x3, x4, x17 => if x17 = true then (some (0, 0, ([] : List (S43)), 2)) else ((buffer_size.f x1).bind fun t121 => (if t121 = true then ((buffer_size.f x2).bind fun t122 => (buffer_Decode.j1 k x0 x1 x2 x3 x4 (!t122))) else (buffer_Decode.j1 k x0 x1 x2 x3 x4 true)))
def buffer_Decode.j1 : Nat → Int → Int → Int → Int → List Int → Bool → Option (Int × Int × (List (S43)) × Int)
 | 0, _, _, _, _, _, _ => none
 | k + 1, x0, x1, x2, x3, x4, x25 => if x25 = true then (some (0, 0, ([] : List (S43)), 6)) else (if x3 < (wrap64 (4 * x1)) then (buffer_Decode.j2 k x0 x1 x2 x3 x4 true) else (buffer_Decode.j2 k x0 x1 x2 x3 x4 ((Int.tmod x3 4) != 0)))
def buffer_Decode.j2 : Nat → Int → Int → Int → Int → List Int → Bool → Option (Int × Int × (List (S43)) × Int)
 | 0, _, _, _, _, _, _ => none
 | k + 1, x0, x1, x2, x3, x4, x35 => if x35 = true then (some (0, 0, ([] : List (S43)), 15)) else (if x2 = 0 then (none) else (if x3 > (wrap64 ((x4.length : Int) / x2)) then (some (0, 0, ([] : List (S43)), 4)) else (buffer_Decode.l0 k x0 x1 x3 x4 x2 0 x1 x2 ([] : List (S43)))))
def buffer_Decode.l0 : Nat → Int → Int → Int → List Int → Int → Int → Int → Int → List (S43) → Option (Int × Int × (List (S43)) × Int)
 | 0, _, _, _, _, _, _, _, _, _ => none
 | k + 1, x0, x1, x3, x4, x57, x58, x124000, x124001, x124002 => if x58 < x57 then (buffer_Decode.l1 k x0 x1 x3 x4 x58 x57 x58 x1 0 x124000 x124001 x124002) else (some (x124000, x124001, x124002, 0))
def buffer_Decode.l1 : Nat → Int → Int → Int → List Int → Int → Int → Int → Int → Int → Int → Int → List (S43) → Option (Int × Int × (List (S43)) × Int)
 | 0, _, _, _, _, _, _, _, _, _, _, _, _ => none
 | k + 1, x0, x1, x3, x4, x13, x57, x58, x61, x62, x124000, x124001, x124002 => if x62 < x61 then (if 0 ≤ (wrap64 ((wrap64 (x13 * x3)) + (wrap64 (4 * x62)))) then (if (wrap64 ((wrap64 (x13 * x3)) + (wrap64 (4 * x62)))) ≤ (x4.length : Int) then (if 0 < ((x4.drop ((wrap64 ((wrap64 (x13 * x3)) + (wrap64 (4 * x62)))) : Int).toNat).length : Int) then (if 1 < ((x4.drop ((wrap64 ((wrap64 (x13 * x3)) + (wrap64 (4 * x62)))) : Int).toNat).length : Int) then (if 2 < ((x4.drop ((wrap64 ((wrap64 (x13 * x3)) + (wrap64 (4 * x62)))) : Int).toNat).length : Int) then (if 3 < ((x4.drop ((wrap64 ((wrap64 (x13 * x3)) + (wrap64 (4 * x62)))) : Int).toNat).length : Int) then (if x0 = 2 then ((pixel_Clamp.f (rd (x4.drop ((wrap64 ((wrap64 (x13 * x3)) + (wrap64 (4 * x62)))) : Int).toNat) 2) (rd (x4.drop ((wrap64 ((wrap64 (x13 * x3)) + (wrap64 (4 * x62)))) : Int).toNat) 1) (rd (x4.drop ((wrap64 ((wrap64 (x13 * x3)) + (wrap64 (4 * x62)))) : Int).toNat) 0) 255).bind fun bt130 => (if x124002.length < 35184372088832 then (buffer_Decode.l1 k x0 x1 x3 x4 x13 x57 x58 x61 (wrap64 (x62 + 1)) x124000 x124001 (x124002 ++ [(⟨bt130.1, bt130.2.1, bt130.2.2.1, bt130.2.2.2⟩ : S43)])) else (none))) else ((pixel_Clamp.f (rd (x4.drop ((wrap64 ((wrap64 (x13 * x3)) + (wrap64 (4 * x62)))) : Int).toNat) 2) (rd (x4.drop ((wrap64 ((wrap64 (x13 * x3)) + (wrap64 (4 * x62)))) : Int).toNat) 1) (rd (x4.drop ((wrap64 ((wrap64 (x13 * x3)) + (wrap64 (4 * x62)))) : Int).toNat) 0) (rd (x4.drop ((wrap64 ((wrap64 (x13 * x3)) + (wrap64 (4 * x62)))) : Int).toNat) 3)).bind fun bt137 => (if x124002.length < 35184372088832 then (buffer_Decode.l1 k x0 x1 x3 x4 x13 x57 x58 x61 (wrap64 (x62 + 1)) x124000 x124001 (x124002 ++ [(⟨bt137.1, bt137.2.1, bt137.2.2.1, bt137.2.2.2⟩ : S43)])) else (none)))) else (none)) else (none)) else (none)) else (none)) else (none)) else (none)) else (buffer_Decode.l0 k x0 x1 x3 x4 x57 (wrap64 (x58 + 1)) x124000 x124001 x124002)
end
def buffer_Decode.f (k : Nat) (a0 : Int) (a1 : Int) (a2 : Int) (a3 : Int) (l4 : List Int) : Option (Int × Int × (List (S43)) × Int) := if a0 = 1 then (buffer_Decode.j0 k a0 a1 a2 a3 l4 false) else (buffer_Decode.j0 k a0 a1 a2 a3 l4 (a0 != 2))
theorem buffer_Decode.mono_l : ∀ k, (∀ y0 y1 y2 y3 y4 y5, LeO (buffer_Decode.j0 k y0 y1 y2 y3 y4 y5) (buffer_Decode.j0 (k + 1) y0 y1 y2 y3 y4 y5)) ∧ (∀ y0 y1 y2 y3 y4 y5, LeO (buffer_Decode.j1 k y0 y1 y2 y3 y4 y5) (buffer_Decode.j1 (k + 1) y0 y1 y2 y3 y4 y5)) ∧ (∀ y0 y1 y2 y3 y4 y5, LeO (buffer_Decode.j2 k y0 y1 y2 y3 y4 y5) (buffer_Decode.j2 (k + 1) y0 y1 y2 y3 y4 y5)) ∧ (∀ y0 y1 y2 y3 y4 y5 y6 y7 y8, LeO (buffer_Decode.l0 k y0 y1 y2 y3 y4 y5 y6 y7 y8) (buffer_Decode.l0 (k + 1) y0 y1 y2 y3 y4 y5 y6 y7 y8)) ∧ (∀ y0 y1 y2 y3 y4 y5 y6 y7 y8 y9 y10 y11, LeO (buffer_Decode.l1 k y0 y1 y2 y3 y4 y5 y6 y7 y8 y9 y10 y11) (buffer_Decode.l1 (k + 1) y0 y1 y2 y3 y4 y5 y6 y7 y8 y9 y10 y11))
 | 0 => ⟨fun _ _ _ _ _ _ r h => by simp [buffer_Decode.j0] at h, fun _ _ _ _ _ _ r h => by simp [buffer_Decode.j1] at h, fun _ _ _ _ _ _ r h => by simp [buffer_Decode.j2] at h, fun _ _ _ _ _ _ _ _ _ r h => by simp [buffer_Decode.l0] at h, fun _ _ _ _ _ _ _ _ _ _ _ _ r h => by simp [buffer_Decode.l1] at h⟩
 | k + 1 => by
  obtain ⟨ih0, ih1, ih2, ih3, ih4⟩ := buffer_Decode.mono_l k
  refine ⟨?_, ?_, ?_, ?_, ?_⟩
  ·
   intro y0 y1 y2 y3 y4 y5
   unfold buffer_Decode.j0
   repeat' first
   | (with_reducible exact ih0 _ _ _ _ _ _)
   | (with_reducible exact ih1 _ _ _ _ _ _)
   | (with_reducible exact ih2 _ _ _ _ _ _)
   | (with_reducible exact ih3 _ _ _ _ _ _ _ _ _)
   | (with_reducible exact ih4 _ _ _ _ _ _ _ _ _ _ _ _)
   | (with_reducible exact LeO.refl _)
   | (with_reducible exact LeO.none _)
   | (with_reducible refine LeO.ite ?_ ?_)
   | (with_reducible refine LeO.bind ?_ (fun _ => ?_))
   | exact ih0 _ _ _ _ _ _
   | exact ih1 _ _ _ _ _ _
   | exact ih2 _ _ _ _ _ _
   | exact ih3 _ _ _ _ _ _ _ _ _
   | exact ih4 _ _ _ _ _ _ _ _ _ _ _ _
   | exact LeO.none _
   | refine LeO.ite ?_ ?_
   | refine LeO.bind ?_ (fun _ => ?_)
  ·
   intro y0 y1 y2 y3 y4 y5
   unfold buffer_Decode.j1
   repeat' first
   | (with_reducible exact ih0 _ _ _ _ _ _)
   | (with_reducible exact ih1 _ _ _ _ _ _)
   | (with_reducible exact ih2 _ _ _ _ _ _)
   | (with_reducible exact ih3 _ _ _ _ _ _ _ _ _)
   | (with_reducible exact ih4 _ _ _ _ _ _ _ _ _ _ _ _)
   | (with_reducible exact LeO.refl _)
   | (with_reducible exact LeO.none _)
   | (with_reducible refine LeO.ite ?_ ?_)
   | (with_reducible refine LeO.bind ?_ (fun _ => ?_))
   | exact ih0 _ _ _ _ _ _
   | exact ih1 _ _ _ _ _ _
   | exact ih2 _ _ _ _ _ _
   | exact ih3 _ _ _ _ _ _ _ _ _
   | exact ih4 _ _ _ _ _ _ _ _ _ _ _ _
   | exact LeO.none _
   | refine LeO.ite ?_ ?_
   | refine LeO.bind ?_ (fun _ => ?_)
  ·
   intro y0 y1 y2 y3 y4 y5
   unfold buffer_Decode.j2
   repeat' first
   | (with_reducible exact ih0 _ _ _ _ _ _)
   | (with_reducible exact ih1 _ _ _ _ _ _)
   | (with_reducible exact ih2 _ _ _ _ _ _)
   | (with_reducible exact ih3 _ _ _ _ _ _ _ _ _)
   | (with_reducible exact ih4 _ _ _ _ _ _ _ _ _ _ _ _)
   | (with_reducible exact LeO.refl _)
   | (with_reducible exact LeO.none _)
   | (with_reducible refine LeO.ite ?_ ?_)
   | (with_reducible refine LeO.bind ?_ (fun _ => ?_))
   | exact ih0 _ _ _ _ _ _
   | exact ih1 _ _ _ _ _ _
   | exact ih2 _ _ _ _ _ _
   | exact ih3 _ _ _ _ _ _ _ _ _
   | exact ih4 _ _ _ _ _ _ _ _ _ _ _ _
   | exact LeO.none _
   | refine LeO.ite ?_ ?_
   | refine LeO.bind ?_ (fun _ => ?_)
  ·
   intro y0 y1 y2 y3 y4 y5 y6 y7 y8
   unfold buffer_Decode.l0
   repeat' first
   | (with_reducible exact ih0 _ _ _ _ _ _)
   | (with_reducible exact ih1 _ _ _ _ _ _)
   | (with_reducible exact ih2 _ _ _ _ _ _)
   | (with_reducible exact ih3 _ _ _ _ _ _ _ _ _)
   | (with_reducible exact ih4 _ _ _ _ _ _ _ _ _ _ _ _)
   | (with_reducible exact LeO.refl _)
   | (with_reducible exact LeO.none _)
   | (with_reducible refine LeO.ite ?_ ?_)
   | (with_reducible refine LeO.bind ?_ (fun _ => ?_))
   | exact ih0 _ _ _ _ _ _
   | exact ih1 _ _ _ _ _ _
   | exact ih2 _ _ _ _ _ _
   | exact ih3 _ _ _ _ _ _ _ _ _
   | exact ih4 _ _ _ _ _ _ _ _ _ _ _ _
   | exact LeO.none _
   | refine LeO.ite ?_ ?_
   | refine LeO.bind ?_ (fun _ => ?_)
  ·
   intro y0 y1 y2 y3 y4 y5 y6 y7 y8 y9 y10 y11
   unfold buffer_Decode.l1
   repeat' first
   | (with_reducible exact ih0 _ _ _ _ _ _)
   | (with_reducible exact ih1 _ _ _ _ _ _)
   | (with_reducible exact ih2 _ _ _ _ _ _)
   | (with_reducible exact ih3 _ _ _ _ _ _ _ _ _)
   | (with_reducible exact ih4 _ _ _ _ _ _ _ _ _ _ _ _)
   | (with_reducible exact LeO.refl _)
   | (with_reducible exact LeO.none _)
   | (with_reducible refine LeO.ite ?_ ?_)
   | (with_reducible refine LeO.bind ?_ (fun _ => ?_))
   | exact ih0 _ _ _ _ _ _
   | exact ih1 _ _ _ _ _ _
   | exact ih2 _ _ _ _ _ _
   | exact ih3 _ _ _ _ _ _ _ _ _
   | exact ih4 _ _ _ _ _ _ _ _ _ _ _ _
   | exact LeO.none _
   | refine LeO.ite ?_ ?_
   | refine LeO.bind ?_ (fun _ => ?_)
theorem buffer_Decode.mono : ∀ a0 a1 a2 a3 a4 k, LeO (buffer_Decode.f k a0 a1 a2 a3 a4) (buffer_Decode.f (k + 1) a0 a1 a2 a3 a4) := by
 intro a0 a1 a2 a3 a4 k
 obtain ⟨ih0, ih1, ih2, ih3, ih4⟩ := buffer_Decode.mono_l k
 unfold buffer_Decode.f
 repeat' first
   | (with_reducible exact ih0 _ _ _ _ _ _)
   | (with_reducible exact ih1 _ _ _ _ _ _)
   | (with_reducible exact ih2 _ _ _ _ _ _)
   | (with_reducible exact ih3 _ _ _ _ _ _ _ _ _)
   | (with_reducible exact ih4 _ _ _ _ _ _ _ _ _ _ _ _)
   | (with_reducible exact LeO.refl _)
   | (with_reducible exact LeO.none _)
   | (with_reducible refine LeO.ite ?_ ?_)
   | (with_reducible refine LeO.bind ?_ (fun _ => ?_))
   | exact ih0 _ _ _ _ _ _
   | exact ih1 _ _ _ _ _ _
   | exact ih2 _ _ _ _ _ _
   | exact ih3 _ _ _ _ _ _ _ _ _
   | exact ih4 _ _ _ _ _ _ _ _ _ _ _ _
   | exact LeO.none _
   | refine LeO.ite ?_ ?_
   | refine LeO.bind ?_ (fun _ => ?_)
def buffer_Decode.T17 : Bool × List (List Nat × List Nat) := (true, [([], []), ([0], [0]), ([1], [1]), ([], []), ([3], [3]), ([4], [4]), ([], []), ([6], [6]), ([7], [7]), ([], []), ([9], [9]), ([10], [10]), ([2, 5, 8, 11], [2, 5, 8, 11]), ([], []), ([13, 12, 0, 1, 2, 3, 4, 5, 6, 7, 8, 9, 10, 11, 12, 13], [12, 13])])
def buffer_Decode.B17 : List Nat := [0, 1, 3, 0, 8, 24, 0, 64, 192, 0, 512, 1536, 4095, 0, 16383]
theorem buffer_Decode.tab17 : rtab .any (opsOf Try.f14 17) = buffer_Decode.T17 := by kernel_rfl
theorem buffer_Decode.bits17 : waitsOk buffer_Decode.T17.2 buffer_Decode.B17 = true := by kernel_rfl
def buffer_Decode.T20 : Bool × List (List Nat × List Nat) := (true, [([], []), ([0], [0]), ([], []), ([2], [2]), ([3], [3]), ([1, 4, 3], [1, 4]), ([0, 1, 2, 3, 4, 5], []), ([6, 5, 5, 0, 1, 2, 3, 4, 5], [5, 6])])
def buffer_Decode.B20 : List Nat := [0, 1, 0, 4, 12, 31, 63, 127]
theorem buffer_Decode.tab20 : rtab .any (opsOf Try.f14 20) = buffer_Decode.T20 := by kernel_rfl
theorem buffer_Decode.bits20 : waitsOk buffer_Decode.T20.2 buffer_Decode.B20 = true := by kernel_rfl
set_option maxHeartbeats 8000000 in
set_option maxRecDepth 100000 in
theorem buffer_Decode.calls (k : Nat) (a0 : Int) (a1 : Int) (a2 : Int) (a3 : Int) (A4 : Option Addr) (c4 : Nat) (l4 : List Int) (r1 : Int) (r2 : Int) (r3 : List (S43)) (r4 : Int) (w : World) (hr4 : Kd.C (Kd.int .u8) w A4 l4.length l4) (hc4 : l4.length ≤ c4) (h : buffer_Decode.f k a0 a1 a2 a3 l4 = some (r1, r2, r3, r4)) :
  Calls Try.prog 14 #[.int .i64 a0, .int .i64 a1, .int .i64 a2, .int .i64 a3, .slice A4 l4.length c4] w fun e w' => ∃ v2_ : Value, e = .returned (.tuple #[.agg #[.int .i64 r1, .int .i64 r2, v2_], .int .i64 r4]) ∧ Kd.R k43 43 w' w.heap.size (fun _ => True) v2_ r3 ∧ Below w.heap.size w w' := by
 have hu27 := Try.underlying27
 have hu43 := Try.underlying43
 have HR4 := Aside0.mk hr4
 have HC4 := Aside0.mk hc4
 clear hr4 hc4
 have HB := Aside0.mk (Below.refl w.heap.size w)
 have H : (if a0 = 1 then (buffer_Decode.j0 k a0 a1 a2 a3 l4 false) else (buffer_Decode.j0 k a0 a1 a2 a3 l4 (a0 != 2))) = some (r1, r2, r3, r4) := h
 clear h
 have HC6 := Aside0.mk H
 clear H
 go_enter Try.func14, Try.ntmps14
 go_upto_region 1 with (first | ((with_reducible refine gate_dst (N := 10) rfl ?_); refine box_event ?hg (N := 10) ?hd (cs := #[.int .i64 0, .int .i64 0, .slice none 0 0]) (t := 27) ?hr ?_; (case hd => rfl); (case hg => rfl); (case hr => first | (go_simp; done) | (go_simp; rfl)); intro gb120 hg w7 hbox hb; have n0_ := hb_ HB hb; have n1_ := Aside0.mk (hbox); have n2_ := Aside0.mk ((by rw [hg]; exact (below_size (hq_ HB)) : w.heap.size ≤ gb120)); have n3_ := Aside0.mk ((by rw [hg]; exact (below_size (hq_ HB)) : w.heap.size ≤ gb120)); clear HB; have HB := n0_; have BK120 := n1_; have GW120 := n2_; have GE120 := n3_; clear n0_ n1_ n2_ n3_; clear hb hbox hg))
 (try simp only [Act.put, List.setIfInBounds_toArray, List.set_cons_zero, List.set_cons_succ])
 go_cut [17] (fun v17 wc => ∃ (kq : Nat) (x17_5 : Bool), v17 = .bool x17_5 ∧ Aside0 (buffer_Decode.j0 kq a0 a1 a2 a3 l4 x17_5 = some (r1, r2, r3, r4)) ∧ Aside0 (kq ≤ k) ∧ Aside0 (wc.heap[gb120]? = some (.cells #[.int .i64 0, .int .i64 0, (.slice none 0 0)] 27 (0, 0))) ∧ Aside0 (Below w.heap.size w wc))
 case first =>
  have H := HC6.out
  clear HC6
  by_cases c8 : a0 = 1
  ·
   rw [if_pos c8] at H
   have c8b0 : (a0 == 1) = true := beq_iff_eq.mpr c8
   have c8b1 : (a0 != 1) = false := bne_eq_false_iff_eq.mpr c8
   clear c8
   (first | rw [c8b0] | (simp only [i64_w, i32_w]; rw [c8b0]) | skip)
   have H' := Aside0.mk H
   clear H
   go_wp2
   go_meet
   case rel => exact ⟨_, (false), (by first | rfl | (simp; done) | (simp [*]; done)), H', ⟨by first | omega | exact Nat.le_refl _⟩, bf_ BK120, ⟨by repeat (first | (with_reducible first | exact HB.out | apply below_alloc | apply pw_below_drewN | apply below_drew1 | refine below_set ?_ GE120.out) | exact HB.out)⟩⟩
  ·
   rw [if_neg c8] at H
   have c8b0 : (a0 == 1) = false := beq_eq_false_iff_ne.mpr c8
   have c8b1 : (a0 != 1) = true := bne_iff_ne.mpr c8
   (first | rw [c8b0] | (simp only [i64_w, i32_w]; rw [c8b0]) | skip)
   have H' := Aside0.mk H
   clear H
   go_wp2
   go_meet
   case rel => exact ⟨_, ((a0 != 2)), (by first | rfl | (simp; done) | (simp [*]; done)), H', ⟨by first | omega | exact Nat.le_refl _⟩, bf_ BK120, ⟨by repeat (first | (with_reducible first | exact HB.out | apply below_alloc | apply pw_below_drewN | apply below_drew1 | refine below_set ?_ GE120.out) | exact HB.out)⟩⟩
 case rest =>
  clear HC6
  try clear c1
  try clear p2
  try clear c4
  try clear c8
  try clear c8b0
  try clear c8b1
  obtain ⟨kq, x17_5, rfl, HA, HJ5, BK120, HB⟩ := hcut
  cases kq with
  | zero => exact absurd HA.out (by simp [buffer_Decode.j0])
  | succ kj5 =>
   have H := HA.out
   clear HA
   simp only [buffer_Decode.j0] at H
   by_cases c9 : x17_5 = true
   ·
    subst c9
    have H1 : (some (0, 0, ([] : List (S43)), 2)) = some (r1, r2, r3, r4) := by rw [if_pos rfl] at H; exact H
    clear H
    have H := H1
    clear H1
    simp only [Option.some.injEq, Prod.mk.injEq] at H
    obtain ⟨rfl, rfl, rfl, rfl⟩ := H
    have hcz10_0 : wc.cell? ⟨gb120, 0, none⟩ = some (.int .i64 0) := (blk_cell BK120.out 0).trans rfl
    have hcz10_1 : wc.cell? ⟨gb120, 1, none⟩ = some (.int .i64 0) := (blk_cell BK120.out 1).trans rfl
    have hcz10_2 : wc.cell? ⟨gb120, 2, none⟩ = some (.slice none 0 0) := (blk_cell BK120.out 2).trans rfl
    have hfz10_0 := blk_frozen BK120.out 0
    have hfz10_1 := blk_frozen BK120.out 1
    have hfz10_2 := blk_frozen BK120.out 2
    go_wp2
    refine bodyPost_ret (results_ct rfl _ _ gb120 27 #[.int .i64 0, .int .i64 0, .slice none 0 0] (0, 0) _ rfl (by (with_reducible repeat (first | refine blk_drewN ?_ _ | refine blk_drew ?_ | refine blk_alloc ?_ _)); refine blk_put (cs := #[.int .i64 0, .int .i64 0, .slice none 0 0]) ?_ 2 _ rfl; (with_reducible repeat (first | refine blk_drewN ?_ _ | refine blk_drew ?_ | refine blk_alloc ?_ _)); refine blk_put (cs := #[.int .i64 0, .int .i64 0, .slice none 0 0]) ?_ 1 _ rfl; (with_reducible repeat (first | refine blk_drewN ?_ _ | refine blk_drew ?_ | refine blk_alloc ?_ _)); refine blk_put (cs := #[.int .i64 0, .int .i64 0, .slice none 0 0]) ?_ 0 _ rfl; (with_reducible repeat (first | refine blk_drewN ?_ _ | refine blk_drew ?_ | refine blk_alloc ?_ _)); exact BK120.out) Try.underlying27 rfl (by kernel_rfl)) rfl ?_
    exact ⟨_, by first | rfl | (simp [errW_none, errW_some] <;> rfl) | (simp [*, errW_none, errW_some] <;> rfl), by first | exact Kd.R_nil _ _ _ _ _ | exact Kd.N_nil _ _ _ _ _ | exact Kd.V_nil _ _ _ _ _ | exact Kd.Q_nil _ _ _ _ _ | exact Kd.S_nil _ _ _ _ _, by repeat (first | (with_reducible first | exact HB.out | apply below_alloc | apply pw_below_drewN | apply below_drew1 | refine below_set ?_ GE120.out) | exact HB.out)⟩
   ·
    replace c9 := Bool.eq_false_iff.mpr c9
    subst c9
    have H1 : ((buffer_size.f a1).bind fun t121 => (if t121 = true then ((buffer_size.f a2).bind fun t122 => (buffer_Decode.j1 kj5 a0 a1 a2 a3 l4 (!t122))) else (buffer_Decode.j1 kj5 a0 a1 a2 a3 l4 true))) = some (r1, r2, r3, r4) := by rw [if_neg (show ¬ (false = true) by decide)] at H; exact H
    clear H
    have H := H1
    clear H1
    have HC11 := Aside0.mk H
    clear H
    go_upto_region 3 with (fail)
    go_cut [25] (fun v25 wc => ∃ (kq : Nat) (x25_10 : Bool), v25 = .bool x25_10 ∧ Aside0 (buffer_Decode.j1 kq a0 a1 a2 a3 l4 x25_10 = some (r1, r2, r3, r4)) ∧ Aside0 (kq ≤ kj5) ∧ Aside0 (wc.heap[gb120]? = some (.cells #[.int .i64 0, .int .i64 0, (.slice none 0 0)] 27 (0, 0))) ∧ Aside0 (Below w.heap.size w wc))
    case first =>
     have H := HC11.out
     clear HC11
     replace H := Option.bind_eq_some_iff.mp H
     obtain ⟨t121, A120, H⟩ := H
     try dsimp only at H
     have A12 := Aside0.mk A120
     clear A120
     by_cases c13 : t121 = true
     ·
      subst c13
      have H1 : ((buffer_size.f a2).bind fun t122 => (buffer_Decode.j1 kj5 a0 a1 a2 a3 l4 (!t122))) = some (r1, r2, r3, r4) := by rw [if_pos rfl] at H; exact H
      clear H
      have H := H1
      clear H1
      replace H := Option.bind_eq_some_iff.mp H
      obtain ⟨t122, A140, H⟩ := H
      try dsimp only at H
      have A14 := Aside0.mk A140
      clear A140
      have H' := Aside0.mk H
      clear H
      go_wp2_with (first | ((with_reducible refine gate_callee (f := 39) rfl ?_); refine goesL_ (some 27) rfl rfl Try.func39 (by kernel_rfl) rfl #[.int .i64 a1] rfl (by (try simp only [List.map_toArray, List.map_cons, List.map_nil]) <;> rfl) ?_; (with_reducible refine (buffer_size.calls a1 true _ A12.out).mono ?_); rintro e w' ⟨rfl, ⟨nd, rfl⟩⟩; refine ⟨_, rfl, ?_⟩) | (go_at_call 39; (with_reducible refine (buffer_size.calls a2 t122 _ A14.out).mono ?_); rintro e w' ⟨rfl, ⟨nd, rfl⟩⟩))
      go_meet
      case rel => exact ⟨_, (!t122), (by first | rfl | (simp; done) | (simp [*]; done)), H', ⟨by have := HJ5.out; first | omega | exact Nat.le_refl _⟩, bf_ BK120, ⟨by repeat (first | (with_reducible first | exact HB.out | apply below_alloc | apply pw_below_drewN | apply below_drew1 | refine below_set ?_ GE120.out) | exact HB.out)⟩⟩
     ·
      replace c13 := Bool.eq_false_iff.mpr c13
      subst c13
      have H1 : (buffer_Decode.j1 kj5 a0 a1 a2 a3 l4 true) = some (r1, r2, r3, r4) := by rw [if_neg (show ¬ (false = true) by decide)] at H; exact H
      clear H
      have H := H1
      clear H1
      have H' := Aside0.mk H
      clear H
      go_wp2_with (first | ((with_reducible refine gate_callee (f := 39) rfl ?_); refine goesL_ (some 27) rfl rfl Try.func39 (by kernel_rfl) rfl #[.int .i64 a1] rfl (by (try simp only [List.map_toArray, List.map_cons, List.map_nil]) <;> rfl) ?_; (with_reducible refine (buffer_size.calls a1 false _ A12.out).mono ?_); rintro e w' ⟨rfl, ⟨nd, rfl⟩⟩; refine ⟨_, rfl, ?_⟩))
      go_meet
      case rel => exact ⟨_, (true), (by first | rfl | (simp; done) | (simp [*]; done)), H', ⟨by have := HJ5.out; first | omega | exact Nat.le_refl _⟩, bf_ BK120, ⟨by repeat (first | (with_reducible first | exact HB.out | apply below_alloc | apply pw_below_drewN | apply below_drew1 | refine below_set ?_ GE120.out) | exact HB.out)⟩⟩
    case rest =>
     clear HC11
     try clear c1
     try clear p2
     try clear c3
     try clear c4
     try clear c8
     try clear c8b0
     try clear c8b1
     try clear c9
     try clear c13
     try clear c14
     try clear hcz10_0
     try clear hcz10_1
     try clear hcz10_2
     try clear hfz10_0
     try clear hfz10_1
     try clear hfz10_2
     try clear p2
     obtain ⟨kq, x25_10, rfl, HA, HJ10, BK120, HB⟩ := hcut
     cases kq with
     | zero => exact absurd HA.out (by simp [buffer_Decode.j1])
     | succ kj10 =>
      have H := HA.out
      clear HA
      simp only [buffer_Decode.j1] at H
      by_cases c15 : x25_10 = true
      ·
       subst c15
       have H1 : (some (0, 0, ([] : List (S43)), 6)) = some (r1, r2, r3, r4) := by rw [if_pos rfl] at H; exact H
       clear H
       have H := H1
       clear H1
       simp only [Option.some.injEq, Prod.mk.injEq] at H
       obtain ⟨rfl, rfl, rfl, rfl⟩ := H
       have hcz16_0 : wc.cell? ⟨gb120, 0, none⟩ = some (.int .i64 0) := (blk_cell BK120.out 0).trans rfl
       have hcz16_1 : wc.cell? ⟨gb120, 1, none⟩ = some (.int .i64 0) := (blk_cell BK120.out 1).trans rfl
       have hcz16_2 : wc.cell? ⟨gb120, 2, none⟩ = some (.slice none 0 0) := (blk_cell BK120.out 2).trans rfl
       have hfz16_0 := blk_frozen BK120.out 0
       have hfz16_1 := blk_frozen BK120.out 1
       have hfz16_2 := blk_frozen BK120.out 2
       go_wp2
       refine bodyPost_ret (results_ct rfl _ _ gb120 27 #[.int .i64 0, .int .i64 0, .slice none 0 0] (0, 0) _ rfl (by (with_reducible repeat (first | refine blk_drewN ?_ _ | refine blk_drew ?_ | refine blk_alloc ?_ _)); refine blk_put (cs := #[.int .i64 0, .int .i64 0, .slice none 0 0]) ?_ 2 _ rfl; (with_reducible repeat (first | refine blk_drewN ?_ _ | refine blk_drew ?_ | refine blk_alloc ?_ _)); refine blk_put (cs := #[.int .i64 0, .int .i64 0, .slice none 0 0]) ?_ 1 _ rfl; (with_reducible repeat (first | refine blk_drewN ?_ _ | refine blk_drew ?_ | refine blk_alloc ?_ _)); refine blk_put (cs := #[.int .i64 0, .int .i64 0, .slice none 0 0]) ?_ 0 _ rfl; (with_reducible repeat (first | refine blk_drewN ?_ _ | refine blk_drew ?_ | refine blk_alloc ?_ _)); exact BK120.out) Try.underlying27 rfl (by kernel_rfl)) rfl ?_
       exact ⟨_, by first | rfl | (simp [errW_none, errW_some] <;> rfl) | (simp [*, errW_none, errW_some] <;> rfl), by first | exact Kd.R_nil _ _ _ _ _ | exact Kd.N_nil _ _ _ _ _ | exact Kd.V_nil _ _ _ _ _ | exact Kd.Q_nil _ _ _ _ _ | exact Kd.S_nil _ _ _ _ _, by repeat (first | (with_reducible first | exact HB.out | apply below_alloc | apply pw_below_drewN | apply below_drew1 | refine below_set ?_ GE120.out) | exact HB.out)⟩
      ·
       replace c15 := Bool.eq_false_iff.mpr c15
       subst c15
       have H1 : (if a3 < (wrap64 (4 * a1)) then (buffer_Decode.j2 kj10 a0 a1 a2 a3 l4 true) else (buffer_Decode.j2 kj10 a0 a1 a2 a3 l4 ((Int.tmod a3 4) != 0))) = some (r1, r2, r3, r4) := by rw [if_neg (show ¬ (false = true) by decide)] at H; exact H
       clear H
       have H := H1
       clear H1
       have HC17 := Aside0.mk H
       clear H
       go_upto_region 5 with (fail)
       go_cut [35] (fun v35 wc => ∃ (kq : Nat) (x35_16 : Bool), v35 = .bool x35_16 ∧ Aside0 (buffer_Decode.j2 kq a0 a1 a2 a3 l4 x35_16 = some (r1, r2, r3, r4)) ∧ Aside0 (kq ≤ kj10) ∧ Aside0 (wc.heap[gb120]? = some (.cells #[.int .i64 0, .int .i64 0, (.slice none 0 0)] 27 (0, 0))) ∧ Aside0 (Below w.heap.size w wc))
       case first =>
        have H := HC17.out
        clear HC17
        by_cases c18 : a3 < (wrap64 (4 * a1))
        ·
         rw [if_pos c18] at H
         have c18b0 : decide (a3 < (wrap64 (4 * a1))) = true := decide_eq_true c18
         clear c18
         (first | rw [c18b0] | (simp only [i64_w, i32_w]; rw [c18b0]) | skip)
         have H' := Aside0.mk H
         clear H
         go_wp2
         go_meet
         case rel => exact ⟨_, (true), (by first | rfl | (simp; done) | (simp [*]; done)), H', ⟨by have := HJ5.out; have := HJ10.out; first | omega | exact Nat.le_refl _⟩, bf_ BK120, ⟨by repeat (first | (with_reducible first | exact HB.out | apply below_alloc | apply pw_below_drewN | apply below_drew1 | refine below_set ?_ GE120.out) | exact HB.out)⟩⟩
        ·
         rw [if_neg c18] at H
         have c18b0 : decide (a3 < (wrap64 (4 * a1))) = false := decide_eq_false c18
         clear c18
         (first | rw [c18b0] | (simp only [i64_w, i32_w]; rw [c18b0]) | skip)
         have H' := Aside0.mk H
         clear H
         go_wp2
         go_meet
         case rel => exact ⟨_, (((Int.tmod a3 4) != 0)), (by first | rfl | (simp; done) | (simp [*]; done)), H', ⟨by have := HJ5.out; have := HJ10.out; first | omega | exact Nat.le_refl _⟩, bf_ BK120, ⟨by repeat (first | (with_reducible first | exact HB.out | apply below_alloc | apply pw_below_drewN | apply below_drew1 | refine below_set ?_ GE120.out) | exact HB.out)⟩⟩
       case rest =>
        clear HC17
        try clear c1
        try clear p2
        try clear c3
        try clear c4
        try clear p6
        try clear c8
        try clear c8b0
        try clear c8b1
        try clear c9
        try clear c13
        try clear c14
        try clear c15
        try clear c18
        try clear c18b0
        try clear hcz10_0
        try clear hcz10_1
        try clear hcz10_2
        try clear hcz16_0
        try clear hcz16_1
        try clear hcz16_2
        try clear hfz10_0
        try clear hfz10_1
        try clear hfz10_2
        try clear hfz16_0
        try clear hfz16_1
        try clear hfz16_2
        try clear p2
        obtain ⟨kq, x35_16, rfl, HA, HJ16, BK120, HB⟩ := hcut
        cases kq with
        | zero => exact absurd HA.out (by simp [buffer_Decode.j2])
        | succ kj16 =>
         have H := HA.out
         clear HA
         simp only [buffer_Decode.j2] at H
         by_cases c19 : x35_16 = true
         ·
          subst c19
          have H1 : (some (0, 0, ([] : List (S43)), 15)) = some (r1, r2, r3, r4) := by rw [if_pos rfl] at H; exact H
          clear H
          have H := H1
          clear H1
          simp only [Option.some.injEq, Prod.mk.injEq] at H
          obtain ⟨rfl, rfl, rfl, rfl⟩ := H
          have hcz20_0 : wc.cell? ⟨gb120, 0, none⟩ = some (.int .i64 0) := (blk_cell BK120.out 0).trans rfl
          have hcz20_1 : wc.cell? ⟨gb120, 1, none⟩ = some (.int .i64 0) := (blk_cell BK120.out 1).trans rfl
          have hcz20_2 : wc.cell? ⟨gb120, 2, none⟩ = some (.slice none 0 0) := (blk_cell BK120.out 2).trans rfl
          have hfz20_0 := blk_frozen BK120.out 0
          have hfz20_1 := blk_frozen BK120.out 1
          have hfz20_2 := blk_frozen BK120.out 2
          go_wp2
          refine bodyPost_ret (results_ct rfl _ _ gb120 27 #[.int .i64 0, .int .i64 0, .slice none 0 0] (0, 0) _ rfl (by (with_reducible repeat (first | refine blk_drewN ?_ _ | refine blk_drew ?_ | refine blk_alloc ?_ _)); refine blk_put (cs := #[.int .i64 0, .int .i64 0, .slice none 0 0]) ?_ 2 _ rfl; (with_reducible repeat (first | refine blk_drewN ?_ _ | refine blk_drew ?_ | refine blk_alloc ?_ _)); refine blk_put (cs := #[.int .i64 0, .int .i64 0, .slice none 0 0]) ?_ 1 _ rfl; (with_reducible repeat (first | refine blk_drewN ?_ _ | refine blk_drew ?_ | refine blk_alloc ?_ _)); refine blk_put (cs := #[.int .i64 0, .int .i64 0, .slice none 0 0]) ?_ 0 _ rfl; (with_reducible repeat (first | refine blk_drewN ?_ _ | refine blk_drew ?_ | refine blk_alloc ?_ _)); exact BK120.out) Try.underlying27 rfl (by kernel_rfl)) rfl ?_
          exact ⟨_, by first | rfl | (simp [errW_none, errW_some] <;> rfl) | (simp [*, errW_none, errW_some] <;> rfl), by first | exact Kd.R_nil _ _ _ _ _ | exact Kd.N_nil _ _ _ _ _ | exact Kd.V_nil _ _ _ _ _ | exact Kd.Q_nil _ _ _ _ _ | exact Kd.S_nil _ _ _ _ _, by repeat (first | (with_reducible first | exact HB.out | apply below_alloc | apply pw_below_drewN | apply below_drew1 | refine below_set ?_ GE120.out) | exact HB.out)⟩
         ·
          replace c19 := Bool.eq_false_iff.mpr c19
          subst c19
          have H1 : (if a2 = 0 then (none) else (if a3 > (wrap64 ((l4.length : Int) / a2)) then (some (0, 0, ([] : List (S43)), 4)) else (buffer_Decode.l0 kj16 a0 a1 a3 l4 a2 0 a1 a2 ([] : List (S43))))) = some (r1, r2, r3, r4) := by rw [if_neg (show ¬ (false = true) by decide)] at H; exact H
          clear H
          have H := H1
          clear H1
          by_cases c21 : a2 = 0
          ·
           rw [if_pos c21] at H
           exact absurd H (by simp)
          ·
           rw [if_neg c21] at H
           have c21b0 : (a2 == 0) = false := beq_eq_false_iff_ne.mpr c21
           have c21b1 : (a2 != 0) = true := bne_iff_ne.mpr c21
           by_cases c22 : a3 > (wrap64 ((l4.length : Int) / a2))
           ·
            rw [if_pos c22] at H
            have c22b0 : decide ((wrap64 ((l4.length : Int) / a2)) < a3) = true := decide_eq_true c22
            clear c22
            simp only [Option.some.injEq, Prod.mk.injEq] at H
            obtain ⟨rfl, rfl, rfl, rfl⟩ := H
            have hcz23_0 : wc.cell? ⟨gb120, 0, none⟩ = some (.int .i64 0) := (blk_cell BK120.out 0).trans rfl
            have hcz23_1 : wc.cell? ⟨gb120, 1, none⟩ = some (.int .i64 0) := (blk_cell BK120.out 1).trans rfl
            have hcz23_2 : wc.cell? ⟨gb120, 2, none⟩ = some (.slice none 0 0) := (blk_cell BK120.out 2).trans rfl
            have hfz23_0 := blk_frozen BK120.out 0
            have hfz23_1 := blk_frozen BK120.out 1
            have hfz23_2 := blk_frozen BK120.out 2
            go_wp2
            refine bodyPost_ret (results_ct rfl _ _ gb120 27 #[.int .i64 0, .int .i64 0, .slice none 0 0] (0, 0) _ rfl (by (with_reducible repeat (first | refine blk_drewN ?_ _ | refine blk_drew ?_ | refine blk_alloc ?_ _)); refine blk_put (cs := #[.int .i64 0, .int .i64 0, .slice none 0 0]) ?_ 2 _ rfl; (with_reducible repeat (first | refine blk_drewN ?_ _ | refine blk_drew ?_ | refine blk_alloc ?_ _)); refine blk_put (cs := #[.int .i64 0, .int .i64 0, .slice none 0 0]) ?_ 1 _ rfl; (with_reducible repeat (first | refine blk_drewN ?_ _ | refine blk_drew ?_ | refine blk_alloc ?_ _)); refine blk_put (cs := #[.int .i64 0, .int .i64 0, .slice none 0 0]) ?_ 0 _ rfl; (with_reducible repeat (first | refine blk_drewN ?_ _ | refine blk_drew ?_ | refine blk_alloc ?_ _)); exact BK120.out) Try.underlying27 rfl (by kernel_rfl)) rfl ?_
            exact ⟨_, by first | rfl | (simp [errW_none, errW_some] <;> rfl) | (simp [*, errW_none, errW_some] <;> rfl), by first | exact Kd.R_nil _ _ _ _ _ | exact Kd.N_nil _ _ _ _ _ | exact Kd.V_nil _ _ _ _ _ | exact Kd.Q_nil _ _ _ _ _ | exact Kd.S_nil _ _ _ _ _, by repeat (first | (with_reducible first | exact HB.out | apply below_alloc | apply pw_below_drewN | apply below_drew1 | refine below_set ?_ GE120.out) | exact HB.out)⟩
           ·
            rw [if_neg c22] at H
            have c22b0 : decide ((wrap64 ((l4.length : Int) / a2)) < a3) = false := decide_eq_false c22
            clear c22
            have H' := Aside0.mk H
            clear H
            go_wp2_with (first | ((with_reducible refine gate_dst (N := 12) rfl ?_); refine box_event ?hg (N := 12) ?hd (cs := #[.int .i64 0, .int .i64 0, .slice none 0 0]) (t := 27) ?hr ?_; (case hd => rfl); (case hg => rfl); (case hr => first | (go_simp; done) | (go_simp; rfl)); intro gb123 hg w24 hbox hb; have n0_ := bb_ BK120 hb; have n1_ := hb_ HB hb; have n2_ := Aside0.mk (hbox); have n3_ := Aside0.mk ((by rw [hg]; exact (below_size (hq_ HB)) : w.heap.size ≤ gb123)); have n4_ := Aside0.mk ((by rw [hg]; exact (below_size (hq_ HB)) : w.heap.size ≤ gb123)); have n5_ := Aside0.mk ((by rw [hg]; exact Nat.ne_of_lt (blk_lt (g := gb120) (o := .cells #[.int .i64 0, .int .i64 0, .slice none 0 0] 27 (0, 0)) (bq_ BK120)) : gb120 ≠ gb123)); have n6_ := Aside0.mk ((by rw [hg]; exact Nat.ne_of_gt (blk_lt (g := gb120) (o := .cells #[.int .i64 0, .int .i64 0, .slice none 0 0] 27 (0, 0)) (bq_ BK120)) : gb123 ≠ gb120)); clear BK120; clear HB; have BK120 := n0_; have HB := n1_; have BK123 := n2_; have GW123 := n3_; have GE123 := n4_; have NB120_123 := n5_; have NB123_120 := n6_; clear n0_ n1_ n2_ n3_ n4_ n5_ n6_; clear hb hbox hg; have hnb25 := NB123_120.out; have hnc25 := NB120_123.out; have hcz26_0 : w24.cell? ⟨gb123, 0, none⟩ = some (.int .i64 0) := (blk_cell BK123.out 0).trans rfl; have hcz26_1 : w24.cell? ⟨gb123, 1, none⟩ = some (.int .i64 0) := (blk_cell BK123.out 1).trans rfl; have hcz26_2 : w24.cell? ⟨gb123, 2, none⟩ = some (.slice none 0 0) := (blk_cell BK123.out 2).trans rfl; have hfz26_0 := blk_frozen BK123.out 0; have hfz26_1 := blk_frozen BK123.out 1; have hfz26_2 := blk_frozen BK123.out 2))
            go_loopg [58] kj16 (fun kq v58 w' => ∃ (x58_4 : Int) (x124002_4 : List (S43)) (u124002 : Value), v58 = .int .i64 x58_4 ∧ Aside0 (buffer_Decode.l0 kq a0 a1 a3 l4 a2 x58_4 a1 a2 x124002_4 = some (r1, r2, r3, r4)) ∧ Aside0 (kq ≤ kj16) ∧ Aside0 (Kd.R k43 43 w' w.heap.size (fun _ => True) u124002 x124002_4) ∧ Aside0 (w'.heap[gb120]? = some (.cells #[.int .i64 0, .int .i64 0, (.slice none 0 0)] 27 (0, 0))) ∧ Aside0 (w'.heap[gb123]? = some (.cells #[.int .i64 a1, .int .i64 a2, u124002] 27 (0, 0))) ∧ Aside0 (Below w.heap.size w w'))
            case atStart => exact ⟨(0), (([] : List (S43))), (.slice none 0 0), (by first | rfl | (simp; done) | (simp [*]; done)), H', ⟨Nat.le_refl _⟩, ⟨by first | exact Kd.R_nil _ _ _ _ _ | exact Kd.N_nil _ _ _ _ _ | exact Kd.V_nil _ _ _ _ _ | exact Kd.Q_nil _ _ _ _ _ | exact Kd.S_nil _ _ _ _ _⟩, bf_ BK120, ⟨by (with_reducible repeat (first | refine blk_drewN ?_ _ | refine blk_drew ?_ | refine blk_alloc ?_ _)); refine blk_put (cs := #[.int .i64 a1, .int .i64 a2, .slice none 0 0]) ?_ 2 _ rfl; (with_reducible repeat (first | refine blk_drewN ?_ _ | refine blk_drew ?_ | refine blk_alloc ?_ _)); refine blk_put (cs := #[.int .i64 a1, .int .i64 0, .slice none 0 0]) ?_ 1 _ rfl; (with_reducible repeat (first | refine blk_drewN ?_ _ | refine blk_drew ?_ | refine blk_alloc ?_ _)); refine blk_put (cs := #[.int .i64 0, .int .i64 0, .slice none 0 0]) ?_ 0 _ rfl; (with_reducible repeat (first | refine blk_drewN ?_ _ | refine blk_drew ?_ | refine blk_alloc ?_ _)); exact BK123.out⟩, ⟨by repeat (first | (with_reducible first | exact HB.out | apply below_alloc | apply pw_below_drewN | apply below_drew1 | refine below_set ?_ GE120.out | refine below_set ?_ GE123.out) | exact HB.out)⟩⟩
            case round =>
             clear H'
             try clear c1
             try clear c2
             try clear p2
             try clear c3
             try clear c4
             try clear p6
             try clear c8
             try clear c8b0
             try clear c8b1
             try clear c9
             try clear c13
             try clear c14
             try clear c15
             try clear c18
             try clear c18b0
             try clear c19
             try clear c21
             try clear c21b0
             try clear c21b1
             try clear c22
             try clear c22b0
             try clear c25
             try clear hcz10_0
             try clear hcz10_1
             try clear hcz10_2
             try clear hcz16_0
             try clear hcz16_1
             try clear hcz16_2
             try clear hcz20_0
             try clear hcz20_1
             try clear hcz20_2
             try clear hcz23_0
             try clear hcz23_1
             try clear hcz23_2
             try clear hcz26_0
             try clear hcz26_1
             try clear hcz26_2
             try clear hfz10_0
             try clear hfz10_1
             try clear hfz10_2
             try clear hfz16_0
             try clear hfz16_1
             try clear hfz16_2
             try clear hfz20_0
             try clear hfz20_1
             try clear hfz20_2
             try clear hfz23_0
             try clear hfz23_1
             try clear hfz23_2
             try clear hfz26_0
             try clear hfz26_1
             try clear hfz26_2
             try clear p2
             try clear p6
             obtain ⟨x58_4, x124002_4, u124002, rfl, HA, HK4, HO_124002, BK120, BK123, HB⟩ := hrel
             cases gk with
             | zero => exact absurd HA.out (by simp [buffer_Decode.l0])
             | succ k4 =>
              have H := HA.out
              clear HA
              simp only [buffer_Decode.l0] at H
              by_cases c27 : x58_4 < a2
              ·
               rw [if_pos c27] at H
               have c27b0 : decide (x58_4 < a2) = true := decide_eq_true c27
               clear c27
               have H' := Aside0.mk H
               clear H
               go_wp2
               go_loopg [62] k4 (fun kq v62 w' => ∃ (x62_5 : Int) (x124002_5 : List (S43)) (u124002 : Value), v62 = .int .i64 x62_5 ∧ Aside0 (buffer_Decode.l1 kq a0 a1 a3 l4 x58_4 a2 x58_4 a1 x62_5 a1 a2 x124002_5 = some (r1, r2, r3, r4)) ∧ Aside0 (kq ≤ k4) ∧ Aside0 (Kd.R k43 43 w' w.heap.size (fun _ => True) u124002 x124002_5) ∧ Aside0 (w'.heap[gb120]? = some (.cells #[.int .i64 0, .int .i64 0, (.slice none 0 0)] 27 (0, 0))) ∧ Aside0 (w'.heap[gb123]? = some (.cells #[.int .i64 a1, .int .i64 a2, u124002] 27 (0, 0))) ∧ Aside0 (Below w.heap.size w w'))
               case atStart => exact ⟨(0), (x124002_4), (u124002), (by first | rfl | (simp; done) | (simp [*]; done)), H', ⟨Nat.le_refl _⟩, ⟨by (with_reducible repeat (first | apply Kd.R_alloc | apply Kd.R_drewN | apply Kd.R_drew)); exact HO_124002.out⟩, bf_ BK120, bf_ BK123, ⟨by repeat (first | (with_reducible first | exact HB.out | apply below_alloc | apply pw_below_drewN | apply below_drew1 | refine below_set ?_ GE120.out | refine below_set ?_ GE123.out) | exact HB.out)⟩⟩
               case round =>
                clear H'
                try clear c1
                try clear c2
                try clear p2
                try clear c3
                try clear c4
                try clear p6
                try clear c8
                try clear c8b0
                try clear c8b1
                try clear c9
                try clear c13
                try clear c14
                try clear c15
                try clear c18
                try clear c18b0
                try clear c19
                try clear c21
                try clear c21b0
                try clear c21b1
                try clear c22
                try clear c22b0
                try clear c25
                try clear c27
                try clear c27b0
                try clear hcz10_0
                try clear hcz10_1
                try clear hcz10_2
                try clear hcz16_0
                try clear hcz16_1
                try clear hcz16_2
                try clear hcz20_0
                try clear hcz20_1
                try clear hcz20_2
                try clear hcz23_0
                try clear hcz23_1
                try clear hcz23_2
                try clear hcz26_0
                try clear hcz26_1
                try clear hcz26_2
                try clear hfz10_0
                try clear hfz10_1
                try clear hfz10_2
                try clear hfz16_0
                try clear hfz16_1
                try clear hfz16_2
                try clear hfz20_0
                try clear hfz20_1
                try clear hfz20_2
                try clear hfz23_0
                try clear hfz23_1
                try clear hfz23_2
                try clear hfz26_0
                try clear hfz26_1
                try clear hfz26_2
                try clear p2
                try clear p6
                obtain ⟨x62_5, x124002_5, u124002, rfl, HA, HK5, HO_124002, BK120, BK123, HB⟩ := hrel
                cases gk with
                | zero => exact absurd HA.out (by simp [buffer_Decode.l1])
                | succ k5 =>
                 have H := HA.out
                 clear HA
                 simp only [buffer_Decode.l1] at H
                 by_cases c28 : x62_5 < a1
                 ·
                  rw [if_pos c28] at H
                  have c28b0 : decide (x62_5 < a1) = true := decide_eq_true c28
                  clear c28
                  obtain ⟨ji29, hji29⟩ : ∃ j_ : Int, (wrap64 ((wrap64 (x58_4 * a3)) + (wrap64 (4 * x62_5)))) = j_ := ⟨_, rfl⟩
                  replace H : (if 0 ≤ (ji29) then (if (ji29) ≤ (l4.length : Int) then (if 0 < ((l4.drop ((ji29) : Int).toNat).length : Int) then (if 1 < ((l4.drop ((ji29) : Int).toNat).length : Int) then (if 2 < ((l4.drop ((ji29) : Int).toNat).length : Int) then (if 3 < ((l4.drop ((ji29) : Int).toNat).length : Int) then (if a0 = 2 then ((pixel_Clamp.f (rd (l4.drop ((ji29) : Int).toNat) 2) (rd (l4.drop ((ji29) : Int).toNat) 1) (rd (l4.drop ((ji29) : Int).toNat) 0) 255).bind fun bt130 => (if x124002_5.length < 35184372088832 then (buffer_Decode.l1 k5 a0 a1 a3 l4 x58_4 a2 x58_4 a1 (wrap64 (x62_5 + 1)) a1 a2 (x124002_5 ++ [(⟨bt130.1, bt130.2.1, bt130.2.2.1, bt130.2.2.2⟩ : S43)])) else (none))) else ((pixel_Clamp.f (rd (l4.drop ((ji29) : Int).toNat) 2) (rd (l4.drop ((ji29) : Int).toNat) 1) (rd (l4.drop ((ji29) : Int).toNat) 0) (rd (l4.drop ((ji29) : Int).toNat) 3)).bind fun bt137 => (if x124002_5.length < 35184372088832 then (buffer_Decode.l1 k5 a0 a1 a3 l4 x58_4 a2 x58_4 a1 (wrap64 (x62_5 + 1)) a1 a2 (x124002_5 ++ [(⟨bt137.1, bt137.2.1, bt137.2.2.1, bt137.2.2.2⟩ : S43)])) else (none)))) else (none)) else (none)) else (none)) else (none)) else (none)) else (none)) = some (r1, r2, r3, r4) := by first | (rw [hji29] at H; exact H) | (simp only [hji29] at H ⊢; exact H)
                  have hji29w : (IntKind.i64.wrap ((wrap64 (x58_4 * a3)) + (wrap64 (4 * x62_5)))) = ji29 := (i64_w _).trans hji29
                  by_cases c30 : 0 ≤ (ji29)
                  ·
                   rw [if_pos c30] at H
                   have c30b0 := eq_true c30
                   have c30b1 : decide (0 ≤ (ji29)) = true := decide_eq_true c30
                   clear c30
                   by_cases c31 : (ji29) ≤ (l4.length : Int)
                   ·
                    rw [if_pos c31] at H
                    have c31b0 := eq_true c31
                    have c31b1 : decide ((ji29) ≤ (l4.length : Int)) = true := decide_eq_true c31
                    clear c31
                    by_cases c32 : 0 < ((l4.drop ((ji29) : Int).toNat).length : Int)
                    ·
                     rw [if_pos c32] at H
                     have c32b0 : decide (0 < ((l4.drop ((ji29) : Int).toNat).length : Int)) = true := decide_eq_true c32
                     have c32b1 : decide (0 < (l4.drop ((ji29) : Int).toNat).length) = true := decide_eq_true (by omega)
                     clear c32
                     by_cases c33 : 1 < ((l4.drop ((ji29) : Int).toNat).length : Int)
                     ·
                      rw [if_pos c33] at H
                      have c33b0 : decide (1 < ((l4.drop ((ji29) : Int).toNat).length : Int)) = true := decide_eq_true c33
                      have c33b1 : decide (1 < (l4.drop ((ji29) : Int).toNat).length) = true := decide_eq_true (by omega)
                      clear c33
                      by_cases c34 : 2 < ((l4.drop ((ji29) : Int).toNat).length : Int)
                      ·
                       rw [if_pos c34] at H
                       have c34b0 : decide (2 < ((l4.drop ((ji29) : Int).toNat).length : Int)) = true := decide_eq_true c34
                       have c34b1 : decide (2 < (l4.drop ((ji29) : Int).toNat).length) = true := decide_eq_true (by omega)
                       clear c34
                       by_cases c35 : 3 < ((l4.drop ((ji29) : Int).toNat).length : Int)
                       ·
                        rw [if_pos c35] at H
                        have c35b0 : decide (3 < ((l4.drop ((ji29) : Int).toNat).length : Int)) = true := decide_eq_true c35
                        have c35b1 : decide (3 < (l4.drop ((ji29) : Int).toNat).length) = true := decide_eq_true (by omega)
                        clear c35
                        by_cases c36 : a0 = 2
                        ·
                         rw [if_pos c36] at H
                         have c36b0 : (a0 == 2) = true := beq_iff_eq.mpr c36
                         have c36b1 : (a0 != 2) = false := bne_eq_false_iff_eq.mpr c36
                         clear c36
                         replace H := Option.bind_eq_some_iff.mp H
                         obtain ⟨⟨t130, t131, t132, t133⟩, A370, H⟩ := H
                         try dsimp only at H
                         have A37 := Aside0.mk A370
                         clear A370
                         by_cases c38 : x124002_5.length < 35184372088832
                         ·
                          rw [if_pos c38] at H
                          have LMc38 := Aside0.mk c38
                          clear c38
                          obtain ⟨y134, hy134⟩ : ∃ y_ : List (S43), y_ = (x124002_5 ++ [(⟨t130, t131, t132, t133⟩ : S43)]) := ⟨_, rfl⟩
                          replace H : (buffer_Decode.l1 k5 a0 a1 a3 l4 x58_4 a2 x58_4 a1 (wrap64 (x62_5 + 1)) a1 a2 y134) = some (r1, r2, r3, r4) := by first | (rw [hy134]; with_reducible exact H) | (have H2_ := (Option.bind_some _ _).symm.trans H; rw [hy134]; with_reducible exact H2_) | (have H2_ := (Option.bind_some _ _).symm.trans H; with_reducible exact H2_) | with_reducible exact H | (rw [hy134]; exact H) | exact H
                          have Ny134 := Aside0.mk hy134
                          clear hy134
                          have H' := Aside0.mk H
                          clear H
                          obtain ⟨i039, hi039, _, hsz39, _⟩ := info_parts info5
                          obtain ⟨A39, hcut39, hA39, hC39⟩ := print_drop_of (P := Try.prog) (Value.int .u8) 0 23 5 .i64 Try.underlying23 hi039 hsz39 A4 c4 l4 (ji29) (of_decide_eq_true (by first | (with_reducible assumption) | assumption)) (of_decide_eq_true (by first | (with_reducible assumption) | assumption)) HC4.out
                          have HR124 := Aside0.mk (Kd.C_of_reads (h1 := fun _ => rfl) (hA39 _ (Kd.reads_of_C HR4.out)))
                          have HC124 := Aside0.mk hC39
                          clear hA39 hC39 hi039 hsz39
                          try go_wp2
                          replace HO_124002 := Aside0.mk (Kd.R_drew HO_124002.out)
                          replace BK120 := Aside0.mk (blk_drew BK120.out)
                          replace BK123 := Aside0.mk (blk_drew BK123.out)
                          replace HB := Aside0.mk (below_drew1 HB.out)
                          have p125 : 0 ≤ (0 : Int) := (by omega)
                          have q125 : 0 < ((l4.drop ((ji29) : Int).toNat).length : Int) := of_decide_eq_true (by first | (with_reducible assumption) | assumption)
                          obtain ⟨ad125, e125, hx125_0⟩ := Kd.at_int HR124.out 0 p125 q125
                          have hw125_0 := hx125_0
                          (try rw [show ((0 : Int)).toNat = 0 from rfl] at hw125_0)
                          (try rw [show 0 * 1 = 0 from rfl] at hw125_0)
                          (try rw [Addr.add_zero'] at hw125_0)
                          cases e125
                          have qi125 : (0 < (l4.drop ((ji29) : Int).toNat).length) = True := eq_true (by omega)
                          have qid_qi125 := qi125
                          (try simp only [List.length_drop] at qid_qi125)
                          have qie_qi125 : ((0 : Int) < ((l4.length - ((ji29) : Int).toNat : Nat) : Int)) = True := eq_true (by have h_ := of_eq_true qid_qi125; omega)
                          (try rw [show ((0 : Int)).toNat = 0 from rfl] at hx125_0)
                          (try rw [Addr.add_zero'] at hx125_0)
                          replace hx125_0 := (HB.out.cell (World.block_lt_of_cell? w _ hx125_0)).trans hx125_0
                          replace p125 := eq_true p125
                          replace q125 := eq_true q125
                          have p126 : 0 ≤ (1 : Int) := (by omega)
                          have q126 : 1 < ((l4.drop ((ji29) : Int).toNat).length : Int) := of_decide_eq_true (by first | (with_reducible assumption) | assumption)
                          obtain ⟨ad126, e126, hx126_0⟩ := Kd.at_int HR124.out 1 p126 q126
                          have hw126_0 := hx126_0
                          (try rw [show ((1 : Int)).toNat = 1 from rfl] at hw126_0)
                          (try rw [show 1 * 1 = 1 from rfl] at hw126_0)
                          (try simp only [Nat.reduceMul, Nat.reduceEqDiff, Go.Addr.add, ↓reduceIte] at hw126_0)
                          obtain rfl : ad125 = ad126 := (by injection e126)
                          (try simp only [show (1 : Int).toNat = 1 from rfl, Nat.reduceMul, Nat.reduceEqDiff, Go.Addr.add, ↓reduceIte] at hx126_0)
                          have qi126 : (1 < (l4.drop ((ji29) : Int).toNat).length) = True := eq_true (by omega)
                          have qid_qi126 := qi126
                          (try simp only [List.length_drop] at qid_qi126)
                          have qie_qi126 : ((1 : Int) < ((l4.length - ((ji29) : Int).toNat : Nat) : Int)) = True := eq_true (by have h_ := of_eq_true qid_qi126; omega)
                          (try rw [show ((1 : Int)).toNat = 1 from rfl] at hx126_0)
                          replace hx126_0 := (HB.out.cell (World.block_lt_of_cell? w _ hx126_0)).trans hx126_0
                          replace p126 := eq_true p126
                          replace q126 := eq_true q126
                          have p127 : 0 ≤ (2 : Int) := (by omega)
                          have q127 : 2 < ((l4.drop ((ji29) : Int).toNat).length : Int) := of_decide_eq_true (by first | (with_reducible assumption) | assumption)
                          obtain ⟨ad127, e127, hx127_0⟩ := Kd.at_int HR124.out 2 p127 q127
                          have hw127_0 := hx127_0
                          (try rw [show ((2 : Int)).toNat = 2 from rfl] at hw127_0)
                          (try rw [show 2 * 1 = 2 from rfl] at hw127_0)
                          (try simp only [Nat.reduceMul, Nat.reduceEqDiff, Go.Addr.add, ↓reduceIte] at hw127_0)
                          obtain rfl : ad125 = ad127 := (by injection e127)
                          (try simp only [show (2 : Int).toNat = 2 from rfl, Nat.reduceMul, Nat.reduceEqDiff, Go.Addr.add, ↓reduceIte] at hx127_0)
                          have qi127 : (2 < (l4.drop ((ji29) : Int).toNat).length) = True := eq_true (by omega)
                          have qid_qi127 := qi127
                          (try simp only [List.length_drop] at qid_qi127)
                          have qie_qi127 : ((2 : Int) < ((l4.length - ((ji29) : Int).toNat : Nat) : Int)) = True := eq_true (by have h_ := of_eq_true qid_qi127; omega)
                          (try rw [show ((2 : Int)).toNat = 2 from rfl] at hx127_0)
                          replace hx127_0 := (HB.out.cell (World.block_lt_of_cell? w _ hx127_0)).trans hx127_0
                          replace p127 := eq_true p127
                          replace q127 := eq_true q127
                          have p128 : 0 ≤ (3 : Int) := (by omega)
                          have q128 : 3 < ((l4.drop ((ji29) : Int).toNat).length : Int) := of_decide_eq_true (by first | (with_reducible assumption) | assumption)
                          obtain ⟨ad128, e128, hx128_0⟩ := Kd.at_int HR124.out 3 p128 q128
                          have hw128_0 := hx128_0
                          (try rw [show ((3 : Int)).toNat = 3 from rfl] at hw128_0)
                          (try rw [show 3 * 1 = 3 from rfl] at hw128_0)
                          (try simp only [Nat.reduceMul, Nat.reduceEqDiff, Go.Addr.add, ↓reduceIte] at hw128_0)
                          obtain rfl : ad125 = ad128 := (by injection e128)
                          (try simp only [show (3 : Int).toNat = 3 from rfl, Nat.reduceMul, Nat.reduceEqDiff, Go.Addr.add, ↓reduceIte] at hx128_0)
                          have qi128 : (3 < (l4.drop ((ji29) : Int).toNat).length) = True := eq_true (by omega)
                          have qid_qi128 := qi128
                          (try simp only [List.length_drop] at qid_qi128)
                          have qie_qi128 : ((3 : Int) < ((l4.length - ((ji29) : Int).toNat : Nat) : Int)) = True := eq_true (by have h_ := of_eq_true qid_qi128; omega)
                          (try rw [show ((3 : Int)).toNat = 3 from rfl] at hx128_0)
                          replace hx128_0 := (HB.out.cell (World.block_lt_of_cell? w _ hx128_0)).trans hx128_0
                          replace p128 := eq_true p128
                          replace q128 := eq_true q128
                          refine start_ (n := 15) (S := fun w' => w'.cell? ad125 = some (.int .u8 (rd (l4.drop ((ji29) : Int).toNat) 0)) ∧ w'.cell? ⟨ad125.block, ad125.off + 1, none⟩ = some (.int .u8 (rd (l4.drop ((ji29) : Int).toNat) 1)) ∧ w'.cell? ⟨ad125.block, ad125.off + 2, none⟩ = some (.int .u8 (rd (l4.drop ((ji29) : Int).toNat) 2)) ∧ w'.cell? ⟨ad125.block, ad125.off + 3, none⟩ = some (.int .u8 (rd (l4.drop ((ji29) : Int).toNat) 3))) (ds := []) zq14.q0 (by kernel_rfl) rfl rfl ⟨((HB.out.cell (World.block_lt_of_cell? w _ hw125_0)).trans hw125_0), ((HB.out.cell (World.block_lt_of_cell? w _ hw126_0)).trans hw126_0), ((HB.out.cell (World.block_lt_of_cell? w _ hw127_0)).trans hw127_0), ((HB.out.cell (World.block_lt_of_cell? w _ hw128_0)).trans hw128_0)⟩ (fun hHeld => ?_); refine with_tabW buffer_Decode.tab17 buffer_Decode.bits17 (fun HT_ HW_ => ?_)
                          generalize wr.drew = w40 at HO_124002 BK120 BK123 HB hx125_0 hx126_0 hx127_0 hx128_0 hHeld ⊢
                          refine pv_ 0 73 zq14.q1 HT_ ?_
                          refine pv_ 1 74 zq14.q2 HT_ ?_
                          refine pv_ 3 76 zq14.q3 HT_ ?_
                          refine pv_ 4 77 zq14.q4 HT_ ?_
                          refine pv_ 6 79 zq14.q5 HT_ ?_
                          refine pv_ 7 80 zq14.q6 HT_ ?_
                          refine pv_ 9 82 zq14.q7 HT_ ?_
                          refine pv_ 10 83 zq14.q8 HT_ ?_
                          refine tk4_ 2 75 zq14.q9 HT_ HW_ hHeld ?_
                          refine tk4_ 5 78 zq14.q10 HT_ HW_ hHeld ?_
                          refine tk4_ 8 81 zq14.q11 HT_ HW_ hHeld ?_
                          refine tk4_ 11 84 zq14.q12 HT_ HW_ hHeld ?_
                          refine pv_ 12 85 zq14.q13 HT_ ?_
                          refine one_ (i := 13) (N := some 16) zq14.q14 rfl rfl (one_of HT_.out (by kernel_rfl)) (by decide) (fun K hK => ?_)
                          refine box_step ?hg (N := 16) ?hd (cs := #[.int .u8 0, .int .u8 0, .int .u8 0, .int .u8 0]) (t := 43) ?hr ?_; (case hd => rfl); (case hg => rfl); (case hr => first | (go_simp; done) | (go_simp; rfl))
                          intro gb129 hg w41 hbox hb
                          replace HO_124002 := Aside0.mk (Kd.R_below (Kd.R_elderB (by (with_reducible repeat (first | apply Kd.R_alloc | apply Kd.R_drewN | apply Kd.R_drew)); exact HO_124002.out) gb129 (Nat.le_of_eq hg.symm)) hb)
                          have BK129 := Aside0.mk (hbox)
                          have GW129 := Aside0.mk ((by rw [hg]; exact (below_size (hq_ HB)) : w.heap.size ≤ gb129))
                          have GE129 := Aside0.mk ((by rw [hg]; exact (below_size (hq_ HB)) : w.heap.size ≤ gb129))
                          replace HB := hb_ HB hb
                          have NB120_129 := Aside0.mk ((by rw [hg]; exact Nat.ne_of_lt (blk_lt (g := gb120) (o := .cells #[.int .i64 0, .int .i64 0, .slice none 0 0] 27 (0, 0)) (bq_ BK120)) : gb120 ≠ gb129))
                          have NB129_120 := Aside0.mk ((by rw [hg]; exact Nat.ne_of_gt (blk_lt (g := gb120) (o := .cells #[.int .i64 0, .int .i64 0, .slice none 0 0] 27 (0, 0)) (bq_ BK120)) : gb129 ≠ gb120))
                          replace BK120 := bb_ BK120 hb
                          have NB123_129 := Aside0.mk ((by rw [hg]; exact Nat.ne_of_lt (blk_lt (g := gb123) (o := .cells #[.int .i64 a1, .int .i64 a2, u124002] 27 (0, 0)) (bq_ BK123)) : gb123 ≠ gb129))
                          have NB129_123 := Aside0.mk ((by rw [hg]; exact Nat.ne_of_gt (blk_lt (g := gb123) (o := .cells #[.int .i64 a1, .int .i64 a2, u124002] 27 (0, 0)) (bq_ BK123)) : gb129 ≠ gb123))
                          replace BK123 := bb_ BK123 hb
                          clear hb hbox hg
                          refine hK.out _ _ ⟨((HB.out.cell (World.block_lt_of_cell? w _ hw125_0)).trans hw125_0), ((HB.out.cell (World.block_lt_of_cell? w _ hw126_0)).trans hw126_0), ((HB.out.cell (World.block_lt_of_cell? w _ hw127_0)).trans hw127_0), ((HB.out.cell (World.block_lt_of_cell? w _ hw128_0)).trans hw128_0)⟩ (fun hHeld => ?_)
                          clear hK K
                          refine norm_ (a' := ?_) ?_ ?_
                          rotate_left
                          ·
                           show Act.put _ (some 16) _ = _
                           simp only [Act.put, List.setIfInBounds_toArray, List.set_cons_zero, List.set_cons_succ, i64_w, i32_w]
                           rfl
                          refine one_ (i := 14) (N := none) zq14.q15 rfl rfl (one_of HT_.out (by kernel_rfl)) (by decide) (fun K hK => ?_)
                          have hs42 : w41.cell? ⟨gb129, 0, none⟩ = some (.int .u8 0) := (blk_cell BK129.out 0).trans rfl
                          have hfs42 := blk_frozen BK129.out 0
                          have hns42_0 := NB120_129.out
                          have hns42_1 := NB123_129.out
                          have hms42_0 := NB129_120.out
                          have hms42_1 := NB129_123.out
                          have hs43 : w41.cell? ⟨gb129, 1, none⟩ = some (.int .u8 0) := (blk_cell BK129.out 1).trans rfl
                          have hfs43 := blk_frozen BK129.out 1
                          have hns43_0 := NB120_129.out
                          have hns43_1 := NB123_129.out
                          have hms43_0 := NB129_120.out
                          have hms43_1 := NB129_123.out
                          have hs44 : w41.cell? ⟨gb129, 2, none⟩ = some (.int .u8 0) := (blk_cell BK129.out 2).trans rfl
                          have hfs44 := blk_frozen BK129.out 2
                          have hns44_0 := NB120_129.out
                          have hns44_1 := NB123_129.out
                          have hms44_0 := NB129_120.out
                          have hms44_1 := NB129_123.out
                          have hs45 : w41.cell? ⟨gb129, 3, none⟩ = some (.int .u8 0) := (blk_cell BK129.out 3).trans rfl
                          have hfs45 := blk_frozen BK129.out 3
                          have hns45_0 := NB120_129.out
                          have hns45_1 := NB123_129.out
                          have hms45_0 := NB129_120.out
                          have hms45_1 := NB129_123.out
                          refine skip_ (w1 := ?_) (by rfl) rfl ?_ ?_
                          rotate_left
                          ·
                           go_simp
                           rfl
                          refine hK.out _ _ ⟨((cell_far (p := ⟨gb129, _, none⟩) (by first | exact Nat.ne_of_lt (Nat.lt_of_lt_of_le (by have := World.block_lt_of_cell? _ _ hw125_0; first | rwa [add_block] at this | exact this) GW129.out) | (rw [add_block]; exact Nat.ne_of_lt (Nat.lt_of_lt_of_le (by have := World.block_lt_of_cell? _ _ hw125_0; first | rwa [add_block] at this | exact this) GW129.out)) | (show (Addr.add _ _).block ≠ _; rw [add_block]; exact Nat.ne_of_lt (Nat.lt_of_lt_of_le (by have := World.block_lt_of_cell? _ _ hw125_0; first | rwa [add_block] at this | exact this) GW129.out)) | (dsimp only; exact Nat.ne_of_lt (Nat.lt_of_lt_of_le (by have := World.block_lt_of_cell? _ _ hw125_0; first | rwa [add_block] at this | exact this) GW129.out))) _).trans (((cell_far (p := ⟨gb129, _, none⟩) (by first | exact Nat.ne_of_lt (Nat.lt_of_lt_of_le (by have := World.block_lt_of_cell? _ _ hw125_0; first | rwa [add_block] at this | exact this) GW129.out) | (rw [add_block]; exact Nat.ne_of_lt (Nat.lt_of_lt_of_le (by have := World.block_lt_of_cell? _ _ hw125_0; first | rwa [add_block] at this | exact this) GW129.out)) | (show (Addr.add _ _).block ≠ _; rw [add_block]; exact Nat.ne_of_lt (Nat.lt_of_lt_of_le (by have := World.block_lt_of_cell? _ _ hw125_0; first | rwa [add_block] at this | exact this) GW129.out)) | (dsimp only; exact Nat.ne_of_lt (Nat.lt_of_lt_of_le (by have := World.block_lt_of_cell? _ _ hw125_0; first | rwa [add_block] at this | exact this) GW129.out))) _).trans (((cell_far (p := ⟨gb129, _, none⟩) (by first | exact Nat.ne_of_lt (Nat.lt_of_lt_of_le (by have := World.block_lt_of_cell? _ _ hw125_0; first | rwa [add_block] at this | exact this) GW129.out) | (rw [add_block]; exact Nat.ne_of_lt (Nat.lt_of_lt_of_le (by have := World.block_lt_of_cell? _ _ hw125_0; first | rwa [add_block] at this | exact this) GW129.out)) | (show (Addr.add _ _).block ≠ _; rw [add_block]; exact Nat.ne_of_lt (Nat.lt_of_lt_of_le (by have := World.block_lt_of_cell? _ _ hw125_0; first | rwa [add_block] at this | exact this) GW129.out)) | (dsimp only; exact Nat.ne_of_lt (Nat.lt_of_lt_of_le (by have := World.block_lt_of_cell? _ _ hw125_0; first | rwa [add_block] at this | exact this) GW129.out))) _).trans (((cell_far (p := ⟨gb129, _, none⟩) (by first | exact Nat.ne_of_lt (Nat.lt_of_lt_of_le (by have := World.block_lt_of_cell? _ _ hw125_0; first | rwa [add_block] at this | exact this) GW129.out) | (rw [add_block]; exact Nat.ne_of_lt (Nat.lt_of_lt_of_le (by have := World.block_lt_of_cell? _ _ hw125_0; first | rwa [add_block] at this | exact this) GW129.out)) | (show (Addr.add _ _).block ≠ _; rw [add_block]; exact Nat.ne_of_lt (Nat.lt_of_lt_of_le (by have := World.block_lt_of_cell? _ _ hw125_0; first | rwa [add_block] at this | exact this) GW129.out)) | (dsimp only; exact Nat.ne_of_lt (Nat.lt_of_lt_of_le (by have := World.block_lt_of_cell? _ _ hw125_0; first | rwa [add_block] at this | exact this) GW129.out))) _).trans (hHeld.1)))))))), ((cell_far (p := ⟨gb129, _, none⟩) (by first | exact Nat.ne_of_lt (Nat.lt_of_lt_of_le (by have := World.block_lt_of_cell? _ _ hw126_0; first | rwa [add_block] at this | exact this) GW129.out) | (rw [add_block]; exact Nat.ne_of_lt (Nat.lt_of_lt_of_le (by have := World.block_lt_of_cell? _ _ hw126_0; first | rwa [add_block] at this | exact this) GW129.out)) | (show (Addr.add _ _).block ≠ _; rw [add_block]; exact Nat.ne_of_lt (Nat.lt_of_lt_of_le (by have := World.block_lt_of_cell? _ _ hw126_0; first | rwa [add_block] at this | exact this) GW129.out)) | (dsimp only; exact Nat.ne_of_lt (Nat.lt_of_lt_of_le (by have := World.block_lt_of_cell? _ _ hw126_0; first | rwa [add_block] at this | exact this) GW129.out))) _).trans (((cell_far (p := ⟨gb129, _, none⟩) (by first | exact Nat.ne_of_lt (Nat.lt_of_lt_of_le (by have := World.block_lt_of_cell? _ _ hw126_0; first | rwa [add_block] at this | exact this) GW129.out) | (rw [add_block]; exact Nat.ne_of_lt (Nat.lt_of_lt_of_le (by have := World.block_lt_of_cell? _ _ hw126_0; first | rwa [add_block] at this | exact this) GW129.out)) | (show (Addr.add _ _).block ≠ _; rw [add_block]; exact Nat.ne_of_lt (Nat.lt_of_lt_of_le (by have := World.block_lt_of_cell? _ _ hw126_0; first | rwa [add_block] at this | exact this) GW129.out)) | (dsimp only; exact Nat.ne_of_lt (Nat.lt_of_lt_of_le (by have := World.block_lt_of_cell? _ _ hw126_0; first | rwa [add_block] at this | exact this) GW129.out))) _).trans (((cell_far (p := ⟨gb129, _, none⟩) (by first | exact Nat.ne_of_lt (Nat.lt_of_lt_of_le (by have := World.block_lt_of_cell? _ _ hw126_0; first | rwa [add_block] at this | exact this) GW129.out) | (rw [add_block]; exact Nat.ne_of_lt (Nat.lt_of_lt_of_le (by have := World.block_lt_of_cell? _ _ hw126_0; first | rwa [add_block] at this | exact this) GW129.out)) | (show (Addr.add _ _).block ≠ _; rw [add_block]; exact Nat.ne_of_lt (Nat.lt_of_lt_of_le (by have := World.block_lt_of_cell? _ _ hw126_0; first | rwa [add_block] at this | exact this) GW129.out)) | (dsimp only; exact Nat.ne_of_lt (Nat.lt_of_lt_of_le (by have := World.block_lt_of_cell? _ _ hw126_0; first | rwa [add_block] at this | exact this) GW129.out))) _).trans (((cell_far (p := ⟨gb129, _, none⟩) (by first | exact Nat.ne_of_lt (Nat.lt_of_lt_of_le (by have := World.block_lt_of_cell? _ _ hw126_0; first | rwa [add_block] at this | exact this) GW129.out) | (rw [add_block]; exact Nat.ne_of_lt (Nat.lt_of_lt_of_le (by have := World.block_lt_of_cell? _ _ hw126_0; first | rwa [add_block] at this | exact this) GW129.out)) | (show (Addr.add _ _).block ≠ _; rw [add_block]; exact Nat.ne_of_lt (Nat.lt_of_lt_of_le (by have := World.block_lt_of_cell? _ _ hw126_0; first | rwa [add_block] at this | exact this) GW129.out)) | (dsimp only; exact Nat.ne_of_lt (Nat.lt_of_lt_of_le (by have := World.block_lt_of_cell? _ _ hw126_0; first | rwa [add_block] at this | exact this) GW129.out))) _).trans (hHeld.2.1)))))))), ((cell_far (p := ⟨gb129, _, none⟩) (by first | exact Nat.ne_of_lt (Nat.lt_of_lt_of_le (by have := World.block_lt_of_cell? _ _ hw127_0; first | rwa [add_block] at this | exact this) GW129.out) | (rw [add_block]; exact Nat.ne_of_lt (Nat.lt_of_lt_of_le (by have := World.block_lt_of_cell? _ _ hw127_0; first | rwa [add_block] at this | exact this) GW129.out)) | (show (Addr.add _ _).block ≠ _; rw [add_block]; exact Nat.ne_of_lt (Nat.lt_of_lt_of_le (by have := World.block_lt_of_cell? _ _ hw127_0; first | rwa [add_block] at this | exact this) GW129.out)) | (dsimp only; exact Nat.ne_of_lt (Nat.lt_of_lt_of_le (by have := World.block_lt_of_cell? _ _ hw127_0; first | rwa [add_block] at this | exact this) GW129.out))) _).trans (((cell_far (p := ⟨gb129, _, none⟩) (by first | exact Nat.ne_of_lt (Nat.lt_of_lt_of_le (by have := World.block_lt_of_cell? _ _ hw127_0; first | rwa [add_block] at this | exact this) GW129.out) | (rw [add_block]; exact Nat.ne_of_lt (Nat.lt_of_lt_of_le (by have := World.block_lt_of_cell? _ _ hw127_0; first | rwa [add_block] at this | exact this) GW129.out)) | (show (Addr.add _ _).block ≠ _; rw [add_block]; exact Nat.ne_of_lt (Nat.lt_of_lt_of_le (by have := World.block_lt_of_cell? _ _ hw127_0; first | rwa [add_block] at this | exact this) GW129.out)) | (dsimp only; exact Nat.ne_of_lt (Nat.lt_of_lt_of_le (by have := World.block_lt_of_cell? _ _ hw127_0; first | rwa [add_block] at this | exact this) GW129.out))) _).trans (((cell_far (p := ⟨gb129, _, none⟩) (by first | exact Nat.ne_of_lt (Nat.lt_of_lt_of_le (by have := World.block_lt_of_cell? _ _ hw127_0; first | rwa [add_block] at this | exact this) GW129.out) | (rw [add_block]; exact Nat.ne_of_lt (Nat.lt_of_lt_of_le (by have := World.block_lt_of_cell? _ _ hw127_0; first | rwa [add_block] at this | exact this) GW129.out)) | (show (Addr.add _ _).block ≠ _; rw [add_block]; exact Nat.ne_of_lt (Nat.lt_of_lt_of_le (by have := World.block_lt_of_cell? _ _ hw127_0; first | rwa [add_block] at this | exact this) GW129.out)) | (dsimp only; exact Nat.ne_of_lt (Nat.lt_of_lt_of_le (by have := World.block_lt_of_cell? _ _ hw127_0; first | rwa [add_block] at this | exact this) GW129.out))) _).trans (((cell_far (p := ⟨gb129, _, none⟩) (by first | exact Nat.ne_of_lt (Nat.lt_of_lt_of_le (by have := World.block_lt_of_cell? _ _ hw127_0; first | rwa [add_block] at this | exact this) GW129.out) | (rw [add_block]; exact Nat.ne_of_lt (Nat.lt_of_lt_of_le (by have := World.block_lt_of_cell? _ _ hw127_0; first | rwa [add_block] at this | exact this) GW129.out)) | (show (Addr.add _ _).block ≠ _; rw [add_block]; exact Nat.ne_of_lt (Nat.lt_of_lt_of_le (by have := World.block_lt_of_cell? _ _ hw127_0; first | rwa [add_block] at this | exact this) GW129.out)) | (dsimp only; exact Nat.ne_of_lt (Nat.lt_of_lt_of_le (by have := World.block_lt_of_cell? _ _ hw127_0; first | rwa [add_block] at this | exact this) GW129.out))) _).trans (hHeld.2.2.1)))))))), ((cell_far (p := ⟨gb129, _, none⟩) (by first | exact Nat.ne_of_lt (Nat.lt_of_lt_of_le (by have := World.block_lt_of_cell? _ _ hw128_0; first | rwa [add_block] at this | exact this) GW129.out) | (rw [add_block]; exact Nat.ne_of_lt (Nat.lt_of_lt_of_le (by have := World.block_lt_of_cell? _ _ hw128_0; first | rwa [add_block] at this | exact this) GW129.out)) | (show (Addr.add _ _).block ≠ _; rw [add_block]; exact Nat.ne_of_lt (Nat.lt_of_lt_of_le (by have := World.block_lt_of_cell? _ _ hw128_0; first | rwa [add_block] at this | exact this) GW129.out)) | (dsimp only; exact Nat.ne_of_lt (Nat.lt_of_lt_of_le (by have := World.block_lt_of_cell? _ _ hw128_0; first | rwa [add_block] at this | exact this) GW129.out))) _).trans (((cell_far (p := ⟨gb129, _, none⟩) (by first | exact Nat.ne_of_lt (Nat.lt_of_lt_of_le (by have := World.block_lt_of_cell? _ _ hw128_0; first | rwa [add_block] at this | exact this) GW129.out) | (rw [add_block]; exact Nat.ne_of_lt (Nat.lt_of_lt_of_le (by have := World.block_lt_of_cell? _ _ hw128_0; first | rwa [add_block] at this | exact this) GW129.out)) | (show (Addr.add _ _).block ≠ _; rw [add_block]; exact Nat.ne_of_lt (Nat.lt_of_lt_of_le (by have := World.block_lt_of_cell? _ _ hw128_0; first | rwa [add_block] at this | exact this) GW129.out)) | (dsimp only; exact Nat.ne_of_lt (Nat.lt_of_lt_of_le (by have := World.block_lt_of_cell? _ _ hw128_0; first | rwa [add_block] at this | exact this) GW129.out))) _).trans (((cell_far (p := ⟨gb129, _, none⟩) (by first | exact Nat.ne_of_lt (Nat.lt_of_lt_of_le (by have := World.block_lt_of_cell? _ _ hw128_0; first | rwa [add_block] at this | exact this) GW129.out) | (rw [add_block]; exact Nat.ne_of_lt (Nat.lt_of_lt_of_le (by have := World.block_lt_of_cell? _ _ hw128_0; first | rwa [add_block] at this | exact this) GW129.out)) | (show (Addr.add _ _).block ≠ _; rw [add_block]; exact Nat.ne_of_lt (Nat.lt_of_lt_of_le (by have := World.block_lt_of_cell? _ _ hw128_0; first | rwa [add_block] at this | exact this) GW129.out)) | (dsimp only; exact Nat.ne_of_lt (Nat.lt_of_lt_of_le (by have := World.block_lt_of_cell? _ _ hw128_0; first | rwa [add_block] at this | exact this) GW129.out))) _).trans (((cell_far (p := ⟨gb129, _, none⟩) (by first | exact Nat.ne_of_lt (Nat.lt_of_lt_of_le (by have := World.block_lt_of_cell? _ _ hw128_0; first | rwa [add_block] at this | exact this) GW129.out) | (rw [add_block]; exact Nat.ne_of_lt (Nat.lt_of_lt_of_le (by have := World.block_lt_of_cell? _ _ hw128_0; first | rwa [add_block] at this | exact this) GW129.out)) | (show (Addr.add _ _).block ≠ _; rw [add_block]; exact Nat.ne_of_lt (Nat.lt_of_lt_of_le (by have := World.block_lt_of_cell? _ _ hw128_0; first | rwa [add_block] at this | exact this) GW129.out)) | (dsimp only; exact Nat.ne_of_lt (Nat.lt_of_lt_of_le (by have := World.block_lt_of_cell? _ _ hw128_0; first | rwa [add_block] at this | exact this) GW129.out))) _).trans (hHeld.2.2.2))))))))⟩ (fun hHeld => ?_)
                          clear hK K
                          refine done_ (done_of HT_.out (by kernel_rfl)) ?_
                          have hnb46 := NB129_120.out
                          have hnc46 := NB120_129.out
                          have hnb47 := NB129_123.out
                          have hnc47 := NB123_129.out
                          have hcz48_0 : w41.cell? ⟨gb129, 0, none⟩ = some (.int .u8 0) := (blk_cell BK129.out 0).trans rfl
                          have hcz48_1 : w41.cell? ⟨gb129, 1, none⟩ = some (.int .u8 0) := (blk_cell BK129.out 1).trans rfl
                          have hcz48_2 : w41.cell? ⟨gb129, 2, none⟩ = some (.int .u8 0) := (blk_cell BK129.out 2).trans rfl
                          have hcz48_3 : w41.cell? ⟨gb129, 3, none⟩ = some (.int .u8 0) := (blk_cell BK129.out 3).trans rfl
                          have hfz48_0 := blk_frozen BK129.out 0
                          have hfz48_1 := blk_frozen BK129.out 1
                          have hfz48_2 := blk_frozen BK129.out 2
                          have hfz48_3 := blk_frozen BK129.out 3
                          try go_wp2
                          have n0_ : Aside0 (Kd.R k43 43 (((((w41.setCell ⟨gb129, 0, none⟩ (.int .u8 (rd (l4.drop ((ji29) : Int).toNat) 2))).setCell ⟨gb129, 1, none⟩ (.int .u8 (rd (l4.drop ((ji29) : Int).toNat) 1))).setCell ⟨gb129, 2, none⟩ (.int .u8 (rd (l4.drop ((ji29) : Int).toNat) 0))).setCell ⟨gb129, 3, none⟩ (.int .u8 (rd (l4.drop ((ji29) : Int).toNat) 3))).setCell ⟨gb129, 3, none⟩ (.int .u8 255)) w.heap.size (fun k_ => k_ ≠ gb129) u124002 x124002_5) := ⟨by (with_reducible repeat (first | apply Kd.R_alloc | apply Kd.R_drewN | apply Kd.R_drew)); exact Kd.R_mono (Kd.R_far (p := ⟨gb129, 3, none⟩) (Kd.R_far (p := ⟨gb129, 3, none⟩) (Kd.R_far (p := ⟨gb129, 2, none⟩) (Kd.R_far (p := ⟨gb129, 1, none⟩) (Kd.R_far (p := ⟨gb129, 0, none⟩) (Kd.R_mono HO_124002.out (fun k_ hk => (⟨hk, hk.2⟩ : _ ∧ k_ ≠ gb129))) (fun _ hk => hk.2) (.int .u8 (rd (l4.drop ((ji29) : Int).toNat) 2))) (fun _ hk => hk.2) (.int .u8 (rd (l4.drop ((ji29) : Int).toNat) 1))) (fun _ hk => hk.2) (.int .u8 (rd (l4.drop ((ji29) : Int).toNat) 0))) (fun _ hk => hk.2) (.int .u8 (rd (l4.drop ((ji29) : Int).toNat) 3))) (fun _ hk => hk.2) (.int .u8 255)) (fun _ hk => hk.1.2)⟩
                          have n1_ : Aside0 ((((((w41.setCell ⟨gb129, 0, none⟩ (.int .u8 (rd (l4.drop ((ji29) : Int).toNat) 2))).setCell ⟨gb129, 1, none⟩ (.int .u8 (rd (l4.drop ((ji29) : Int).toNat) 1))).setCell ⟨gb129, 2, none⟩ (.int .u8 (rd (l4.drop ((ji29) : Int).toNat) 0))).setCell ⟨gb129, 3, none⟩ (.int .u8 (rd (l4.drop ((ji29) : Int).toNat) 3))).setCell ⟨gb129, 3, none⟩ (.int .u8 255)).heap[gb120]? = some (.cells #[.int .i64 0, .int .i64 0, .slice none 0 0] 27 (0, 0))) := bf_ BK120
                          have n2_ : Aside0 ((((((w41.setCell ⟨gb129, 0, none⟩ (.int .u8 (rd (l4.drop ((ji29) : Int).toNat) 2))).setCell ⟨gb129, 1, none⟩ (.int .u8 (rd (l4.drop ((ji29) : Int).toNat) 1))).setCell ⟨gb129, 2, none⟩ (.int .u8 (rd (l4.drop ((ji29) : Int).toNat) 0))).setCell ⟨gb129, 3, none⟩ (.int .u8 (rd (l4.drop ((ji29) : Int).toNat) 3))).setCell ⟨gb129, 3, none⟩ (.int .u8 255)).heap[gb123]? = some (.cells #[.int .i64 a1, .int .i64 a2, u124002] 27 (0, 0))) := bf_ BK123
                          have n3_ : Aside0 ((((((w41.setCell ⟨gb129, 0, none⟩ (.int .u8 (rd (l4.drop ((ji29) : Int).toNat) 2))).setCell ⟨gb129, 1, none⟩ (.int .u8 (rd (l4.drop ((ji29) : Int).toNat) 1))).setCell ⟨gb129, 2, none⟩ (.int .u8 (rd (l4.drop ((ji29) : Int).toNat) 0))).setCell ⟨gb129, 3, none⟩ (.int .u8 (rd (l4.drop ((ji29) : Int).toNat) 3))).setCell ⟨gb129, 3, none⟩ (.int .u8 255)).heap[gb129]? = some (.cells #[.int .u8 (rd (l4.drop ((ji29) : Int).toNat) 2), .int .u8 (rd (l4.drop ((ji29) : Int).toNat) 1), .int .u8 (rd (l4.drop ((ji29) : Int).toNat) 0), .int .u8 255] 43 (0, 0))) := ⟨by (with_reducible repeat (first | refine blk_drewN ?_ _ | refine blk_drew ?_ | refine blk_alloc ?_ _)); refine blk_put (cs := #[.int .u8 (rd (l4.drop ((ji29) : Int).toNat) 2), .int .u8 (rd (l4.drop ((ji29) : Int).toNat) 1), .int .u8 (rd (l4.drop ((ji29) : Int).toNat) 0), .int .u8 (rd (l4.drop ((ji29) : Int).toNat) 3)]) ?_ 3 _ rfl; (with_reducible repeat (first | refine blk_drewN ?_ _ | refine blk_drew ?_ | refine blk_alloc ?_ _)); refine blk_put (cs := #[.int .u8 (rd (l4.drop ((ji29) : Int).toNat) 2), .int .u8 (rd (l4.drop ((ji29) : Int).toNat) 1), .int .u8 (rd (l4.drop ((ji29) : Int).toNat) 0), .int .u8 0]) ?_ 3 _ rfl; (with_reducible repeat (first | refine blk_drewN ?_ _ | refine blk_drew ?_ | refine blk_alloc ?_ _)); refine blk_put (cs := #[.int .u8 (rd (l4.drop ((ji29) : Int).toNat) 2), .int .u8 (rd (l4.drop ((ji29) : Int).toNat) 1), .int .u8 0, .int .u8 0]) ?_ 2 _ rfl; (with_reducible repeat (first | refine blk_drewN ?_ _ | refine blk_drew ?_ | refine blk_alloc ?_ _)); refine blk_put (cs := #[.int .u8 (rd (l4.drop ((ji29) : Int).toNat) 2), .int .u8 0, .int .u8 0, .int .u8 0]) ?_ 1 _ rfl; (with_reducible repeat (first | refine blk_drewN ?_ _ | refine blk_drew ?_ | refine blk_alloc ?_ _)); refine blk_put (cs := #[.int .u8 0, .int .u8 0, .int .u8 0, .int .u8 0]) ?_ 0 _ rfl; (with_reducible repeat (first | refine blk_drewN ?_ _ | refine blk_drew ?_ | refine blk_alloc ?_ _)); exact BK129.out⟩
                          have n4_ : Aside0 (Below w.heap.size w (((((w41.setCell ⟨gb129, 0, none⟩ (.int .u8 (rd (l4.drop ((ji29) : Int).toNat) 2))).setCell ⟨gb129, 1, none⟩ (.int .u8 (rd (l4.drop ((ji29) : Int).toNat) 1))).setCell ⟨gb129, 2, none⟩ (.int .u8 (rd (l4.drop ((ji29) : Int).toNat) 0))).setCell ⟨gb129, 3, none⟩ (.int .u8 (rd (l4.drop ((ji29) : Int).toNat) 3))).setCell ⟨gb129, 3, none⟩ (.int .u8 255))) := ⟨by repeat (first | (with_reducible first | exact HB.out | apply below_alloc | apply pw_below_drewN | apply below_drew1 | refine below_set ?_ GE120.out | refine below_set ?_ GE123.out | refine below_set ?_ GE129.out) | exact HB.out)⟩
                          (try clear HO_124002)
                          (try clear BK120)
                          (try clear BK123)
                          (try clear BK129)
                          (try clear HB)
                          generalize (((((w41.setCell ⟨gb129, 0, none⟩ (.int .u8 (rd (l4.drop ((ji29) : Int).toNat) 2))).setCell ⟨gb129, 1, none⟩ (.int .u8 (rd (l4.drop ((ji29) : Int).toNat) 1))).setCell ⟨gb129, 2, none⟩ (.int .u8 (rd (l4.drop ((ji29) : Int).toNat) 0))).setCell ⟨gb129, 3, none⟩ (.int .u8 (rd (l4.drop ((ji29) : Int).toNat) 3))).setCell ⟨gb129, 3, none⟩ (.int .u8 255)) = w49 at n0_ n1_ n2_ n3_ n4_ ⊢
                          have HO_124002 := n0_
                          have BK120 := n1_
                          have BK123 := n2_
                          have BK129 := n3_
                          have HB := n4_
                          clear n0_ n1_ n2_ n3_ n4_
                          replace HO_124002 := Aside0.mk (Kd.R_drew HO_124002.out)
                          replace BK120 := Aside0.mk (blk_drew BK120.out)
                          replace BK123 := Aside0.mk (blk_drew BK123.out)
                          replace BK129 := Aside0.mk (blk_drew BK129.out)
                          replace HB := Aside0.mk (below_drew1 HB.out)
                          refine start_ (n := 8) (S := fun w' => w'.cell? ⟨gb123, 0, none⟩ = some (.int .i64 a1) ∧ w'.cell? ⟨gb123, 1, none⟩ = some (.int .i64 a2) ∧ w'.cell? ⟨gb123, 2, none⟩ = some (u124002) ∧ w'.cell? ⟨gb129, 0, none⟩ = some (.int .u8 (rd (l4.drop ((ji29) : Int).toNat) 2)) ∧ w'.cell? ⟨gb129, 1, none⟩ = some (.int .u8 (rd (l4.drop ((ji29) : Int).toNat) 1)) ∧ w'.cell? ⟨gb129, 2, none⟩ = some (.int .u8 (rd (l4.drop ((ji29) : Int).toNat) 0)) ∧ w'.cell? ⟨gb129, 3, none⟩ = some (.int .u8 255)) (ds := [7]) zq14.q16 (by kernel_rfl) rfl rfl ⟨c_ BK123 0, ⟨c_ BK123 1, ⟨c_ BK123 2, (h4_ BK129)⟩⟩⟩ (fun hHeld => ?_); refine with_tabW buffer_Decode.tab20 buffer_Decode.bits20 (fun HT_ HW_ => ?_)
                          generalize w49.drew = w50 at HO_124002 BK120 BK123 BK129 HB hHeld ⊢
                          refine pv_ 0 89 zq14.q17 HT_ ?_
                          refine take_ (i := 1) (N := some 90) (v := ?_) (a' := ?_) zq14.q18 rfl rfl (take_ofW HT_.out HW_.out (by kernel_rfl)) (fun _ _ _ h => h) (Or.inl ⟨by rfl, ?_⟩) hHeld ?_ ?_
                          rotate_left
                          ·
                           rintro w' ⟨s0, s1, s2, s3, s4, s5, s6⟩
                           go_simp
                           with_reducible rfl
                          rotate_left
                          ·
                           simp only [Act.put, List.setIfInBounds_toArray, List.set_cons_zero, List.set_cons_succ, i64_w, i32_w]
                           rfl
                          refine take_ (i := 2) (N := some 91) (v := ?_) (a' := ?_) zq14.q19 rfl rfl (take_ofW HT_.out HW_.out (by kernel_rfl)) (fun _ _ _ h => h) (Or.inl ⟨by rfl, ?_⟩) hHeld ?_ ?_
                          rotate_left
                          ·
                           rintro w' ⟨s0, s1, s2, s3, s4, s5, s6⟩
                           go_simp
                           with_reducible rfl
                          rotate_left
                          ·
                           simp only [Act.put, List.setIfInBounds_toArray, List.set_cons_zero, List.set_cons_succ, i64_w, i32_w]
                           rfl
                          refine one_ (i := 3) (N := some 92) zq14.q20 rfl rfl (one_of HT_.out (by kernel_rfl)) (by decide) (fun K hK => ?_)
                          refine goes_ Try.func40 (by kernel_rfl) rfl #[.agg #[.int .u8 (rd (l4.drop ((ji29) : Int).toNat) 2), .int .u8 (rd (l4.drop ((ji29) : Int).toNat) 1), .int .u8 (rd (l4.drop ((ji29) : Int).toNat) 0), .int .u8 255]] (by rfl) rfl rfl (by (try simp only [List.map_toArray, List.map_cons, List.map_nil]); first | done | (simp only [hji29]; rfl) | rfl | (simp only [List.length_drop, List.length_take]; rfl)) ?_
                          with_reducible refine (pixel_Clamp.calls (rd (l4.drop ((ji29) : Int).toNat) 2) (rd (l4.drop ((ji29) : Int).toNat) 1) (rd (l4.drop ((ji29) : Int).toNat) 0) 255 t130 t131 t132 t133 _ A37.out).mono ?_
                          rintro e w51 ⟨rfl, hb⟩
                          refine ⟨_, rfl, ?_⟩
                          replace HO_124002 := Aside0.mk (Kd.R_below (by (with_reducible repeat (first | apply Kd.R_alloc | apply Kd.R_drewN | apply Kd.R_drew)); exact HO_124002.out) hb)
                          replace BK120 := bb_ BK120 hb
                          replace BK123 := bb_ BK123 hb
                          replace BK129 := Aside0.mk (blk_below (g := gb129) (o := .cells #[.int .u8 (rd (l4.drop ((ji29) : Int).toNat) 2), .int .u8 (rd (l4.drop ((ji29) : Int).toNat) 1), .int .u8 (rd (l4.drop ((ji29) : Int).toNat) 0), .int .u8 255] 43 (0, 0)) (bq_ BK129) hb)
                          replace HB := hb_ HB hb
                          (try clear hb); (try clear hb2); (try clear hk); (try clear hi)
                          refine hK.out _ _ ⟨c_ BK123 0, ⟨c_ BK123 1, ⟨c_ BK123 2, (h4_ BK129)⟩⟩⟩ (fun hHeld => ?_)
                          clear hK K
                          refine norm_ (a' := ?_) ?_ ?_
                          rotate_left
                          ·
                           show Act.put _ (some 92) _ = _
                           simp only [Act.put, List.setIfInBounds_toArray, List.set_cons_zero, List.set_cons_succ, i64_w, i32_w]
                           rfl
                          refine one_ (i := 4) (N := some 93) zq14.q21 rfl rfl (one_of HT_.out (by kernel_rfl)) (by decide) (fun K hK => ?_)
                          refine value_ (w1 := ?_) (v := ?_) (by rfl) rfl ?_ ?_
                          rotate_left 2
                          ·
                           go_simp
                           constructor
                           ·
                            rfl
                           ·
                            rfl
                          refine hK.out _ _ ⟨(blk_cell (blk_alloc BK123.out _) 0).trans rfl, (blk_cell (blk_alloc BK123.out _) 1).trans rfl, (blk_cell (blk_alloc BK123.out _) 2).trans rfl, (blk_cell (blk_alloc BK129.out _) 0).trans rfl, (blk_cell (blk_alloc BK129.out _) 1).trans rfl, (blk_cell (blk_alloc BK129.out _) 2).trans rfl, (blk_cell (blk_alloc BK129.out _) 3).trans rfl⟩ (fun hHeld => ?_)
                          clear hK K
                          refine norm_ (a' := ?_) ?_ ?_
                          rotate_left
                          ·
                           show Act.put _ (some 93) _ = _
                           simp only [Act.put, List.setIfInBounds_toArray, List.set_cons_zero, List.set_cons_succ, i64_w, i32_w]
                           rfl
                          refine one_ (i := 5) (N := some 94) zq14.q22 rfl rfl (one_of HT_.out (by kernel_rfl)) (by decide) (fun K hK => ?_)
                          refine Kd.R_append_step k43 (w0 := w) w.heap.size (by rfl) (.tmp 90) (.tmp 93) 25 43 (.agg #[(.int .u8 0), (.int .u8 0), (.int .u8 0), (.int .u8 0)]) 4 rfl Try.underlying25 info43 rfl (by decide) (by omega) u124002 x124002_5 (⟨t130, t131, t132, t133⟩ : S43) [.int .u8 t130, .int .u8 t131, .int .u8 t132, .int .u8 t133] (fun k_ => k_ ≠ gb129) (fun _ => False) rfl rfl ?aP (fun _ hk => hk.elim) ?aF ?aO ?aB ?aS ?aL ?_
                          (case aP => exact k43_mkM _ _ _ (⟨t130, t131, t132, t133⟩ : S43))
                          (case aB => exact (hq_ HB))
                          (case aF => exact (fun k_ hk => Kd.freshB (g := gb129) (o := .cells #[.int .u8 (rd (l4.drop ((ji29) : Int).toNat) 2), .int .u8 (rd (l4.drop ((ji29) : Int).toNat) 1), .int .u8 (rd (l4.drop ((ji29) : Int).toNat) 0), .int .u8 255] 43 (0, 0)) (bq_ BK129) k_ hk))
                          (case aO => exact (by (with_reducible repeat (first | apply Kd.R_alloc | apply Kd.R_drewN | apply Kd.R_drew)); exact HO_124002.out))
                          (case aS => exact (below_size (hq_ HB)))
                          (case aL => have := LMc38.out; omega)
                          intro v135 w52 ho hb hg hat
                          rw [← Ny134.out] at ho
                          replace BK120 := Aside0.mk (blk_grown (g := gb120) (o := .cells #[.int .i64 0, .int .i64 0, .slice none 0 0] 27 (0, 0)) (bq_ BK120) hg (Kd.R_ne HO_124002.out BK120.out (by decide)))
                          replace BK123 := Aside0.mk (blk_grown (g := gb123) (o := .cells #[.int .i64 a1, .int .i64 a2, u124002] 27 (0, 0)) (bq_ BK123) hg (Kd.R_ne HO_124002.out BK123.out (by decide)))
                          replace BK129 := Aside0.mk (blk_grown (g := gb129) (o := .cells #[.int .u8 (rd (l4.drop ((ji29) : Int).toNat) 2), .int .u8 (rd (l4.drop ((ji29) : Int).toNat) 1), .int .u8 (rd (l4.drop ((ji29) : Int).toNat) 0), .int .u8 255] 43 (0, 0)) (bq_ BK129) hg (Kd.R_away HO_124002.out (fun _ hk => hk)))
                          replace HB := Aside0.mk (hb)
                          have HO136 := Aside0.mk (ho)
                          clear HO_124002
                          clear ho hb hg hat
                          obtain ⟨Ao53, co53, eo53⟩ := Kd.R_slice HO136.out
                          (first | subst eo53 | (injection eo53 with f1_ f2_ f3_; have f4_ := f1_.symm; have f5_ := f3_.symm; clear f1_ f2_ f3_; subst f4_; subst f5_))
                          refine hK.out _ _ ⟨c_ BK123 0, ⟨c_ BK123 1, ⟨c_ BK123 2, (h4_ BK129)⟩⟩⟩ (fun hHeld => ?_)
                          clear hK K
                          refine norm_ (a' := ?_) ?_ ?_
                          rotate_left
                          ·
                           show Act.put _ (some 94) _ = _
                           simp only [Act.put, List.setIfInBounds_toArray, List.set_cons_zero, List.set_cons_succ, i64_w, i32_w]
                           rfl
                          refine pv_ 6 95 zq14.q23 HT_ ?_
                          refine last_ (i := 7) (N := none) zq14.q24 rfl rfl (one_of HT_.out (by kernel_rfl)) (by decide) (fun K hK => ?_)
                          have hs54 : w52.cell? ⟨gb123, 2, none⟩ = some (u124002) := (blk_cell BK123.out 2).trans rfl
                          have hfs54 := blk_frozen BK123.out 2
                          have hns54_0 := NB120_123.out
                          have hns54_2 := NB129_123.out
                          have hms54_0 := NB123_120.out
                          have hms54_2 := NB123_129.out
                          refine skip_ (w1 := ?_) (by rfl) rfl ?_ ?_
                          rotate_left
                          ·
                           go_simp
                           rfl
                          refine hK.out _ _ ?_
                          clear hK K
                          refine done_ (done_of HT_.out (by kernel_rfl)) ?_
                          try go_wp2
                          go_roundg k5
                          case measure => have := HJ5.out; have := HJ10.out; have := HJ16.out; have := HK4.out; have := HK5.out; omega
                          case rel => exact ⟨(wrap64 (x62_5 + 1)), (y134), (.slice Ao53 y134.length co53), (by first | rfl | (simp; done) | (simp [*]; done)), H', ⟨by have := HJ5.out; have := HJ10.out; have := HJ16.out; have := HK4.out; have := HK5.out; omega⟩, ⟨by (with_reducible repeat (first | apply Kd.R_alloc | apply Kd.R_drewN | apply Kd.R_drew)); exact Kd.R_mono (Kd.R_far (p := ⟨gb123, 2, none⟩) (Kd.R_types HO136.out BK123.out (by decide)) (fun _ hk => hk.2) (.slice Ao53 y134.length co53)) (fun _ hk => trivial)⟩, bf_ BK120, ⟨by (with_reducible repeat (first | refine blk_drewN ?_ _ | refine blk_drew ?_ | refine blk_alloc ?_ _)); refine blk_put (cs := #[.int .i64 a1, .int .i64 a2, u124002]) ?_ 2 _ rfl; (with_reducible repeat (first | refine blk_drewN ?_ _ | refine blk_drew ?_ | refine blk_alloc ?_ _)); exact BK123.out⟩, ⟨by repeat (first | (with_reducible first | exact HB.out | apply below_alloc | apply pw_below_drewN | apply below_drew1 | refine below_set ?_ GE120.out | refine below_set ?_ GE123.out | refine below_set ?_ GE129.out) | exact HB.out)⟩⟩
                         ·
                          rw [if_neg c38] at H
                          exact absurd H (by simp)
                        ·
                         rw [if_neg c36] at H
                         have c36b0 : (a0 == 2) = false := beq_eq_false_iff_ne.mpr c36
                         have c36b1 : (a0 != 2) = true := bne_iff_ne.mpr c36
                         replace H := Option.bind_eq_some_iff.mp H
                         obtain ⟨⟨t137, t138, t139, t140⟩, A550, H⟩ := H
                         try dsimp only at H
                         have A55 := Aside0.mk A550
                         clear A550
                         by_cases c56 : x124002_5.length < 35184372088832
                         ·
                          rw [if_pos c56] at H
                          have LMc56 := Aside0.mk c56
                          clear c56
                          obtain ⟨y141, hy141⟩ : ∃ y_ : List (S43), y_ = (x124002_5 ++ [(⟨t137, t138, t139, t140⟩ : S43)]) := ⟨_, rfl⟩
                          replace H : (buffer_Decode.l1 k5 a0 a1 a3 l4 x58_4 a2 x58_4 a1 (wrap64 (x62_5 + 1)) a1 a2 y141) = some (r1, r2, r3, r4) := by first | (rw [hy141]; with_reducible exact H) | (have H2_ := (Option.bind_some _ _).symm.trans H; rw [hy141]; with_reducible exact H2_) | (have H2_ := (Option.bind_some _ _).symm.trans H; with_reducible exact H2_) | with_reducible exact H | (rw [hy141]; exact H) | exact H
                          have Ny141 := Aside0.mk hy141
                          clear hy141
                          have H' := Aside0.mk H
                          clear H
                          obtain ⟨i057, hi057, _, hsz57, _⟩ := info_parts info5
                          obtain ⟨A57, hcut57, hA57, hC57⟩ := print_drop_of (P := Try.prog) (Value.int .u8) 0 23 5 .i64 Try.underlying23 hi057 hsz57 A4 c4 l4 (ji29) (of_decide_eq_true (by first | (with_reducible assumption) | assumption)) (of_decide_eq_true (by first | (with_reducible assumption) | assumption)) HC4.out
                          have HR124 := Aside0.mk (Kd.C_of_reads (h1 := fun _ => rfl) (hA57 _ (Kd.reads_of_C HR4.out)))
                          have HC124 := Aside0.mk hC57
                          clear hA57 hC57 hi057 hsz57
                          try go_wp2
                          replace HO_124002 := Aside0.mk (Kd.R_drew HO_124002.out)
                          replace BK120 := Aside0.mk (blk_drew BK120.out)
                          replace BK123 := Aside0.mk (blk_drew BK123.out)
                          replace HB := Aside0.mk (below_drew1 HB.out)
                          have p125 : 0 ≤ (0 : Int) := (by omega)
                          have q125 : 0 < ((l4.drop ((ji29) : Int).toNat).length : Int) := of_decide_eq_true (by first | (with_reducible assumption) | assumption)
                          obtain ⟨ad125, e125, hx125_0⟩ := Kd.at_int HR124.out 0 p125 q125
                          have hw125_0 := hx125_0
                          (try rw [show ((0 : Int)).toNat = 0 from rfl] at hw125_0)
                          (try rw [show 0 * 1 = 0 from rfl] at hw125_0)
                          (try rw [Addr.add_zero'] at hw125_0)
                          cases e125
                          have qi125 : (0 < (l4.drop ((ji29) : Int).toNat).length) = True := eq_true (by omega)
                          have qid_qi125 := qi125
                          (try simp only [List.length_drop] at qid_qi125)
                          have qie_qi125 : ((0 : Int) < ((l4.length - ((ji29) : Int).toNat : Nat) : Int)) = True := eq_true (by have h_ := of_eq_true qid_qi125; omega)
                          (try rw [show ((0 : Int)).toNat = 0 from rfl] at hx125_0)
                          (try rw [Addr.add_zero'] at hx125_0)
                          replace hx125_0 := (HB.out.cell (World.block_lt_of_cell? w _ hx125_0)).trans hx125_0
                          replace p125 := eq_true p125
                          replace q125 := eq_true q125
                          have p126 : 0 ≤ (1 : Int) := (by omega)
                          have q126 : 1 < ((l4.drop ((ji29) : Int).toNat).length : Int) := of_decide_eq_true (by first | (with_reducible assumption) | assumption)
                          obtain ⟨ad126, e126, hx126_0⟩ := Kd.at_int HR124.out 1 p126 q126
                          have hw126_0 := hx126_0
                          (try rw [show ((1 : Int)).toNat = 1 from rfl] at hw126_0)
                          (try rw [show 1 * 1 = 1 from rfl] at hw126_0)
                          (try simp only [Nat.reduceMul, Nat.reduceEqDiff, Go.Addr.add, ↓reduceIte] at hw126_0)
                          obtain rfl : ad125 = ad126 := (by injection e126)
                          (try simp only [show (1 : Int).toNat = 1 from rfl, Nat.reduceMul, Nat.reduceEqDiff, Go.Addr.add, ↓reduceIte] at hx126_0)
                          have qi126 : (1 < (l4.drop ((ji29) : Int).toNat).length) = True := eq_true (by omega)
                          have qid_qi126 := qi126
                          (try simp only [List.length_drop] at qid_qi126)
                          have qie_qi126 : ((1 : Int) < ((l4.length - ((ji29) : Int).toNat : Nat) : Int)) = True := eq_true (by have h_ := of_eq_true qid_qi126; omega)
                          (try rw [show ((1 : Int)).toNat = 1 from rfl] at hx126_0)
                          replace hx126_0 := (HB.out.cell (World.block_lt_of_cell? w _ hx126_0)).trans hx126_0
                          replace p126 := eq_true p126
                          replace q126 := eq_true q126
                          have p127 : 0 ≤ (2 : Int) := (by omega)
                          have q127 : 2 < ((l4.drop ((ji29) : Int).toNat).length : Int) := of_decide_eq_true (by first | (with_reducible assumption) | assumption)
                          obtain ⟨ad127, e127, hx127_0⟩ := Kd.at_int HR124.out 2 p127 q127
                          have hw127_0 := hx127_0
                          (try rw [show ((2 : Int)).toNat = 2 from rfl] at hw127_0)
                          (try rw [show 2 * 1 = 2 from rfl] at hw127_0)
                          (try simp only [Nat.reduceMul, Nat.reduceEqDiff, Go.Addr.add, ↓reduceIte] at hw127_0)
                          obtain rfl : ad125 = ad127 := (by injection e127)
                          (try simp only [show (2 : Int).toNat = 2 from rfl, Nat.reduceMul, Nat.reduceEqDiff, Go.Addr.add, ↓reduceIte] at hx127_0)
                          have qi127 : (2 < (l4.drop ((ji29) : Int).toNat).length) = True := eq_true (by omega)
                          have qid_qi127 := qi127
                          (try simp only [List.length_drop] at qid_qi127)
                          have qie_qi127 : ((2 : Int) < ((l4.length - ((ji29) : Int).toNat : Nat) : Int)) = True := eq_true (by have h_ := of_eq_true qid_qi127; omega)
                          (try rw [show ((2 : Int)).toNat = 2 from rfl] at hx127_0)
                          replace hx127_0 := (HB.out.cell (World.block_lt_of_cell? w _ hx127_0)).trans hx127_0
                          replace p127 := eq_true p127
                          replace q127 := eq_true q127
                          have p128 : 0 ≤ (3 : Int) := (by omega)
                          have q128 : 3 < ((l4.drop ((ji29) : Int).toNat).length : Int) := of_decide_eq_true (by first | (with_reducible assumption) | assumption)
                          obtain ⟨ad128, e128, hx128_0⟩ := Kd.at_int HR124.out 3 p128 q128
                          have hw128_0 := hx128_0
                          (try rw [show ((3 : Int)).toNat = 3 from rfl] at hw128_0)
                          (try rw [show 3 * 1 = 3 from rfl] at hw128_0)
                          (try simp only [Nat.reduceMul, Nat.reduceEqDiff, Go.Addr.add, ↓reduceIte] at hw128_0)
                          obtain rfl : ad125 = ad128 := (by injection e128)
                          (try simp only [show (3 : Int).toNat = 3 from rfl, Nat.reduceMul, Nat.reduceEqDiff, Go.Addr.add, ↓reduceIte] at hx128_0)
                          have qi128 : (3 < (l4.drop ((ji29) : Int).toNat).length) = True := eq_true (by omega)
                          have qid_qi128 := qi128
                          (try simp only [List.length_drop] at qid_qi128)
                          have qie_qi128 : ((3 : Int) < ((l4.length - ((ji29) : Int).toNat : Nat) : Int)) = True := eq_true (by have h_ := of_eq_true qid_qi128; omega)
                          (try rw [show ((3 : Int)).toNat = 3 from rfl] at hx128_0)
                          replace hx128_0 := (HB.out.cell (World.block_lt_of_cell? w _ hx128_0)).trans hx128_0
                          replace p128 := eq_true p128
                          replace q128 := eq_true q128
                          refine start_ (n := 15) (S := fun w' => w'.cell? ad125 = some (.int .u8 (rd (l4.drop ((ji29) : Int).toNat) 0)) ∧ w'.cell? ⟨ad125.block, ad125.off + 1, none⟩ = some (.int .u8 (rd (l4.drop ((ji29) : Int).toNat) 1)) ∧ w'.cell? ⟨ad125.block, ad125.off + 2, none⟩ = some (.int .u8 (rd (l4.drop ((ji29) : Int).toNat) 2)) ∧ w'.cell? ⟨ad125.block, ad125.off + 3, none⟩ = some (.int .u8 (rd (l4.drop ((ji29) : Int).toNat) 3))) (ds := []) zq14.q0 (by kernel_rfl) rfl rfl ⟨((HB.out.cell (World.block_lt_of_cell? w _ hw125_0)).trans hw125_0), ((HB.out.cell (World.block_lt_of_cell? w _ hw126_0)).trans hw126_0), ((HB.out.cell (World.block_lt_of_cell? w _ hw127_0)).trans hw127_0), ((HB.out.cell (World.block_lt_of_cell? w _ hw128_0)).trans hw128_0)⟩ (fun hHeld => ?_); refine with_tabW buffer_Decode.tab17 buffer_Decode.bits17 (fun HT_ HW_ => ?_)
                          generalize wr.drew = w58 at HO_124002 BK120 BK123 HB hx125_0 hx126_0 hx127_0 hx128_0 hHeld ⊢
                          refine pv_ 0 73 zq14.q1 HT_ ?_
                          refine pv_ 1 74 zq14.q2 HT_ ?_
                          refine pv_ 3 76 zq14.q3 HT_ ?_
                          refine pv_ 4 77 zq14.q4 HT_ ?_
                          refine pv_ 6 79 zq14.q5 HT_ ?_
                          refine pv_ 7 80 zq14.q6 HT_ ?_
                          refine pv_ 9 82 zq14.q7 HT_ ?_
                          refine pv_ 10 83 zq14.q8 HT_ ?_
                          refine tk4_ 2 75 zq14.q9 HT_ HW_ hHeld ?_
                          refine tk4_ 5 78 zq14.q10 HT_ HW_ hHeld ?_
                          refine tk4_ 8 81 zq14.q11 HT_ HW_ hHeld ?_
                          refine tk4_ 11 84 zq14.q12 HT_ HW_ hHeld ?_
                          refine pv_ 12 85 zq14.q13 HT_ ?_
                          refine one_ (i := 13) (N := some 16) zq14.q14 rfl rfl (one_of HT_.out (by kernel_rfl)) (by decide) (fun K hK => ?_)
                          refine box_step ?hg (N := 16) ?hd (cs := #[.int .u8 0, .int .u8 0, .int .u8 0, .int .u8 0]) (t := 43) ?hr ?_; (case hd => rfl); (case hg => rfl); (case hr => first | (go_simp; done) | (go_simp; rfl))
                          intro gb129 hg w59 hbox hb
                          replace HO_124002 := Aside0.mk (Kd.R_below (Kd.R_elderB (by (with_reducible repeat (first | apply Kd.R_alloc | apply Kd.R_drewN | apply Kd.R_drew)); exact HO_124002.out) gb129 (Nat.le_of_eq hg.symm)) hb)
                          have BK129 := Aside0.mk (hbox)
                          have GW129 := Aside0.mk ((by rw [hg]; exact (below_size (hq_ HB)) : w.heap.size ≤ gb129))
                          have GE129 := Aside0.mk ((by rw [hg]; exact (below_size (hq_ HB)) : w.heap.size ≤ gb129))
                          replace HB := hb_ HB hb
                          have NB120_129 := Aside0.mk ((by rw [hg]; exact Nat.ne_of_lt (blk_lt (g := gb120) (o := .cells #[.int .i64 0, .int .i64 0, .slice none 0 0] 27 (0, 0)) (bq_ BK120)) : gb120 ≠ gb129))
                          have NB129_120 := Aside0.mk ((by rw [hg]; exact Nat.ne_of_gt (blk_lt (g := gb120) (o := .cells #[.int .i64 0, .int .i64 0, .slice none 0 0] 27 (0, 0)) (bq_ BK120)) : gb129 ≠ gb120))
                          replace BK120 := bb_ BK120 hb
                          have NB123_129 := Aside0.mk ((by rw [hg]; exact Nat.ne_of_lt (blk_lt (g := gb123) (o := .cells #[.int .i64 a1, .int .i64 a2, u124002] 27 (0, 0)) (bq_ BK123)) : gb123 ≠ gb129))
                          have NB129_123 := Aside0.mk ((by rw [hg]; exact Nat.ne_of_gt (blk_lt (g := gb123) (o := .cells #[.int .i64 a1, .int .i64 a2, u124002] 27 (0, 0)) (bq_ BK123)) : gb129 ≠ gb123))
                          replace BK123 := bb_ BK123 hb
                          clear hb hbox hg
                          refine hK.out _ _ ⟨((HB.out.cell (World.block_lt_of_cell? w _ hw125_0)).trans hw125_0), ((HB.out.cell (World.block_lt_of_cell? w _ hw126_0)).trans hw126_0), ((HB.out.cell (World.block_lt_of_cell? w _ hw127_0)).trans hw127_0), ((HB.out.cell (World.block_lt_of_cell? w _ hw128_0)).trans hw128_0)⟩ (fun hHeld => ?_)
                          clear hK K
                          refine norm_ (a' := ?_) ?_ ?_
                          rotate_left
                          ·
                           show Act.put _ (some 16) _ = _
                           simp only [Act.put, List.setIfInBounds_toArray, List.set_cons_zero, List.set_cons_succ, i64_w, i32_w]
                           rfl
                          refine one_ (i := 14) (N := none) zq14.q15 rfl rfl (one_of HT_.out (by kernel_rfl)) (by decide) (fun K hK => ?_)
                          have hs60 : w59.cell? ⟨gb129, 0, none⟩ = some (.int .u8 0) := (blk_cell BK129.out 0).trans rfl
                          have hfs60 := blk_frozen BK129.out 0
                          have hns60_0 := NB120_129.out
                          have hns60_1 := NB123_129.out
                          have hms60_0 := NB129_120.out
                          have hms60_1 := NB129_123.out
                          have hs61 : w59.cell? ⟨gb129, 1, none⟩ = some (.int .u8 0) := (blk_cell BK129.out 1).trans rfl
                          have hfs61 := blk_frozen BK129.out 1
                          have hns61_0 := NB120_129.out
                          have hns61_1 := NB123_129.out
                          have hms61_0 := NB129_120.out
                          have hms61_1 := NB129_123.out
                          have hs62 : w59.cell? ⟨gb129, 2, none⟩ = some (.int .u8 0) := (blk_cell BK129.out 2).trans rfl
                          have hfs62 := blk_frozen BK129.out 2
                          have hns62_0 := NB120_129.out
                          have hns62_1 := NB123_129.out
                          have hms62_0 := NB129_120.out
                          have hms62_1 := NB129_123.out
                          have hs63 : w59.cell? ⟨gb129, 3, none⟩ = some (.int .u8 0) := (blk_cell BK129.out 3).trans rfl
                          have hfs63 := blk_frozen BK129.out 3
                          have hns63_0 := NB120_129.out
                          have hns63_1 := NB123_129.out
                          have hms63_0 := NB129_120.out
                          have hms63_1 := NB129_123.out
                          refine skip_ (w1 := ?_) (by rfl) rfl ?_ ?_
                          rotate_left
                          ·
                           go_simp
                           rfl
                          refine hK.out _ _ ⟨((cell_far (p := ⟨gb129, _, none⟩) (by first | exact Nat.ne_of_lt (Nat.lt_of_lt_of_le (by have := World.block_lt_of_cell? _ _ hw125_0; first | rwa [add_block] at this | exact this) GW129.out) | (rw [add_block]; exact Nat.ne_of_lt (Nat.lt_of_lt_of_le (by have := World.block_lt_of_cell? _ _ hw125_0; first | rwa [add_block] at this | exact this) GW129.out)) | (show (Addr.add _ _).block ≠ _; rw [add_block]; exact Nat.ne_of_lt (Nat.lt_of_lt_of_le (by have := World.block_lt_of_cell? _ _ hw125_0; first | rwa [add_block] at this | exact this) GW129.out)) | (dsimp only; exact Nat.ne_of_lt (Nat.lt_of_lt_of_le (by have := World.block_lt_of_cell? _ _ hw125_0; first | rwa [add_block] at this | exact this) GW129.out))) _).trans (((cell_far (p := ⟨gb129, _, none⟩) (by first | exact Nat.ne_of_lt (Nat.lt_of_lt_of_le (by have := World.block_lt_of_cell? _ _ hw125_0; first | rwa [add_block] at this | exact this) GW129.out) | (rw [add_block]; exact Nat.ne_of_lt (Nat.lt_of_lt_of_le (by have := World.block_lt_of_cell? _ _ hw125_0; first | rwa [add_block] at this | exact this) GW129.out)) | (show (Addr.add _ _).block ≠ _; rw [add_block]; exact Nat.ne_of_lt (Nat.lt_of_lt_of_le (by have := World.block_lt_of_cell? _ _ hw125_0; first | rwa [add_block] at this | exact this) GW129.out)) | (dsimp only; exact Nat.ne_of_lt (Nat.lt_of_lt_of_le (by have := World.block_lt_of_cell? _ _ hw125_0; first | rwa [add_block] at this | exact this) GW129.out))) _).trans (((cell_far (p := ⟨gb129, _, none⟩) (by first | exact Nat.ne_of_lt (Nat.lt_of_lt_of_le (by have := World.block_lt_of_cell? _ _ hw125_0; first | rwa [add_block] at this | exact this) GW129.out) | (rw [add_block]; exact Nat.ne_of_lt (Nat.lt_of_lt_of_le (by have := World.block_lt_of_cell? _ _ hw125_0; first | rwa [add_block] at this | exact this) GW129.out)) | (show (Addr.add _ _).block ≠ _; rw [add_block]; exact Nat.ne_of_lt (Nat.lt_of_lt_of_le (by have := World.block_lt_of_cell? _ _ hw125_0; first | rwa [add_block] at this | exact this) GW129.out)) | (dsimp only; exact Nat.ne_of_lt (Nat.lt_of_lt_of_le (by have := World.block_lt_of_cell? _ _ hw125_0; first | rwa [add_block] at this | exact this) GW129.out))) _).trans (((cell_far (p := ⟨gb129, _, none⟩) (by first | exact Nat.ne_of_lt (Nat.lt_of_lt_of_le (by have := World.block_lt_of_cell? _ _ hw125_0; first | rwa [add_block] at this | exact this) GW129.out) | (rw [add_block]; exact Nat.ne_of_lt (Nat.lt_of_lt_of_le (by have := World.block_lt_of_cell? _ _ hw125_0; first | rwa [add_block] at this | exact this) GW129.out)) | (show (Addr.add _ _).block ≠ _; rw [add_block]; exact Nat.ne_of_lt (Nat.lt_of_lt_of_le (by have := World.block_lt_of_cell? _ _ hw125_0; first | rwa [add_block] at this | exact this) GW129.out)) | (dsimp only; exact Nat.ne_of_lt (Nat.lt_of_lt_of_le (by have := World.block_lt_of_cell? _ _ hw125_0; first | rwa [add_block] at this | exact this) GW129.out))) _).trans (hHeld.1)))))))), ((cell_far (p := ⟨gb129, _, none⟩) (by first | exact Nat.ne_of_lt (Nat.lt_of_lt_of_le (by have := World.block_lt_of_cell? _ _ hw126_0; first | rwa [add_block] at this | exact this) GW129.out) | (rw [add_block]; exact Nat.ne_of_lt (Nat.lt_of_lt_of_le (by have := World.block_lt_of_cell? _ _ hw126_0; first | rwa [add_block] at this | exact this) GW129.out)) | (show (Addr.add _ _).block ≠ _; rw [add_block]; exact Nat.ne_of_lt (Nat.lt_of_lt_of_le (by have := World.block_lt_of_cell? _ _ hw126_0; first | rwa [add_block] at this | exact this) GW129.out)) | (dsimp only; exact Nat.ne_of_lt (Nat.lt_of_lt_of_le (by have := World.block_lt_of_cell? _ _ hw126_0; first | rwa [add_block] at this | exact this) GW129.out))) _).trans (((cell_far (p := ⟨gb129, _, none⟩) (by first | exact Nat.ne_of_lt (Nat.lt_of_lt_of_le (by have := World.block_lt_of_cell? _ _ hw126_0; first | rwa [add_block] at this | exact this) GW129.out) | (rw [add_block]; exact Nat.ne_of_lt (Nat.lt_of_lt_of_le (by have := World.block_lt_of_cell? _ _ hw126_0; first | rwa [add_block] at this | exact this) GW129.out)) | (show (Addr.add _ _).block ≠ _; rw [add_block]; exact Nat.ne_of_lt (Nat.lt_of_lt_of_le (by have := World.block_lt_of_cell? _ _ hw126_0; first | rwa [add_block] at this | exact this) GW129.out)) | (dsimp only; exact Nat.ne_of_lt (Nat.lt_of_lt_of_le (by have := World.block_lt_of_cell? _ _ hw126_0; first | rwa [add_block] at this | exact this) GW129.out))) _).trans (((cell_far (p := ⟨gb129, _, none⟩) (by first | exact Nat.ne_of_lt (Nat.lt_of_lt_of_le (by have := World.block_lt_of_cell? _ _ hw126_0; first | rwa [add_block] at this | exact this) GW129.out) | (rw [add_block]; exact Nat.ne_of_lt (Nat.lt_of_lt_of_le (by have := World.block_lt_of_cell? _ _ hw126_0; first | rwa [add_block] at this | exact this) GW129.out)) | (show (Addr.add _ _).block ≠ _; rw [add_block]; exact Nat.ne_of_lt (Nat.lt_of_lt_of_le (by have := World.block_lt_of_cell? _ _ hw126_0; first | rwa [add_block] at this | exact this) GW129.out)) | (dsimp only; exact Nat.ne_of_lt (Nat.lt_of_lt_of_le (by have := World.block_lt_of_cell? _ _ hw126_0; first | rwa [add_block] at this | exact this) GW129.out))) _).trans (((cell_far (p := ⟨gb129, _, none⟩) (by first | exact Nat.ne_of_lt (Nat.lt_of_lt_of_le (by have := World.block_lt_of_cell? _ _ hw126_0; first | rwa [add_block] at this | exact this) GW129.out) | (rw [add_block]; exact Nat.ne_of_lt (Nat.lt_of_lt_of_le (by have := World.block_lt_of_cell? _ _ hw126_0; first | rwa [add_block] at this | exact this) GW129.out)) | (show (Addr.add _ _).block ≠ _; rw [add_block]; exact Nat.ne_of_lt (Nat.lt_of_lt_of_le (by have := World.block_lt_of_cell? _ _ hw126_0; first | rwa [add_block] at this | exact this) GW129.out)) | (dsimp only; exact Nat.ne_of_lt (Nat.lt_of_lt_of_le (by have := World.block_lt_of_cell? _ _ hw126_0; first | rwa [add_block] at this | exact this) GW129.out))) _).trans (hHeld.2.1)))))))), ((cell_far (p := ⟨gb129, _, none⟩) (by first | exact Nat.ne_of_lt (Nat.lt_of_lt_of_le (by have := World.block_lt_of_cell? _ _ hw127_0; first | rwa [add_block] at this | exact this) GW129.out) | (rw [add_block]; exact Nat.ne_of_lt (Nat.lt_of_lt_of_le (by have := World.block_lt_of_cell? _ _ hw127_0; first | rwa [add_block] at this | exact this) GW129.out)) | (show (Addr.add _ _).block ≠ _; rw [add_block]; exact Nat.ne_of_lt (Nat.lt_of_lt_of_le (by have := World.block_lt_of_cell? _ _ hw127_0; first | rwa [add_block] at this | exact this) GW129.out)) | (dsimp only; exact Nat.ne_of_lt (Nat.lt_of_lt_of_le (by have := World.block_lt_of_cell? _ _ hw127_0; first | rwa [add_block] at this | exact this) GW129.out))) _).trans (((cell_far (p := ⟨gb129, _, none⟩) (by first | exact Nat.ne_of_lt (Nat.lt_of_lt_of_le (by have := World.block_lt_of_cell? _ _ hw127_0; first | rwa [add_block] at this | exact this) GW129.out) | (rw [add_block]; exact Nat.ne_of_lt (Nat.lt_of_lt_of_le (by have := World.block_lt_of_cell? _ _ hw127_0; first | rwa [add_block] at this | exact this) GW129.out)) | (show (Addr.add _ _).block ≠ _; rw [add_block]; exact Nat.ne_of_lt (Nat.lt_of_lt_of_le (by have := World.block_lt_of_cell? _ _ hw127_0; first | rwa [add_block] at this | exact this) GW129.out)) | (dsimp only; exact Nat.ne_of_lt (Nat.lt_of_lt_of_le (by have := World.block_lt_of_cell? _ _ hw127_0; first | rwa [add_block] at this | exact this) GW129.out))) _).trans (((cell_far (p := ⟨gb129, _, none⟩) (by first | exact Nat.ne_of_lt (Nat.lt_of_lt_of_le (by have := World.block_lt_of_cell? _ _ hw127_0; first | rwa [add_block] at this | exact this) GW129.out) | (rw [add_block]; exact Nat.ne_of_lt (Nat.lt_of_lt_of_le (by have := World.block_lt_of_cell? _ _ hw127_0; first | rwa [add_block] at this | exact this) GW129.out)) | (show (Addr.add _ _).block ≠ _; rw [add_block]; exact Nat.ne_of_lt (Nat.lt_of_lt_of_le (by have := World.block_lt_of_cell? _ _ hw127_0; first | rwa [add_block] at this | exact this) GW129.out)) | (dsimp only; exact Nat.ne_of_lt (Nat.lt_of_lt_of_le (by have := World.block_lt_of_cell? _ _ hw127_0; first | rwa [add_block] at this | exact this) GW129.out))) _).trans (((cell_far (p := ⟨gb129, _, none⟩) (by first | exact Nat.ne_of_lt (Nat.lt_of_lt_of_le (by have := World.block_lt_of_cell? _ _ hw127_0; first | rwa [add_block] at this | exact this) GW129.out) | (rw [add_block]; exact Nat.ne_of_lt (Nat.lt_of_lt_of_le (by have := World.block_lt_of_cell? _ _ hw127_0; first | rwa [add_block] at this | exact this) GW129.out)) | (show (Addr.add _ _).block ≠ _; rw [add_block]; exact Nat.ne_of_lt (Nat.lt_of_lt_of_le (by have := World.block_lt_of_cell? _ _ hw127_0; first | rwa [add_block] at this | exact this) GW129.out)) | (dsimp only; exact Nat.ne_of_lt (Nat.lt_of_lt_of_le (by have := World.block_lt_of_cell? _ _ hw127_0; first | rwa [add_block] at this | exact this) GW129.out))) _).trans (hHeld.2.2.1)))))))), ((cell_far (p := ⟨gb129, _, none⟩) (by first | exact Nat.ne_of_lt (Nat.lt_of_lt_of_le (by have := World.block_lt_of_cell? _ _ hw128_0; first | rwa [add_block] at this | exact this) GW129.out) | (rw [add_block]; exact Nat.ne_of_lt (Nat.lt_of_lt_of_le (by have := World.block_lt_of_cell? _ _ hw128_0; first | rwa [add_block] at this | exact this) GW129.out)) | (show (Addr.add _ _).block ≠ _; rw [add_block]; exact Nat.ne_of_lt (Nat.lt_of_lt_of_le (by have := World.block_lt_of_cell? _ _ hw128_0; first | rwa [add_block] at this | exact this) GW129.out)) | (dsimp only; exact Nat.ne_of_lt (Nat.lt_of_lt_of_le (by have := World.block_lt_of_cell? _ _ hw128_0; first | rwa [add_block] at this | exact this) GW129.out))) _).trans (((cell_far (p := ⟨gb129, _, none⟩) (by first | exact Nat.ne_of_lt (Nat.lt_of_lt_of_le (by have := World.block_lt_of_cell? _ _ hw128_0; first | rwa [add_block] at this | exact this) GW129.out) | (rw [add_block]; exact Nat.ne_of_lt (Nat.lt_of_lt_of_le (by have := World.block_lt_of_cell? _ _ hw128_0; first | rwa [add_block] at this | exact this) GW129.out)) | (show (Addr.add _ _).block ≠ _; rw [add_block]; exact Nat.ne_of_lt (Nat.lt_of_lt_of_le (by have := World.block_lt_of_cell? _ _ hw128_0; first | rwa [add_block] at this | exact this) GW129.out)) | (dsimp only; exact Nat.ne_of_lt (Nat.lt_of_lt_of_le (by have := World.block_lt_of_cell? _ _ hw128_0; first | rwa [add_block] at this | exact this) GW129.out))) _).trans (((cell_far (p := ⟨gb129, _, none⟩) (by first | exact Nat.ne_of_lt (Nat.lt_of_lt_of_le (by have := World.block_lt_of_cell? _ _ hw128_0; first | rwa [add_block] at this | exact this) GW129.out) | (rw [add_block]; exact Nat.ne_of_lt (Nat.lt_of_lt_of_le (by have := World.block_lt_of_cell? _ _ hw128_0; first | rwa [add_block] at this | exact this) GW129.out)) | (show (Addr.add _ _).block ≠ _; rw [add_block]; exact Nat.ne_of_lt (Nat.lt_of_lt_of_le (by have := World.block_lt_of_cell? _ _ hw128_0; first | rwa [add_block] at this | exact this) GW129.out)) | (dsimp only; exact Nat.ne_of_lt (Nat.lt_of_lt_of_le (by have := World.block_lt_of_cell? _ _ hw128_0; first | rwa [add_block] at this | exact this) GW129.out))) _).trans (((cell_far (p := ⟨gb129, _, none⟩) (by first | exact Nat.ne_of_lt (Nat.lt_of_lt_of_le (by have := World.block_lt_of_cell? _ _ hw128_0; first | rwa [add_block] at this | exact this) GW129.out) | (rw [add_block]; exact Nat.ne_of_lt (Nat.lt_of_lt_of_le (by have := World.block_lt_of_cell? _ _ hw128_0; first | rwa [add_block] at this | exact this) GW129.out)) | (show (Addr.add _ _).block ≠ _; rw [add_block]; exact Nat.ne_of_lt (Nat.lt_of_lt_of_le (by have := World.block_lt_of_cell? _ _ hw128_0; first | rwa [add_block] at this | exact this) GW129.out)) | (dsimp only; exact Nat.ne_of_lt (Nat.lt_of_lt_of_le (by have := World.block_lt_of_cell? _ _ hw128_0; first | rwa [add_block] at this | exact this) GW129.out))) _).trans (hHeld.2.2.2))))))))⟩ (fun hHeld => ?_)
                          clear hK K
                          refine done_ (done_of HT_.out (by kernel_rfl)) ?_
                          try go_wp2
                          have n0_ : Aside0 (Kd.R k43 43 ((((w59.setCell ⟨gb129, 0, none⟩ (.int .u8 (rd (l4.drop ((ji29) : Int).toNat) 2))).setCell ⟨gb129, 1, none⟩ (.int .u8 (rd (l4.drop ((ji29) : Int).toNat) 1))).setCell ⟨gb129, 2, none⟩ (.int .u8 (rd (l4.drop ((ji29) : Int).toNat) 0))).setCell ⟨gb129, 3, none⟩ (.int .u8 (rd (l4.drop ((ji29) : Int).toNat) 3))) w.heap.size (fun k_ => k_ ≠ gb129) u124002 x124002_5) := ⟨by (with_reducible repeat (first | apply Kd.R_alloc | apply Kd.R_drewN | apply Kd.R_drew)); exact Kd.R_mono (Kd.R_far (p := ⟨gb129, 3, none⟩) (Kd.R_far (p := ⟨gb129, 2, none⟩) (Kd.R_far (p := ⟨gb129, 1, none⟩) (Kd.R_far (p := ⟨gb129, 0, none⟩) (Kd.R_mono HO_124002.out (fun k_ hk => (⟨hk, hk.2⟩ : _ ∧ k_ ≠ gb129))) (fun _ hk => hk.2) (.int .u8 (rd (l4.drop ((ji29) : Int).toNat) 2))) (fun _ hk => hk.2) (.int .u8 (rd (l4.drop ((ji29) : Int).toNat) 1))) (fun _ hk => hk.2) (.int .u8 (rd (l4.drop ((ji29) : Int).toNat) 0))) (fun _ hk => hk.2) (.int .u8 (rd (l4.drop ((ji29) : Int).toNat) 3))) (fun _ hk => hk.1.2)⟩
                          have n1_ : Aside0 (((((w59.setCell ⟨gb129, 0, none⟩ (.int .u8 (rd (l4.drop ((ji29) : Int).toNat) 2))).setCell ⟨gb129, 1, none⟩ (.int .u8 (rd (l4.drop ((ji29) : Int).toNat) 1))).setCell ⟨gb129, 2, none⟩ (.int .u8 (rd (l4.drop ((ji29) : Int).toNat) 0))).setCell ⟨gb129, 3, none⟩ (.int .u8 (rd (l4.drop ((ji29) : Int).toNat) 3))).heap[gb120]? = some (.cells #[.int .i64 0, .int .i64 0, .slice none 0 0] 27 (0, 0))) := bf_ BK120
                          have n2_ : Aside0 (((((w59.setCell ⟨gb129, 0, none⟩ (.int .u8 (rd (l4.drop ((ji29) : Int).toNat) 2))).setCell ⟨gb129, 1, none⟩ (.int .u8 (rd (l4.drop ((ji29) : Int).toNat) 1))).setCell ⟨gb129, 2, none⟩ (.int .u8 (rd (l4.drop ((ji29) : Int).toNat) 0))).setCell ⟨gb129, 3, none⟩ (.int .u8 (rd (l4.drop ((ji29) : Int).toNat) 3))).heap[gb123]? = some (.cells #[.int .i64 a1, .int .i64 a2, u124002] 27 (0, 0))) := bf_ BK123
                          have n3_ : Aside0 (((((w59.setCell ⟨gb129, 0, none⟩ (.int .u8 (rd (l4.drop ((ji29) : Int).toNat) 2))).setCell ⟨gb129, 1, none⟩ (.int .u8 (rd (l4.drop ((ji29) : Int).toNat) 1))).setCell ⟨gb129, 2, none⟩ (.int .u8 (rd (l4.drop ((ji29) : Int).toNat) 0))).setCell ⟨gb129, 3, none⟩ (.int .u8 (rd (l4.drop ((ji29) : Int).toNat) 3))).heap[gb129]? = some (.cells #[.int .u8 (rd (l4.drop ((ji29) : Int).toNat) 2), .int .u8 (rd (l4.drop ((ji29) : Int).toNat) 1), .int .u8 (rd (l4.drop ((ji29) : Int).toNat) 0), .int .u8 (rd (l4.drop ((ji29) : Int).toNat) 3)] 43 (0, 0))) := ⟨by (with_reducible repeat (first | refine blk_drewN ?_ _ | refine blk_drew ?_ | refine blk_alloc ?_ _)); refine blk_put (cs := #[.int .u8 (rd (l4.drop ((ji29) : Int).toNat) 2), .int .u8 (rd (l4.drop ((ji29) : Int).toNat) 1), .int .u8 (rd (l4.drop ((ji29) : Int).toNat) 0), .int .u8 0]) ?_ 3 _ rfl; (with_reducible repeat (first | refine blk_drewN ?_ _ | refine blk_drew ?_ | refine blk_alloc ?_ _)); refine blk_put (cs := #[.int .u8 (rd (l4.drop ((ji29) : Int).toNat) 2), .int .u8 (rd (l4.drop ((ji29) : Int).toNat) 1), .int .u8 0, .int .u8 0]) ?_ 2 _ rfl; (with_reducible repeat (first | refine blk_drewN ?_ _ | refine blk_drew ?_ | refine blk_alloc ?_ _)); refine blk_put (cs := #[.int .u8 (rd (l4.drop ((ji29) : Int).toNat) 2), .int .u8 0, .int .u8 0, .int .u8 0]) ?_ 1 _ rfl; (with_reducible repeat (first | refine blk_drewN ?_ _ | refine blk_drew ?_ | refine blk_alloc ?_ _)); refine blk_put (cs := #[.int .u8 0, .int .u8 0, .int .u8 0, .int .u8 0]) ?_ 0 _ rfl; (with_reducible repeat (first | refine blk_drewN ?_ _ | refine blk_drew ?_ | refine blk_alloc ?_ _)); exact BK129.out⟩
                          have n4_ : Aside0 (Below w.heap.size w ((((w59.setCell ⟨gb129, 0, none⟩ (.int .u8 (rd (l4.drop ((ji29) : Int).toNat) 2))).setCell ⟨gb129, 1, none⟩ (.int .u8 (rd (l4.drop ((ji29) : Int).toNat) 1))).setCell ⟨gb129, 2, none⟩ (.int .u8 (rd (l4.drop ((ji29) : Int).toNat) 0))).setCell ⟨gb129, 3, none⟩ (.int .u8 (rd (l4.drop ((ji29) : Int).toNat) 3)))) := ⟨by repeat (first | (with_reducible first | exact HB.out | apply below_alloc | apply pw_below_drewN | apply below_drew1 | refine below_set ?_ GE120.out | refine below_set ?_ GE123.out | refine below_set ?_ GE129.out) | exact HB.out)⟩
                          (try clear HO_124002)
                          (try clear BK120)
                          (try clear BK123)
                          (try clear BK129)
                          (try clear HB)
                          generalize ((((w59.setCell ⟨gb129, 0, none⟩ (.int .u8 (rd (l4.drop ((ji29) : Int).toNat) 2))).setCell ⟨gb129, 1, none⟩ (.int .u8 (rd (l4.drop ((ji29) : Int).toNat) 1))).setCell ⟨gb129, 2, none⟩ (.int .u8 (rd (l4.drop ((ji29) : Int).toNat) 0))).setCell ⟨gb129, 3, none⟩ (.int .u8 (rd (l4.drop ((ji29) : Int).toNat) 3))) = w64 at n0_ n1_ n2_ n3_ n4_ ⊢
                          have HO_124002 := n0_
                          have BK120 := n1_
                          have BK123 := n2_
                          have BK129 := n3_
                          have HB := n4_
                          clear n0_ n1_ n2_ n3_ n4_
                          replace HO_124002 := Aside0.mk (Kd.R_drew HO_124002.out)
                          replace BK120 := Aside0.mk (blk_drew BK120.out)
                          replace BK123 := Aside0.mk (blk_drew BK123.out)
                          replace BK129 := Aside0.mk (blk_drew BK129.out)
                          replace HB := Aside0.mk (below_drew1 HB.out)
                          refine start_ (n := 8) (S := fun w' => w'.cell? ⟨gb123, 0, none⟩ = some (.int .i64 a1) ∧ w'.cell? ⟨gb123, 1, none⟩ = some (.int .i64 a2) ∧ w'.cell? ⟨gb123, 2, none⟩ = some (u124002) ∧ w'.cell? ⟨gb129, 0, none⟩ = some (.int .u8 (rd (l4.drop ((ji29) : Int).toNat) 2)) ∧ w'.cell? ⟨gb129, 1, none⟩ = some (.int .u8 (rd (l4.drop ((ji29) : Int).toNat) 1)) ∧ w'.cell? ⟨gb129, 2, none⟩ = some (.int .u8 (rd (l4.drop ((ji29) : Int).toNat) 0)) ∧ w'.cell? ⟨gb129, 3, none⟩ = some (.int .u8 (rd (l4.drop ((ji29) : Int).toNat) 3))) (ds := [7]) zq14.q16 (by kernel_rfl) rfl rfl ⟨c_ BK123 0, ⟨c_ BK123 1, ⟨c_ BK123 2, (h4_ BK129)⟩⟩⟩ (fun hHeld => ?_); refine with_tabW buffer_Decode.tab20 buffer_Decode.bits20 (fun HT_ HW_ => ?_)
                          generalize w64.drew = w65 at HO_124002 BK120 BK123 BK129 HB hHeld ⊢
                          refine pv_ 0 89 zq14.q17 HT_ ?_
                          refine take_ (i := 1) (N := some 90) (v := ?_) (a' := ?_) zq14.q18 rfl rfl (take_ofW HT_.out HW_.out (by kernel_rfl)) (fun _ _ _ h => h) (Or.inl ⟨by rfl, ?_⟩) hHeld ?_ ?_
                          rotate_left
                          ·
                           rintro w' ⟨s0, s1, s2, s3, s4, s5, s6⟩
                           go_simp
                           with_reducible rfl
                          rotate_left
                          ·
                           simp only [Act.put, List.setIfInBounds_toArray, List.set_cons_zero, List.set_cons_succ, i64_w, i32_w]
                           rfl
                          refine take_ (i := 2) (N := some 91) (v := ?_) (a' := ?_) zq14.q19 rfl rfl (take_ofW HT_.out HW_.out (by kernel_rfl)) (fun _ _ _ h => h) (Or.inl ⟨by rfl, ?_⟩) hHeld ?_ ?_
                          rotate_left
                          ·
                           rintro w' ⟨s0, s1, s2, s3, s4, s5, s6⟩
                           go_simp
                           with_reducible rfl
                          rotate_left
                          ·
                           simp only [Act.put, List.setIfInBounds_toArray, List.set_cons_zero, List.set_cons_succ, i64_w, i32_w]
                           rfl
                          refine one_ (i := 3) (N := some 92) zq14.q20 rfl rfl (one_of HT_.out (by kernel_rfl)) (by decide) (fun K hK => ?_)
                          refine goes_ Try.func40 (by kernel_rfl) rfl #[.agg #[.int .u8 (rd (l4.drop ((ji29) : Int).toNat) 2), .int .u8 (rd (l4.drop ((ji29) : Int).toNat) 1), .int .u8 (rd (l4.drop ((ji29) : Int).toNat) 0), .int .u8 (rd (l4.drop ((ji29) : Int).toNat) 3)]] (by rfl) rfl rfl (by (try simp only [List.map_toArray, List.map_cons, List.map_nil]); first | done | (simp only [hji29]; rfl) | rfl | (simp only [List.length_drop, List.length_take]; rfl)) ?_
                          with_reducible refine (pixel_Clamp.calls (rd (l4.drop ((ji29) : Int).toNat) 2) (rd (l4.drop ((ji29) : Int).toNat) 1) (rd (l4.drop ((ji29) : Int).toNat) 0) (rd (l4.drop ((ji29) : Int).toNat) 3) t137 t138 t139 t140 _ A55.out).mono ?_
                          rintro e w66 ⟨rfl, hb⟩
                          refine ⟨_, rfl, ?_⟩
                          replace HO_124002 := Aside0.mk (Kd.R_below (by (with_reducible repeat (first | apply Kd.R_alloc | apply Kd.R_drewN | apply Kd.R_drew)); exact HO_124002.out) hb)
                          replace BK120 := bb_ BK120 hb
                          replace BK123 := bb_ BK123 hb
                          replace BK129 := Aside0.mk (blk_below (g := gb129) (o := .cells #[.int .u8 (rd (l4.drop ((ji29) : Int).toNat) 2), .int .u8 (rd (l4.drop ((ji29) : Int).toNat) 1), .int .u8 (rd (l4.drop ((ji29) : Int).toNat) 0), .int .u8 (rd (l4.drop ((ji29) : Int).toNat) 3)] 43 (0, 0)) (bq_ BK129) hb)
                          replace HB := hb_ HB hb
                          (try clear hb); (try clear hb2); (try clear hk); (try clear hi)
                          refine hK.out _ _ ⟨c_ BK123 0, ⟨c_ BK123 1, ⟨c_ BK123 2, (h4_ BK129)⟩⟩⟩ (fun hHeld => ?_)
                          clear hK K
                          refine norm_ (a' := ?_) ?_ ?_
                          rotate_left
                          ·
                           show Act.put _ (some 92) _ = _
                           simp only [Act.put, List.setIfInBounds_toArray, List.set_cons_zero, List.set_cons_succ, i64_w, i32_w]
                           rfl
                          refine one_ (i := 4) (N := some 93) zq14.q21 rfl rfl (one_of HT_.out (by kernel_rfl)) (by decide) (fun K hK => ?_)
                          refine value_ (w1 := ?_) (v := ?_) (by rfl) rfl ?_ ?_
                          rotate_left 2
                          ·
                           go_simp
                           constructor
                           ·
                            rfl
                           ·
                            rfl
                          refine hK.out _ _ ⟨(blk_cell (blk_alloc BK123.out _) 0).trans rfl, (blk_cell (blk_alloc BK123.out _) 1).trans rfl, (blk_cell (blk_alloc BK123.out _) 2).trans rfl, (blk_cell (blk_alloc BK129.out _) 0).trans rfl, (blk_cell (blk_alloc BK129.out _) 1).trans rfl, (blk_cell (blk_alloc BK129.out _) 2).trans rfl, (blk_cell (blk_alloc BK129.out _) 3).trans rfl⟩ (fun hHeld => ?_)
                          clear hK K
                          refine norm_ (a' := ?_) ?_ ?_
                          rotate_left
                          ·
                           show Act.put _ (some 93) _ = _
                           simp only [Act.put, List.setIfInBounds_toArray, List.set_cons_zero, List.set_cons_succ, i64_w, i32_w]
                           rfl
                          refine one_ (i := 5) (N := some 94) zq14.q22 rfl rfl (one_of HT_.out (by kernel_rfl)) (by decide) (fun K hK => ?_)
                          refine Kd.R_append_step k43 (w0 := w) w.heap.size (by rfl) (.tmp 90) (.tmp 93) 25 43 (.agg #[(.int .u8 0), (.int .u8 0), (.int .u8 0), (.int .u8 0)]) 4 rfl Try.underlying25 info43 rfl (by decide) (by omega) u124002 x124002_5 (⟨t137, t138, t139, t140⟩ : S43) [.int .u8 t137, .int .u8 t138, .int .u8 t139, .int .u8 t140] (fun k_ => k_ ≠ gb129) (fun _ => False) rfl rfl ?aP (fun _ hk => hk.elim) ?aF ?aO ?aB ?aS ?aL ?_
                          (case aP => exact k43_mkM _ _ _ (⟨t137, t138, t139, t140⟩ : S43))
                          (case aB => exact (hq_ HB))
                          (case aF => exact (fun k_ hk => Kd.freshB (g := gb129) (o := .cells #[.int .u8 (rd (l4.drop ((ji29) : Int).toNat) 2), .int .u8 (rd (l4.drop ((ji29) : Int).toNat) 1), .int .u8 (rd (l4.drop ((ji29) : Int).toNat) 0), .int .u8 (rd (l4.drop ((ji29) : Int).toNat) 3)] 43 (0, 0)) (bq_ BK129) k_ hk))
                          (case aO => exact (by (with_reducible repeat (first | apply Kd.R_alloc | apply Kd.R_drewN | apply Kd.R_drew)); exact HO_124002.out))
                          (case aS => exact (below_size (hq_ HB)))
                          (case aL => have := LMc56.out; omega)
                          intro v142 w67 ho hb hg hat
                          rw [← Ny141.out] at ho
                          replace BK120 := Aside0.mk (blk_grown (g := gb120) (o := .cells #[.int .i64 0, .int .i64 0, .slice none 0 0] 27 (0, 0)) (bq_ BK120) hg (Kd.R_ne HO_124002.out BK120.out (by decide)))
                          replace BK123 := Aside0.mk (blk_grown (g := gb123) (o := .cells #[.int .i64 a1, .int .i64 a2, u124002] 27 (0, 0)) (bq_ BK123) hg (Kd.R_ne HO_124002.out BK123.out (by decide)))
                          replace BK129 := Aside0.mk (blk_grown (g := gb129) (o := .cells #[.int .u8 (rd (l4.drop ((ji29) : Int).toNat) 2), .int .u8 (rd (l4.drop ((ji29) : Int).toNat) 1), .int .u8 (rd (l4.drop ((ji29) : Int).toNat) 0), .int .u8 (rd (l4.drop ((ji29) : Int).toNat) 3)] 43 (0, 0)) (bq_ BK129) hg (Kd.R_away HO_124002.out (fun _ hk => hk)))
                          replace HB := Aside0.mk (hb)
                          have HO143 := Aside0.mk (ho)
                          clear HO_124002
                          clear ho hb hg hat
                          obtain ⟨Ao68, co68, eo68⟩ := Kd.R_slice HO143.out
                          (first | subst eo68 | (injection eo68 with f1_ f2_ f3_; have f4_ := f1_.symm; have f5_ := f3_.symm; clear f1_ f2_ f3_; subst f4_; subst f5_))
                          refine hK.out _ _ ⟨c_ BK123 0, ⟨c_ BK123 1, ⟨c_ BK123 2, (h4_ BK129)⟩⟩⟩ (fun hHeld => ?_)
                          clear hK K
                          refine norm_ (a' := ?_) ?_ ?_
                          rotate_left
                          ·
                           show Act.put _ (some 94) _ = _
                           simp only [Act.put, List.setIfInBounds_toArray, List.set_cons_zero, List.set_cons_succ, i64_w, i32_w]
                           rfl
                          refine pv_ 6 95 zq14.q23 HT_ ?_
                          refine last_ (i := 7) (N := none) zq14.q24 rfl rfl (one_of HT_.out (by kernel_rfl)) (by decide) (fun K hK => ?_)
                          have hs69 : w67.cell? ⟨gb123, 2, none⟩ = some (u124002) := (blk_cell BK123.out 2).trans rfl
                          have hfs69 := blk_frozen BK123.out 2
                          have hns69_0 := NB120_123.out
                          have hns69_2 := NB129_123.out
                          have hms69_0 := NB123_120.out
                          have hms69_2 := NB123_129.out
                          refine skip_ (w1 := ?_) (by rfl) rfl ?_ ?_
                          rotate_left
                          ·
                           go_simp
                           rfl
                          refine hK.out _ _ ?_
                          clear hK K
                          refine done_ (done_of HT_.out (by kernel_rfl)) ?_
                          try go_wp2
                          go_roundg k5
                          case measure => have := HJ5.out; have := HJ10.out; have := HJ16.out; have := HK4.out; have := HK5.out; omega
                          case rel => exact ⟨(wrap64 (x62_5 + 1)), (y141), (.slice Ao68 y141.length co68), (by first | rfl | (simp; done) | (simp [*]; done)), H', ⟨by have := HJ5.out; have := HJ10.out; have := HJ16.out; have := HK4.out; have := HK5.out; omega⟩, ⟨by (with_reducible repeat (first | apply Kd.R_alloc | apply Kd.R_drewN | apply Kd.R_drew)); exact Kd.R_mono (Kd.R_far (p := ⟨gb123, 2, none⟩) (Kd.R_types HO143.out BK123.out (by decide)) (fun _ hk => hk.2) (.slice Ao68 y141.length co68)) (fun _ hk => trivial)⟩, bf_ BK120, ⟨by (with_reducible repeat (first | refine blk_drewN ?_ _ | refine blk_drew ?_ | refine blk_alloc ?_ _)); refine blk_put (cs := #[.int .i64 a1, .int .i64 a2, u124002]) ?_ 2 _ rfl; (with_reducible repeat (first | refine blk_drewN ?_ _ | refine blk_drew ?_ | refine blk_alloc ?_ _)); exact BK123.out⟩, ⟨by repeat (first | (with_reducible first | exact HB.out | apply below_alloc | apply pw_below_drewN | apply below_drew1 | refine below_set ?_ GE120.out | refine below_set ?_ GE123.out | refine below_set ?_ GE129.out) | exact HB.out)⟩⟩
                         ·
                          rw [if_neg c56] at H
                          exact absurd H (by simp)
                       ·
                        rw [if_neg c35] at H
                        exact absurd H (by simp)
                      ·
                       rw [if_neg c34] at H
                       exact absurd H (by simp)
                     ·
                      rw [if_neg c33] at H
                      exact absurd H (by simp)
                    ·
                     rw [if_neg c32] at H
                     exact absurd H (by simp)
                   ·
                    rw [if_neg c31] at H
                    exact absurd H (by simp)
                  ·
                   rw [if_neg c30] at H
                   exact absurd H (by simp)
                 ·
                  rw [if_neg c28] at H
                  have c28b0 : decide (x62_5 < a1) = false := decide_eq_false c28
                  clear c28
                  have H' := Aside0.mk H
                  clear H
                  go_wp2
                  go_roundg k5
                  case measure => have := HJ5.out; have := HJ10.out; have := HJ16.out; have := HK4.out; have := HK5.out; omega
                  case rel => exact ⟨(wrap64 (x58_4 + 1)), (x124002_5), (u124002), (by first | rfl | (simp; done) | (simp [*]; done)), H', ⟨by have := HJ5.out; have := HJ10.out; have := HJ16.out; have := HK4.out; have := HK5.out; omega⟩, ⟨by (with_reducible repeat (first | apply Kd.R_alloc | apply Kd.R_drewN | apply Kd.R_drew)); exact HO_124002.out⟩, bf_ BK120, bf_ BK123, ⟨by repeat (first | (with_reducible first | exact HB.out | apply below_alloc | apply pw_below_drewN | apply below_drew1 | refine below_set ?_ GE120.out | refine below_set ?_ GE123.out) | exact HB.out)⟩⟩
              ·
               rw [if_neg c27] at H
               have c27b0 : decide (x58_4 < a2) = false := decide_eq_false c27
               clear c27
               simp only [Option.some.injEq, Prod.mk.injEq] at H
               obtain ⟨rfl, rfl, rfl, rfl⟩ := H
               have hnb70 := NB123_120.out
               have hnc70 := NB120_123.out
               have hcz71_0 : wr.cell? ⟨gb123, 0, none⟩ = some (.int .i64 a1) := (blk_cell BK123.out 0).trans rfl
               have hcz71_1 : wr.cell? ⟨gb123, 1, none⟩ = some (.int .i64 a2) := (blk_cell BK123.out 1).trans rfl
               have hcz71_2 : wr.cell? ⟨gb123, 2, none⟩ = some (u124002) := (blk_cell BK123.out 2).trans rfl
               have hfz71_0 := blk_frozen BK123.out 0
               have hfz71_1 := blk_frozen BK123.out 1
               have hfz71_2 := blk_frozen BK123.out 2
               have hcz72_0 : wr.cell? ⟨gb120, 0, none⟩ = some (.int .i64 0) := (blk_cell BK120.out 0).trans rfl
               have hcz72_1 : wr.cell? ⟨gb120, 1, none⟩ = some (.int .i64 0) := (blk_cell BK120.out 1).trans rfl
               have hcz72_2 : wr.cell? ⟨gb120, 2, none⟩ = some (.slice none 0 0) := (blk_cell BK120.out 2).trans rfl
               have hfz72_0 := blk_frozen BK120.out 0
               have hfz72_1 := blk_frozen BK120.out 1
               have hfz72_2 := blk_frozen BK120.out 2
               obtain ⟨Ao73, co73, eo73⟩ := Kd.R_slice HO_124002.out
               subst eo73
               go_wp2
               refine bodyPost_ret (results_ct rfl _ _ gb120 27 #[.int .i64 a1, .int .i64 a2, .slice Ao73 x124002_4.length co73] (0, 0) _ rfl (by (with_reducible repeat (first | refine blk_drewN ?_ _ | refine blk_drew ?_ | refine blk_alloc ?_ _)); refine blk_put (cs := #[.int .i64 a1, .int .i64 a2, .slice none 0 0]) ?_ 2 _ rfl; (with_reducible repeat (first | refine blk_drewN ?_ _ | refine blk_drew ?_ | refine blk_alloc ?_ _)); refine blk_put (cs := #[.int .i64 a1, .int .i64 0, .slice none 0 0]) ?_ 1 _ rfl; (with_reducible repeat (first | refine blk_drewN ?_ _ | refine blk_drew ?_ | refine blk_alloc ?_ _)); refine blk_put (cs := #[.int .i64 0, .int .i64 0, .slice none 0 0]) ?_ 0 _ rfl; (with_reducible repeat (first | refine blk_drewN ?_ _ | refine blk_drew ?_ | refine blk_alloc ?_ _)); exact BK120.out) Try.underlying27 rfl (by kernel_rfl)) rfl ?_
               exact ⟨_, by first | rfl | (simp [errW_none, errW_some] <;> rfl) | (simp [*, errW_none, errW_some] <;> rfl), by (with_reducible repeat (first | apply Kd.R_alloc | apply Kd.R_drewN | apply Kd.R_drew)); exact Kd.R_mono (Kd.R_far (p := ⟨gb120, 2, none⟩) (Kd.R_far (p := ⟨gb120, 1, none⟩) (Kd.R_far (p := ⟨gb120, 0, none⟩) (Kd.R_types HO_124002.out BK120.out (by decide)) (fun _ hk => hk.2) (.int .i64 a1)) (fun _ hk => hk.2) (.int .i64 a2)) (fun _ hk => hk.2) (.slice Ao73 x124002_4.length co73)) (fun _ hk => trivial), by repeat (first | (with_reducible first | exact HB.out | apply below_alloc | apply pw_below_drewN | apply below_drew1 | refine below_set ?_ GE120.out | refine below_set ?_ GE123.out) | exact HB.out)⟩
end Go.Proofs.Ytmockeaiccpogaa.All
end
section
namespace Go.Proofs.Ytmockeaiccpogaa.All
open Go.RowKit Go.Proofs.YtmockeaiccpogaaW.PrintWords Go.Proofs.YtmockeaiccpogaaW.PrintLast Go.Proofs.YtmockeaiccpogaaW.PrintMore
attribute [local go_sem] max2_int min2_int max_two min_two max_three min_three max_four min_four
set_option linter.unusedVariables false
set_option linter.unusedSimpArgs false
section
open Go.Proofs.YtmockeaiccpogaaHand
def buffer_Valid.ok (p : S43) : Bool := (mn p.f0 p.f3 == p.f0) && ((mn p.f1 p.f3 == p.f1) && ((mn p.f2 p.f3 == p.f2) && (p.f3 == p.f3)))
theorem buffer_Valid.pv (p : S43) : pixel_Valid.f p.f0 p.f1 p.f2 p.f3 = some (buffer_Valid.ok p) := rfl
theorem buffer_Valid.lit_calls (p : S43) (w : World) : Calls Try.prog 52 #[.agg #[.int .u8 p.f0, .int .u8 p.f1, .int .u8 p.f2, .int .u8 p.f3]] w fun e w' => e = .returned (.bool (!buffer_Valid.ok p)) ∧ Below w.heap.size w w' := by
  have hp := Aside0.mk (buffer_Valid.pv p)
  go_enter Try.func52, Try.ntmps52
  go_wp2_with fail
  obtain ⟨hR0, hb0⟩ := allocs1 w (Obj.cells #[Value.int IntKind.u8 p.f0, Value.int IntKind.u8 p.f1, Value.int IntKind.u8 p.f2, Value.int IntKind.u8 p.f3] 43)
  generalize w.alloc (Obj.cells #[Value.int IntKind.u8 p.f0, Value.int IntKind.u8 p.f1, Value.int IntKind.u8 p.f2, Value.int IntKind.u8 p.f3] 43) = W at hR0 hb0 ⊢
  have hb := Aside0.mk hb0
  clear hb0
  refine (pixel_Valid.calls _ _ _ _ _ W hp.out).mono ?_
  rintro e w1 ⟨rfl, hb1⟩
  have hB := Aside0.mk (below_then hb.out hb.out.size hb1)
  clear hb1
  go_wp2
  go_ret
  exact ⟨rfl, hB.out⟩
def buffer_Valid.idx : List S43 → Int → Int
  | [], _ => -1
  | p :: l, i => if buffer_Valid.ok p then buffer_Valid.idx l (i + 1) else i
set_option maxHeartbeats 4000000 in
theorem buffer_Valid.index_calls (A : Option Addr) (c : Nat) (l : List S43) (w : World) (hr0 : Kd.C k43 w A l.length l) (hl : l.length ≤ 4398046511104) : Calls Try.prog 65 #[.slice A l.length c, .func (Fn.func 52) #[] #[]] w fun e w' => e = .returned (.int .i64 (buffer_Valid.idx l 0)) ∧ Below w.heap.size w w' := by
  have hr := Aside0.mk hr0
  clear hr0
  go_enter Try.func65, Try.ntmps65
  go_wp2_with fail
  go_loopw [8] (fun v w' => ∃ i : Nat, i ≤ l.length ∧ v = .int .i64 i ∧ Aside0 (buffer_Valid.idx l 0 = buffer_Valid.idx (l.drop i) i) ∧ Aside0 (Below w.heap.size w w')) (fun v _ => l.length - (intOf v).toNat)
  case atStart => exact ⟨0, Nat.zero_le _, rfl, ⟨rfl⟩, ⟨Below.refl _ _⟩⟩
  case round =>
    obtain ⟨i, hi, rfl, he, hb⟩ := hrel
    by_cases hlt : i < l.length
    · obtain ⟨ad, e0, x0, x1, x2, x3⟩ := at_T43 hr.out (i : Int) (by omega) (by omega)
      cases e0
      simp only [Int.toNat_natCast] at x0 x1 x2 x3
      replace x0 := (hb.out.cell (World.block_lt_of_cell? w _ x0)).trans x0
      replace x1 := (hb.out.cell (World.block_lt_of_cell? w _ x1)).trans x1
      replace x2 := (hb.out.cell (World.block_lt_of_cell? w _ x2)).trans x2
      replace x3 := (hb.out.cell (World.block_lt_of_cell? w _ x3)).trans x3
      have hlt' : (i : Int) < (l.length : Int) := by omega
      have hp : l.drop i = rd_T43 l (i : Int) :: l.drop (i + 1) := by
        rw [List.drop_eq_getElem_cons hlt]
        congr 1
        unfold rd_T43
        rw [Int.toNat_natCast, List.getD_eq_getElem?_getD, List.getElem?_eq_getElem hlt, Option.getD_some]
      have he1 := he.out
      rw [hp, buffer_Valid.idx] at he1
      have he2 := Aside0.mk he1
      clear he he1 hp
      generalize rd_T43 l (i : Int) = p at *
      go_wp2_with fail
      refine (buffer_Valid.lit_calls p wr).mono ?_
      rintro e w1 ⟨rfl, hb1⟩
      have hb2 := Aside0.mk (below_then hb.out hb.out.size hb1)
      clear hb1
      by_cases hk : buffer_Valid.ok p = true
      · rw [hk] at he2 ⊢
        have he3 := Aside0.mk (show buffer_Valid.idx l 0 = buffer_Valid.idx (l.drop (i + 1)) ((i : Int) + 1) from he2.out)
        clear he2
        go_wp2
        go_roundw
        case rel => exact ⟨i + 1, by omega, by go_num, ⟨he3.out⟩, ⟨hb2.out⟩⟩
        case measure => simp [intOf]; omega
      · replace hk := Bool.eq_false_iff.mpr hk
        rw [hk] at he2 ⊢
        have he3 := Aside0.mk (show buffer_Valid.idx l 0 = (i : Int) from he2.out)
        clear he2
        go_wp2
        go_ret
        exact ⟨by rw [he3.out]; rfl, hb2.out⟩
    · obtain rfl : i = l.length := by omega
      have he2 := Aside0.mk (show buffer_Valid.idx l 0 = -1 from by rw [he.out, List.drop_length]; rfl)
      go_wp2
      go_ret
      exact ⟨by rw [he2.out]; rfl, hb.out⟩
theorem buffer_Valid.idx_neg : ∀ (l : List S43) (i : Int), 0 ≤ i → decide (buffer_Valid.idx l i ≥ 0) = !l.all buffer_Valid.ok
  | [], i, h => rfl
  | p :: l, i, h => by
    rw [buffer_Valid.idx, List.all_cons]
    by_cases hk : buffer_Valid.ok p = true
    · rw [hk, if_pos rfl, Bool.true_and]; exact buffer_Valid.idx_neg l (i + 1) (by omega)
    · replace hk := Bool.eq_false_iff.mpr hk
      rw [hk, if_neg (by decide), Bool.false_and]
      simpa using h
theorem buffer_Valid.contains_calls (A : Option Addr) (c : Nat) (l : List S43) (w : World) (hr0 : Kd.C k43 w A l.length l) (hl : l.length ≤ 4398046511104) : Calls Try.prog 51 #[.slice A l.length c, .func (Fn.func 52) #[] #[]] w fun e w' => e = .returned (.bool (!l.all buffer_Valid.ok)) ∧ Below w.heap.size w w' := by
  have hr := Aside0.mk hr0
  clear hr0
  go_enter Try.func51, Try.ntmps51
  go_wp2_with (go_at_call 65; refine (buffer_Valid.index_calls A c l _ hr.out hl).mono ?_; rintro e w1 ⟨rfl, hb1⟩)
  go_ret
  exact ⟨by rw [← buffer_Valid.idx_neg l 0 (by omega)]; rfl, hb1⟩
def buffer_Valid.f (a0_0 a0_1 : Int) (l0_2 : List S43) : Option Bool :=
  (buffer_size.f a0_0).bind fun s1 => if s1 = true then (buffer_size.f a0_1).bind fun s2 => if s2 = true then (if (l0_2.length : Int) = wrap64 (a0_0 * a0_1) then some (l0_2.all buffer_Valid.ok) else some false) else some false else some false
theorem buffer_Valid.size_in {a : Int} (h : buffer_size.f a = some true) : 1 ≤ a ∧ a ≤ 256 := by
  unfold buffer_size.f at h
  split at h
  · rename_i k; exact ⟨k, by simpa using h⟩
  · simp at h
set_option maxHeartbeats 4000000 in
theorem buffer_Valid.calls (a0_0 : Int) (a0_1 : Int) (A0_2 : Option Addr) (c0_2 : Nat) (l0_2 : List (S43)) (r : Bool) (w : World) (hr0_2 : Kd.C k43 w A0_2 l0_2.length l0_2) (hc0_2 : l0_2.length ≤ c0_2) (h : buffer_Valid.f a0_0 a0_1 l0_2 = some r) :
    Calls Try.prog 26 #[.agg #[.int .i64 a0_0, .int .i64 a0_1, .slice A0_2 l0_2.length c0_2]] w fun e w' => e = .returned (.bool r) ∧ Below w.heap.size w w' := by
  obtain ⟨s1, hs1, h⟩ := Option.bind_eq_some_iff.mp h
  have hr := Aside0.mk hr0_2
  have hs := Aside0.mk hs1
  clear hr0_2 hs1
  go_enter Try.func26, Try.ntmps26
  go_wp2_with fail
  obtain ⟨hR0, hb0⟩ := allocs1 w (Obj.cells #[.int .i64 a0_0, .int .i64 a0_1, .slice A0_2 l0_2.length c0_2] 27)
  generalize w.alloc (Obj.cells #[.int .i64 a0_0, .int .i64 a0_1, .slice A0_2 l0_2.length c0_2] 27) = W at hR0 hb0 ⊢
  have hb := Aside0.mk hb0
  clear hb0
  refine (buffer_size.calls a0_0 s1 W hs.out).mono ?_
  rintro e w1 ⟨rfl, hd1⟩
  have hR1 := Aside0.mk (cells_drawn hd1 hR0)
  have hB1 := Aside0.mk (below_then hb.out hb.out.size (Drawn0.below hd1))
  clear hd1 hR0 hb
  have x0 := (blk_cell hR1.out 0).trans rfl
  have x1 := (blk_cell hR1.out 1).trans rfl
  have x2 := (blk_cell hR1.out 2).trans rfl
  cases s1 with
  | false =>
    obtain rfl : false = r := by simpa using h
    go_wp2
    go_ret
    exact ⟨rfl, hB1.out⟩
  | true =>
    rw [if_pos rfl] at h
    obtain ⟨s2, hs2, h⟩ := Option.bind_eq_some_iff.mp h
    have hs' := Aside0.mk hs2
    clear hs2
    go_wp2_with fail
    refine (buffer_size.calls a0_1 s2 w1 hs'.out).mono ?_
    rintro e w2 ⟨rfl, hd2⟩
    have hR2 := Aside0.mk (cells_drawn hd2 hR1.out)
    have hB2 := Aside0.mk (below_then hB1.out hB1.out.size (Drawn0.below hd2))
    clear hd2 x0 x1 x2
    have x0 := (blk_cell hR2.out 0).trans rfl
    have x1 := (blk_cell hR2.out 1).trans rfl
    have x2 := (blk_cell hR2.out 2).trans rfl
    cases s2 with
    | false =>
      obtain rfl : false = r := by simpa using h
      go_wp2
      go_ret
      exact ⟨rfl, hB2.out⟩
    | true =>
      rw [if_pos rfl] at h
      by_cases hn : (l0_2.length : Int) = wrap64 (a0_0 * a0_1)
      · rw [if_pos hn] at h
        obtain rfl : l0_2.all buffer_Valid.ok = r := by simpa using h
        have hn' : ((l0_2.length : Int) != wrap64 (a0_0 * a0_1)) = false := by simpa using hn
        have hrw := Aside0.mk (Kd.C_below hr.out hB2.out)
        have hl : l0_2.length ≤ 4398046511104 := by
          have e1 := buffer_Valid.size_in hs.out
          have e2 := buffer_Valid.size_in hs'.out
          have p1 := Int.mul_le_mul e1.2 e2.2 (by omega) (by omega : (0 : Int) ≤ 256)
          have p2 := Int.mul_nonneg (show 0 ≤ a0_0 by omega) (show 0 ≤ a0_1 by omega)
          have p3 : wrap64 (a0_0 * a0_1) = a0_0 * a0_1 := by unfold wrap64; omega
          omega
        go_wp2_with fail
        refine (buffer_Valid.contains_calls A0_2 c0_2 l0_2 w2 hrw.out hl).mono ?_
        rintro e w3 ⟨rfl, hb3⟩
        have hB3 := Aside0.mk (below_then hB2.out hB2.out.size hb3)
        go_wp2
        go_ret
        exact ⟨rfl, hB3.out⟩
      · rw [if_neg hn] at h
        obtain rfl : false = r := by simpa using h
        go_wp2
        go_ret
        exact ⟨rfl, hB2.out⟩
theorem buffer_Valid.of_valid {W H : Int} {l : List S43} (h : buffer_Valid.f W H l = some true) : (1 ≤ W ∧ W ≤ 256) ∧ (1 ≤ H ∧ H ≤ 256) ∧ (l.length : Int) = W * H := by
  unfold buffer_Valid.f at h
  obtain ⟨s1, h1, h⟩ := Option.bind_eq_some_iff.mp h
  cases s1 with
  | false => simp at h
  | true =>
    rw [if_pos rfl] at h
    obtain ⟨s2, h2, h⟩ := Option.bind_eq_some_iff.mp h
    cases s2 with
    | false => simp at h
    | true =>
      rw [if_pos rfl] at h
      have e1 := buffer_Valid.size_in h1
      have e2 := buffer_Valid.size_in h2
      by_cases hn : (l.length : Int) = wrap64 (W * H)
      · have p1 := Int.mul_le_mul e1.2 e2.2 (by omega) (by omega : (0 : Int) ≤ 256)
        have p2 := Int.mul_nonneg (show 0 ≤ W by omega) (show 0 ≤ H by omega)
        have p3 : wrap64 (W * H) = W * H := by unfold wrap64; omega
        exact ⟨e1, e2, hn.trans p3⟩
      · rw [if_neg hn] at h
        simp at h
end
end Go.Proofs.Ytmockeaiccpogaa.All
end
section
namespace Go.Proofs.Ytmockeaiccpogaa.All
open Go.RowKit Go.Proofs.YtmockeaiccpogaaW.PrintWords Go.Proofs.YtmockeaiccpogaaW.PrintLast Go.Proofs.YtmockeaiccpogaaW.PrintMore
attribute [local go_sem] max2_int min2_int max_two min_two max_three min_three max_four min_four
set_option linter.unusedVariables false
set_option linter.unusedSimpArgs false
def buffer_frame.f (a0_0 : Int) (a0_1 : Int) (l0_2 : List (S43)) : Option (Int × Int × Int × Int) := some (0, 0, a0_0, a0_1)
set_option maxHeartbeats 8000000 in
set_option maxRecDepth 100000 in
theorem buffer_frame.calls (a0_0 : Int) (a0_1 : Int) (A0_2 : Option Addr) (c0_2 : Nat) (l0_2 : List (S43)) (r1 : Int) (r2 : Int) (r3 : Int) (r4 : Int) (w : World) (hr0_2 : Kd.C k43 w A0_2 l0_2.length l0_2) (hc0_2 : l0_2.length ≤ c0_2) (h : buffer_frame.f a0_0 a0_1 l0_2 = some (r1, r2, r3, r4)) :
    Calls Try.prog 43 #[.agg #[.int .i64 a0_0, .int .i64 a0_1, .slice A0_2 l0_2.length c0_2]] w fun e w' => e = .returned (.agg #[.int .i64 r1, .int .i64 r2, .int .i64 r3, .int .i64 r4]) ∧ Below w.heap.size w w' := by
  have hu27 := Try.underlying27
  have hu47 := Try.underlying47
  have HR0_2 := Aside0.mk hr0_2
  have HC0_2 := Aside0.mk hc0_2
  clear hr0_2 hc0_2
  have HB := Aside0.mk (Below.refl w.heap.size w)
  have H : (some (0, 0, a0_0, a0_1)) = some (r1, r2, r3, r4) := h
  clear h
  simp only [Option.some.injEq, Prod.mk.injEq] at H
  obtain ⟨rfl, rfl, rfl, rfl⟩ := H
  go_enter Try.func43, Try.ntmps43
  go_wp2_with (first | ((with_reducible refine gate_dst (N := 1) rfl ?_); refine box_event ?hg (N := 1) ?hd (cs := #[.int .i64 a0_0, .int .i64 a0_1, .slice A0_2 l0_2.length c0_2]) (t := 27) ?hr ?_; (case hd => rfl); (case hg => rfl); (case hr => first | (go_simp; done) | (go_simp; rfl)); intro gb144 hg w2 hbox hb; have n0_ := Aside0.mk (below_step (by repeat (first | (with_reducible first | exact HB.out | apply below_alloc | apply pw_below_drewN | apply below_drew1) | exact HB.out)) hb); have n1_ := Aside0.mk (hbox); have n2_ := Aside0.mk ((by rw [hg]; exact (below_size (by repeat (first | (with_reducible first | exact HB.out | apply below_alloc | apply pw_below_drewN | apply below_drew1) | exact HB.out))) : w.heap.size ≤ gb144)); have n3_ := Aside0.mk ((by rw [hg]; exact (below_size (by repeat (first | (with_reducible first | exact HB.out | apply below_alloc | apply pw_below_drewN | apply below_drew1) | exact HB.out))) : w.heap.size ≤ gb144)); clear HB; have HB := n0_; have BK144 := n1_; have GW144 := n2_; have GE144 := n3_; clear n0_ n1_ n2_ n3_; clear hb hbox hg) | ((with_reducible refine gate_dst (N := 2) rfl ?_); refine box_event ?hg (N := 2) ?hd (cs := #[.int .i64 0, .int .i64 0, .int .i64 0, .int .i64 0]) (t := 47) ?hr ?_; (case hd => rfl); (case hg => rfl); (case hr => first | (go_simp; done) | (go_simp; rfl)); intro gb145 hg w3 hbox hb; have n0_ := Aside0.mk (blk_below (g := gb144) (o := .cells #[.int .i64 a0_0, .int .i64 a0_1, .slice A0_2 l0_2.length c0_2] 27 (0, 0)) (by (with_reducible repeat (first | refine blk_drewN ?_ _ | refine blk_drew ?_ | refine blk_alloc ?_ _)); exact BK144.out) hb); have n1_ := Aside0.mk (below_step (by repeat (first | (with_reducible first | exact HB.out | apply below_alloc | apply pw_below_drewN | apply below_drew1 | refine below_set ?_ GE144.out) | exact HB.out)) hb); have n2_ := Aside0.mk (hbox); have n3_ := Aside0.mk ((by rw [hg]; exact (below_size (by repeat (first | (with_reducible first | exact HB.out | apply below_alloc | apply pw_below_drewN | apply below_drew1 | refine below_set ?_ GE144.out) | exact HB.out))) : w.heap.size ≤ gb145)); have n4_ := Aside0.mk ((by rw [hg]; exact (below_size (by repeat (first | (with_reducible first | exact HB.out | apply below_alloc | apply pw_below_drewN | apply below_drew1 | refine below_set ?_ GE144.out) | exact HB.out))) : w.heap.size ≤ gb145)); have n5_ := Aside0.mk ((by rw [hg]; exact Nat.ne_of_lt (blk_lt (g := gb144) (o := .cells #[.int .i64 a0_0, .int .i64 a0_1, .slice A0_2 l0_2.length c0_2] 27 (0, 0)) (by (with_reducible repeat (first | refine blk_drewN ?_ _ | refine blk_drew ?_ | refine blk_alloc ?_ _)); exact BK144.out)) : gb144 ≠ gb145)); have n6_ := Aside0.mk ((by rw [hg]; exact Nat.ne_of_gt (blk_lt (g := gb144) (o := .cells #[.int .i64 a0_0, .int .i64 a0_1, .slice A0_2 l0_2.length c0_2] 27 (0, 0)) (by (with_reducible repeat (first | refine blk_drewN ?_ _ | refine blk_drew ?_ | refine blk_alloc ?_ _)); exact BK144.out)) : gb145 ≠ gb144)); clear BK144; clear HB; have BK144 := n0_; have HB := n1_; have BK145 := n2_; have GW145 := n3_; have GE145 := n4_; have NB144_145 := n5_; have NB145_144 := n6_; clear n0_ n1_ n2_ n3_ n4_ n5_ n6_; clear hb hbox hg; have hnb4 := NB144_145.out; have hnc4 := NB145_144.out; have hcz5_0 : w3.cell? ⟨gb144, 0, none⟩ = some (.int .i64 a0_0) := (blk_cell BK144.out 0).trans rfl; have hcz5_1 : w3.cell? ⟨gb144, 1, none⟩ = some (.int .i64 a0_1) := (blk_cell BK144.out 1).trans rfl; have hcz5_2 : w3.cell? ⟨gb144, 2, none⟩ = some (.slice A0_2 l0_2.length c0_2) := (blk_cell BK144.out 2).trans rfl; have hfz5_0 := blk_frozen BK144.out 0; have hfz5_1 := blk_frozen BK144.out 1; have hfz5_2 := blk_frozen BK144.out 2; have hcz6_0 : w3.cell? ⟨gb145, 0, none⟩ = some (.int .i64 0) := (blk_cell BK145.out 0).trans rfl; have hcz6_1 : w3.cell? ⟨gb145, 1, none⟩ = some (.int .i64 0) := (blk_cell BK145.out 1).trans rfl; have hcz6_2 : w3.cell? ⟨gb145, 2, none⟩ = some (.int .i64 0) := (blk_cell BK145.out 2).trans rfl; have hcz6_3 : w3.cell? ⟨gb145, 3, none⟩ = some (.int .i64 0) := (blk_cell BK145.out 3).trans rfl; have hfz6_0 := blk_frozen BK145.out 0; have hfz6_1 := blk_frozen BK145.out 1; have hfz6_2 := blk_frozen BK145.out 2; have hfz6_3 := blk_frozen BK145.out 3))
  refine bodyPost_ret (results_cell_row rfl _ _ gb145 47 #[.int .i64 0, .int .i64 0, .int .i64 a0_0, .int .i64 a0_1] (0, 0) _ rfl (by (with_reducible repeat (first | refine blk_drewN ?_ _ | refine blk_drew ?_ | refine blk_alloc ?_ _)); refine blk_put (cs := #[.int .i64 0, .int .i64 0, .int .i64 a0_0, .int .i64 0]) ?_ 3 _ rfl; (with_reducible repeat (first | refine blk_drewN ?_ _ | refine blk_drew ?_ | refine blk_alloc ?_ _)); refine blk_put (cs := #[.int .i64 0, .int .i64 0, .int .i64 0, .int .i64 0]) ?_ 2 _ rfl; (with_reducible repeat (first | refine blk_drewN ?_ _ | refine blk_drew ?_ | refine blk_alloc ?_ _)); refine blk_put (cs := #[.int .i64 0, .int .i64 0, .int .i64 0, .int .i64 0]) ?_ 1 _ rfl; (with_reducible repeat (first | refine blk_drewN ?_ _ | refine blk_drew ?_ | refine blk_alloc ?_ _)); refine blk_put (cs := #[.int .i64 0, .int .i64 0, .int .i64 0, .int .i64 0]) ?_ 0 _ rfl; (with_reducible repeat (first | refine blk_drewN ?_ _ | refine blk_drew ?_ | refine blk_alloc ?_ _)); exact BK145.out) Try.underlying47 rfl (by kernel_rfl)) rfl ?_
  exact ⟨by first | rfl | (simp [errW_none, errW_some] <;> rfl) | (simp [*, errW_none, errW_some] <;> rfl), by repeat (first | (with_reducible first | exact HB.out | apply below_alloc | apply pw_below_drewN | apply below_drew1 | refine below_set ?_ GE144.out | refine below_set ?_ GE145.out) | exact HB.out)⟩
end Go.Proofs.Ytmockeaiccpogaa.All
end
section
namespace Go.Proofs.Ytmockeaiccpogaa.All
open Go.RowKit Go.Proofs.YtmockeaiccpogaaW.PrintWords Go.Proofs.YtmockeaiccpogaaW.PrintLast Go.Proofs.YtmockeaiccpogaaW.PrintMore
attribute [local go_sem] max2_int min2_int max_two min_two max_three min_three max_four min_four
set_option linter.unusedVariables false
set_option linter.unusedSimpArgs false
section
open Go.Proofs.YtmockeaiccpogaaHand Go.Proofs.YtmockeaiccpogaaSq
def buffer_runs.upd (l : List S47) (e : Int) : List S47 := l.set ((l.length : Int) - 1).toNat ⟨(rd_T47 l ((l.length : Int) - 1)).f0, (rd_T47 l ((l.length : Int) - 1)).f1, e, (rd_T47 l ((l.length : Int) - 1)).f3⟩
def buffer_runs.stp (p : Nat → Bool) (w0 y : Nat) (s : List S47 × Bool) (x : Nat) : List S47 × Bool :=
  if p (y * w0 + x) = true then (buffer_runs.upd (if s.2 = true then s.1 else s.1 ++ [⟨x, y, x, (y : Int) + 1⟩]) ((x : Int) + 1), true) else (s.1, false)
def buffer_runs.row (p : Nat → Bool) (w0 y : Nat) (l : List S47) (n : Nat) : List S47 × Bool := (List.range n).foldl (buffer_runs.stp p w0 y) (l, false)
def buffer_runs.all (p : Nat → Bool) (w0 n : Nat) : List S47 := (List.range n).foldl (fun l y => (buffer_runs.row p w0 y l w0).1) []
theorem buffer_runs.row_succ (p : Nat → Bool) (w0 y : Nat) (l : List S47) (n : Nat) : buffer_runs.row p w0 y l (n + 1) = buffer_runs.stp p w0 y (buffer_runs.row p w0 y l n) n := by
  unfold buffer_runs.row
  rw [List.range_succ, List.foldl_append]
  rfl
theorem buffer_runs.row_zero (p : Nat → Bool) (w0 y : Nat) (l : List S47) : buffer_runs.row p w0 y l 0 = (l, false) := rfl
theorem buffer_runs.all_succ (p : Nat → Bool) (w0 n : Nat) : buffer_runs.all p w0 (n + 1) = (buffer_runs.row p w0 n (buffer_runs.all p w0 n) w0).1 := by
  unfold buffer_runs.all
  rw [List.range_succ, List.foldl_append]
  rfl
theorem buffer_runs.upd_length (l : List S47) (e : Int) : (buffer_runs.upd l e).length = l.length := by rw [buffer_runs.upd, List.length_set]
theorem buffer_runs.prep {W : World} {base : Nat} {v : Value} {l : List S47} (hu : Kd.R k47 47 W base (fun _ => True) v l) (hpos : 0 < l.length) {j : Int} (hj : (l.length : Int) - 1 = j) (e : Int) :
    ∃ go co, v = .slice (some ⟨go, 0, none⟩) l.length co ∧ base ≤ go ∧ 0 ≤ j ∧ j < (l.length : Int) ∧ W.cell? ⟨go, j.toNat * 4 + 2, none⟩ = some (.int .i64 (rd_T47 l j).f2) ∧ W.frozen? ⟨go, j.toNat * 4 + 2, none⟩ = false ∧ Kd.R k47 47 (W.setCell ⟨go, j.toNat * 4 + 2, none⟩ (.int .i64 e)) base (fun _ => True) (.slice (some ⟨go, 0, none⟩) l.length co) (buffer_runs.upd l e) := by
  have pj : 0 ≤ j := by omega
  have qj : j < (l.length : Int) := by omega
  obtain ⟨Ao, co, eo⟩ := Kd.R_slice hu
  subst eo
  obtain ⟨go, co', eo, gb, gl, cl, HG⟩ := Kd.R_form hu (by omega)
  injection eo with ea en ec
  subst ea ec
  obtain ⟨ce, hcl2, hM2, hcc2, hfr2⟩ := Kd.R_elem hu z47 j pj qj
  obtain rfl := k47_openM hM2
  have HP := Kd.R_seg hu j pj qj (seg := [.int .i64 e]) (j := 2) hcl2 hcc2 (show 3 ≤ 4 from by decide) (x' := (⟨(rd_T47 l j).f0, (rd_T47 l j).f1, e, (rd_T47 l j).f3⟩ : S47)) (k47_mkM _ _ _ (⟨(rd_T47 l j).f0, (rd_T47 l j).f1, e, (rd_T47 l j).f3⟩ : S47)) (fun _ hk => hk)
  have hU : buffer_runs.upd l e = l.set j.toNat ⟨(rd_T47 l j).f0, (rd_T47 l j).f1, e, (rd_T47 l j).f3⟩ := by unfold buffer_runs.upd; rw [hj]
  rw [hU]
  exact ⟨go, co, rfl, gb, pj, qj, hcc2 2 _ rfl, hfr2 2, HP.1⟩
set_option maxHeartbeats 4000000 in
theorem buffer_runs.calls (f : FuncId) (fn : Func) (caps : Array Value) (hf : Try.prog.funcs[f]? = some fn) (hname : (fn.name == "runtime.NumGoroutine") = false) (hbody : fn.body.isSome = true)
    (w0 h0 : Nat) (hw0 : w0 ≤ 256) (hh0 : h0 ≤ 256) (p : Nat → Bool) (w : World)
    (hcl : ∀ (i : Nat) (W : World), i < w0 * h0 → Below w.heap.size w W → Calls Try.prog f (#[.int .i64 i] ++ caps) W fun e w' => e = .returned (.bool (p i)) ∧ Below W.heap.size W w') :
    Calls Try.prog 44 #[.int .i64 w0, .int .i64 h0, .func (.func f) #[] caps] w fun e w' => ∃ v, e = .returned (.tuple #[v, .int .i64 (if (buffer_runs.all p w0 h0).length > 256 then 5 else 0)]) ∧ Kd.R k47 47 w' w.heap.size (fun _ => True) v (if (buffer_runs.all p w0 h0).length > 256 then [] else buffer_runs.all p w0 h0) ∧ Below w.heap.size w w' := by
  have hB := Aside0.mk (Below.refl w.heap.size w)
  go_enter Try.func44, Try.ntmps44
  go_wp2_with fail
  go_loopw [8, 13] (fun u v w' => ∃ (y : Nat), y ≤ h0 ∧ v = .int .i64 y ∧ Aside0 (Kd.R k47 47 w' w.heap.size (fun _ => True) u (buffer_runs.all p w0 y)) ∧ Aside0 ((buffer_runs.all p w0 y).length ≤ y * 256) ∧ Aside0 (Below w.heap.size w w')) (fun _ v _ => h0 - (intOf v).toNat)
  case atStart => exact ⟨0, Nat.zero_le _, rfl, ⟨Kd.R_nil _ _ _ _ _⟩, ⟨Nat.le_refl 0⟩, hB⟩
  case round =>
    clear hB
    obtain ⟨y, hy, rfl, hu, hL, hB⟩ := hrel
    by_cases hlt : y < h0
    · have hlt' : (y : Int) < (h0 : Int) := by omega
      go_wp2_with fail
      go_loopw [8, 10, 17] (fun u o v w' => ∃ (x : Nat), x ≤ w0 ∧ o = .bool (buffer_runs.row p w0 y (buffer_runs.all p w0 y) x).2 ∧ v = .int .i64 x ∧ Aside0 (Kd.R k47 47 w' w.heap.size (fun _ => True) u (buffer_runs.row p w0 y (buffer_runs.all p w0 y) x).1) ∧ Aside0 ((buffer_runs.row p w0 y (buffer_runs.all p w0 y) x).1.length ≤ y * 256 + x ∧ ((buffer_runs.row p w0 y (buffer_runs.all p w0 y) x).2 = true → 0 < (buffer_runs.row p w0 y (buffer_runs.all p w0 y) x).1.length)) ∧ Aside0 (Below w.heap.size w w')) (fun _ _ v _ => w0 - (intOf v).toNat)
      case atStart =>
        refine ⟨0, Nat.zero_le _, ?_, rfl, ?_, ?_, hB⟩ <;> rw [buffer_runs.row_zero]
        · exact hu
        · exact ⟨⟨Nat.le_trans hL.out (Nat.le_add_right _ _), fun h => Bool.noConfusion h⟩⟩
      case round =>
        clear hB hu hL
        obtain ⟨x, hx, rfl, rfl, hu, hL, hB⟩ := hrel
        have hE := Aside0.mk (buffer_runs.row_succ p w0 y (buffer_runs.all p w0 y) x)
        by_cases hxl : x < w0
        · have hxl' : (x : Int) < (w0 : Int) := by omega
          have hi : y * w0 + x < w0 * h0 := by
            have m : (y + 1) * w0 ≤ h0 * w0 := Nat.mul_le_mul_right _ hlt
            rw [Nat.succ_mul] at m
            rw [Nat.mul_comm w0 h0]
            omega
          have hw1 : wrap64 (wrap64 ((y : Int) * (w0 : Int)) + (x : Int)) = ((y * w0 + x : Nat) : Int) := by
            have m : y * w0 ≤ 256 * 256 := Nat.mul_le_mul (by omega) hw0
            rw [Int.natCast_add, Int.natCast_mul]
            have m2 : (y : Int) * (w0 : Int) ≤ 65536 := by rw [← Int.natCast_mul]; omega
            have m3 : 0 ≤ (y : Int) * (w0 : Int) := by rw [← Int.natCast_mul]; omega
            have e1 : wrap64 ((y : Int) * (w0 : Int)) = (y : Int) * (w0 : Int) := by unfold wrap64; omega
            rw [e1]
            unfold wrap64
            omega
          have hi' := Aside0.mk hi
          clear hi
          go_wp2_with fail
          have hc := hcl (y * w0 + x) wr hi'.out hB.out
          rw [Int.natCast_add, Int.natCast_mul] at hc
          rw [enters_ hf hname hbody]
          refine hc.mono ?_
          rintro e w1 ⟨rfl, hb1⟩
          replace hu := Aside0.mk (Kd.R_below hu.out hb1)
          replace hB := Aside0.mk (below_step hB.out hb1)
          clear hb1 hc
          generalize hs : buffer_runs.row p w0 y (buffer_runs.all p w0 y) x = s at hu hL hE ⊢
          obtain ⟨l, o⟩ := s
          have hxm : x + 1 ≤ w0 := hxl
          cases hp : p (y * w0 + x) with
          | false =>
            have hE2 : buffer_runs.row p w0 y (buffer_runs.all p w0 y) (x + 1) = (l, false) := by rw [hE.out, buffer_runs.stp, hp]; rfl
            go_wp2
            go_roundw
            case measure => simp [intOf]; omega
            case rel => exact ⟨x + 1, hxm, by rw [hE2], by go_num, by rw [hE2]; exact hu, by rw [hE2]; exact ⟨⟨Nat.le_succ_of_le hL.out.1, fun h => Bool.noConfusion h⟩⟩, hB⟩
          | true =>
            have hX := Aside0.mk hw0
            cases o with
            | true =>
              have hE2 : buffer_runs.row p w0 y (buffer_runs.all p w0 y) (x + 1) = (buffer_runs.upd l ((x : Int) + 1), true) := by rw [hE.out, buffer_runs.stp, hp]; rfl
              have hlen : 0 < l.length := hL.out.2 rfl
              have hlen2 : l.length ≤ y * 256 + x := hL.out.1
              have hu' : Aside0 (Kd.R k47 47 w1 w.heap.size (fun _ => True) u8 l) := hu
              clear hu
              have ej : wrap64 ((l.length : Int) - 1) = (l.length : Int) - 1 := by unfold wrap64; omega
              have ex : wrap64 ((x : Int) + 1) = (x : Int) + 1 := by unfold wrap64; omega
              obtain ⟨j, hj⟩ : ∃ j : Int, (l.length : Int) - 1 = j := ⟨_, rfl⟩
              replace ej := ej.trans hj
              obtain ⟨go, co, eo, GB0, pj, qj, hx2, hf2, HP0⟩ := buffer_runs.prep hu'.out hlen hj ((x : Int) + 1)
              subst eo
              have HP := Aside0.mk HP0
              have GB := Aside0.mk GB0
              have hLL := Aside0.mk (And.intro hlen hlen2)
              replace pj := eq_true pj
              replace qj := eq_true qj
              clear hlen hlen2 hj hw1 HP0 GB0 hu'
              go_wp2_with (first | ((with_reducible refine gate_store (t := 3) (p := 46) rfl ?_); refine store_event (t := 3) (p := 46) (v := ?vo_w) (w1 := (w1.setCell ⟨go, j.toNat * 4 + 2, none⟩ (.int .i64 ((x : Int) + 1)))) ?hg ?ho ?hn ?hr ?_; (case ho => rfl); (case hg => rfl); (case hn => rfl); (case hr => first | (go_simp; done) | (go_simp; rfl)); intro w23 hw; replace HP := Aside0.mk (by rw [hw]; exact HP.out : Kd.R k47 47 w23 w.heap.size (fun _ => True) (.slice (some ⟨go, 0, none⟩) l.length co) (buffer_runs.upd l ((x : Int) + 1))); replace hB := Aside0.mk ((by rw [hw]; exact below_set (hB.out) GB.out : Below w.heap.size w w23)); clear hw))
              go_roundw
              case measure => simp [intOf]; omega
              case rel => exact ⟨x + 1, hxm, by rw [hE2], by go_num, by rw [hE2]; exact HP, by rw [hE2]; exact ⟨⟨by rw [buffer_runs.upd_length]; exact Nat.le_succ_of_le hLL.out.2, fun _ => by rw [buffer_runs.upd_length]; exact hLL.out.1⟩⟩, hB⟩
            | false =>
              obtain ⟨l1, hl1⟩ : ∃ l1 : List S47, l1 = l ++ [⟨x, y, x, (y : Int) + 1⟩] := ⟨_, rfl⟩
              have hE2 : buffer_runs.row p w0 y (buffer_runs.all p w0 y) (x + 1) = (buffer_runs.upd l1 ((x : Int) + 1), true) := by rw [hE.out, buffer_runs.stp, hp, hl1]; rfl
              have hn1 : l1.length = l.length + 1 := by rw [hl1]; simp
              have hlen2 : l.length ≤ y * 256 + x := hL.out.1
              have hb4 : (l.length + 1) * 32 ≤ 140737488355328 := Nat.le_trans (Nat.mul_le_mul_right 32 (show l.length + 1 ≤ 65793 by omega)) (by decide)
              have ej : wrap64 ((l1.length : Int) - 1) = (l1.length : Int) - 1 := by unfold wrap64; omega
              have ex : wrap64 ((x : Int) + 1) = (x : Int) + 1 := by unfold wrap64; omega
              have ey : wrap64 ((y : Int) + 1) = (y : Int) + 1 := by unfold wrap64; omega
              have hlen : 0 < l1.length := by omega
              obtain ⟨j, hj⟩ : ∃ j : Int, (l1.length : Int) - 1 = j := ⟨_, rfl⟩
              replace ej := ej.trans hj
              have HB4 := Aside0.mk hb4
              have HL1 := Aside0.mk hl1
              have HJ := Aside0.mk (And.intro hlen hj)
              have hLL := Aside0.mk (And.intro hlen (show l1.length ≤ y * 256 + (x + 1) by omega))
              clear hl1 hlen hlen2 hn1 hb4 hj hw1
              go_wp2_with (first | ((with_reducible refine gate_builtin (b := .append) (xs := #[.tmp 30, .tmp 37]) rfl ?_); at_builtin; refine Kd.R_append k47 (w0 := w) w.heap.size rfl (.tmp 30) (.tmp 37) 33 47 (.agg #[(.int .i64 0), (.int .i64 0), (.int .i64 0), (.int .i64 0)]) 32 rfl Try.underlying33 info47 rfl (by decide) (by omega) u8 l (⟨x, y, x, (y : Int) + 1⟩ : S47) [.int .i64 x, .int .i64 y, .int .i64 x, .int .i64 ((y : Int) + 1)] (fun _ => True) (fun _ => False) rfl rfl ?aP (fun _ hk => hk.elim) ?aF ?aO ?aB ?aS ?aL ?_; (case aP => exact k47_mkM _ _ _ (⟨x, y, x, (y : Int) + 1⟩ : S47)); (case aB => exact hB.out); (case aF => exact (fun _ _ => trivial)); (case aO => exact hu.out); (case aS => exact below_size hB.out); (case aL => exact HB4.out); intro v4 w4 ho hb hg hat; rw [← HL1.out] at ho; replace hB := Aside0.mk hb; obtain ⟨go, co, eo, GB0, pj, qj, hx2, hf2, HP0⟩ := buffer_runs.prep ho HJ.out.1 HJ.out.2 ((x : Int) + 1); subst eo; have HP := Aside0.mk HP0; have GB := Aside0.mk GB0; replace pj := eq_true pj; replace qj := eq_true qj; clear ho hb hg hat HP0 GB0) | ((with_reducible refine gate_store (t := 3) (p := 46) rfl ?_); refine store_event (t := 3) (p := 46) (v := ?vo_w) (w1 := (w4.setCell ⟨go, j.toNat * 4 + 2, none⟩ (.int .i64 ((x : Int) + 1)))) ?hg ?ho ?hn ?hr ?_; (case ho => rfl); (case hg => rfl); (case hn => rfl); (case hr => first | (go_simp; done) | (go_simp; rfl)); intro w23 hw; replace HP := Aside0.mk (by rw [hw]; exact HP.out : Kd.R k47 47 w23 w.heap.size (fun _ => True) (.slice (some ⟨go, 0, none⟩) l1.length co) (buffer_runs.upd l1 ((x : Int) + 1))); replace hB := Aside0.mk ((by rw [hw]; exact below_set (hB.out) GB.out : Below w.heap.size w w23)); clear hw))
              go_roundw
              case measure => simp [intOf]; omega
              case rel => exact ⟨x + 1, hxm, by rw [hE2], by go_num, by rw [hE2]; exact HP, by rw [hE2]; exact ⟨⟨by rw [buffer_runs.upd_length]; exact hLL.out.2, fun _ => by rw [buffer_runs.upd_length]; exact hLL.out.1⟩⟩, hB⟩
        · obtain rfl : x = w0 := by omega
          go_wp2
          go_roundw
          case measure => simp [intOf]; omega
          case rel => exact ⟨y + 1, by omega, by go_num, ⟨by rw [buffer_runs.all_succ]; exact hu.out⟩, ⟨by rw [buffer_runs.all_succ]; have := hL.out.1; omega⟩, hB⟩
    · obtain rfl : y = h0 := by omega
      have hlen2 : (buffer_runs.all p w0 y).length ≤ y * 256 := hL.out
      obtain ⟨Ao, co, eo⟩ := Kd.R_slice hu.out
      subst eo
      by_cases hq : (buffer_runs.all p w0 y).length > 256
      · have hq' : (256 : Int) < ((buffer_runs.all p w0 y).length : Int) := by omega
        go_wp2
        go_ret2
        try simp only [if_pos hq]
        exact ⟨_, rfl, Kd.R_nil _ _ _ _ _, hB.out⟩
      · have hq' : ¬ (256 : Int) < ((buffer_runs.all p w0 y).length : Int) := by omega
        go_wp2
        go_ret2
        try simp only [if_neg hq]
        exact ⟨_, rfl, hu.out, hB.out⟩
end
end Go.Proofs.Ytmockeaiccpogaa.All
end
section
namespace Go.Proofs.Ytmockeaiccpogaa.All
open Go.RowKit Go.Proofs.YtmockeaiccpogaaW.PrintWords Go.Proofs.YtmockeaiccpogaaW.PrintLast Go.Proofs.YtmockeaiccpogaaW.PrintMore
attribute [local go_sem] max2_int min2_int max_two min_two max_three min_three max_four min_four
set_option linter.unusedVariables false
set_option linter.unusedSimpArgs false
section
open Go.Proofs.YtmockeaiccpogaaHand Go.Proofs.YtmockeaiccpogaaSq
attribute [local go_sem high] eqA43 eqA47
def buffer_Diff.ne (a b : S43) : Bool := (!(a.f0 == b.f0) || (!(a.f1 == b.f1) || (!(a.f2 == b.f2) || (!(a.f3 == b.f3)))))
def buffer_Diff.mk (a b : List S43) (i : Nat) : Bool := buffer_Diff.ne (rd_T43 a (i : Int)) (rd_T43 b (i : Int))
set_option maxHeartbeats 4000000 in
theorem buffer_Diff.lit_calls (W H : Int) (A B : Option Addr) (c d : Nat) (a b : List S43) (i : Nat) (ga gb : Nat) (w : World) (hA0 : Kd.C k43 w A a.length a) (hB0 : Kd.C k43 w B b.length b)
    (ha0 : w.heap[ga]? = some (.cells #[.int .i64 W, .int .i64 H, .slice A a.length c] 27 (0, 0))) (hb0 : w.heap[gb]? = some (.cells #[.int .i64 W, .int .i64 H, .slice B b.length d] 27 (0, 0)))
    (hia : i < a.length) (hib : i < b.length) :
    Calls Try.prog 45 #[.int .i64 i, .pointer (some ⟨ga, 0, none⟩), .pointer (some ⟨gb, 0, none⟩)] w fun e w' => e = .returned (.bool (buffer_Diff.mk a b i)) ∧ Below w.heap.size w w' := by
  have pa : (0 : Int) ≤ (i : Int) := by omega
  have qa : (i : Int) < (a.length : Int) := by omega
  have qb : (i : Int) < (b.length : Int) := by omega
  obtain ⟨ada, eA, a0, a1, a2, a3⟩ := at_T43 hA0 (i : Int) pa qa
  obtain ⟨adb, eB, b0, b1, b2, b3⟩ := at_T43 hB0 (i : Int) pa qb
  subst eA eB
  have x0 : w.cell? ⟨ga, 2, none⟩ = some (.slice (some ada) a.length c) := (blk_cell ha0 2).trans rfl
  have y0 : w.cell? ⟨gb, 2, none⟩ = some (.slice (some adb) b.length d) := (blk_cell hb0 2).trans rfl
  simp only [Int.toNat_natCast] at a0 a1 a2 a3 b0 b1 b2 b3
  replace pa := eq_true pa
  replace qa := eq_true qa
  replace qb := eq_true qb
  clear hA0 hB0 ha0 hb0
  go_enter Try.func45, Try.ntmps45
  go_wp2_with fail
  go_quiet (fail)
  go_wp2
  go_ret
  exact ⟨rfl, pw_below_drewN (Below.refl _ _) nq⟩
def buffer_Diff.f (a0_0 a0_1 : Int) (l0_2 : List S43) (a1_0 a1_1 : Int) (l1_2 : List S43) : Option (List S47 × Int) :=
  (buffer_Valid.f a0_0 a0_1 l0_2).bind fun s1 => if s1 = true then (buffer_Valid.f a1_0 a1_1 l1_2).bind fun s2 => if s2 = true then (if a0_0 = a1_0 ∧ a0_1 = a1_1 then some (if (buffer_runs.all (buffer_Diff.mk l0_2 l1_2) a0_0.toNat a0_1.toNat).length > 256 then [] else buffer_runs.all (buffer_Diff.mk l0_2 l1_2) a0_0.toNat a0_1.toNat, if (buffer_runs.all (buffer_Diff.mk l0_2 l1_2) a0_0.toNat a0_1.toNat).length > 256 then 5 else 0) else some ([], 2)) else some ([], 15) else some ([], 15)
set_option maxHeartbeats 4000000 in
theorem buffer_Diff.calls (a0_0 : Int) (a0_1 : Int) (A0_2 : Option Addr) (c0_2 : Nat) (l0_2 : List (S43)) (a1_0 : Int) (a1_1 : Int) (A1_2 : Option Addr) (c1_2 : Nat) (l1_2 : List (S43)) (r1 : List (S47)) (r2 : Int) (w : World) (hr0_2 : Kd.C k43 w A0_2 l0_2.length l0_2) (hc0_2 : l0_2.length ≤ c0_2) (hr1_2 : Kd.C k43 w A1_2 l1_2.length l1_2) (hc1_2 : l1_2.length ≤ c1_2) (h : buffer_Diff.f a0_0 a0_1 l0_2 a1_0 a1_1 l1_2 = some (r1, r2)) :
    Calls Try.prog 17 #[.agg #[.int .i64 a0_0, .int .i64 a0_1, .slice A0_2 l0_2.length c0_2], .agg #[.int .i64 a1_0, .int .i64 a1_1, .slice A1_2 l1_2.length c1_2]] w fun e w' => ∃ v1_ : Value, e = .returned (.tuple #[v1_, .int .i64 r2]) ∧ Kd.R k47 47 w' w.heap.size (fun _ => True) v1_ r1 ∧ Below w.heap.size w w' := by
  replace h := Option.bind_eq_some_iff.mp h
  obtain ⟨s1, hs1, h⟩ := h
  have hs := Aside0.mk hs1
  clear hs1
  go_enter Try.func17, Try.ntmps17
  go_wp2_with fail
  obtain ⟨ha0, hb0, hB0⟩ := allocs2 w (Obj.cells #[.int .i64 a0_0, .int .i64 a0_1, .slice A0_2 l0_2.length c0_2] 27) (Obj.cells #[.int .i64 a1_0, .int .i64 a1_1, .slice A1_2 l1_2.length c1_2] 27)
  generalize (w.alloc (Obj.cells #[.int .i64 a0_0, .int .i64 a0_1, .slice A0_2 l0_2.length c0_2] 27)).alloc (Obj.cells #[.int .i64 a1_0, .int .i64 a1_1, .slice A1_2 l1_2.length c1_2] 27) = V at ha0 hb0 hB0 ⊢
  have hC := Aside0.mk (Kd.C_below hr0_2 hB0)
  have hD := Aside0.mk (Kd.C_below hr1_2 hB0)
  have ha := Aside0.mk ha0
  have hb := Aside0.mk hb0
  have hB := Aside0.mk hB0
  clear ha0 hb0 hB0 hr0_2 hr1_2
  refine (buffer_Valid.calls a0_0 a0_1 A0_2 c0_2 l0_2 s1 V hC.out hc0_2 hs.out).mono ?_
  rintro e w1 ⟨rfl, hb1⟩
  replace ha := Aside0.mk (blk_below ha.out hb1)
  replace hb := Aside0.mk (blk_below hb.out hb1)
  replace hC := Aside0.mk (Kd.C_below hC.out hb1)
  replace hD := Aside0.mk (Kd.C_below hD.out hb1)
  replace hB := Aside0.mk (below_step hB.out hb1)
  clear hb1
  have x0 := (blk_cell ha.out 0).trans rfl
  have x1 := (blk_cell ha.out 1).trans rfl
  have x2 := (blk_cell ha.out 2).trans rfl
  have y0 := (blk_cell hb.out 0).trans rfl
  have y1 := (blk_cell hb.out 1).trans rfl
  have y2 := (blk_cell hb.out 2).trans rfl
  cases s1 with
  | false =>
    obtain ⟨rfl, rfl⟩ : [] = r1 ∧ 15 = r2 := by simpa using h
    clear h
    go_wp2
    go_ret2
    exact ⟨_, rfl, Kd.R_nil _ _ _ _ _, hB.out⟩
  | true =>
    rw [if_pos rfl] at h
    replace h := Option.bind_eq_some_iff.mp h
    obtain ⟨s2, hs2, h⟩ := h
    have hs' := Aside0.mk hs2
    clear hs2
    go_wp2_with fail
    refine (buffer_Valid.calls a1_0 a1_1 A1_2 c1_2 l1_2 s2 w1 hD.out hc1_2 hs'.out).mono ?_
    rintro e w2 ⟨rfl, hb1⟩
    replace ha := Aside0.mk (blk_below ha.out hb1)
    replace hb := Aside0.mk (blk_below hb.out hb1)
    replace hC := Aside0.mk (Kd.C_below hC.out hb1)
    replace hD := Aside0.mk (Kd.C_below hD.out hb1)
    replace hB := Aside0.mk (below_step hB.out hb1)
    clear hb1 x0 x1 x2 y0 y1 y2
    cases s2 with
    | false =>
      obtain ⟨rfl, rfl⟩ : [] = r1 ∧ 15 = r2 := by simpa using h
      clear h
      go_wp2
      go_ret2
      exact ⟨_, rfl, Kd.R_nil _ _ _ _ _, hB.out⟩
    | true =>
      rw [if_pos rfl] at h
      try go_wp2
      replace ha := Aside0.mk (blk_drew ha.out)
      replace hb := Aside0.mk (blk_drew hb.out)
      replace hC := Aside0.mk (Kd.C_drew hC.out)
      replace hD := Aside0.mk (Kd.C_drew hD.out)
      replace hB := Aside0.mk (below_drew1 hB.out)
      refine start_ (n := 6) (S := fun w' => w'.cell? ⟨w.heap.size, 0, none⟩ = some (.int .i64 a0_0) ∧ w'.cell? ⟨w.heap.size, 1, none⟩ = some (.int .i64 a0_1) ∧ w'.cell? ⟨w.heap.size, 2, none⟩ = some (.slice A0_2 l0_2.length c0_2) ∧ w'.cell? ⟨w.heap.size + 1, 0, none⟩ = some (.int .i64 a1_0) ∧ w'.cell? ⟨w.heap.size + 1, 1, none⟩ = some (.int .i64 a1_1) ∧ w'.cell? ⟨w.heap.size + 1, 2, none⟩ = some (.slice A1_2 l1_2.length c1_2)) (ds := []) #[false, false, false, false, false, false] (by kernel_rfl) rfl rfl ⟨(blk_cell ha.out 0).trans rfl, (blk_cell ha.out 1).trans rfl, (blk_cell ha.out 2).trans rfl, (blk_cell hb.out 0).trans rfl, (blk_cell hb.out 1).trans rfl, (blk_cell hb.out 2).trans rfl⟩ (fun hHeld => ?_)
      generalize w2.drew = w3 at ha hb hC hD hB hHeld ⊢
      refine take_ (i := 0) (N := some 16) (v := ?_) (a' := ?_) #[true, false, false, false, false, false] rfl rfl (by kernel_rfl) (fun _ _ _ h => h) (Or.inl ⟨by rfl, ?_⟩) hHeld ?_ ?_
      rotate_left
      · rintro w' ⟨s0, s1, s2, s3, s4, s5⟩
        go_simp
        with_reducible rfl
      rotate_left
      · simp only [Act.put, List.setIfInBounds_toArray, List.set_cons_zero, List.set_cons_succ, i64_w, i32_w]
        rfl
      refine take_ (i := 2) (N := some 18) (v := ?_) (a' := ?_) #[true, false, true, false, false, false] rfl rfl (by kernel_rfl) (fun _ _ _ h => h) (Or.inl ⟨by rfl, ?_⟩) hHeld ?_ ?_
      rotate_left
      · rintro w' ⟨s0, s1, s2, s3, s4, s5⟩
        go_simp
        with_reducible rfl
      rotate_left
      · simp only [Act.put, List.setIfInBounds_toArray, List.set_cons_zero, List.set_cons_succ, i64_w, i32_w]
        rfl
      refine one_ (i := 1) (N := some 17) #[true, true, true, false, false, false] rfl rfl (by kernel_rfl) (by decide) (fun K hK => ?_)
      refine goes_ Try.func43 (by kernel_rfl) rfl #[.agg #[.int .i64 a0_0, .int .i64 a0_1, .slice A0_2 l0_2.length c0_2]] (by rfl) rfl rfl (by (try simp only [List.map_toArray, List.map_cons, List.map_nil]); first | done | rfl) ?_
      refine (buffer_frame.calls a0_0 a0_1 _ _ l0_2 0 0 a0_0 a0_1 _ hC.out hc0_2 rfl).mono ?_
      rintro e w4 ⟨rfl, hb1⟩
      refine ⟨_, rfl, ?_⟩
      replace ha := Aside0.mk (blk_below ha.out hb1)
      replace hb := Aside0.mk (blk_below hb.out hb1)
      replace hC := Aside0.mk (Kd.C_below hC.out hb1)
      replace hD := Aside0.mk (Kd.C_below hD.out hb1)
      replace hB := Aside0.mk (below_step hB.out hb1)
      clear hb1
      refine hK.out _ _ ⟨(blk_cell ha.out 0).trans rfl, (blk_cell ha.out 1).trans rfl, (blk_cell ha.out 2).trans rfl, (blk_cell hb.out 0).trans rfl, (blk_cell hb.out 1).trans rfl, (blk_cell hb.out 2).trans rfl⟩ (fun hHeld => ?_)
      clear hK K
      refine norm_ (a' := ?_) ?_ ?_
      rotate_left
      · show Act.put _ (some 17) _ = _
        simp only [Act.put, List.setIfInBounds_toArray, List.set_cons_zero, List.set_cons_succ, i64_w, i32_w]
        rfl
      refine one_ (i := 3) (N := some 19) #[true, true, true, true, false, false] rfl rfl (by kernel_rfl) (by decide) (fun K hK => ?_)
      refine goes_ Try.func43 (by kernel_rfl) rfl #[.agg #[.int .i64 a1_0, .int .i64 a1_1, .slice A1_2 l1_2.length c1_2]] (by rfl) rfl rfl (by (try simp only [List.map_toArray, List.map_cons, List.map_nil]); first | done | rfl) ?_
      refine (buffer_frame.calls a1_0 a1_1 _ _ l1_2 0 0 a1_0 a1_1 _ hD.out hc1_2 rfl).mono ?_
      rintro e w5 ⟨rfl, hb1⟩
      refine ⟨_, rfl, ?_⟩
      replace ha := Aside0.mk (blk_below ha.out hb1)
      replace hb := Aside0.mk (blk_below hb.out hb1)
      replace hC := Aside0.mk (Kd.C_below hC.out hb1)
      replace hD := Aside0.mk (Kd.C_below hD.out hb1)
      replace hB := Aside0.mk (below_step hB.out hb1)
      clear hb1
      refine hK.out _ _ ⟨(blk_cell ha.out 0).trans rfl, (blk_cell ha.out 1).trans rfl, (blk_cell ha.out 2).trans rfl, (blk_cell hb.out 0).trans rfl, (blk_cell hb.out 1).trans rfl, (blk_cell hb.out 2).trans rfl⟩ (fun hHeld => ?_)
      clear hK K
      refine norm_ (a' := ?_) ?_ ?_
      rotate_left
      · show Act.put _ (some 19) _ = _
        simp only [Act.put, List.setIfInBounds_toArray, List.set_cons_zero, List.set_cons_succ, i64_w, i32_w]
        rfl
      refine pure_ (i := 4) (N := some 20) (v := ?_) (a' := ?_) #[true, true, true, true, true, false] rfl rfl (by kernel_rfl) (fun _ _ _ h => h) (Or.inl ⟨by rfl, ?_⟩) ?_ ?_
      rotate_left
      · intro w'
        go_simp
        with_reducible rfl
      rotate_left
      · simp only [Act.put, List.setIfInBounds_toArray, List.set_cons_zero, List.set_cons_succ, i64_w, i32_w]
        rfl
      refine pure_ (i := 5) (N := some 15) (v := ?_) (a' := ?_) #[true, true, true, true, true, true] rfl rfl (by kernel_rfl) (fun _ _ _ h => h) (Or.inl ⟨by rfl, ?_⟩) ?_ ?_
      rotate_left
      · intro w'
        go_simp
        with_reducible rfl
      rotate_left
      · simp only [Act.put, List.setIfInBounds_toArray, List.set_cons_zero, List.set_cons_succ, i64_w, i32_w]
        rfl
      refine done_ (by kernel_rfl) ?_
      by_cases hq : a0_0 = a1_0 ∧ a0_1 = a1_1
      · rw [if_pos hq] at h
        obtain ⟨rfl, rfl⟩ := hq
        simp only [Option.some.injEq, Prod.mk.injEq] at h
        have hr := Aside0.mk h
        clear h
        have hq2 : (!(a0_0 == a0_0) || (!(a0_1 == a0_1))) = false := by simp
        rw [hq2]
        have x0 := (blk_cell ha.out 0).trans rfl
        have x1 := (blk_cell ha.out 1).trans rfl
        go_wp2_with fail
        obtain ⟨hW, hH, hl⟩ := buffer_Valid.of_valid hs.out
        obtain ⟨_, _, hl'⟩ := buffer_Valid.of_valid hs'.out
        obtain ⟨n, hn⟩ : ∃ n : Nat, a0_0 = n := ⟨a0_0.toNat, by omega⟩
        obtain ⟨m, hm⟩ : ∃ m : Nat, a0_1 = m := ⟨a0_1.toNat, by omega⟩
        subst hn hm
        rw [← Int.natCast_mul] at hl hl'
        refine (buffer_runs.calls 45 Try.f45 #[.pointer (some ⟨w.heap.size, 0, none⟩), .pointer (some ⟨w.heap.size + 1, 0, none⟩)] Try.func45 (by kernel_rfl) rfl n m (by omega) (by omega) (buffer_Diff.mk l0_2 l1_2) w5 ?cl).mono ?_
        case cl =>
          intro i W1 hi hb1
          exact buffer_Diff.lit_calls n m A0_2 A1_2 c0_2 c1_2 l0_2 l1_2 i w.heap.size (w.heap.size + 1) W1 (Kd.C_below hC.out hb1) (Kd.C_below hD.out hb1) (blk_below ha.out hb1) (blk_below hb.out hb1) (by omega) (by omega)
        rintro e w6 ⟨v, rfl, hv, hb2⟩
        have hV := Aside0.mk (Kd.R_lower hv hB.out.size)
        replace hB := Aside0.mk (below_step hB.out hb2)
        clear hv hb2
        obtain ⟨q2, hq2⟩ : ∃ q : Int, (if (buffer_runs.all (buffer_Diff.mk l0_2 l1_2) n m).length > 256 then (5 : Int) else 0) = q := ⟨_, rfl⟩
        rw [hq2]
        have he2 := Aside0.mk hq2.symm
        clear hq2
        go_wp2
        go_ret2
        have e1 : (if (buffer_runs.all (buffer_Diff.mk l0_2 l1_2) n m).length > 256 then [] else buffer_runs.all (buffer_Diff.mk l0_2 l1_2) n m) = r1 := hr.out.1
        have e2 : (if (buffer_runs.all (buffer_Diff.mk l0_2 l1_2) n m).length > 256 then (5 : Int) else 0) = r2 := hr.out.2
        exact ⟨v, by rw [he2.out, e2]; rfl, by rw [← e1]; exact hV.out, hB.out⟩
      · rw [if_neg hq] at h
        obtain ⟨rfl, rfl⟩ : [] = r1 ∧ 2 = r2 := by simpa using h
        have hq2 : (!(a0_0 == a1_0) || (!(a0_1 == a1_1))) = true := by
          by_cases e : a0_0 = a1_0
          · have e2 : ¬ a0_1 = a1_1 := fun h => hq ⟨e, h⟩
            simp [e2]
          · simp [e]
        rw [hq2]
        go_wp2
        go_ret2
        exact ⟨_, rfl, Kd.R_nil _ _ _ _ _, hB.out⟩
end
end Go.Proofs.Ytmockeaiccpogaa.All
end
section
namespace Go.Proofs.Ytmockeaiccpogaa.All
open Go.RowKit Go.Proofs.YtmockeaiccpogaaW.PrintWords Go.Proofs.YtmockeaiccpogaaW.PrintLast Go.Proofs.YtmockeaiccpogaaW.PrintMore
attribute [local go_sem] max2_int min2_int max_two min_two max_three min_three max_four min_four
set_option linter.unusedVariables false
set_option linter.unusedSimpArgs false
def rect_valid.f (a0 : Int) : Option (Bool) := if a0 ≥ (-16384) then (some (decide (a0 ≤ 16384))) else (some false)
set_option maxHeartbeats 8000000 in
set_option maxRecDepth 100000 in
theorem rect_valid.calls (a0 : Int) (r : Bool) (w : World) (h : rect_valid.f a0 = some r) :
    Calls Try.prog 74 #[.int .i64 a0] w fun e w' => e = .returned (.bool r) ∧ Drawn0 w w' := by
  have H : (if a0 ≥ (-16384) then (some (decide (a0 ≤ 16384))) else (some false)) = some r := h
  clear h
  by_cases c2 : a0 ≥ (-16384)
  · rw [if_pos c2] at H
    have c2b0 : decide ((-16384) ≤ a0) = true := decide_eq_true c2
    clear c2
    obtain rfl := Option.some.inj H
    go_enter Try.func74, Try.ntmps74
    go_wp2
    go_ret
    exact ⟨by first | rfl | (simp; done) | (simp [*]; done), by repeat (first | exact Drawn0.refl _ | apply Drawn0.step)⟩
  · rw [if_neg c2] at H
    have c2b0 : decide ((-16384) ≤ a0) = false := decide_eq_false c2
    clear c2
    obtain rfl := Option.some.inj H
    go_enter Try.func74, Try.ntmps74
    go_wp2
    go_ret
    exact ⟨by first | rfl | (simp; done) | (simp [*]; done), by repeat (first | exact Drawn0.refl _ | apply Drawn0.step)⟩
def rect_Valid.f (a0_0 : Int) (a0_1 : Int) (a0_2 : Int) (a0_3 : Int) : Option (Bool) := (rect_valid.f a0_0).bind fun t147 => (if t147 = true then ((rect_valid.f a0_1).bind fun t148 => (if t148 = true then ((rect_valid.f a0_2).bind fun t149 => (if t149 = true then ((rect_valid.f a0_3).bind fun t150 => (some t150)) else (some false))) else (some false))) else (some false))
set_option maxHeartbeats 8000000 in
set_option maxRecDepth 100000 in
theorem rect_Valid.calls (a0_0 : Int) (a0_1 : Int) (a0_2 : Int) (a0_3 : Int) (r : Bool) (w : World) (h : rect_Valid.f a0_0 a0_1 a0_2 a0_3 = some r) :
    Calls Try.prog 66 #[.agg #[.int .i64 a0_0, .int .i64 a0_1, .int .i64 a0_2, .int .i64 a0_3]] w fun e w' => e = .returned (.bool r) ∧ Below w.heap.size w w' := by
  have hu47 := Try.underlying47
  have HB := Aside0.mk (Below.refl w.heap.size w)
  have H : ((rect_valid.f a0_0).bind fun t147 => (if t147 = true then ((rect_valid.f a0_1).bind fun t148 => (if t148 = true then ((rect_valid.f a0_2).bind fun t149 => (if t149 = true then ((rect_valid.f a0_3).bind fun t150 => (some t150)) else (some false))) else (some false))) else (some false))) = some r := h
  clear h
  replace H := Option.bind_eq_some_iff.mp H
  obtain ⟨t147, A20, H⟩ := H
  replace H : (if t147 = true then ((rect_valid.f a0_1).bind fun t148 => (if t148 = true then ((rect_valid.f a0_2).bind fun t149 => (if t149 = true then ((rect_valid.f a0_3).bind fun t150 => (some t150)) else (some false))) else (some false))) else (some false)) = some r := H
  have A2 := Aside0.mk A20
  clear A20
  by_cases c3 : t147 = true
  · subst c3
    have H1 : ((rect_valid.f a0_1).bind fun t148 => (if t148 = true then ((rect_valid.f a0_2).bind fun t149 => (if t149 = true then ((rect_valid.f a0_3).bind fun t150 => (some t150)) else (some false))) else (some false))) = some r := by rw [if_pos rfl] at H; exact H
    clear H
    have H := H1
    clear H1
    replace H := Option.bind_eq_some_iff.mp H
    obtain ⟨t148, A40, H⟩ := H
    replace H : (if t148 = true then ((rect_valid.f a0_2).bind fun t149 => (if t149 = true then ((rect_valid.f a0_3).bind fun t150 => (some t150)) else (some false))) else (some false)) = some r := H
    have A4 := Aside0.mk A40
    clear A40
    by_cases c5 : t148 = true
    · subst c5
      have H1 : ((rect_valid.f a0_2).bind fun t149 => (if t149 = true then ((rect_valid.f a0_3).bind fun t150 => (some t150)) else (some false))) = some r := by rw [if_pos rfl] at H; exact H
      clear H
      have H := H1
      clear H1
      replace H := Option.bind_eq_some_iff.mp H
      obtain ⟨t149, A60, H⟩ := H
      replace H : (if t149 = true then ((rect_valid.f a0_3).bind fun t150 => (some t150)) else (some false)) = some r := H
      have A6 := Aside0.mk A60
      clear A60
      by_cases c7 : t149 = true
      · subst c7
        have H1 : ((rect_valid.f a0_3).bind fun t150 => (some t150)) = some r := by rw [if_pos rfl] at H; exact H
        clear H
        have H := H1
        clear H1
        replace H := Option.bind_eq_some_iff.mp H
        obtain ⟨t150, A80, H⟩ := H
        replace H : (some t150) = some r := H
        have A8 := Aside0.mk A80
        clear A80
        obtain rfl := Option.some.inj H
        go_enter Try.func66, Try.ntmps66
        go_wp2_with (first | ((with_reducible refine gate_dst (N := 1) rfl ?_); refine box_event ?hg (N := 1) ?hd (cs := #[.int .i64 a0_0, .int .i64 a0_1, .int .i64 a0_2, .int .i64 a0_3]) (t := 47) ?hr ?_; (case hd => rfl); (case hg => rfl); (case hr => first | (go_simp; done) | (go_simp; rfl)); intro gb146 hg w9 hbox hb; have n0_ := Aside0.mk (below_step (by repeat (first | (with_reducible first | exact HB.out | apply below_alloc | apply pw_below_drewN | apply below_drew1) | exact HB.out)) hb); have n1_ := Aside0.mk (hbox); have n2_ := Aside0.mk ((by rw [hg]; exact (below_size (by repeat (first | (with_reducible first | exact HB.out | apply below_alloc | apply pw_below_drewN | apply below_drew1) | exact HB.out))) : w.heap.size ≤ gb146)); have n3_ := Aside0.mk ((by rw [hg]; exact (below_size (by repeat (first | (with_reducible first | exact HB.out | apply below_alloc | apply pw_below_drewN | apply below_drew1) | exact HB.out))) : w.heap.size ≤ gb146)); clear HB; have HB := n0_; have BK146 := n1_; have GW146 := n2_; have GE146 := n3_; clear n0_ n1_ n2_ n3_; clear hb hbox hg; have hcz10_0 : w9.cell? ⟨gb146, 0, none⟩ = some (.int .i64 a0_0) := (blk_cell BK146.out 0).trans rfl; have hcz10_1 : w9.cell? ⟨gb146, 1, none⟩ = some (.int .i64 a0_1) := (blk_cell BK146.out 1).trans rfl; have hcz10_2 : w9.cell? ⟨gb146, 2, none⟩ = some (.int .i64 a0_2) := (blk_cell BK146.out 2).trans rfl; have hcz10_3 : w9.cell? ⟨gb146, 3, none⟩ = some (.int .i64 a0_3) := (blk_cell BK146.out 3).trans rfl; have hfz10_0 := blk_frozen BK146.out 0; have hfz10_1 := blk_frozen BK146.out 1; have hfz10_2 := blk_frozen BK146.out 2; have hfz10_3 := blk_frozen BK146.out 3) | ((with_reducible refine gate_callee (f := 74) rfl ?_); refine goesL_ (some 5) rfl rfl Try.func74 (by kernel_rfl) rfl #[.int .i64 a0_0] rfl (by (try simp only [List.map_toArray, List.map_cons, List.map_nil]); first | done | rfl | (simp only [List.length_drop, List.length_take]; rfl)) ?_; (with_reducible refine (rect_valid.calls a0_0 true _ A2.out).mono ?_); rintro e w' ⟨rfl, ⟨nd, rfl⟩⟩; refine ⟨_, rfl, ?_⟩) | (go_at_call 74; (with_reducible refine (rect_valid.calls a0_1 true _ A4.out).mono ?_); rintro e w' ⟨rfl, ⟨nd, rfl⟩⟩) | (go_at_call 74; (with_reducible refine (rect_valid.calls a0_2 true _ A6.out).mono ?_); rintro e w' ⟨rfl, ⟨nd, rfl⟩⟩) | (go_at_call 74; (with_reducible refine (rect_valid.calls a0_3 t150 _ A8.out).mono ?_); rintro e w' ⟨rfl, ⟨nd, rfl⟩⟩))
        go_ret
        exact ⟨by first | rfl | (simp [errW_none, errW_some] <;> rfl) | (simp [*, errW_none, errW_some] <;> rfl), by repeat (first | (with_reducible first | exact HB.out | apply below_alloc | apply pw_below_drewN | apply below_drew1 | refine below_set ?_ GE146.out) | exact HB.out)⟩
      · replace c7 := Bool.eq_false_iff.mpr c7
        subst c7
        have H1 : (some false) = some r := by rw [if_neg (show ¬ (false = true) by decide)] at H; exact H
        clear H
        have H := H1
        clear H1
        obtain rfl := Option.some.inj H
        go_enter Try.func66, Try.ntmps66
        go_wp2_with (first | ((with_reducible refine gate_dst (N := 1) rfl ?_); refine box_event ?hg (N := 1) ?hd (cs := #[.int .i64 a0_0, .int .i64 a0_1, .int .i64 a0_2, .int .i64 a0_3]) (t := 47) ?hr ?_; (case hd => rfl); (case hg => rfl); (case hr => first | (go_simp; done) | (go_simp; rfl)); intro gb146 hg w11 hbox hb; have n0_ := Aside0.mk (below_step (by repeat (first | (with_reducible first | exact HB.out | apply below_alloc | apply pw_below_drewN | apply below_drew1) | exact HB.out)) hb); have n1_ := Aside0.mk (hbox); have n2_ := Aside0.mk ((by rw [hg]; exact (below_size (by repeat (first | (with_reducible first | exact HB.out | apply below_alloc | apply pw_below_drewN | apply below_drew1) | exact HB.out))) : w.heap.size ≤ gb146)); have n3_ := Aside0.mk ((by rw [hg]; exact (below_size (by repeat (first | (with_reducible first | exact HB.out | apply below_alloc | apply pw_below_drewN | apply below_drew1) | exact HB.out))) : w.heap.size ≤ gb146)); clear HB; have HB := n0_; have BK146 := n1_; have GW146 := n2_; have GE146 := n3_; clear n0_ n1_ n2_ n3_; clear hb hbox hg; have hcz12_0 : w11.cell? ⟨gb146, 0, none⟩ = some (.int .i64 a0_0) := (blk_cell BK146.out 0).trans rfl; have hcz12_1 : w11.cell? ⟨gb146, 1, none⟩ = some (.int .i64 a0_1) := (blk_cell BK146.out 1).trans rfl; have hcz12_2 : w11.cell? ⟨gb146, 2, none⟩ = some (.int .i64 a0_2) := (blk_cell BK146.out 2).trans rfl; have hcz12_3 : w11.cell? ⟨gb146, 3, none⟩ = some (.int .i64 a0_3) := (blk_cell BK146.out 3).trans rfl; have hfz12_0 := blk_frozen BK146.out 0; have hfz12_1 := blk_frozen BK146.out 1; have hfz12_2 := blk_frozen BK146.out 2; have hfz12_3 := blk_frozen BK146.out 3) | ((with_reducible refine gate_callee (f := 74) rfl ?_); refine goesL_ (some 5) rfl rfl Try.func74 (by kernel_rfl) rfl #[.int .i64 a0_0] rfl (by (try simp only [List.map_toArray, List.map_cons, List.map_nil]); first | done | rfl | (simp only [List.length_drop, List.length_take]; rfl)) ?_; (with_reducible refine (rect_valid.calls a0_0 true _ A2.out).mono ?_); rintro e w' ⟨rfl, ⟨nd, rfl⟩⟩; refine ⟨_, rfl, ?_⟩) | (go_at_call 74; (with_reducible refine (rect_valid.calls a0_1 true _ A4.out).mono ?_); rintro e w' ⟨rfl, ⟨nd, rfl⟩⟩) | (go_at_call 74; (with_reducible refine (rect_valid.calls a0_2 false _ A6.out).mono ?_); rintro e w' ⟨rfl, ⟨nd, rfl⟩⟩))
        go_ret
        exact ⟨by first | rfl | (simp [errW_none, errW_some] <;> rfl) | (simp [*, errW_none, errW_some] <;> rfl), by repeat (first | (with_reducible first | exact HB.out | apply below_alloc | apply pw_below_drewN | apply below_drew1 | refine below_set ?_ GE146.out) | exact HB.out)⟩
    · replace c5 := Bool.eq_false_iff.mpr c5
      subst c5
      have H1 : (some false) = some r := by rw [if_neg (show ¬ (false = true) by decide)] at H; exact H
      clear H
      have H := H1
      clear H1
      obtain rfl := Option.some.inj H
      go_enter Try.func66, Try.ntmps66
      go_wp2_with (first | ((with_reducible refine gate_dst (N := 1) rfl ?_); refine box_event ?hg (N := 1) ?hd (cs := #[.int .i64 a0_0, .int .i64 a0_1, .int .i64 a0_2, .int .i64 a0_3]) (t := 47) ?hr ?_; (case hd => rfl); (case hg => rfl); (case hr => first | (go_simp; done) | (go_simp; rfl)); intro gb146 hg w13 hbox hb; have n0_ := Aside0.mk (below_step (by repeat (first | (with_reducible first | exact HB.out | apply below_alloc | apply pw_below_drewN | apply below_drew1) | exact HB.out)) hb); have n1_ := Aside0.mk (hbox); have n2_ := Aside0.mk ((by rw [hg]; exact (below_size (by repeat (first | (with_reducible first | exact HB.out | apply below_alloc | apply pw_below_drewN | apply below_drew1) | exact HB.out))) : w.heap.size ≤ gb146)); have n3_ := Aside0.mk ((by rw [hg]; exact (below_size (by repeat (first | (with_reducible first | exact HB.out | apply below_alloc | apply pw_below_drewN | apply below_drew1) | exact HB.out))) : w.heap.size ≤ gb146)); clear HB; have HB := n0_; have BK146 := n1_; have GW146 := n2_; have GE146 := n3_; clear n0_ n1_ n2_ n3_; clear hb hbox hg; have hcz14_0 : w13.cell? ⟨gb146, 0, none⟩ = some (.int .i64 a0_0) := (blk_cell BK146.out 0).trans rfl; have hcz14_1 : w13.cell? ⟨gb146, 1, none⟩ = some (.int .i64 a0_1) := (blk_cell BK146.out 1).trans rfl; have hcz14_2 : w13.cell? ⟨gb146, 2, none⟩ = some (.int .i64 a0_2) := (blk_cell BK146.out 2).trans rfl; have hcz14_3 : w13.cell? ⟨gb146, 3, none⟩ = some (.int .i64 a0_3) := (blk_cell BK146.out 3).trans rfl; have hfz14_0 := blk_frozen BK146.out 0; have hfz14_1 := blk_frozen BK146.out 1; have hfz14_2 := blk_frozen BK146.out 2; have hfz14_3 := blk_frozen BK146.out 3) | ((with_reducible refine gate_callee (f := 74) rfl ?_); refine goesL_ (some 5) rfl rfl Try.func74 (by kernel_rfl) rfl #[.int .i64 a0_0] rfl (by (try simp only [List.map_toArray, List.map_cons, List.map_nil]); first | done | rfl | (simp only [List.length_drop, List.length_take]; rfl)) ?_; (with_reducible refine (rect_valid.calls a0_0 true _ A2.out).mono ?_); rintro e w' ⟨rfl, ⟨nd, rfl⟩⟩; refine ⟨_, rfl, ?_⟩) | (go_at_call 74; (with_reducible refine (rect_valid.calls a0_1 false _ A4.out).mono ?_); rintro e w' ⟨rfl, ⟨nd, rfl⟩⟩))
      go_ret
      exact ⟨by first | rfl | (simp [errW_none, errW_some] <;> rfl) | (simp [*, errW_none, errW_some] <;> rfl), by repeat (first | (with_reducible first | exact HB.out | apply below_alloc | apply pw_below_drewN | apply below_drew1 | refine below_set ?_ GE146.out) | exact HB.out)⟩
  · replace c3 := Bool.eq_false_iff.mpr c3
    subst c3
    have H1 : (some false) = some r := by rw [if_neg (show ¬ (false = true) by decide)] at H; exact H
    clear H
    have H := H1
    clear H1
    obtain rfl := Option.some.inj H
    go_enter Try.func66, Try.ntmps66
    go_wp2_with (first | ((with_reducible refine gate_dst (N := 1) rfl ?_); refine box_event ?hg (N := 1) ?hd (cs := #[.int .i64 a0_0, .int .i64 a0_1, .int .i64 a0_2, .int .i64 a0_3]) (t := 47) ?hr ?_; (case hd => rfl); (case hg => rfl); (case hr => first | (go_simp; done) | (go_simp; rfl)); intro gb146 hg w15 hbox hb; have n0_ := Aside0.mk (below_step (by repeat (first | (with_reducible first | exact HB.out | apply below_alloc | apply pw_below_drewN | apply below_drew1) | exact HB.out)) hb); have n1_ := Aside0.mk (hbox); have n2_ := Aside0.mk ((by rw [hg]; exact (below_size (by repeat (first | (with_reducible first | exact HB.out | apply below_alloc | apply pw_below_drewN | apply below_drew1) | exact HB.out))) : w.heap.size ≤ gb146)); have n3_ := Aside0.mk ((by rw [hg]; exact (below_size (by repeat (first | (with_reducible first | exact HB.out | apply below_alloc | apply pw_below_drewN | apply below_drew1) | exact HB.out))) : w.heap.size ≤ gb146)); clear HB; have HB := n0_; have BK146 := n1_; have GW146 := n2_; have GE146 := n3_; clear n0_ n1_ n2_ n3_; clear hb hbox hg; have hcz16_0 : w15.cell? ⟨gb146, 0, none⟩ = some (.int .i64 a0_0) := (blk_cell BK146.out 0).trans rfl; have hcz16_1 : w15.cell? ⟨gb146, 1, none⟩ = some (.int .i64 a0_1) := (blk_cell BK146.out 1).trans rfl; have hcz16_2 : w15.cell? ⟨gb146, 2, none⟩ = some (.int .i64 a0_2) := (blk_cell BK146.out 2).trans rfl; have hcz16_3 : w15.cell? ⟨gb146, 3, none⟩ = some (.int .i64 a0_3) := (blk_cell BK146.out 3).trans rfl; have hfz16_0 := blk_frozen BK146.out 0; have hfz16_1 := blk_frozen BK146.out 1; have hfz16_2 := blk_frozen BK146.out 2; have hfz16_3 := blk_frozen BK146.out 3) | ((with_reducible refine gate_callee (f := 74) rfl ?_); refine goesL_ (some 5) rfl rfl Try.func74 (by kernel_rfl) rfl #[.int .i64 a0_0] rfl (by (try simp only [List.map_toArray, List.map_cons, List.map_nil]); first | done | rfl | (simp only [List.length_drop, List.length_take]; rfl)) ?_; (with_reducible refine (rect_valid.calls a0_0 false _ A2.out).mono ?_); rintro e w' ⟨rfl, ⟨nd, rfl⟩⟩; refine ⟨_, rfl, ?_⟩))
    go_ret
    exact ⟨by first | rfl | (simp [errW_none, errW_some] <;> rfl) | (simp [*, errW_none, errW_some] <;> rfl), by repeat (first | (with_reducible first | exact HB.out | apply below_alloc | apply pw_below_drewN | apply below_drew1 | refine below_set ?_ GE146.out) | exact HB.out)⟩
def rect_Empty.f (a0_0 : Int) (a0_1 : Int) (a0_2 : Int) (a0_3 : Int) : Option (Bool) := (rect_Valid.f a0_0 a0_1 a0_2 a0_3).bind fun t152 => (if t152 = true then (if a0_0 ≥ a0_2 then (some true) else (some (decide (a0_1 ≥ a0_3)))) else (some true))
set_option maxHeartbeats 8000000 in
set_option maxRecDepth 100000 in
theorem rect_Empty.calls (a0_0 : Int) (a0_1 : Int) (a0_2 : Int) (a0_3 : Int) (r : Bool) (w : World) (h : rect_Empty.f a0_0 a0_1 a0_2 a0_3 = some r) :
    Calls Try.prog 55 #[.agg #[.int .i64 a0_0, .int .i64 a0_1, .int .i64 a0_2, .int .i64 a0_3]] w fun e w' => e = .returned (.bool r) ∧ Below w.heap.size w w' := by
  have hu47 := Try.underlying47
  have HB := Aside0.mk (Below.refl w.heap.size w)
  have H : ((rect_Valid.f a0_0 a0_1 a0_2 a0_3).bind fun t152 => (if t152 = true then (if a0_0 ≥ a0_2 then (some true) else (some (decide (a0_1 ≥ a0_3)))) else (some true))) = some r := h
  clear h
  replace H := Option.bind_eq_some_iff.mp H
  obtain ⟨t152, A20, H⟩ := H
  replace H : (if t152 = true then (if a0_0 ≥ a0_2 then (some true) else (some (decide (a0_1 ≥ a0_3)))) else (some true)) = some r := H
  have A2 := Aside0.mk A20
  clear A20
  by_cases c3 : t152 = true
  · subst c3
    have H1 : (if a0_0 ≥ a0_2 then (some true) else (some (decide (a0_1 ≥ a0_3)))) = some r := by rw [if_pos rfl] at H; exact H
    clear H
    have H := H1
    clear H1
    by_cases c4 : a0_0 ≥ a0_2
    · rw [if_pos c4] at H
      have c4b0 : decide (a0_2 ≤ a0_0) = true := decide_eq_true c4
      clear c4
      obtain rfl := Option.some.inj H
      go_enter Try.func55, Try.ntmps55
      go_wp2_with (first | ((with_reducible refine gate_dst (N := 1) rfl ?_); refine box_event ?hg (N := 1) ?hd (cs := #[.int .i64 a0_0, .int .i64 a0_1, .int .i64 a0_2, .int .i64 a0_3]) (t := 47) ?hr ?_; (case hd => rfl); (case hg => rfl); (case hr => first | (go_simp; done) | (go_simp; rfl)); intro gb151 hg w5 hbox hb; have n0_ := Aside0.mk (below_step (by repeat (first | (with_reducible first | exact HB.out | apply below_alloc | apply pw_below_drewN | apply below_drew1) | exact HB.out)) hb); have n1_ := Aside0.mk (hbox); have n2_ := Aside0.mk ((by rw [hg]; exact (below_size (by repeat (first | (with_reducible first | exact HB.out | apply below_alloc | apply pw_below_drewN | apply below_drew1) | exact HB.out))) : w.heap.size ≤ gb151)); have n3_ := Aside0.mk ((by rw [hg]; exact (below_size (by repeat (first | (with_reducible first | exact HB.out | apply below_alloc | apply pw_below_drewN | apply below_drew1) | exact HB.out))) : w.heap.size ≤ gb151)); clear HB; have HB := n0_; have BK151 := n1_; have GW151 := n2_; have GE151 := n3_; clear n0_ n1_ n2_ n3_; clear hb hbox hg; have hcz6_0 : w5.cell? ⟨gb151, 0, none⟩ = some (.int .i64 a0_0) := (blk_cell BK151.out 0).trans rfl; have hcz6_1 : w5.cell? ⟨gb151, 1, none⟩ = some (.int .i64 a0_1) := (blk_cell BK151.out 1).trans rfl; have hcz6_2 : w5.cell? ⟨gb151, 2, none⟩ = some (.int .i64 a0_2) := (blk_cell BK151.out 2).trans rfl; have hcz6_3 : w5.cell? ⟨gb151, 3, none⟩ = some (.int .i64 a0_3) := (blk_cell BK151.out 3).trans rfl; have hfz6_0 := blk_frozen BK151.out 0; have hfz6_1 := blk_frozen BK151.out 1; have hfz6_2 := blk_frozen BK151.out 2; have hfz6_3 := blk_frozen BK151.out 3) | ((with_reducible refine gate_callee (f := 66) rfl ?_); refine goesL_ (some 4) rfl rfl Try.func66 (by kernel_rfl) rfl #[.agg #[.int .i64 a0_0, .int .i64 a0_1, .int .i64 a0_2, .int .i64 a0_3]] rfl (by (try simp only [List.map_toArray, List.map_cons, List.map_nil]); first | done | rfl | (simp only [List.length_drop, List.length_take]; rfl)) ?_; (with_reducible refine (rect_Valid.calls a0_0 a0_1 a0_2 a0_3 true _ A2.out).mono ?_); rintro e w7 ⟨rfl, hb⟩; refine ⟨_, rfl, ?_⟩; have n0_ := Aside0.mk (blk_below (g := gb151) (o := .cells #[.int .i64 a0_0, .int .i64 a0_1, .int .i64 a0_2, .int .i64 a0_3] 47 (0, 0)) (by (with_reducible repeat (first | refine blk_drewN ?_ _ | refine blk_drew ?_ | refine blk_alloc ?_ _)); exact BK151.out) hb); have n1_ := Aside0.mk (below_step (by repeat (first | (with_reducible first | exact HB.out | apply below_alloc | apply pw_below_drewN | apply below_drew1 | refine below_set ?_ GE151.out) | exact HB.out)) hb); clear BK151; clear HB; have BK151 := n0_; have HB := n1_; clear n0_ n1_; (try clear hb); (try clear hb2); (try clear hk); (try clear hi); have hcz8_0 : w7.cell? ⟨gb151, 0, none⟩ = some (.int .i64 a0_0) := (blk_cell BK151.out 0).trans rfl; have hcz8_1 : w7.cell? ⟨gb151, 1, none⟩ = some (.int .i64 a0_1) := (blk_cell BK151.out 1).trans rfl; have hcz8_2 : w7.cell? ⟨gb151, 2, none⟩ = some (.int .i64 a0_2) := (blk_cell BK151.out 2).trans rfl; have hcz8_3 : w7.cell? ⟨gb151, 3, none⟩ = some (.int .i64 a0_3) := (blk_cell BK151.out 3).trans rfl; have hfz8_0 := blk_frozen BK151.out 0; have hfz8_1 := blk_frozen BK151.out 1; have hfz8_2 := blk_frozen BK151.out 2; have hfz8_3 := blk_frozen BK151.out 3))
      go_ret
      exact ⟨by first | rfl | (simp [errW_none, errW_some] <;> rfl) | (simp [*, errW_none, errW_some] <;> rfl), by repeat (first | (with_reducible first | exact HB.out | apply below_alloc | apply pw_below_drewN | apply below_drew1 | refine below_set ?_ GE151.out) | exact HB.out)⟩
    · rw [if_neg c4] at H
      have c4b0 : decide (a0_2 ≤ a0_0) = false := decide_eq_false c4
      clear c4
      obtain rfl := Option.some.inj H
      go_enter Try.func55, Try.ntmps55
      go_wp2_with (first | ((with_reducible refine gate_dst (N := 1) rfl ?_); refine box_event ?hg (N := 1) ?hd (cs := #[.int .i64 a0_0, .int .i64 a0_1, .int .i64 a0_2, .int .i64 a0_3]) (t := 47) ?hr ?_; (case hd => rfl); (case hg => rfl); (case hr => first | (go_simp; done) | (go_simp; rfl)); intro gb151 hg w9 hbox hb; have n0_ := Aside0.mk (below_step (by repeat (first | (with_reducible first | exact HB.out | apply below_alloc | apply pw_below_drewN | apply below_drew1) | exact HB.out)) hb); have n1_ := Aside0.mk (hbox); have n2_ := Aside0.mk ((by rw [hg]; exact (below_size (by repeat (first | (with_reducible first | exact HB.out | apply below_alloc | apply pw_below_drewN | apply below_drew1) | exact HB.out))) : w.heap.size ≤ gb151)); have n3_ := Aside0.mk ((by rw [hg]; exact (below_size (by repeat (first | (with_reducible first | exact HB.out | apply below_alloc | apply pw_below_drewN | apply below_drew1) | exact HB.out))) : w.heap.size ≤ gb151)); clear HB; have HB := n0_; have BK151 := n1_; have GW151 := n2_; have GE151 := n3_; clear n0_ n1_ n2_ n3_; clear hb hbox hg; have hcz10_0 : w9.cell? ⟨gb151, 0, none⟩ = some (.int .i64 a0_0) := (blk_cell BK151.out 0).trans rfl; have hcz10_1 : w9.cell? ⟨gb151, 1, none⟩ = some (.int .i64 a0_1) := (blk_cell BK151.out 1).trans rfl; have hcz10_2 : w9.cell? ⟨gb151, 2, none⟩ = some (.int .i64 a0_2) := (blk_cell BK151.out 2).trans rfl; have hcz10_3 : w9.cell? ⟨gb151, 3, none⟩ = some (.int .i64 a0_3) := (blk_cell BK151.out 3).trans rfl; have hfz10_0 := blk_frozen BK151.out 0; have hfz10_1 := blk_frozen BK151.out 1; have hfz10_2 := blk_frozen BK151.out 2; have hfz10_3 := blk_frozen BK151.out 3) | ((with_reducible refine gate_callee (f := 66) rfl ?_); refine goesL_ (some 4) rfl rfl Try.func66 (by kernel_rfl) rfl #[.agg #[.int .i64 a0_0, .int .i64 a0_1, .int .i64 a0_2, .int .i64 a0_3]] rfl (by (try simp only [List.map_toArray, List.map_cons, List.map_nil]); first | done | rfl | (simp only [List.length_drop, List.length_take]; rfl)) ?_; (with_reducible refine (rect_Valid.calls a0_0 a0_1 a0_2 a0_3 true _ A2.out).mono ?_); rintro e w11 ⟨rfl, hb⟩; refine ⟨_, rfl, ?_⟩; have n0_ := Aside0.mk (blk_below (g := gb151) (o := .cells #[.int .i64 a0_0, .int .i64 a0_1, .int .i64 a0_2, .int .i64 a0_3] 47 (0, 0)) (by (with_reducible repeat (first | refine blk_drewN ?_ _ | refine blk_drew ?_ | refine blk_alloc ?_ _)); exact BK151.out) hb); have n1_ := Aside0.mk (below_step (by repeat (first | (with_reducible first | exact HB.out | apply below_alloc | apply pw_below_drewN | apply below_drew1 | refine below_set ?_ GE151.out) | exact HB.out)) hb); clear BK151; clear HB; have BK151 := n0_; have HB := n1_; clear n0_ n1_; (try clear hb); (try clear hb2); (try clear hk); (try clear hi); have hcz12_0 : w11.cell? ⟨gb151, 0, none⟩ = some (.int .i64 a0_0) := (blk_cell BK151.out 0).trans rfl; have hcz12_1 : w11.cell? ⟨gb151, 1, none⟩ = some (.int .i64 a0_1) := (blk_cell BK151.out 1).trans rfl; have hcz12_2 : w11.cell? ⟨gb151, 2, none⟩ = some (.int .i64 a0_2) := (blk_cell BK151.out 2).trans rfl; have hcz12_3 : w11.cell? ⟨gb151, 3, none⟩ = some (.int .i64 a0_3) := (blk_cell BK151.out 3).trans rfl; have hfz12_0 := blk_frozen BK151.out 0; have hfz12_1 := blk_frozen BK151.out 1; have hfz12_2 := blk_frozen BK151.out 2; have hfz12_3 := blk_frozen BK151.out 3))
      go_ret
      exact ⟨by first | rfl | (simp [errW_none, errW_some] <;> rfl) | (simp [*, errW_none, errW_some] <;> rfl), by repeat (first | (with_reducible first | exact HB.out | apply below_alloc | apply pw_below_drewN | apply below_drew1 | refine below_set ?_ GE151.out) | exact HB.out)⟩
  · replace c3 := Bool.eq_false_iff.mpr c3
    subst c3
    have H1 : (some true) = some r := by rw [if_neg (show ¬ (false = true) by decide)] at H; exact H
    clear H
    have H := H1
    clear H1
    obtain rfl := Option.some.inj H
    go_enter Try.func55, Try.ntmps55
    go_wp2_with (first | ((with_reducible refine gate_dst (N := 1) rfl ?_); refine box_event ?hg (N := 1) ?hd (cs := #[.int .i64 a0_0, .int .i64 a0_1, .int .i64 a0_2, .int .i64 a0_3]) (t := 47) ?hr ?_; (case hd => rfl); (case hg => rfl); (case hr => first | (go_simp; done) | (go_simp; rfl)); intro gb151 hg w13 hbox hb; have n0_ := Aside0.mk (below_step (by repeat (first | (with_reducible first | exact HB.out | apply below_alloc | apply pw_below_drewN | apply below_drew1) | exact HB.out)) hb); have n1_ := Aside0.mk (hbox); have n2_ := Aside0.mk ((by rw [hg]; exact (below_size (by repeat (first | (with_reducible first | exact HB.out | apply below_alloc | apply pw_below_drewN | apply below_drew1) | exact HB.out))) : w.heap.size ≤ gb151)); have n3_ := Aside0.mk ((by rw [hg]; exact (below_size (by repeat (first | (with_reducible first | exact HB.out | apply below_alloc | apply pw_below_drewN | apply below_drew1) | exact HB.out))) : w.heap.size ≤ gb151)); clear HB; have HB := n0_; have BK151 := n1_; have GW151 := n2_; have GE151 := n3_; clear n0_ n1_ n2_ n3_; clear hb hbox hg; have hcz14_0 : w13.cell? ⟨gb151, 0, none⟩ = some (.int .i64 a0_0) := (blk_cell BK151.out 0).trans rfl; have hcz14_1 : w13.cell? ⟨gb151, 1, none⟩ = some (.int .i64 a0_1) := (blk_cell BK151.out 1).trans rfl; have hcz14_2 : w13.cell? ⟨gb151, 2, none⟩ = some (.int .i64 a0_2) := (blk_cell BK151.out 2).trans rfl; have hcz14_3 : w13.cell? ⟨gb151, 3, none⟩ = some (.int .i64 a0_3) := (blk_cell BK151.out 3).trans rfl; have hfz14_0 := blk_frozen BK151.out 0; have hfz14_1 := blk_frozen BK151.out 1; have hfz14_2 := blk_frozen BK151.out 2; have hfz14_3 := blk_frozen BK151.out 3) | ((with_reducible refine gate_callee (f := 66) rfl ?_); refine goesL_ (some 4) rfl rfl Try.func66 (by kernel_rfl) rfl #[.agg #[.int .i64 a0_0, .int .i64 a0_1, .int .i64 a0_2, .int .i64 a0_3]] rfl (by (try simp only [List.map_toArray, List.map_cons, List.map_nil]); first | done | rfl | (simp only [List.length_drop, List.length_take]; rfl)) ?_; (with_reducible refine (rect_Valid.calls a0_0 a0_1 a0_2 a0_3 false _ A2.out).mono ?_); rintro e w15 ⟨rfl, hb⟩; refine ⟨_, rfl, ?_⟩; have n0_ := Aside0.mk (blk_below (g := gb151) (o := .cells #[.int .i64 a0_0, .int .i64 a0_1, .int .i64 a0_2, .int .i64 a0_3] 47 (0, 0)) (by (with_reducible repeat (first | refine blk_drewN ?_ _ | refine blk_drew ?_ | refine blk_alloc ?_ _)); exact BK151.out) hb); have n1_ := Aside0.mk (below_step (by repeat (first | (with_reducible first | exact HB.out | apply below_alloc | apply pw_below_drewN | apply below_drew1 | refine below_set ?_ GE151.out) | exact HB.out)) hb); clear BK151; clear HB; have BK151 := n0_; have HB := n1_; clear n0_ n1_; (try clear hb); (try clear hb2); (try clear hk); (try clear hi)))
    go_ret
    exact ⟨by first | rfl | (simp [errW_none, errW_some] <;> rfl) | (simp [*, errW_none, errW_some] <;> rfl), by repeat (first | (with_reducible first | exact HB.out | apply below_alloc | apply pw_below_drewN | apply below_drew1 | refine below_set ?_ GE151.out) | exact HB.out)⟩
end Go.Proofs.Ytmockeaiccpogaa.All
end
