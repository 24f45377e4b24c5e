-- The texts behind this claim's law, put together by a program of this session (shake.py): what no text uses is left out. Its words are print.sh's.
import Derived.Test.YtmkhphkkpdiliaaProg
import Derived.Below
import Derived.Deep.Draws
import Derived.Deep.AppendLies
import Derived.Maps.AppendAt
import Derived.OwnWalk
import Derived.Laws.BytesArg
import Derived.Laws.MakeOwn
import Derived.Laws.OwnMore
import Derived.Deep.OwnRows
import Derived.Tactics
import Derived.Lib.ConvBytes
import Derived.Laws.Slices
import Derived.WalkKit
import Derived.KernelRfl
import Derived.RowKit3
import Derived.Deep.LoopGhost
import Derived.Deep.QuietTactic
import Derived.BigQuiet
import Derived.WideLaws
import Derived.Deep.DeepCutAuto
import Derived.Deep.CutBlock
import Derived.Deep.RegionHeld3
import Derived.Laws.Rows
import Derived.Lib.AppendStr
import Derived.ArgAppend
import Derived.Laws.IdiomCopy
import Derived.OrdersHeld
import Derived.Laws.BitsLemmas
import Derived.RowKit
import Derived.WalkMore
import Derived.Laws.StructEq
import Derived.SizedLaws
import Derived.ChangeSlices
import Derived.OpenShut
import Derived.Test.YtmkhphkkpdiliaaSPresentFeedback11
section
namespace Go.Proofs.Ytmkhphkkpdiliaa.All
open Go.RowKit Go.Proofs.YtmkhphkkpdiliaaW.PrintWords Go.Proofs.YtmkhphkkpdiliaaW.PrintLast Go.Proofs.YtmkhphkkpdiliaaW.PrintMore
attribute [local go_sem] max2_int min2_int max_two min_two max_three min_three max_four min_four
set_option linter.unusedVariables false
set_option linter.unusedSimpArgs false
def errW : Option Int → Value
  | none => .nilIface
  | some c => .iface 0 (.int .i64 c)
theorem errW_none : errW none = .nilIface := rfl
theorem errW_some (c : Int) : errW (some c) = .iface 0 (.int .i64 c) := rfl
theorem info36 : (Try.prog.info? 36).map (fun i => (i.zero, i.size, i.bytes)) = some (some (.int .u32 0), 1, 4) := by kernel_rfl
theorem info42 : (Try.prog.info? 42).map (fun i => (i.zero, i.size, i.bytes)) = some (some (.agg #[(.int .i64 0), (.int .i64 0), (.int .i64 0), (.int .i64 0), (.int .i64 0), (.int .i64 0), (.int .i64 0), (.int .i64 0), (.int .u32 0)]), 9, 72) := by kernel_rfl
structure S55 where
  f0 : Int
  f1 : Int
  f2 : (List Int)
structure S78 where
  f0 : Int
  f1 : (List Int)
def z78 : S78 := ⟨(0 : Int), ([] : List Int)⟩
def k78 : Kd S78 := Kd.iso (Kd.pair (Kd.int .i64) (Kd.slice 36 (Kd.int .u32))) (fun x : S78 => (x.f0, x.f1))
theorem k78_open {w : World} {x : S78} {cs : List Value} (h : k78.K w x cs) : ∃ A1 c1, cs = [.int .i64 x.f0, .slice A1 x.f1.length c1] ∧ x.f1.length ≤ c1 ∧ (Kd.int .u32).C w A1 x.f1.length x.f1 := by
  obtain ⟨_, _, rfl, rfl, ⟨A1, c1, rfl, l1, g1⟩⟩ := h
  exact ⟨A1, c1, rfl, l1, g1⟩
theorem k78_mk (w : World) (x : S78) {A1 : Option Addr} {c1 : Nat} (l1 : x.f1.length ≤ c1) (g1 : (Kd.int .u32).C w A1 x.f1.length x.f1) : k78.K w x [.int .i64 x.f0, .slice A1 x.f1.length c1] := ⟨[.int .i64 x.f0], [.slice A1 x.f1.length c1], rfl, rfl, ⟨A1, c1, rfl, l1, g1⟩⟩
theorem k78_mkF (W : World) (ok : Nat → Prop) (x : S78) {A1 : Option Addr} {c1 : Nat} (l1 : x.f1.length ≤ c1) (g1 : Kd.F (Kd.int .u32) W ok A1 x.f1.length x.f1) : Kd.FK k78 W ok x [.int .i64 x.f0, .slice A1 x.f1.length c1] := fun W2 hW => k78_mk W2 x l1 (g1 W2 hW)
def rd_T78 (xs : List S78) (i : Int) : S78 := xs.getD i.toNat z78
theorem at_T78 {w : World} {A : Option Addr} {n : Nat} {xs : List S78} (h : Kd.C k78 w A n xs) (i : Int) (h0 : 0 ≤ i) (h1 : i < n) : ∃ ad A1 c1, A = some ad ∧ w.cell? (ad.add (i.toNat * 2)) = some (.int .i64 (rd_T78 xs i).f0) ∧ w.cell? ⟨(ad.add (i.toNat * 2)).block, (ad.add (i.toNat * 2)).off + 1, none⟩ = some (.slice A1 (rd_T78 xs i).f1.length c1) ∧ (rd_T78 xs i).f1.length ≤ c1 ∧ (Kd.int .u32).C w A1 (rd_T78 xs i).f1.length (rd_T78 xs i).f1 := by
  obtain ⟨ad, c, e, _, hK, hc0⟩ := Kd.C_get h z78 i h0 h1
  have hc : ∀ j u, c[j]? = some u → w.cell? (ad.add (i.toNat * 2 + j)) = some u := hc0
  obtain ⟨A1, c1, rfl, l1, g1⟩ := k78_open hK
  exact ⟨ad, A1, c1, e, hc 0 _ rfl, by rw [← add_field _ _ 1 (by omega)]; exact hc 1 _ rfl, l1, g1⟩
structure S42 where
  f0 : Int
  f1 : Int
  f2 : Int
  f3 : Int
  f4 : Int
  f5 : Int
  f6 : Int
  f7 : Int
  f8 : Int
def z42 : S42 := ⟨(0 : Int), (0 : Int), (0 : Int), (0 : Int), (0 : Int), (0 : Int), (0 : Int), (0 : Int), (0 : Int)⟩
def k42 : Kd S42 := Kd.iso (Kd.pair (Kd.int .i64) (Kd.pair (Kd.int .i64) (Kd.pair (Kd.int .i64) (Kd.pair (Kd.int .i64) (Kd.pair (Kd.int .i64) (Kd.pair (Kd.int .i64) (Kd.pair (Kd.int .i64) (Kd.pair (Kd.int .i64) (Kd.int .u32))))))))) (fun x : S42 => (x.f0, x.f1, x.f2, x.f3, x.f4, x.f5, x.f6, x.f7, x.f8))
theorem k42_open {w : World} {x : S42} {cs : List Value} (h : k42.K w x cs) : cs = [.int .i64 x.f0, .int .i64 x.f1, .int .i64 x.f2, .int .i64 x.f3, .int .i64 x.f4, .int .i64 x.f5, .int .i64 x.f6, .int .i64 x.f7, .int .u32 x.f8] := by
  obtain ⟨_, _, rfl, rfl, ⟨_, _, rfl, rfl, ⟨_, _, rfl, rfl, ⟨_, _, rfl, rfl, ⟨_, _, rfl, rfl, ⟨_, _, rfl, rfl, ⟨_, _, rfl, rfl, ⟨_, _, rfl, rfl, rfl⟩⟩⟩⟩⟩⟩⟩⟩ := h
  exact rfl
theorem k42_mkM (w : World) (base : Nat) (ok : Nat → Prop) (x : S42)  : k42.M w base ok x [.int .i64 x.f0, .int .i64 x.f1, .int .i64 x.f2, .int .i64 x.f3, .int .i64 x.f4, .int .i64 x.f5, .int .i64 x.f6, .int .i64 x.f7, .int .u32 x.f8] := ⟨[.int .i64 x.f0], [.int .i64 x.f1, .int .i64 x.f2, .int .i64 x.f3, .int .i64 x.f4, .int .i64 x.f5, .int .i64 x.f6, .int .i64 x.f7, .int .u32 x.f8], rfl, rfl, ⟨[.int .i64 x.f1], [.int .i64 x.f2, .int .i64 x.f3, .int .i64 x.f4, .int .i64 x.f5, .int .i64 x.f6, .int .i64 x.f7, .int .u32 x.f8], rfl, rfl, ⟨[.int .i64 x.f2], [.int .i64 x.f3, .int .i64 x.f4, .int .i64 x.f5, .int .i64 x.f6, .int .i64 x.f7, .int .u32 x.f8], rfl, rfl, ⟨[.int .i64 x.f3], [.int .i64 x.f4, .int .i64 x.f5, .int .i64 x.f6, .int .i64 x.f7, .int .u32 x.f8], rfl, rfl, ⟨[.int .i64 x.f4], [.int .i64 x.f5, .int .i64 x.f6, .int .i64 x.f7, .int .u32 x.f8], rfl, rfl, ⟨[.int .i64 x.f5], [.int .i64 x.f6, .int .i64 x.f7, .int .u32 x.f8], rfl, rfl, ⟨[.int .i64 x.f6], [.int .i64 x.f7, .int .u32 x.f8], rfl, rfl, ⟨[.int .i64 x.f7], [.int .u32 x.f8], rfl, rfl, rfl⟩⟩⟩⟩⟩⟩⟩⟩
def rd_T42 (xs : List S42) (i : Int) : S42 := xs.getD i.toNat z42
theorem at_T42 {w : World} {A : Option Addr} {n : Nat} {xs : List S42} (h : Kd.C k42 w A n xs) (i : Int) (h0 : 0 ≤ i) (h1 : i < n) : ∃ ad , A = some ad ∧ w.cell? (ad.add (i.toNat * 9)) = some (.int .i64 (rd_T42 xs i).f0) ∧ w.cell? ⟨(ad.add (i.toNat * 9)).block, (ad.add (i.toNat * 9)).off + 1, none⟩ = some (.int .i64 (rd_T42 xs i).f1) ∧ w.cell? ⟨(ad.add (i.toNat * 9)).block, (ad.add (i.toNat * 9)).off + 2, none⟩ = some (.int .i64 (rd_T42 xs i).f2) ∧ w.cell? ⟨(ad.add (i.toNat * 9)).block, (ad.add (i.toNat * 9)).off + 3, none⟩ = some (.int .i64 (rd_T42 xs i).f3) ∧ w.cell? ⟨(ad.add (i.toNat * 9)).block, (ad.add (i.toNat * 9)).off + 4, none⟩ = some (.int .i64 (rd_T42 xs i).f4) ∧ w.cell? ⟨(ad.add (i.toNat * 9)).block, (ad.add (i.toNat * 9)).off + 5, none⟩ = some (.int .i64 (rd_T42 xs i).f5) ∧ w.cell? ⟨(ad.add (i.toNat * 9)).block, (ad.add (i.toNat * 9)).off + 6, none⟩ = some (.int .i64 (rd_T42 xs i).f6) ∧ w.cell? ⟨(ad.add (i.toNat * 9)).block, (ad.add (i.toNat * 9)).off + 7, none⟩ = some (.int .i64 (rd_T42 xs i).f7) ∧ w.cell? ⟨(ad.add (i.toNat * 9)).block, (ad.add (i.toNat * 9)).off + 8, none⟩ = some (.int .u32 (rd_T42 xs i).f8) := by
  obtain ⟨ad, c, e, _, hK, hc0⟩ := Kd.C_get h z42 i h0 h1
  have hc : ∀ j u, c[j]? = some u → w.cell? (ad.add (i.toNat * 9 + j)) = some u := hc0
  obtain rfl := k42_open hK
  exact ⟨ad, e, hc 0 _ rfl, by rw [← add_field _ _ 1 (by omega)]; exact hc 1 _ rfl, by rw [← add_field _ _ 2 (by omega)]; exact hc 2 _ rfl, by rw [← add_field _ _ 3 (by omega)]; exact hc 3 _ rfl, by rw [← add_field _ _ 4 (by omega)]; exact hc 4 _ rfl, by rw [← add_field _ _ 5 (by omega)]; exact hc 5 _ rfl, by rw [← add_field _ _ 6 (by omega)]; exact hc 6 _ rfl, by rw [← add_field _ _ 7 (by omega)]; exact hc 7 _ rfl, by rw [← add_field _ _ 8 (by omega)]; exact hc 8 _ rfl⟩
end Go.Proofs.Ytmkhphkkpdiliaa.All
end
section
namespace Go.Proofs.Ytmkhphkkpdiliaa.All
open Go.RowKit Go.Proofs.YtmkhphkkpdiliaaW.PrintWords Go.Proofs.YtmkhphkkpdiliaaW.PrintLast Go.Proofs.YtmkhphkkpdiliaaW.PrintMore
attribute [local go_sem] max2_int min2_int max_two min_two max_three min_three max_four min_four
set_option linter.unusedVariables false
set_option linter.unusedSimpArgs false
def compositorlaw30_slow.f  : Option (ByteArray × Int × Int × Int × Int × Int × Int × Int) := some ((⟨#[111]⟩ : ByteArray), 1, 1, 1000, 1, 0, 0, 0)
set_option maxHeartbeats 8000000 in
set_option maxRecDepth 100000 in
theorem compositorlaw30_slow.calls  (r1 : ByteArray) (r2 : Int) (r3 : Int) (r4 : Int) (r5 : Int) (r6 : Int) (r7 : Int) (r8 : Int) (w : World) (h : compositorlaw30_slow.f  = some (r1, r2, r3, r4, r5, r6, r7, r8)) :
    Calls Try.prog 15 #[] w fun e w' => e = .returned (.agg #[.string r1, .int .i64 r2, .int .i64 r3, .int .i64 r4, .int .i64 r5, .int .i64 r6, .int .i64 r7, .int .i64 r8]) ∧ Below w.heap.size w w' := by
  have hu23 := Try.underlying23
  have HB := Aside0.mk (Below.refl w.heap.size w)
  have H : (some ((⟨#[111]⟩ : ByteArray), 1, 1, 1000, 1, 0, 0, 0)) = some (r1, r2, r3, r4, r5, r6, r7, r8) := h
  clear h
  simp only [Option.some.injEq, Prod.mk.injEq] at H
  obtain ⟨rfl, rfl, rfl, rfl, rfl, rfl, rfl, rfl⟩ := H
  go_enter Try.func15, Try.ntmps15
  go_wp2_with (first | ((with_reducible refine gate_dst (N := 0) rfl ?_); refine box_event ?hg (N := 0) ?hd (cs := #[.string (⟨#[]⟩ : ByteArray), .int .i64 0, .int .i64 0, .int .i64 0, .int .i64 0, .int .i64 0, .int .i64 0, .int .i64 0]) (t := 23) ?hr ?_; (case hd => rfl); (case hg => rfl); (case hr => first | (go_simp; done) | (go_simp; rfl)); intro gb125 hg w1 hbox hb; have n0_ := Aside0.mk (below_step (by repeat (first | (with_reducible first | exact HB.out | apply below_alloc | apply pw_below_drewN | apply below_drew1) | exact HB.out)) hb); have n1_ := Aside0.mk (hbox); have n2_ := Aside0.mk ((by rw [hg]; exact (below_size (by repeat (first | (with_reducible first | exact HB.out | apply below_alloc | apply pw_below_drewN | apply below_drew1) | exact HB.out))) : w.heap.size ≤ gb125)); have n3_ := Aside0.mk ((by rw [hg]; exact (below_size (by repeat (first | (with_reducible first | exact HB.out | apply below_alloc | apply pw_below_drewN | apply below_drew1) | exact HB.out))) : w.heap.size ≤ gb125)); clear HB; have HB := n0_; have BK125 := n1_; have GW125 := n2_; have GE125 := n3_; clear n0_ n1_ n2_ n3_; clear hb hbox hg; have hcz2_0 : w1.cell? ⟨gb125, 0, none⟩ = some (.string (⟨#[]⟩ : ByteArray)) := (blk_cell BK125.out 0).trans rfl; have hcz2_1 : w1.cell? ⟨gb125, 1, none⟩ = some (.int .i64 0) := (blk_cell BK125.out 1).trans rfl; have hcz2_2 : w1.cell? ⟨gb125, 2, none⟩ = some (.int .i64 0) := (blk_cell BK125.out 2).trans rfl; have hcz2_3 : w1.cell? ⟨gb125, 3, none⟩ = some (.int .i64 0) := (blk_cell BK125.out 3).trans rfl; have hcz2_4 : w1.cell? ⟨gb125, 4, none⟩ = some (.int .i64 0) := (blk_cell BK125.out 4).trans rfl; have hcz2_5 : w1.cell? ⟨gb125, 5, none⟩ = some (.int .i64 0) := (blk_cell BK125.out 5).trans rfl; have hcz2_6 : w1.cell? ⟨gb125, 6, none⟩ = some (.int .i64 0) := (blk_cell BK125.out 6).trans rfl; have hcz2_7 : w1.cell? ⟨gb125, 7, none⟩ = some (.int .i64 0) := (blk_cell BK125.out 7).trans rfl; have hfz2_0 := blk_frozen BK125.out 0; have hfz2_1 := blk_frozen BK125.out 1; have hfz2_2 := blk_frozen BK125.out 2; have hfz2_3 := blk_frozen BK125.out 3; have hfz2_4 := blk_frozen BK125.out 4; have hfz2_5 := blk_frozen BK125.out 5; have hfz2_6 := blk_frozen BK125.out 6; have hfz2_7 := blk_frozen BK125.out 7))
  refine bodyPost_ret (results_cell_row rfl _ _ gb125 23 #[.string (⟨#[111]⟩ : ByteArray), .int .i64 1, .int .i64 1, .int .i64 1000, .int .i64 1, .int .i64 0, .int .i64 0, .int .i64 0] (0, 0) _ rfl (by (with_reducible repeat (first | refine blk_drewN ?_ _ | refine blk_drew ?_ | refine blk_alloc ?_ _)); refine blk_put (cs := #[.string (⟨#[111]⟩ : ByteArray), .int .i64 1, .int .i64 1, .int .i64 1000, .int .i64 1, .int .i64 0, .int .i64 0, .int .i64 0]) ?_ 7 _ rfl; (with_reducible repeat (first | refine blk_drewN ?_ _ | refine blk_drew ?_ | refine blk_alloc ?_ _)); refine blk_put (cs := #[.string (⟨#[111]⟩ : ByteArray), .int .i64 1, .int .i64 1, .int .i64 1000, .int .i64 1, .int .i64 0, .int .i64 0, .int .i64 0]) ?_ 6 _ rfl; (with_reducible repeat (first | refine blk_drewN ?_ _ | refine blk_drew ?_ | refine blk_alloc ?_ _)); refine blk_put (cs := #[.string (⟨#[111]⟩ : ByteArray), .int .i64 1, .int .i64 1, .int .i64 1000, .int .i64 1, .int .i64 0, .int .i64 0, .int .i64 0]) ?_ 5 _ rfl; (with_reducible repeat (first | refine blk_drewN ?_ _ | refine blk_drew ?_ | refine blk_alloc ?_ _)); refine blk_put (cs := #[.string (⟨#[111]⟩ : ByteArray), .int .i64 1, .int .i64 1, .int .i64 1000, .int .i64 0, .int .i64 0, .int .i64 0, .int .i64 0]) ?_ 4 _ rfl; (with_reducible repeat (first | refine blk_drewN ?_ _ | refine blk_drew ?_ | refine blk_alloc ?_ _)); refine blk_put (cs := #[.string (⟨#[111]⟩ : ByteArray), .int .i64 1, .int .i64 1, .int .i64 0, .int .i64 0, .int .i64 0, .int .i64 0, .int .i64 0]) ?_ 3 _ rfl; (with_reducible repeat (first | refine blk_drewN ?_ _ | refine blk_drew ?_ | refine blk_alloc ?_ _)); refine blk_put (cs := #[.string (⟨#[111]⟩ : ByteArray), .int .i64 1, .int .i64 0, .int .i64 0, .int .i64 0, .int .i64 0, .int .i64 0, .int .i64 0]) ?_ 2 _ rfl; (with_reducible repeat (first | refine blk_drewN ?_ _ | refine blk_drew ?_ | refine blk_alloc ?_ _)); refine blk_put (cs := #[.string (⟨#[111]⟩ : ByteArray), .int .i64 0, .int .i64 0, .int .i64 0, .int .i64 0, .int .i64 0, .int .i64 0, .int .i64 0]) ?_ 1 _ rfl; (with_reducible repeat (first | refine blk_drewN ?_ _ | refine blk_drew ?_ | refine blk_alloc ?_ _)); refine blk_put (cs := #[.string (⟨#[]⟩ : ByteArray), .int .i64 0, .int .i64 0, .int .i64 0, .int .i64 0, .int .i64 0, .int .i64 0, .int .i64 0]) ?_ 0 _ rfl; (with_reducible repeat (first | refine blk_drewN ?_ _ | refine blk_drew ?_ | refine blk_alloc ?_ _)); exact BK125.out) Try.underlying23 rfl (by kernel_rfl)) rfl ?_
  exact ⟨by first | rfl | (simp [errW_none, errW_some] <;> rfl) | (simp [*, errW_none, errW_some] <;> rfl), by repeat (first | (with_reducible first | exact HB.out | apply below_alloc | apply pw_below_drewN | apply below_drew1 | refine below_set ?_ GE125.out) | exact HB.out)⟩
end Go.Proofs.Ytmkhphkkpdiliaa.All
end
section
namespace Go.Proofs.Ytmkhphkkpdiliaa.All
open Go.RowKit Go.Proofs.YtmkhphkkpdiliaaW.PrintWords Go.Proofs.YtmkhphkkpdiliaaW.PrintLast Go.Proofs.YtmkhphkkpdiliaaW.PrintMore
attribute [local go_sem] max2_int min2_int max_two min_two max_three min_three max_four min_four
set_option linter.unusedVariables false
set_option linter.unusedSimpArgs false
def transform_Valid.f (a0 : Int) : Option (Bool) := if a0 ≥ 0 then (some (decide (a0 < 8))) else (some false)
set_option maxHeartbeats 8000000 in
set_option maxRecDepth 100000 in
theorem transform_Valid.calls (a0 : Int) (r : Bool) (w : World) (h : transform_Valid.f a0 = some r) :
    Calls Try.prog 44 #[.int .i64 a0] w fun e w' => e = .returned (.bool r) ∧ Drawn0 w w' := by
  have H : (if a0 ≥ 0 then (some (decide (a0 < 8))) else (some false)) = some r := h
  clear h
  by_cases c2 : a0 ≥ 0
  · rw [if_pos c2] at H
    have c2b0 : decide (0 ≤ a0) = true := decide_eq_true c2
    clear c2
    obtain rfl := Option.some.inj H
    go_enter Try.func44, Try.ntmps44
    go_wp2
    go_ret
    exact ⟨by first | rfl | (simp; done) | (simp [*]; done), by repeat (first | exact Drawn0.refl _ | apply Drawn0.step)⟩
  · rw [if_neg c2] at H
    have c2b0 : decide (0 ≤ a0) = false := decide_eq_false c2
    clear c2
    obtain rfl := Option.some.inj H
    go_enter Try.func44, Try.ntmps44
    go_wp2
    go_ret
    exact ⟨by first | rfl | (simp; done) | (simp [*]; done), by repeat (first | exact Drawn0.refl _ | apply Drawn0.step)⟩
def rect_valid.f (a0 : Int) : Option (Bool) := if a0 ≥ (-16384) then (some (decide (a0 ≤ 16384))) else (some false)
set_option maxHeartbeats 8000000 in
set_option maxRecDepth 100000 in
theorem rect_valid.calls (a0 : Int) (r : Bool) (w : World) (h : rect_valid.f a0 = some r) :
    Calls Try.prog 48 #[.int .i64 a0] w fun e w' => e = .returned (.bool r) ∧ Drawn0 w w' := by
  have H : (if a0 ≥ (-16384) then (some (decide (a0 ≤ 16384))) else (some false)) = some r := h
  clear h
  by_cases c2 : a0 ≥ (-16384)
  · rw [if_pos c2] at H
    have c2b0 : decide ((-16384) ≤ a0) = true := decide_eq_true c2
    clear c2
    obtain rfl := Option.some.inj H
    go_enter Try.func48, Try.ntmps48
    go_wp2
    go_ret
    exact ⟨by first | rfl | (simp; done) | (simp [*]; done), by repeat (first | exact Drawn0.refl _ | apply Drawn0.step)⟩
  · rw [if_neg c2] at H
    have c2b0 : decide ((-16384) ≤ a0) = false := decide_eq_false c2
    clear c2
    obtain rfl := Option.some.inj H
    go_enter Try.func48, Try.ntmps48
    go_wp2
    go_ret
    exact ⟨by first | rfl | (simp; done) | (simp [*]; done), by repeat (first | exact Drawn0.refl _ | apply Drawn0.step)⟩
def rect_Valid.f (a0_0 : Int) (a0_1 : Int) (a0_2 : Int) (a0_3 : Int) : Option (Bool) := (rect_valid.f a0_0).bind fun t102 => (if t102 = true then ((rect_valid.f a0_1).bind fun t103 => (if t103 = true then ((rect_valid.f a0_2).bind fun t104 => (if t104 = true then ((rect_valid.f a0_3).bind fun t105 => (some t105)) else (some false))) else (some false))) else (some false))
set_option maxHeartbeats 8000000 in
set_option maxRecDepth 100000 in
theorem rect_Valid.calls (a0_0 : Int) (a0_1 : Int) (a0_2 : Int) (a0_3 : Int) (r : Bool) (w : World) (h : rect_Valid.f a0_0 a0_1 a0_2 a0_3 = some r) :
    Calls Try.prog 45 #[.agg #[.int .i64 a0_0, .int .i64 a0_1, .int .i64 a0_2, .int .i64 a0_3]] w fun e w' => e = .returned (.bool r) ∧ Below w.heap.size w w' := by
  have hu82 := Try.underlying82
  have HB := Aside0.mk (Below.refl w.heap.size w)
  have H : ((rect_valid.f a0_0).bind fun t102 => (if t102 = true then ((rect_valid.f a0_1).bind fun t103 => (if t103 = true then ((rect_valid.f a0_2).bind fun t104 => (if t104 = true then ((rect_valid.f a0_3).bind fun t105 => (some t105)) else (some false))) else (some false))) else (some false))) = some r := h
  clear h
  replace H := Option.bind_eq_some_iff.mp H
  obtain ⟨t102, A20, H⟩ := H
  replace H : (if t102 = true then ((rect_valid.f a0_1).bind fun t103 => (if t103 = true then ((rect_valid.f a0_2).bind fun t104 => (if t104 = true then ((rect_valid.f a0_3).bind fun t105 => (some t105)) else (some false))) else (some false))) else (some false)) = some r := H
  have A2 := Aside0.mk A20
  clear A20
  by_cases c3 : t102 = true
  · subst c3
    have H1 : ((rect_valid.f a0_1).bind fun t103 => (if t103 = true then ((rect_valid.f a0_2).bind fun t104 => (if t104 = true then ((rect_valid.f a0_3).bind fun t105 => (some t105)) else (some false))) else (some false))) = some r := by rw [if_pos rfl] at H; exact H
    clear H
    have H := H1
    clear H1
    replace H := Option.bind_eq_some_iff.mp H
    obtain ⟨t103, A40, H⟩ := H
    replace H : (if t103 = true then ((rect_valid.f a0_2).bind fun t104 => (if t104 = true then ((rect_valid.f a0_3).bind fun t105 => (some t105)) else (some false))) else (some false)) = some r := H
    have A4 := Aside0.mk A40
    clear A40
    by_cases c5 : t103 = true
    · subst c5
      have H1 : ((rect_valid.f a0_2).bind fun t104 => (if t104 = true then ((rect_valid.f a0_3).bind fun t105 => (some t105)) else (some false))) = some r := by rw [if_pos rfl] at H; exact H
      clear H
      have H := H1
      clear H1
      replace H := Option.bind_eq_some_iff.mp H
      obtain ⟨t104, A60, H⟩ := H
      replace H : (if t104 = true then ((rect_valid.f a0_3).bind fun t105 => (some t105)) else (some false)) = some r := H
      have A6 := Aside0.mk A60
      clear A60
      by_cases c7 : t104 = true
      · subst c7
        have H1 : ((rect_valid.f a0_3).bind fun t105 => (some t105)) = some r := by rw [if_pos rfl] at H; exact H
        clear H
        have H := H1
        clear H1
        replace H := Option.bind_eq_some_iff.mp H
        obtain ⟨t105, A80, H⟩ := H
        replace H : (some t105) = some r := H
        have A8 := Aside0.mk A80
        clear A80
        obtain rfl := Option.some.inj H
        go_enter Try.func45, Try.ntmps45
        go_wp2_with (first | ((with_reducible refine gate_dst (N := 1) rfl ?_); refine box_event ?hg (N := 1) ?hd (cs := #[.int .i64 a0_0, .int .i64 a0_1, .int .i64 a0_2, .int .i64 a0_3]) (t := 82) ?hr ?_; (case hd => rfl); (case hg => rfl); (case hr => first | (go_simp; done) | (go_simp; rfl)); intro gb101 hg w9 hbox hb; have n0_ := Aside0.mk (below_step (by repeat (first | (with_reducible first | exact HB.out | apply below_alloc | apply pw_below_drewN | apply below_drew1) | exact HB.out)) hb); have n1_ := Aside0.mk (hbox); have n2_ := Aside0.mk ((by rw [hg]; exact (below_size (by repeat (first | (with_reducible first | exact HB.out | apply below_alloc | apply pw_below_drewN | apply below_drew1) | exact HB.out))) : w.heap.size ≤ gb101)); have n3_ := Aside0.mk ((by rw [hg]; exact (below_size (by repeat (first | (with_reducible first | exact HB.out | apply below_alloc | apply pw_below_drewN | apply below_drew1) | exact HB.out))) : w.heap.size ≤ gb101)); clear HB; have HB := n0_; have BK101 := n1_; have GW101 := n2_; have GE101 := n3_; clear n0_ n1_ n2_ n3_; clear hb hbox hg; have hcz10_0 : w9.cell? ⟨gb101, 0, none⟩ = some (.int .i64 a0_0) := (blk_cell BK101.out 0).trans rfl; have hcz10_1 : w9.cell? ⟨gb101, 1, none⟩ = some (.int .i64 a0_1) := (blk_cell BK101.out 1).trans rfl; have hcz10_2 : w9.cell? ⟨gb101, 2, none⟩ = some (.int .i64 a0_2) := (blk_cell BK101.out 2).trans rfl; have hcz10_3 : w9.cell? ⟨gb101, 3, none⟩ = some (.int .i64 a0_3) := (blk_cell BK101.out 3).trans rfl; have hfz10_0 := blk_frozen BK101.out 0; have hfz10_1 := blk_frozen BK101.out 1; have hfz10_2 := blk_frozen BK101.out 2; have hfz10_3 := blk_frozen BK101.out 3) | ((with_reducible refine gate_callee (f := 48) rfl ?_); refine goesL_ (some 5) rfl rfl Try.func48 (by kernel_rfl) rfl #[.int .i64 a0_0] rfl (by (try simp only [List.map_toArray, List.map_cons, List.map_nil]); first | done | rfl | (simp only [List.length_drop, List.length_take]; rfl)) ?_; (with_reducible refine (rect_valid.calls a0_0 true _ A2.out).mono ?_); rintro e w' ⟨rfl, ⟨nd, rfl⟩⟩; refine ⟨_, rfl, ?_⟩) | (go_at_call 48; (with_reducible refine (rect_valid.calls a0_1 true _ A4.out).mono ?_); rintro e w' ⟨rfl, ⟨nd, rfl⟩⟩) | (go_at_call 48; (with_reducible refine (rect_valid.calls a0_2 true _ A6.out).mono ?_); rintro e w' ⟨rfl, ⟨nd, rfl⟩⟩) | (go_at_call 48; (with_reducible refine (rect_valid.calls a0_3 t105 _ A8.out).mono ?_); rintro e w' ⟨rfl, ⟨nd, rfl⟩⟩))
        go_ret
        exact ⟨by first | rfl | (simp [errW_none, errW_some] <;> rfl) | (simp [*, errW_none, errW_some] <;> rfl), by repeat (first | (with_reducible first | exact HB.out | apply below_alloc | apply pw_below_drewN | apply below_drew1 | refine below_set ?_ GE101.out) | exact HB.out)⟩
      · replace c7 := Bool.eq_false_iff.mpr c7
        subst c7
        have H1 : (some false) = some r := by rw [if_neg (show ¬ (false = true) by decide)] at H; exact H
        clear H
        have H := H1
        clear H1
        obtain rfl := Option.some.inj H
        go_enter Try.func45, Try.ntmps45
        go_wp2_with (first | ((with_reducible refine gate_dst (N := 1) rfl ?_); refine box_event ?hg (N := 1) ?hd (cs := #[.int .i64 a0_0, .int .i64 a0_1, .int .i64 a0_2, .int .i64 a0_3]) (t := 82) ?hr ?_; (case hd => rfl); (case hg => rfl); (case hr => first | (go_simp; done) | (go_simp; rfl)); intro gb101 hg w11 hbox hb; have n0_ := Aside0.mk (below_step (by repeat (first | (with_reducible first | exact HB.out | apply below_alloc | apply pw_below_drewN | apply below_drew1) | exact HB.out)) hb); have n1_ := Aside0.mk (hbox); have n2_ := Aside0.mk ((by rw [hg]; exact (below_size (by repeat (first | (with_reducible first | exact HB.out | apply below_alloc | apply pw_below_drewN | apply below_drew1) | exact HB.out))) : w.heap.size ≤ gb101)); have n3_ := Aside0.mk ((by rw [hg]; exact (below_size (by repeat (first | (with_reducible first | exact HB.out | apply below_alloc | apply pw_below_drewN | apply below_drew1) | exact HB.out))) : w.heap.size ≤ gb101)); clear HB; have HB := n0_; have BK101 := n1_; have GW101 := n2_; have GE101 := n3_; clear n0_ n1_ n2_ n3_; clear hb hbox hg; have hcz12_0 : w11.cell? ⟨gb101, 0, none⟩ = some (.int .i64 a0_0) := (blk_cell BK101.out 0).trans rfl; have hcz12_1 : w11.cell? ⟨gb101, 1, none⟩ = some (.int .i64 a0_1) := (blk_cell BK101.out 1).trans rfl; have hcz12_2 : w11.cell? ⟨gb101, 2, none⟩ = some (.int .i64 a0_2) := (blk_cell BK101.out 2).trans rfl; have hcz12_3 : w11.cell? ⟨gb101, 3, none⟩ = some (.int .i64 a0_3) := (blk_cell BK101.out 3).trans rfl; have hfz12_0 := blk_frozen BK101.out 0; have hfz12_1 := blk_frozen BK101.out 1; have hfz12_2 := blk_frozen BK101.out 2; have hfz12_3 := blk_frozen BK101.out 3) | ((with_reducible refine gate_callee (f := 48) rfl ?_); refine goesL_ (some 5) rfl rfl Try.func48 (by kernel_rfl) rfl #[.int .i64 a0_0] rfl (by (try simp only [List.map_toArray, List.map_cons, List.map_nil]); first | done | rfl | (simp only [List.length_drop, List.length_take]; rfl)) ?_; (with_reducible refine (rect_valid.calls a0_0 true _ A2.out).mono ?_); rintro e w' ⟨rfl, ⟨nd, rfl⟩⟩; refine ⟨_, rfl, ?_⟩) | (go_at_call 48; (with_reducible refine (rect_valid.calls a0_1 true _ A4.out).mono ?_); rintro e w' ⟨rfl, ⟨nd, rfl⟩⟩) | (go_at_call 48; (with_reducible refine (rect_valid.calls a0_2 false _ A6.out).mono ?_); rintro e w' ⟨rfl, ⟨nd, rfl⟩⟩))
        go_ret
        exact ⟨by first | rfl | (simp [errW_none, errW_some] <;> rfl) | (simp [*, errW_none, errW_some] <;> rfl), by repeat (first | (with_reducible first | exact HB.out | apply below_alloc | apply pw_below_drewN | apply below_drew1 | refine below_set ?_ GE101.out) | exact HB.out)⟩
    · replace c5 := Bool.eq_false_iff.mpr c5
      subst c5
      have H1 : (some false) = some r := by rw [if_neg (show ¬ (false = true) by decide)] at H; exact H
      clear H
      have H := H1
      clear H1
      obtain rfl := Option.some.inj H
      go_enter Try.func45, Try.ntmps45
      go_wp2_with (first | ((with_reducible refine gate_dst (N := 1) rfl ?_); refine box_event ?hg (N := 1) ?hd (cs := #[.int .i64 a0_0, .int .i64 a0_1, .int .i64 a0_2, .int .i64 a0_3]) (t := 82) ?hr ?_; (case hd => rfl); (case hg => rfl); (case hr => first | (go_simp; done) | (go_simp; rfl)); intro gb101 hg w13 hbox hb; have n0_ := Aside0.mk (below_step (by repeat (first | (with_reducible first | exact HB.out | apply below_alloc | apply pw_below_drewN | apply below_drew1) | exact HB.out)) hb); have n1_ := Aside0.mk (hbox); have n2_ := Aside0.mk ((by rw [hg]; exact (below_size (by repeat (first | (with_reducible first | exact HB.out | apply below_alloc | apply pw_below_drewN | apply below_drew1) | exact HB.out))) : w.heap.size ≤ gb101)); have n3_ := Aside0.mk ((by rw [hg]; exact (below_size (by repeat (first | (with_reducible first | exact HB.out | apply below_alloc | apply pw_below_drewN | apply below_drew1) | exact HB.out))) : w.heap.size ≤ gb101)); clear HB; have HB := n0_; have BK101 := n1_; have GW101 := n2_; have GE101 := n3_; clear n0_ n1_ n2_ n3_; clear hb hbox hg; have hcz14_0 : w13.cell? ⟨gb101, 0, none⟩ = some (.int .i64 a0_0) := (blk_cell BK101.out 0).trans rfl; have hcz14_1 : w13.cell? ⟨gb101, 1, none⟩ = some (.int .i64 a0_1) := (blk_cell BK101.out 1).trans rfl; have hcz14_2 : w13.cell? ⟨gb101, 2, none⟩ = some (.int .i64 a0_2) := (blk_cell BK101.out 2).trans rfl; have hcz14_3 : w13.cell? ⟨gb101, 3, none⟩ = some (.int .i64 a0_3) := (blk_cell BK101.out 3).trans rfl; have hfz14_0 := blk_frozen BK101.out 0; have hfz14_1 := blk_frozen BK101.out 1; have hfz14_2 := blk_frozen BK101.out 2; have hfz14_3 := blk_frozen BK101.out 3) | ((with_reducible refine gate_callee (f := 48) rfl ?_); refine goesL_ (some 5) rfl rfl Try.func48 (by kernel_rfl) rfl #[.int .i64 a0_0] rfl (by (try simp only [List.map_toArray, List.map_cons, List.map_nil]); first | done | rfl | (simp only [List.length_drop, List.length_take]; rfl)) ?_; (with_reducible refine (rect_valid.calls a0_0 true _ A2.out).mono ?_); rintro e w' ⟨rfl, ⟨nd, rfl⟩⟩; refine ⟨_, rfl, ?_⟩) | (go_at_call 48; (with_reducible refine (rect_valid.calls a0_1 false _ A4.out).mono ?_); rintro e w' ⟨rfl, ⟨nd, rfl⟩⟩))
      go_ret
      exact ⟨by first | rfl | (simp [errW_none, errW_some] <;> rfl) | (simp [*, errW_none, errW_some] <;> rfl), by repeat (first | (with_reducible first | exact HB.out | apply below_alloc | apply pw_below_drewN | apply below_drew1 | refine below_set ?_ GE101.out) | exact HB.out)⟩
  · replace c3 := Bool.eq_false_iff.mpr c3
    subst c3
    have H1 : (some false) = some r := by rw [if_neg (show ¬ (false = true) by decide)] at H; exact H
    clear H
    have H := H1
    clear H1
    obtain rfl := Option.some.inj H
    go_enter Try.func45, Try.ntmps45
    go_wp2_with (first | ((with_reducible refine gate_dst (N := 1) rfl ?_); refine box_event ?hg (N := 1) ?hd (cs := #[.int .i64 a0_0, .int .i64 a0_1, .int .i64 a0_2, .int .i64 a0_3]) (t := 82) ?hr ?_; (case hd => rfl); (case hg => rfl); (case hr => first | (go_simp; done) | (go_simp; rfl)); intro gb101 hg w15 hbox hb; have n0_ := Aside0.mk (below_step (by repeat (first | (with_reducible first | exact HB.out | apply below_alloc | apply pw_below_drewN | apply below_drew1) | exact HB.out)) hb); have n1_ := Aside0.mk (hbox); have n2_ := Aside0.mk ((by rw [hg]; exact (below_size (by repeat (first | (with_reducible first | exact HB.out | apply below_alloc | apply pw_below_drewN | apply below_drew1) | exact HB.out))) : w.heap.size ≤ gb101)); have n3_ := Aside0.mk ((by rw [hg]; exact (below_size (by repeat (first | (with_reducible first | exact HB.out | apply below_alloc | apply pw_below_drewN | apply below_drew1) | exact HB.out))) : w.heap.size ≤ gb101)); clear HB; have HB := n0_; have BK101 := n1_; have GW101 := n2_; have GE101 := n3_; clear n0_ n1_ n2_ n3_; clear hb hbox hg; have hcz16_0 : w15.cell? ⟨gb101, 0, none⟩ = some (.int .i64 a0_0) := (blk_cell BK101.out 0).trans rfl; have hcz16_1 : w15.cell? ⟨gb101, 1, none⟩ = some (.int .i64 a0_1) := (blk_cell BK101.out 1).trans rfl; have hcz16_2 : w15.cell? ⟨gb101, 2, none⟩ = some (.int .i64 a0_2) := (blk_cell BK101.out 2).trans rfl; have hcz16_3 : w15.cell? ⟨gb101, 3, none⟩ = some (.int .i64 a0_3) := (blk_cell BK101.out 3).trans rfl; have hfz16_0 := blk_frozen BK101.out 0; have hfz16_1 := blk_frozen BK101.out 1; have hfz16_2 := blk_frozen BK101.out 2; have hfz16_3 := blk_frozen BK101.out 3) | ((with_reducible refine gate_callee (f := 48) rfl ?_); refine goesL_ (some 5) rfl rfl Try.func48 (by kernel_rfl) rfl #[.int .i64 a0_0] rfl (by (try simp only [List.map_toArray, List.map_cons, List.map_nil]); first | done | rfl | (simp only [List.length_drop, List.length_take]; rfl)) ?_; (with_reducible refine (rect_valid.calls a0_0 false _ A2.out).mono ?_); rintro e w' ⟨rfl, ⟨nd, rfl⟩⟩; refine ⟨_, rfl, ?_⟩))
    go_ret
    exact ⟨by first | rfl | (simp [errW_none, errW_some] <;> rfl) | (simp [*, errW_none, errW_some] <;> rfl), by repeat (first | (with_reducible first | exact HB.out | apply below_alloc | apply pw_below_drewN | apply below_drew1 | refine below_set ?_ GE101.out) | exact HB.out)⟩
end Go.Proofs.Ytmkhphkkpdiliaa.All
end
section
namespace Go.Proofs.Ytmkhphkkpdiliaa.All
open Go.RowKit Go.Proofs.YtmkhphkkpdiliaaW.PrintWords Go.Proofs.YtmkhphkkpdiliaaW.PrintLast Go.Proofs.YtmkhphkkpdiliaaW.PrintMore
attribute [local go_sem] max2_int min2_int max_two min_two max_three min_three max_four min_four
set_option linter.unusedVariables false
set_option linter.unusedSimpArgs false
def transform_normal.f (a0 : Int) : Option (Int) := (transform_Valid.f a0).bind fun t106 => (if t106 = true then (some a0) else (some 0))
set_option maxHeartbeats 8000000 in
set_option maxRecDepth 100000 in
theorem transform_normal.calls (a0 : Int) (r : Int) (w : World) (h : transform_normal.f a0 = some r) :
    Calls Try.prog 51 #[.int .i64 a0] w fun e w' => e = .returned (.int .i64 r) ∧ Drawn0 w w' := by
  have H : ((transform_Valid.f a0).bind fun t106 => (if t106 = true then (some a0) else (some 0))) = some r := h
  clear h
  replace H := Option.bind_eq_some_iff.mp H
  obtain ⟨t106, A20, H⟩ := H
  replace H : (if t106 = true then (some a0) else (some 0)) = some r := H
  have A2 := Aside0.mk A20
  clear A20
  by_cases c3 : t106 = true
  · subst c3
    have H1 : (some a0) = some r := by rw [if_pos rfl] at H; exact H
    clear H
    have H := H1
    clear H1
    obtain rfl := Option.some.inj H
    go_enter Try.func51, Try.ntmps51
    go_wp2_with (first | ((with_reducible refine gate_callee (f := 44) rfl ?_); refine goesL_ (some 4) rfl rfl Try.func44 (by kernel_rfl) rfl #[.int .i64 a0] rfl (by (try simp only [List.map_toArray, List.map_cons, List.map_nil]); first | done | rfl | (simp only [List.length_drop, List.length_take]; rfl)) ?_; (with_reducible refine (transform_Valid.calls a0 true _ A2.out).mono ?_); rintro e w' ⟨rfl, ⟨nd, rfl⟩⟩; refine ⟨_, rfl, ?_⟩))
    go_ret
    exact ⟨by first | rfl | (simp; done) | (simp [*]; done), by repeat (first | exact Drawn0.refl _ | apply Drawn0.step)⟩
  · replace c3 := Bool.eq_false_iff.mpr c3
    subst c3
    have H1 : (some 0) = some r := by rw [if_neg (show ¬ (false = true) by decide)] at H; exact H
    clear H
    have H := H1
    clear H1
    obtain rfl := Option.some.inj H
    go_enter Try.func51, Try.ntmps51
    go_wp2_with (first | ((with_reducible refine gate_callee (f := 44) rfl ?_); refine goesL_ (some 4) rfl rfl Try.func44 (by kernel_rfl) rfl #[.int .i64 a0] rfl (by (try simp only [List.map_toArray, List.map_cons, List.map_nil]); first | done | rfl | (simp only [List.length_drop, List.length_take]; rfl)) ?_; (with_reducible refine (transform_Valid.calls a0 false _ A2.out).mono ?_); rintro e w' ⟨rfl, ⟨nd, rfl⟩⟩; refine ⟨_, rfl, ?_⟩))
    go_ret
    exact ⟨by first | rfl | (simp; done) | (simp [*]; done), by repeat (first | exact Drawn0.refl _ | apply Drawn0.step)⟩
def transform_Size.f (a0 : Int) (a1 : Int) (a2 : Int) : Option (Int × Int) := (transform_normal.f a0).bind fun t107 => (if (Int.tmod t107 2) = 1 then (some (a2, a1)) else (some (a1, a2)))
set_option maxHeartbeats 8000000 in
set_option maxRecDepth 100000 in
theorem transform_Size.calls (a0 : Int) (a1 : Int) (a2 : Int) (r1 : Int) (r2 : Int) (w : World) (h : transform_Size.f a0 a1 a2 = some (r1, r2)) :
    Calls Try.prog 49 #[.int .i64 a0, .int .i64 a1, .int .i64 a2] w fun e w' => e = .returned (.tuple #[.int .i64 r1, .int .i64 r2]) ∧ Drawn0 w w' := by
  have H : ((transform_normal.f a0).bind fun t107 => (if (Int.tmod t107 2) = 1 then (some (a2, a1)) else (some (a1, a2)))) = some (r1, r2) := h
  clear h
  replace H := Option.bind_eq_some_iff.mp H
  obtain ⟨t107, A40, H⟩ := H
  replace H : (if (Int.tmod t107 2) = 1 then (some (a2, a1)) else (some (a1, a2))) = some (r1, r2) := H
  have A4 := Aside0.mk A40
  clear A40
  by_cases c5 : (Int.tmod t107 2) = 1
  · rw [if_pos c5] at H
    have c5b0 : ((Int.tmod t107 2) == 1) = true := beq_iff_eq.mpr c5
    have c5b1 : ((Int.tmod t107 2) != 1) = false := bne_eq_false_iff_eq.mpr c5
    clear c5
    simp only [Option.some.injEq, Prod.mk.injEq] at H
    obtain ⟨rfl, rfl⟩ := H
    go_enter Try.func49, Try.ntmps49
    go_wp2_with (first | ((with_reducible refine gate_callee (f := 51) rfl ?_); refine goesL_ (some 9) rfl rfl Try.func51 (by kernel_rfl) rfl #[.int .i64 a0] rfl (by (try simp only [List.map_toArray, List.map_cons, List.map_nil]); first | done | rfl | (simp only [List.length_drop, List.length_take]; rfl)) ?_; (with_reducible refine (transform_normal.calls a0 t107 _ A4.out).mono ?_); rintro e w' ⟨rfl, ⟨nd, rfl⟩⟩; refine ⟨_, rfl, ?_⟩))
    go_ret2
    exact ⟨by first | rfl | (simp; done) | (simp [*]; done), by repeat (first | exact Drawn0.refl _ | apply Drawn0.step)⟩
  · rw [if_neg c5] at H
    have c5b0 : ((Int.tmod t107 2) == 1) = false := beq_eq_false_iff_ne.mpr c5
    have c5b1 : ((Int.tmod t107 2) != 1) = true := bne_iff_ne.mpr c5
    simp only [Option.some.injEq, Prod.mk.injEq] at H
    obtain ⟨rfl, rfl⟩ := H
    go_enter Try.func49, Try.ntmps49
    go_wp2_with (first | ((with_reducible refine gate_callee (f := 51) rfl ?_); refine goesL_ (some 9) rfl rfl Try.func51 (by kernel_rfl) rfl #[.int .i64 a0] rfl (by (try simp only [List.map_toArray, List.map_cons, List.map_nil]); first | done | rfl | (simp only [List.length_drop, List.length_take]; rfl)) ?_; (with_reducible refine (transform_normal.calls a0 t107 _ A4.out).mono ?_); rintro e w' ⟨rfl, ⟨nd, rfl⟩⟩; refine ⟨_, rfl, ?_⟩))
    go_ret2
    exact ⟨by first | rfl | (simp; done) | (simp [*]; done), by repeat (first | exact Drawn0.refl _ | apply Drawn0.step)⟩
end Go.Proofs.Ytmkhphkkpdiliaa.All
end
section
namespace Go.Proofs.Ytmkhphkkpdiliaa.All
open Go.Proofs.YtmkhphkkpdiliaaSq
open Go.RowKit Go.Proofs.YtmkhphkkpdiliaaW.PrintWords Go.Proofs.YtmkhphkkpdiliaaW.PrintLast Go.Proofs.YtmkhphkkpdiliaaW.PrintMore
attribute [local go_sem] max2_int min2_int max_two min_two max_three min_three max_four min_four
set_option linter.unusedVariables false
set_option linter.unusedSimpArgs false
abbrev zq46.q0 : Array Bool := #[false, false, false, false, false, false, false, false, false, false, false, false, false, false, false, false, false, false, false, false]
abbrev zq46.q1 : Array Bool := #[true, false, false, false, false, false, false, false, false, false, false, false, false, false, false, false, false, false, false, false]
abbrev zq46.q2 : Array Bool := #[true, false, true, false, false, false, false, false, false, false, false, false, false, false, false, false, false, false, false, false]
abbrev zq46.q3 : Array Bool := #[true, false, true, false, true, false, false, false, false, false, false, false, false, false, false, false, false, false, false, false]
abbrev zq46.q4 : Array Bool := #[true, false, true, false, true, false, true, false, false, false, false, false, false, false, false, false, false, false, false, false]
abbrev zq46.q5 : Array Bool := #[true, false, true, false, true, false, true, true, false, false, false, false, false, false, false, false, false, false, false, false]
abbrev zq46.q6 : Array Bool := #[true, false, true, false, true, false, true, true, false, false, false, true, false, false, false, false, false, false, false, false]
abbrev zq46.q7 : Array Bool := #[true, false, true, false, true, false, true, true, false, false, false, true, false, true, false, false, false, false, false, false]
abbrev zq46.q8 : Array Bool := #[true, false, true, false, true, false, true, true, false, false, false, true, false, true, true, false, false, false, false, false]
abbrev zq46.q9 : Array Bool := #[true, true, true, false, true, false, true, true, false, false, false, true, false, true, true, false, false, false, false, false]
abbrev zq46.q10 : Array Bool := #[true, true, true, true, true, false, true, true, false, false, false, true, false, true, true, false, false, false, false, false]
abbrev zq46.q11 : Array Bool := #[true, true, true, true, true, true, true, true, false, false, false, true, false, true, true, false, false, false, false, false]
abbrev zq46.q12 : Array Bool := #[true, true, true, true, true, true, true, true, true, false, false, true, false, true, true, false, false, false, false, false]
abbrev zq46.q13 : Array Bool := #[true, true, true, true, true, true, true, true, true, true, false, true, false, true, true, false, false, false, false, false]
abbrev zq46.q14 : Array Bool := #[true, true, true, true, true, true, true, true, true, true, true, true, false, true, true, false, false, false, false, false]
abbrev zq46.q15 : Array Bool := #[true, true, true, true, true, true, true, true, true, true, true, true, true, true, true, false, false, false, false, false]
abbrev zq46.q16 : Array Bool := #[true, true, true, true, true, true, true, true, true, true, true, true, true, true, true, true, false, false, false, false]
abbrev zq46.q17 : Array Bool := #[true, true, true, true, true, true, true, true, true, true, true, true, true, true, true, true, true, false, false, false]
abbrev zq46.q18 : Array Bool := #[true, true, true, true, true, true, true, true, true, true, true, true, true, true, true, true, true, true, false, false]
abbrev zq46.q19 : Array Bool := #[true, true, true, true, true, true, true, true, true, true, true, true, true, true, true, true, true, true, true, false]
abbrev zq46.q20 : Array Bool := #[true, true, true, true, true, true, true, true, true, true, true, true, true, true, true, true, true, true, true, true]
def output_logical.f (a0_0 : ByteArray) (a0_1 : Int) (a0_2 : Int) (a0_3 : Int) (a0_4 : Int) (a0_5 : Int) (a0_6 : Int) (a0_7 : Int) : Option (Int × Int × Int × Int) := (transform_Size.f a0_5 a0_1 a0_2).bind fun bt110 => (if a0_4 = 0 then (none) else (some (a0_6, a0_7, wrap64 (a0_6 + (wrap64 (Int.tdiv bt110.1 a0_4))), wrap64 (a0_7 + (wrap64 (Int.tdiv bt110.2 a0_4))))))
def output_logical.T2 : Bool × List (List Nat × List Nat) := (true, [([], []), ([0], [0]), ([], []), ([2], [2]), ([], []), ([4], [4]), ([], []), ([], []), ([7], [7]), ([6, 8], [6, 8]), ([5, 9], [5, 9]), ([], []), ([11], [11]), ([], []), ([], []), ([14], [14]), ([13, 15], [13, 15]), ([12, 16], [12, 16]), ([1, 3, 10, 17], [1, 3, 10, 17]), ([18, 0, 1, 2, 3, 4, 5, 6, 7, 8, 9, 10, 11, 12, 13, 14, 15, 16, 17, 18], [18])])
def output_logical.B2 : List Nat := [0, 1, 0, 4, 0, 16, 0, 0, 128, 448, 1008, 0, 2048, 0, 0, 16384, 57344, 129024, 262143, 524287]
theorem output_logical.tab2 : rtab .any (opsOf Try.f46 2) = output_logical.T2 := by kernel_rfl
theorem output_logical.bits2 : waitsOk output_logical.T2.2 output_logical.B2 = true := by kernel_rfl
set_option maxHeartbeats 8000000 in
set_option maxRecDepth 100000 in
theorem output_logical.calls (a0_0 : ByteArray) (a0_1 : Int) (a0_2 : Int) (a0_3 : Int) (a0_4 : Int) (a0_5 : Int) (a0_6 : Int) (a0_7 : Int) (r1 : Int) (r2 : Int) (r3 : Int) (r4 : Int) (w : World) (h : output_logical.f a0_0 a0_1 a0_2 a0_3 a0_4 a0_5 a0_6 a0_7 = some (r1, r2, r3, r4)) :
    Calls Try.prog 46 #[.agg #[.string a0_0, .int .i64 a0_1, .int .i64 a0_2, .int .i64 a0_3, .int .i64 a0_4, .int .i64 a0_5, .int .i64 a0_6, .int .i64 a0_7]] w fun e w' => e = .returned (.agg #[.int .i64 r1, .int .i64 r2, .int .i64 r3, .int .i64 r4]) ∧ Below w.heap.size w w' := by
  have hu23 := Try.underlying23
  have hu82 := Try.underlying82
  have HB := Aside0.mk (Below.refl w.heap.size w)
  have H : ((transform_Size.f a0_5 a0_1 a0_2).bind fun bt110 => (if a0_4 = 0 then (none) else (some (a0_6, a0_7, wrap64 (a0_6 + (wrap64 (Int.tdiv bt110.1 a0_4))), wrap64 (a0_7 + (wrap64 (Int.tdiv bt110.2 a0_4))))))) = some (r1, r2, r3, r4) := h
  clear h
  replace H := Option.bind_eq_some_iff.mp H
  obtain ⟨⟨t110, t111⟩, A20, H⟩ := H
  replace H : (if a0_4 = 0 then (none) else (some (a0_6, a0_7, wrap64 (a0_6 + (wrap64 (Int.tdiv t110 a0_4))), wrap64 (a0_7 + (wrap64 (Int.tdiv t111 a0_4)))))) = some (r1, r2, r3, r4) := H
  have A2 := Aside0.mk A20
  clear A20
  by_cases c3 : a0_4 = 0
  · rw [if_pos c3] at H
    exact absurd H (by simp)
  · rw [if_neg c3] at H
    have c3b0 : (a0_4 == 0) = false := beq_eq_false_iff_ne.mpr c3
    have c3b1 : (a0_4 != 0) = true := bne_iff_ne.mpr c3
    simp only [Option.some.injEq, Prod.mk.injEq] at H
    obtain ⟨rfl, rfl, rfl, rfl⟩ := H
    go_enter Try.func46, Try.ntmps46
    try go_wp2_with (first | ((with_reducible refine gate_dst (N := 1) rfl ?_); refine box_event ?hg (N := 1) ?hd (cs := #[.string a0_0, .int .i64 a0_1, .int .i64 a0_2, .int .i64 a0_3, .int .i64 a0_4, .int .i64 a0_5, .int .i64 a0_6, .int .i64 a0_7]) (t := 23) ?hr ?_; (case hd => rfl); (case hg => rfl); (case hr => first | (go_simp; done) | (go_simp; rfl)); intro gb108 hg w4 hbox hb; have n0_ := Aside0.mk (below_step (by repeat (first | (with_reducible first | exact HB.out | apply below_alloc | apply pw_below_drewN | apply below_drew1) | exact HB.out)) hb); have n1_ := Aside0.mk (hbox); have n2_ := Aside0.mk ((by rw [hg]; exact (below_size (by repeat (first | (with_reducible first | exact HB.out | apply below_alloc | apply pw_below_drewN | apply below_drew1) | exact HB.out))) : w.heap.size ≤ gb108)); have n3_ := Aside0.mk ((by rw [hg]; exact (below_size (by repeat (first | (with_reducible first | exact HB.out | apply below_alloc | apply pw_below_drewN | apply below_drew1) | exact HB.out))) : w.heap.size ≤ gb108)); clear HB; have HB := n0_; have BK108 := n1_; have GW108 := n2_; have GE108 := n3_; clear n0_ n1_ n2_ n3_; clear hb hbox hg) | ((with_reducible refine gate_dst (N := 2) rfl ?_); refine box_event ?hg (N := 2) ?hd (cs := #[.int .i64 0, .int .i64 0, .int .i64 0, .int .i64 0]) (t := 82) ?hr ?_; (case hd => rfl); (case hg => rfl); (case hr => first | (go_simp; done) | (go_simp; rfl)); intro gb109 hg w5 hbox hb; have n0_ := Aside0.mk (blk_below (g := gb108) (o := .cells #[.string a0_0, .int .i64 a0_1, .int .i64 a0_2, .int .i64 a0_3, .int .i64 a0_4, .int .i64 a0_5, .int .i64 a0_6, .int .i64 a0_7] 23 (0, 0)) (by (with_reducible repeat (first | refine blk_drewN ?_ _ | refine blk_drew ?_ | refine blk_alloc ?_ _)); exact BK108.out) hb); have n1_ := Aside0.mk (below_step (by repeat (first | (with_reducible first | exact HB.out | apply below_alloc | apply pw_below_drewN | apply below_drew1 | refine below_set ?_ GE108.out) | exact HB.out)) hb); have n2_ := Aside0.mk (hbox); have n3_ := Aside0.mk ((by rw [hg]; exact (below_size (by repeat (first | (with_reducible first | exact HB.out | apply below_alloc | apply pw_below_drewN | apply below_drew1 | refine below_set ?_ GE108.out) | exact HB.out))) : w.heap.size ≤ gb109)); have n4_ := Aside0.mk ((by rw [hg]; exact (below_size (by repeat (first | (with_reducible first | exact HB.out | apply below_alloc | apply pw_below_drewN | apply below_drew1 | refine below_set ?_ GE108.out) | exact HB.out))) : w.heap.size ≤ gb109)); have n5_ := Aside0.mk ((by rw [hg]; exact Nat.ne_of_lt (blk_lt (g := gb108) (o := .cells #[.string a0_0, .int .i64 a0_1, .int .i64 a0_2, .int .i64 a0_3, .int .i64 a0_4, .int .i64 a0_5, .int .i64 a0_6, .int .i64 a0_7] 23 (0, 0)) (by (with_reducible repeat (first | refine blk_drewN ?_ _ | refine blk_drew ?_ | refine blk_alloc ?_ _)); exact BK108.out)) : gb108 ≠ gb109)); have n6_ := Aside0.mk ((by rw [hg]; exact Nat.ne_of_gt (blk_lt (g := gb108) (o := .cells #[.string a0_0, .int .i64 a0_1, .int .i64 a0_2, .int .i64 a0_3, .int .i64 a0_4, .int .i64 a0_5, .int .i64 a0_6, .int .i64 a0_7] 23 (0, 0)) (by (with_reducible repeat (first | refine blk_drewN ?_ _ | refine blk_drew ?_ | refine blk_alloc ?_ _)); exact BK108.out)) : gb109 ≠ gb108)); clear BK108; clear HB; have BK108 := n0_; have HB := n1_; have BK109 := n2_; have GW109 := n3_; have GE109 := n4_; have NB108_109 := n5_; have NB109_108 := n6_; clear n0_ n1_ n2_ n3_ n4_ n5_ n6_; clear hb hbox hg; have hnb6 := NB108_109.out; have hnc6 := NB109_108.out; have hcz7_0 : w5.cell? ⟨gb108, 0, none⟩ = some (.string a0_0) := (blk_cell BK108.out 0).trans rfl; have hcz7_1 : w5.cell? ⟨gb108, 1, none⟩ = some (.int .i64 a0_1) := (blk_cell BK108.out 1).trans rfl; have hcz7_2 : w5.cell? ⟨gb108, 2, none⟩ = some (.int .i64 a0_2) := (blk_cell BK108.out 2).trans rfl; have hcz7_3 : w5.cell? ⟨gb108, 3, none⟩ = some (.int .i64 a0_3) := (blk_cell BK108.out 3).trans rfl; have hcz7_4 : w5.cell? ⟨gb108, 4, none⟩ = some (.int .i64 a0_4) := (blk_cell BK108.out 4).trans rfl; have hcz7_5 : w5.cell? ⟨gb108, 5, none⟩ = some (.int .i64 a0_5) := (blk_cell BK108.out 5).trans rfl; have hcz7_6 : w5.cell? ⟨gb108, 6, none⟩ = some (.int .i64 a0_6) := (blk_cell BK108.out 6).trans rfl; have hcz7_7 : w5.cell? ⟨gb108, 7, none⟩ = some (.int .i64 a0_7) := (blk_cell BK108.out 7).trans rfl; have hfz7_0 := blk_frozen BK108.out 0; have hfz7_1 := blk_frozen BK108.out 1; have hfz7_2 := blk_frozen BK108.out 2; have hfz7_3 := blk_frozen BK108.out 3; have hfz7_4 := blk_frozen BK108.out 4; have hfz7_5 := blk_frozen BK108.out 5; have hfz7_6 := blk_frozen BK108.out 6; have hfz7_7 := blk_frozen BK108.out 7) | ((with_reducible refine gate_callee (f := 49) rfl ?_); refine goesL_ (some 12) rfl rfl Try.func49 (by kernel_rfl) rfl #[.int .i64 a0_5, .int .i64 a0_1, .int .i64 a0_2] rfl (by (try simp only [List.map_toArray, List.map_cons, List.map_nil]); first | done | rfl | (simp only [List.length_drop, List.length_take]; rfl)) ?_; (with_reducible refine (transform_Size.calls a0_5 a0_1 a0_2 t110 t111 _ A2.out).mono ?_); rintro e w' ⟨rfl, ⟨nd, rfl⟩⟩; refine ⟨_, rfl, ?_⟩; (try (rw [drewN_self w5]; generalize hq_ : World.drewN w5 _ = w5; have n0_ : Aside0 (w5.heap[gb108]? = some (.cells #[.string a0_0, .int .i64 a0_1, .int .i64 a0_2, .int .i64 a0_3, .int .i64 a0_4, .int .i64 a0_5, .int .i64 a0_6, .int .i64 a0_7] 23 (0, 0))) := ⟨by rw [← hq_]; exact (by (with_reducible repeat (first | refine blk_drewN ?_ _ | refine blk_drew ?_ | refine blk_alloc ?_ _)); exact BK108.out)⟩; have n1_ : Aside0 (w5.heap[gb109]? = some (.cells #[.int .i64 0, .int .i64 0, .int .i64 0, .int .i64 0] 82 (0, 0))) := ⟨by rw [← hq_]; exact (by (with_reducible repeat (first | refine blk_drewN ?_ _ | refine blk_drew ?_ | refine blk_alloc ?_ _)); exact BK109.out)⟩; have n2_ : Aside0 (Below w.heap.size w w5) := ⟨by rw [← hq_]; exact (by repeat (first | (with_reducible first | exact HB.out | apply below_alloc | apply pw_below_drewN | apply below_drew1 | refine below_set ?_ GE108.out | refine below_set ?_ GE109.out) | exact HB.out))⟩; clear BK108 BK109 HB hq_; have BK108 := n0_; have BK109 := n1_; have HB := n2_; clear n0_ n1_ n2_; have hcy0_0 : w5.cell? ⟨gb108, 0, none⟩ = some (.string a0_0) := (blk_cell BK108.out 0).trans rfl; have hfy0_0 := blk_frozen BK108.out 0; have hcy0_1 : w5.cell? ⟨gb108, 1, none⟩ = some (.int .i64 a0_1) := (blk_cell BK108.out 1).trans rfl; have hfy0_1 := blk_frozen BK108.out 1; have hcy0_2 : w5.cell? ⟨gb108, 2, none⟩ = some (.int .i64 a0_2) := (blk_cell BK108.out 2).trans rfl; have hfy0_2 := blk_frozen BK108.out 2; have hcy0_3 : w5.cell? ⟨gb108, 3, none⟩ = some (.int .i64 a0_3) := (blk_cell BK108.out 3).trans rfl; have hfy0_3 := blk_frozen BK108.out 3; have hcy0_4 : w5.cell? ⟨gb108, 4, none⟩ = some (.int .i64 a0_4) := (blk_cell BK108.out 4).trans rfl; have hfy0_4 := blk_frozen BK108.out 4; have hcy0_5 : w5.cell? ⟨gb108, 5, none⟩ = some (.int .i64 a0_5) := (blk_cell BK108.out 5).trans rfl; have hfy0_5 := blk_frozen BK108.out 5; have hcy0_6 : w5.cell? ⟨gb108, 6, none⟩ = some (.int .i64 a0_6) := (blk_cell BK108.out 6).trans rfl; have hfy0_6 := blk_frozen BK108.out 6; have hcy0_7 : w5.cell? ⟨gb108, 7, none⟩ = some (.int .i64 a0_7) := (blk_cell BK108.out 7).trans rfl; have hfy0_7 := blk_frozen BK108.out 7; have hcy1_0 : w5.cell? ⟨gb109, 0, none⟩ = some (.int .i64 0) := (blk_cell BK109.out 0).trans rfl; have hfy1_0 := blk_frozen BK109.out 0; have hcy1_1 : w5.cell? ⟨gb109, 1, none⟩ = some (.int .i64 0) := (blk_cell BK109.out 1).trans rfl; have hfy1_1 := blk_frozen BK109.out 1; have hcy1_2 : w5.cell? ⟨gb109, 2, none⟩ = some (.int .i64 0) := (blk_cell BK109.out 2).trans rfl; have hfy1_2 := blk_frozen BK109.out 2; have hcy1_3 : w5.cell? ⟨gb109, 3, none⟩ = some (.int .i64 0) := (blk_cell BK109.out 3).trans rfl; have hfy1_3 := blk_frozen BK109.out 3))))
    have n0_ := Aside0.mk (blk_drew BK108.out)
    have n1_ := Aside0.mk (blk_drew BK109.out)
    have n2_ := Aside0.mk (below_drew1 HB.out)
    clear BK108
    clear BK109
    clear HB
    have BK108 := n0_
    have BK109 := n1_
    have HB := n2_
    clear n0_ n1_ n2_
    refine start_ (n := 20) (S := fun w' => w'.cell? ⟨gb108, 0, none⟩ = some (.string a0_0) ∧ w'.cell? ⟨gb108, 1, none⟩ = some (.int .i64 a0_1) ∧ w'.cell? ⟨gb108, 2, none⟩ = some (.int .i64 a0_2) ∧ w'.cell? ⟨gb108, 3, none⟩ = some (.int .i64 a0_3) ∧ w'.cell? ⟨gb108, 4, none⟩ = some (.int .i64 a0_4) ∧ w'.cell? ⟨gb108, 5, none⟩ = some (.int .i64 a0_5) ∧ w'.cell? ⟨gb108, 6, none⟩ = some (.int .i64 a0_6) ∧ w'.cell? ⟨gb108, 7, none⟩ = some (.int .i64 a0_7)) (ds := []) zq46.q0 (by kernel_rfl) rfl rfl ⟨(blk_cell BK108.out 0).trans rfl, (blk_cell BK108.out 1).trans rfl, (blk_cell BK108.out 2).trans rfl, (blk_cell BK108.out 3).trans rfl, (blk_cell BK108.out 4).trans rfl, (blk_cell BK108.out 5).trans rfl, (blk_cell BK108.out 6).trans rfl, (blk_cell BK108.out 7).trans rfl⟩ (fun hHeld => ?_); refine with_tabW output_logical.tab2 output_logical.bits2 (fun HT_ HW_ => ?_)
    generalize w5.drew = w8 at BK108 BK109 HB hHeld ⊢
    refine pure_ (i := 0) (N := some 15) (v := ?_) (a' := ?_) zq46.q1 rfl rfl (any_of HT_.out (by kernel_rfl)) (fun _ _ _ h => h) (Or.inl ⟨by rfl, ?_⟩) ?_ ?_
    rotate_left
    · intro w'
      go_simp
      with_reducible rfl
    rotate_left
    · simp only [Act.put, List.setIfInBounds_toArray, List.set_cons_zero, List.set_cons_succ, i64_w, i32_w]
      rfl
    refine pure_ (i := 2) (N := some 17) (v := ?_) (a' := ?_) zq46.q2 rfl rfl (any_of HT_.out (by kernel_rfl)) (fun _ _ _ h => h) (Or.inl ⟨by rfl, ?_⟩) ?_ ?_
    rotate_left
    · intro w'
      go_simp
      with_reducible rfl
    rotate_left
    · simp only [Act.put, List.setIfInBounds_toArray, List.set_cons_zero, List.set_cons_succ, i64_w, i32_w]
      rfl
    refine pure_ (i := 4) (N := some 19) (v := ?_) (a' := ?_) zq46.q3 rfl rfl (any_of HT_.out (by kernel_rfl)) (fun _ _ _ h => h) (Or.inl ⟨by rfl, ?_⟩) ?_ ?_
    rotate_left
    · intro w'
      go_simp
      with_reducible rfl
    rotate_left
    · simp only [Act.put, List.setIfInBounds_toArray, List.set_cons_zero, List.set_cons_succ, i64_w, i32_w]
      rfl
    refine pure_ (i := 6) (N := some 21) (v := ?_) (a' := ?_) zq46.q4 rfl rfl (any_of HT_.out (by kernel_rfl)) (fun _ _ _ h => h) (Or.inl ⟨by rfl, ?_⟩) ?_ ?_
    rotate_left
    · intro w'
      go_simp
      with_reducible rfl
    rotate_left
    · simp only [Act.put, List.setIfInBounds_toArray, List.set_cons_zero, List.set_cons_succ, i64_w, i32_w]
      rfl
    refine pure_ (i := 7) (N := some 22) (v := ?_) (a' := ?_) zq46.q5 rfl rfl (any_of HT_.out (by kernel_rfl)) (fun _ _ _ h => h) (Or.inl ⟨by rfl, ?_⟩) ?_ ?_
    rotate_left
    · intro w'
      go_simp
      with_reducible rfl
    rotate_left
    · simp only [Act.put, List.setIfInBounds_toArray, List.set_cons_zero, List.set_cons_succ, i64_w, i32_w]
      rfl
    refine pure_ (i := 11) (N := some 26) (v := ?_) (a' := ?_) zq46.q6 rfl rfl (any_of HT_.out (by kernel_rfl)) (fun _ _ _ h => h) (Or.inl ⟨by rfl, ?_⟩) ?_ ?_
    rotate_left
    · intro w'
      go_simp
      with_reducible rfl
    rotate_left
    · simp only [Act.put, List.setIfInBounds_toArray, List.set_cons_zero, List.set_cons_succ, i64_w, i32_w]
      rfl
    refine pure_ (i := 13) (N := some 28) (v := ?_) (a' := ?_) zq46.q7 rfl rfl (any_of HT_.out (by kernel_rfl)) (fun _ _ _ h => h) (Or.inl ⟨by rfl, ?_⟩) ?_ ?_
    rotate_left
    · intro w'
      go_simp
      with_reducible rfl
    rotate_left
    · simp only [Act.put, List.setIfInBounds_toArray, List.set_cons_zero, List.set_cons_succ, i64_w, i32_w]
      rfl
    refine pure_ (i := 14) (N := some 29) (v := ?_) (a' := ?_) zq46.q8 rfl rfl (any_of HT_.out (by kernel_rfl)) (fun _ _ _ h => h) (Or.inl ⟨by rfl, ?_⟩) ?_ ?_
    rotate_left
    · intro w'
      go_simp
      with_reducible rfl
    rotate_left
    · simp only [Act.put, List.setIfInBounds_toArray, List.set_cons_zero, List.set_cons_succ, i64_w, i32_w]
      rfl
    refine take_ (i := 1) (N := some 16) (v := ?_) (a' := ?_) zq46.q9 rfl rfl (take_ofW HT_.out HW_.out (by kernel_rfl)) (fun _ _ _ h => h) (Or.inl ⟨by rfl, ?_⟩) hHeld ?_ ?_
    rotate_left
    · rintro w' ⟨s0, s1, s2, s3, s4, s5, s6, s7⟩
      go_simp
      with_reducible rfl
    rotate_left
    · simp only [Act.put, List.setIfInBounds_toArray, List.set_cons_zero, List.set_cons_succ, i64_w, i32_w]
      rfl
    refine take_ (i := 3) (N := some 18) (v := ?_) (a' := ?_) zq46.q10 rfl rfl (take_ofW HT_.out HW_.out (by kernel_rfl)) (fun _ _ _ h => h) (Or.inl ⟨by rfl, ?_⟩) hHeld ?_ ?_
    rotate_left
    · rintro w' ⟨s0, s1, s2, s3, s4, s5, s6, s7⟩
      go_simp
      with_reducible rfl
    rotate_left
    · simp only [Act.put, List.setIfInBounds_toArray, List.set_cons_zero, List.set_cons_succ, i64_w, i32_w]
      rfl
    refine take_ (i := 5) (N := some 20) (v := ?_) (a' := ?_) zq46.q11 rfl rfl (take_ofW HT_.out HW_.out (by kernel_rfl)) (fun _ _ _ h => h) (Or.inl ⟨by rfl, ?_⟩) hHeld ?_ ?_
    rotate_left
    · rintro w' ⟨s0, s1, s2, s3, s4, s5, s6, s7⟩
      go_simp
      with_reducible rfl
    rotate_left
    · simp only [Act.put, List.setIfInBounds_toArray, List.set_cons_zero, List.set_cons_succ, i64_w, i32_w]
      rfl
    refine take_ (i := 8) (N := some 23) (v := ?_) (a' := ?_) zq46.q12 rfl rfl (take_ofW HT_.out HW_.out (by kernel_rfl)) (fun _ _ _ h => h) (Or.inl ⟨by rfl, ?_⟩) hHeld ?_ ?_
    rotate_left
    · rintro w' ⟨s0, s1, s2, s3, s4, s5, s6, s7⟩
      go_simp
      with_reducible rfl
    rotate_left
    · simp only [Act.put, List.setIfInBounds_toArray, List.set_cons_zero, List.set_cons_succ, i64_w, i32_w]
      rfl
    refine pure_ (i := 9) (N := some 24) (v := ?_) (a' := ?_) zq46.q13 rfl rfl (any_of HT_.out (by kernel_rfl)) (fun _ _ _ h => h) (Or.inl ⟨by rfl, ?_⟩) ?_ ?_
    rotate_left
    · intro w'
      go_simp
      with_reducible rfl
    rotate_left
    · simp only [Act.put, List.setIfInBounds_toArray, List.set_cons_zero, List.set_cons_succ, i64_w, i32_w]
      rfl
    refine pure_ (i := 10) (N := some 25) (v := ?_) (a' := ?_) zq46.q14 rfl rfl (any_of HT_.out (by kernel_rfl)) (fun _ _ _ h => h) (Or.inl ⟨by rfl, ?_⟩) ?_ ?_
    rotate_left
    · intro w'
      go_simp
      with_reducible rfl
    rotate_left
    · simp only [Act.put, List.setIfInBounds_toArray, List.set_cons_zero, List.set_cons_succ, i64_w, i32_w]
      rfl
    refine take_ (i := 12) (N := some 27) (v := ?_) (a' := ?_) zq46.q15 rfl rfl (take_ofW HT_.out HW_.out (by kernel_rfl)) (fun _ _ _ h => h) (Or.inl ⟨by rfl, ?_⟩) hHeld ?_ ?_
    rotate_left
    · rintro w' ⟨s0, s1, s2, s3, s4, s5, s6, s7⟩
      go_simp
      with_reducible rfl
    rotate_left
    · simp only [Act.put, List.setIfInBounds_toArray, List.set_cons_zero, List.set_cons_succ, i64_w, i32_w]
      rfl
    refine take_ (i := 15) (N := some 30) (v := ?_) (a' := ?_) zq46.q16 rfl rfl (take_ofW HT_.out HW_.out (by kernel_rfl)) (fun _ _ _ h => h) (Or.inl ⟨by rfl, ?_⟩) hHeld ?_ ?_
    rotate_left
    · rintro w' ⟨s0, s1, s2, s3, s4, s5, s6, s7⟩
      go_simp
      with_reducible rfl
    rotate_left
    · simp only [Act.put, List.setIfInBounds_toArray, List.set_cons_zero, List.set_cons_succ, i64_w, i32_w]
      rfl
    refine pure_ (i := 16) (N := some 31) (v := ?_) (a' := ?_) zq46.q17 rfl rfl (any_of HT_.out (by kernel_rfl)) (fun _ _ _ h => h) (Or.inl ⟨by rfl, ?_⟩) ?_ ?_
    rotate_left
    · intro w'
      go_simp
      with_reducible rfl
    rotate_left
    · simp only [Act.put, List.setIfInBounds_toArray, List.set_cons_zero, List.set_cons_succ, i64_w, i32_w]
      rfl
    refine pure_ (i := 17) (N := some 32) (v := ?_) (a' := ?_) zq46.q18 rfl rfl (any_of HT_.out (by kernel_rfl)) (fun _ _ _ h => h) (Or.inl ⟨by rfl, ?_⟩) ?_ ?_
    rotate_left
    · intro w'
      go_simp
      with_reducible rfl
    rotate_left
    · simp only [Act.put, List.setIfInBounds_toArray, List.set_cons_zero, List.set_cons_succ, i64_w, i32_w]
      rfl
    refine pure_ (i := 18) (N := some 33) (v := ?_) (a' := ?_) zq46.q19 rfl rfl (any_of HT_.out (by kernel_rfl)) (fun _ _ _ h => h) (Or.inl ⟨by rfl, ?_⟩) ?_ ?_
    rotate_left
    · intro w'
      go_simp
      with_reducible rfl
    rotate_left
    · simp only [Act.put, List.setIfInBounds_toArray, List.set_cons_zero, List.set_cons_succ, i64_w, i32_w]
      rfl
    refine one_ (i := 19) (N := none) zq46.q20 rfl rfl (one_of HT_.out (by kernel_rfl)) (by decide) (fun K hK => ?_)
    have hs9 : w8.cell? ⟨gb109, 0, none⟩ = some (.int .i64 0) := (blk_cell BK109.out 0).trans rfl
    have hfs9 := blk_frozen BK109.out 0
    have hns9_0 := NB108_109.out
    have hms9_0 := NB109_108.out
    have hs10 : w8.cell? ⟨gb109, 1, none⟩ = some (.int .i64 0) := (blk_cell BK109.out 1).trans rfl
    have hfs10 := blk_frozen BK109.out 1
    have hns10_0 := NB108_109.out
    have hms10_0 := NB109_108.out
    have hs11 : w8.cell? ⟨gb109, 2, none⟩ = some (.int .i64 0) := (blk_cell BK109.out 2).trans rfl
    have hfs11 := blk_frozen BK109.out 2
    have hns11_0 := NB108_109.out
    have hms11_0 := NB109_108.out
    have hs12 : w8.cell? ⟨gb109, 3, none⟩ = some (.int .i64 0) := (blk_cell BK109.out 3).trans rfl
    have hfs12 := blk_frozen BK109.out 3
    have hns12_0 := NB108_109.out
    have hms12_0 := NB109_108.out
    refine skip_ (w1 := ?_) (by rfl) rfl ?_ ?_
    rotate_left
    · go_simp
      rfl
    refine hK.out _ _ ⟨((cell_far (p := ⟨gb109, _, none⟩) NB108_109.out _).trans (((cell_far (p := ⟨gb109, _, none⟩) NB108_109.out _).trans (((cell_far (p := ⟨gb109, _, none⟩) NB108_109.out _).trans (((cell_far (p := ⟨gb109, _, none⟩) NB108_109.out _).trans (hHeld.1)))))))), ((cell_far (p := ⟨gb109, _, none⟩) NB108_109.out _).trans (((cell_far (p := ⟨gb109, _, none⟩) NB108_109.out _).trans (((cell_far (p := ⟨gb109, _, none⟩) NB108_109.out _).trans (((cell_far (p := ⟨gb109, _, none⟩) NB108_109.out _).trans (hHeld.2.1)))))))), ((cell_far (p := ⟨gb109, _, none⟩) NB108_109.out _).trans (((cell_far (p := ⟨gb109, _, none⟩) NB108_109.out _).trans (((cell_far (p := ⟨gb109, _, none⟩) NB108_109.out _).trans (((cell_far (p := ⟨gb109, _, none⟩) NB108_109.out _).trans (hHeld.2.2.1)))))))), ((cell_far (p := ⟨gb109, _, none⟩) NB108_109.out _).trans (((cell_far (p := ⟨gb109, _, none⟩) NB108_109.out _).trans (((cell_far (p := ⟨gb109, _, none⟩) NB108_109.out _).trans (((cell_far (p := ⟨gb109, _, none⟩) NB108_109.out _).trans (hHeld.2.2.2.1)))))))), ((cell_far (p := ⟨gb109, _, none⟩) NB108_109.out _).trans (((cell_far (p := ⟨gb109, _, none⟩) NB108_109.out _).trans (((cell_far (p := ⟨gb109, _, none⟩) NB108_109.out _).trans (((cell_far (p := ⟨gb109, _, none⟩) NB108_109.out _).trans (hHeld.2.2.2.2.1)))))))), ((cell_far (p := ⟨gb109, _, none⟩) NB108_109.out _).trans (((cell_far (p := ⟨gb109, _, none⟩) NB108_109.out _).trans (((cell_far (p := ⟨gb109, _, none⟩) NB108_109.out _).trans (((cell_far (p := ⟨gb109, _, none⟩) NB108_109.out _).trans (hHeld.2.2.2.2.2.1)))))))), ((cell_far (p := ⟨gb109, _, none⟩) NB108_109.out _).trans (((cell_far (p := ⟨gb109, _, none⟩) NB108_109.out _).trans (((cell_far (p := ⟨gb109, _, none⟩) NB108_109.out _).trans (((cell_far (p := ⟨gb109, _, none⟩) NB108_109.out _).trans (hHeld.2.2.2.2.2.2.1)))))))), ((cell_far (p := ⟨gb109, _, none⟩) NB108_109.out _).trans (((cell_far (p := ⟨gb109, _, none⟩) NB108_109.out _).trans (((cell_far (p := ⟨gb109, _, none⟩) NB108_109.out _).trans (((cell_far (p := ⟨gb109, _, none⟩) NB108_109.out _).trans (hHeld.2.2.2.2.2.2.2))))))))⟩ (fun hHeld => ?_)
    clear hK K
    refine done_ (done_of HT_.out (by kernel_rfl)) ?_
    try go_wp2
    refine bodyPost_ret (results_cell_row rfl _ _ gb109 82 #[.int .i64 a0_6, .int .i64 a0_7, .int .i64 (wrap64 (a0_6 + (wrap64 (Int.tdiv t110 a0_4)))), .int .i64 (wrap64 (a0_7 + (wrap64 (Int.tdiv t111 a0_4))))] (0, 0) _ rfl (by (with_reducible repeat (first | refine blk_drewN ?_ _ | refine blk_drew ?_ | refine blk_alloc ?_ _)); refine blk_put (cs := #[.int .i64 a0_6, .int .i64 a0_7, .int .i64 (wrap64 (a0_6 + (wrap64 (Int.tdiv t110 a0_4)))), .int .i64 0]) ?_ 3 _ rfl; (with_reducible repeat (first | refine blk_drewN ?_ _ | refine blk_drew ?_ | refine blk_alloc ?_ _)); refine blk_put (cs := #[.int .i64 a0_6, .int .i64 a0_7, .int .i64 0, .int .i64 0]) ?_ 2 _ rfl; (with_reducible repeat (first | refine blk_drewN ?_ _ | refine blk_drew ?_ | refine blk_alloc ?_ _)); refine blk_put (cs := #[.int .i64 a0_6, .int .i64 0, .int .i64 0, .int .i64 0]) ?_ 1 _ rfl; (with_reducible repeat (first | refine blk_drewN ?_ _ | refine blk_drew ?_ | refine blk_alloc ?_ _)); refine blk_put (cs := #[.int .i64 0, .int .i64 0, .int .i64 0, .int .i64 0]) ?_ 0 _ rfl; (with_reducible repeat (first | refine blk_drewN ?_ _ | refine blk_drew ?_ | refine blk_alloc ?_ _)); exact BK109.out) Try.underlying82 rfl (by kernel_rfl)) rfl ?_
    exact ⟨by first | rfl | (simp [errW_none, errW_some] <;> rfl) | (simp [*, errW_none, errW_some] <;> rfl), by repeat (first | (with_reducible first | exact HB.out | apply below_alloc | apply pw_below_drewN | apply below_drew1 | refine below_set ?_ GE108.out | refine below_set ?_ GE109.out) | exact HB.out)⟩
end Go.Proofs.Ytmkhphkkpdiliaa.All
end
section
namespace Go.Proofs.Ytmkhphkkpdiliaa.All
open Go.RowKit Go.Proofs.YtmkhphkkpdiliaaW.PrintWords Go.Proofs.YtmkhphkkpdiliaaW.PrintLast Go.Proofs.YtmkhphkkpdiliaaW.PrintMore
attribute [local go_sem] max2_int min2_int max_two min_two max_three min_three max_four min_four
set_option linter.unusedVariables false
set_option linter.unusedSimpArgs false
section
open Go.Proofs.YtmkhphkkpdiliaaHand Go.Proofs.YtmkhphkkpdiliaaSq
def output_Check.sz (n sc : Int) : Option Bool := if n ≥ 1 then (if n ≤ 256 then (if sc = 0 then none else some (Int.tmod n sc == 0)) else some false) else some false
def output_Check.pl (n : Int) : Option Bool := if n ≥ -16384 then some (decide (n ≤ 16384)) else some false
theorem output_Check.sizes (n : Int) (r : Bool) (gB : Nat) (w : World) (a0_0 : ByteArray) (a0_1 a0_2 a0_3 a0_4 a0_5 a0_6 a0_7 : Int) (hB : w.heap[gB]? = some (.cells #[.string a0_0, .int .i64 a0_1, .int .i64 a0_2, .int .i64 a0_3, .int .i64 a0_4, .int .i64 a0_5, .int .i64 a0_6, .int .i64 a0_7] 23 (0, 0))) (hsc : 1 ≤ a0_4) (h : output_Check.sz n a0_4 = some r) : Calls Try.prog 42 #[.int .i64 n, .pointer (some ⟨gB, 0, none⟩)] w fun e w' => e = .returned (.bool r) ∧ ∃ nd, w' = w.drewN nd := by
  have hu23 := Try.underlying23
  have h4c : w.cell? ⟨gB, 4, none⟩ = some (.int .i64 a0_4) := (blk_cell hB 4).trans rfl
  have h4f := blk_frozen hB 4
  unfold output_Check.sz at h
  by_cases h1 : n ≥ 1
  · rw [if_pos h1] at h
    by_cases h2 : n ≤ 256
    · rw [if_pos h2, if_neg (by omega)] at h
      obtain rfl := Option.some.inj h
      have d1 : decide (1 ≤ n) = true := decide_eq_true h1
      have d2 : decide (n ≤ 256) = true := decide_eq_true h2
      have d3 : ¬ a0_4 = 0 := by omega
      go_enter Try.func42, Try.ntmps42
      go_wp2_with fail
      go_ret
      exact ⟨by first | rfl | (rw [Int.tmod_eq_emod_of_nonneg (by omega)]; rfl), 0, rfl⟩
    · rw [if_neg h2] at h
      obtain rfl := Option.some.inj h
      have d1 : decide (1 ≤ n) = true := decide_eq_true h1
      have d2 : decide (n ≤ 256) = false := decide_eq_false h2
      go_enter Try.func42, Try.ntmps42
      go_wp2_with fail
      go_ret
      exact ⟨rfl, 0, rfl⟩
  · rw [if_neg h1] at h
    obtain rfl := Option.some.inj h
    have d1 : decide (1 ≤ n) = false := decide_eq_false h1
    go_enter Try.func42, Try.ntmps42
    go_wp2_with fail
    go_ret
    exact ⟨rfl, 0, rfl⟩
theorem output_Check.place (n : Int) (r : Bool) (w : World) (h : output_Check.pl n = some r) : Calls Try.prog 43 #[.int .i64 n] w fun e w' => e = .returned (.bool r) ∧ ∃ nd, w' = w.drewN nd := by
  unfold output_Check.pl at h
  by_cases h1 : n ≥ -16384
  · rw [if_pos h1] at h
    obtain rfl := Option.some.inj h
    have d1 : decide (-16384 ≤ n) = true := decide_eq_true h1
    go_enter Try.func43, Try.ntmps43
    go_wp2_with fail
    go_ret
    exact ⟨rfl, 0, rfl⟩
  · rw [if_neg h1] at h
    obtain rfl := Option.some.inj h
    have d1 : decide (-16384 ≤ n) = false := decide_eq_false h1
    go_enter Try.func43, Try.ntmps43
    go_wp2_with fail
    go_ret
    exact ⟨rfl, 0, rfl⟩
theorem toL_nil {s : ByteArray} (h : s.size = 0) : s.toList = [] := by
  rw [ByteArray.toList_eq]
  refine List.length_eq_zero_iff.mp ?_
  rw [Array.length_toList]
  exact h
theorem toL_size {s : ByteArray} (h : s.toList = []) : s.size = 0 := by
  rw [ByteArray.toList_eq] at h
  have := congrArg List.length h
  rw [Array.length_toList] at this
  exact this
theorem le_of_c {a : Int} (h : ¬ a < 1) : 1 ≤ a := by omega
def output_Check.f (a0_0 : ByteArray) (a0_1 a0_2 a0_3 a0_4 a0_5 a0_6 a0_7 : Int) : Option Int := if (a0_0.size : Int) = 0 then some 2 else if (a0_0.size : Int) > 32 then some 2 else (transform_Valid.f a0_5).bind fun v => if v = true then (if a0_4 < 1 then some 2 else if a0_4 > 4 then some 2 else (output_Check.sz a0_1 a0_4).bind fun s1 => if s1 = true then (output_Check.sz a0_2 a0_4).bind fun s2 => if s2 = true then (if a0_3 < 1000 then some 6 else if a0_3 > 240000 then some 6 else (output_Check.pl a0_6).bind fun p1 => if p1 = true then (output_Check.pl a0_7).bind fun p2 => if p2 = true then (output_logical.f a0_0 a0_1 a0_2 a0_3 a0_4 a0_5 a0_6 a0_7).bind fun q => (rect_Valid.f q.1 q.2.1 q.2.2.1 q.2.2.2).bind fun b => if b = true then some 0 else some 6 else some 6 else some 6) else some 6 else some 6) else some 2
set_option maxHeartbeats 8000000 in
set_option maxRecDepth 100000 in
theorem output_Check.calls (a0_0 : ByteArray) (a0_1 a0_2 a0_3 a0_4 a0_5 a0_6 a0_7 : Int) (r : Int) (w : World) (h : output_Check.f a0_0 a0_1 a0_2 a0_3 a0_4 a0_5 a0_6 a0_7 = some r) :
    Calls Try.prog 31 #[.agg #[.string a0_0, .int .i64 a0_1, .int .i64 a0_2, .int .i64 a0_3, .int .i64 a0_4, .int .i64 a0_5, .int .i64 a0_6, .int .i64 a0_7]] w fun e w' => e = .returned (.int .i64 r) ∧ Below w.heap.size w w' := by
  have hu23 := Try.underlying23
  have HB := Aside0.mk (Below.refl w.heap.size w)
  unfold output_Check.f at h
  by_cases c0 : (a0_0.size : Int) = 0
  · rw [if_pos c0] at h
    have q0 : a0_0.toList = [] := toL_nil (by omega)
    have q1 : a0_0.toList.isEmpty = true := by rw [q0]; rfl
    obtain rfl := Option.some.inj h
    go_enter Try.func31, Try.ntmps31
    go_wp2_with (first | ((with_reducible refine gate_dst (N := 1) rfl ?_); refine box_event ?hg (N := 1) ?hd (cs := #[.string a0_0, .int .i64 a0_1, .int .i64 a0_2, .int .i64 a0_3, .int .i64 a0_4, .int .i64 a0_5, .int .i64 a0_6, .int .i64 a0_7]) (t := 23) ?hr ?_; (case hd => rfl); (case hg => rfl); (case hr => first | (go_simp; done) | (go_simp; rfl)); intro gB hg w9 hbox hb; have n0_ := Aside0.mk (below_step (by repeat (first | (with_reducible first | exact HB.out | apply below_alloc | apply pw_below_drewN | apply below_drew1) | exact HB.out)) hb); clear HB; have HB := n0_; clear n0_; have BK := Aside0.mk hbox; clear hb hbox hg; have hcz_0 : w9.cell? ⟨gB, 0, none⟩ = some (.string a0_0) := (blk_cell BK.out 0).trans rfl; have hfz_0 := blk_frozen BK.out 0; have hcz_1 : w9.cell? ⟨gB, 1, none⟩ = some (.int .i64 a0_1) := (blk_cell BK.out 1).trans rfl; have hfz_1 := blk_frozen BK.out 1; have hcz_2 : w9.cell? ⟨gB, 2, none⟩ = some (.int .i64 a0_2) := (blk_cell BK.out 2).trans rfl; have hfz_2 := blk_frozen BK.out 2; have hcz_3 : w9.cell? ⟨gB, 3, none⟩ = some (.int .i64 a0_3) := (blk_cell BK.out 3).trans rfl; have hfz_3 := blk_frozen BK.out 3; have hcz_4 : w9.cell? ⟨gB, 4, none⟩ = some (.int .i64 a0_4) := (blk_cell BK.out 4).trans rfl; have hfz_4 := blk_frozen BK.out 4; have hcz_5 : w9.cell? ⟨gB, 5, none⟩ = some (.int .i64 a0_5) := (blk_cell BK.out 5).trans rfl; have hfz_5 := blk_frozen BK.out 5; have hcz_6 : w9.cell? ⟨gB, 6, none⟩ = some (.int .i64 a0_6) := (blk_cell BK.out 6).trans rfl; have hfz_6 := blk_frozen BK.out 6; have hcz_7 : w9.cell? ⟨gB, 7, none⟩ = some (.int .i64 a0_7) := (blk_cell BK.out 7).trans rfl; have hfz_7 := blk_frozen BK.out 7) | (go_at_call 44; (with_reducible refine (transform_Valid.calls a0_5 _ _ A5.out).mono ?_); rintro e w' ⟨rfl, ⟨nd, rfl⟩⟩) | (go_at_call 42; (with_reducible refine (output_Check.sizes a0_1 _ gB _ a0_0 a0_1 a0_2 a0_3 a0_4 a0_5 a0_6 a0_7 ?hbk hsc.out A1.out).mono ?_); (case hbk => ((with_reducible repeat (first | refine blk_drewN ?_ _ | refine blk_drew ?_ | refine blk_alloc ?_ _)); exact BK.out)); rintro e w' ⟨rfl, ⟨nd, rfl⟩⟩) | (go_at_call 42; (with_reducible refine (output_Check.sizes a0_2 _ gB _ a0_0 a0_1 a0_2 a0_3 a0_4 a0_5 a0_6 a0_7 ?hbk hsc.out A2.out).mono ?_); (case hbk => ((with_reducible repeat (first | refine blk_drewN ?_ _ | refine blk_drew ?_ | refine blk_alloc ?_ _)); exact BK.out)); rintro e w' ⟨rfl, ⟨nd, rfl⟩⟩) | (go_at_call 43; (with_reducible refine (output_Check.place a0_6 _ _ A6.out).mono ?_); rintro e w' ⟨rfl, ⟨nd, rfl⟩⟩) | (go_at_call 43; (with_reducible refine (output_Check.place a0_7 _ _ A7.out).mono ?_); rintro e w' ⟨rfl, ⟨nd, rfl⟩⟩) | (go_at_call 46; (with_reducible refine (output_logical.calls a0_0 a0_1 a0_2 a0_3 a0_4 a0_5 a0_6 a0_7 _ _ _ _ _ AL.out).mono ?_); rintro e w10 ⟨rfl, hb⟩; have n0_ := Aside0.mk (below_step (by repeat (first | (with_reducible first | exact HB.out | apply below_alloc | apply pw_below_drewN | apply below_drew1) | exact HB.out)) hb); clear HB; have HB := n0_; clear n0_ hb) | (go_at_call 45; (with_reducible refine (rect_Valid.calls _ _ _ _ _ _ AR.out).mono ?_); rintro e w11 ⟨rfl, hb⟩; have n0_ := Aside0.mk (below_step (by repeat (first | (with_reducible first | exact HB.out | apply below_alloc | apply pw_below_drewN | apply below_drew1) | exact HB.out)) hb); clear HB; have HB := n0_; clear n0_ hb))
    go_ret
    exact ⟨rfl, (by repeat (first | (with_reducible first | exact HB.out | apply below_alloc | apply pw_below_drewN | apply below_drew1) | exact HB.out))⟩
  · rw [if_neg c0] at h
    have q0 : ¬ a0_0.toList = [] := fun e => c0 (by rw [toL_size e]; rfl)
    have q1 : a0_0.toList.isEmpty = false := by rw [Bool.eq_false_iff]; simpa using q0
    by_cases c1 : (a0_0.size : Int) > 32
    · rw [if_pos c1] at h
      have d1 : decide (32 < (a0_0.size : Int)) = true := decide_eq_true c1
      have d1' : decide (32 < a0_0.size) = true := decide_eq_true (by omega)
      obtain rfl := Option.some.inj h
      go_enter Try.func31, Try.ntmps31
      go_wp2_with (first | ((with_reducible refine gate_dst (N := 1) rfl ?_); refine box_event ?hg (N := 1) ?hd (cs := #[.string a0_0, .int .i64 a0_1, .int .i64 a0_2, .int .i64 a0_3, .int .i64 a0_4, .int .i64 a0_5, .int .i64 a0_6, .int .i64 a0_7]) (t := 23) ?hr ?_; (case hd => rfl); (case hg => rfl); (case hr => first | (go_simp; done) | (go_simp; rfl)); intro gB hg w9 hbox hb; have n0_ := Aside0.mk (below_step (by repeat (first | (with_reducible first | exact HB.out | apply below_alloc | apply pw_below_drewN | apply below_drew1) | exact HB.out)) hb); clear HB; have HB := n0_; clear n0_; have BK := Aside0.mk hbox; clear hb hbox hg; have hcz_0 : w9.cell? ⟨gB, 0, none⟩ = some (.string a0_0) := (blk_cell BK.out 0).trans rfl; have hfz_0 := blk_frozen BK.out 0; have hcz_1 : w9.cell? ⟨gB, 1, none⟩ = some (.int .i64 a0_1) := (blk_cell BK.out 1).trans rfl; have hfz_1 := blk_frozen BK.out 1; have hcz_2 : w9.cell? ⟨gB, 2, none⟩ = some (.int .i64 a0_2) := (blk_cell BK.out 2).trans rfl; have hfz_2 := blk_frozen BK.out 2; have hcz_3 : w9.cell? ⟨gB, 3, none⟩ = some (.int .i64 a0_3) := (blk_cell BK.out 3).trans rfl; have hfz_3 := blk_frozen BK.out 3; have hcz_4 : w9.cell? ⟨gB, 4, none⟩ = some (.int .i64 a0_4) := (blk_cell BK.out 4).trans rfl; have hfz_4 := blk_frozen BK.out 4; have hcz_5 : w9.cell? ⟨gB, 5, none⟩ = some (.int .i64 a0_5) := (blk_cell BK.out 5).trans rfl; have hfz_5 := blk_frozen BK.out 5; have hcz_6 : w9.cell? ⟨gB, 6, none⟩ = some (.int .i64 a0_6) := (blk_cell BK.out 6).trans rfl; have hfz_6 := blk_frozen BK.out 6; have hcz_7 : w9.cell? ⟨gB, 7, none⟩ = some (.int .i64 a0_7) := (blk_cell BK.out 7).trans rfl; have hfz_7 := blk_frozen BK.out 7) | (go_at_call 44; (with_reducible refine (transform_Valid.calls a0_5 _ _ A5.out).mono ?_); rintro e w' ⟨rfl, ⟨nd, rfl⟩⟩) | (go_at_call 42; (with_reducible refine (output_Check.sizes a0_1 _ gB _ a0_0 a0_1 a0_2 a0_3 a0_4 a0_5 a0_6 a0_7 ?hbk hsc.out A1.out).mono ?_); (case hbk => ((with_reducible repeat (first | refine blk_drewN ?_ _ | refine blk_drew ?_ | refine blk_alloc ?_ _)); exact BK.out)); rintro e w' ⟨rfl, ⟨nd, rfl⟩⟩) | (go_at_call 42; (with_reducible refine (output_Check.sizes a0_2 _ gB _ a0_0 a0_1 a0_2 a0_3 a0_4 a0_5 a0_6 a0_7 ?hbk hsc.out A2.out).mono ?_); (case hbk => ((with_reducible repeat (first | refine blk_drewN ?_ _ | refine blk_drew ?_ | refine blk_alloc ?_ _)); exact BK.out)); rintro e w' ⟨rfl, ⟨nd, rfl⟩⟩) | (go_at_call 43; (with_reducible refine (output_Check.place a0_6 _ _ A6.out).mono ?_); rintro e w' ⟨rfl, ⟨nd, rfl⟩⟩) | (go_at_call 43; (with_reducible refine (output_Check.place a0_7 _ _ A7.out).mono ?_); rintro e w' ⟨rfl, ⟨nd, rfl⟩⟩) | (go_at_call 46; (with_reducible refine (output_logical.calls a0_0 a0_1 a0_2 a0_3 a0_4 a0_5 a0_6 a0_7 _ _ _ _ _ AL.out).mono ?_); rintro e w10 ⟨rfl, hb⟩; have n0_ := Aside0.mk (below_step (by repeat (first | (with_reducible first | exact HB.out | apply below_alloc | apply pw_below_drewN | apply below_drew1) | exact HB.out)) hb); clear HB; have HB := n0_; clear n0_ hb) | (go_at_call 45; (with_reducible refine (rect_Valid.calls _ _ _ _ _ _ AR.out).mono ?_); rintro e w11 ⟨rfl, hb⟩; have n0_ := Aside0.mk (below_step (by repeat (first | (with_reducible first | exact HB.out | apply below_alloc | apply pw_below_drewN | apply below_drew1) | exact HB.out)) hb); clear HB; have HB := n0_; clear n0_ hb))
      go_ret
      exact ⟨rfl, (by repeat (first | (with_reducible first | exact HB.out | apply below_alloc | apply pw_below_drewN | apply below_drew1) | exact HB.out))⟩
    · rw [if_neg c1] at h
      have d1 : decide (32 < (a0_0.size : Int)) = false := decide_eq_false c1
      have d1' : decide (32 < a0_0.size) = false := decide_eq_false (by omega)
      replace h := Option.bind_eq_some_iff.mp h
      obtain ⟨v, A50, h⟩ := h
      have A5 := Aside0.mk A50
      clear A50
      try dsimp only at h
      rcases Bool.eq_false_or_eq_true v with e_ | e_ <;> subst e_
      rotate_left
      · rw [if_neg Bool.false_ne_true] at h
        obtain rfl := Option.some.inj h
        go_enter Try.func31, Try.ntmps31
        go_wp2_with (first | ((with_reducible refine gate_dst (N := 1) rfl ?_); refine box_event ?hg (N := 1) ?hd (cs := #[.string a0_0, .int .i64 a0_1, .int .i64 a0_2, .int .i64 a0_3, .int .i64 a0_4, .int .i64 a0_5, .int .i64 a0_6, .int .i64 a0_7]) (t := 23) ?hr ?_; (case hd => rfl); (case hg => rfl); (case hr => first | (go_simp; done) | (go_simp; rfl)); intro gB hg w9 hbox hb; have n0_ := Aside0.mk (below_step (by repeat (first | (with_reducible first | exact HB.out | apply below_alloc | apply pw_below_drewN | apply below_drew1) | exact HB.out)) hb); clear HB; have HB := n0_; clear n0_; have BK := Aside0.mk hbox; clear hb hbox hg; have hcz_0 : w9.cell? ⟨gB, 0, none⟩ = some (.string a0_0) := (blk_cell BK.out 0).trans rfl; have hfz_0 := blk_frozen BK.out 0; have hcz_1 : w9.cell? ⟨gB, 1, none⟩ = some (.int .i64 a0_1) := (blk_cell BK.out 1).trans rfl; have hfz_1 := blk_frozen BK.out 1; have hcz_2 : w9.cell? ⟨gB, 2, none⟩ = some (.int .i64 a0_2) := (blk_cell BK.out 2).trans rfl; have hfz_2 := blk_frozen BK.out 2; have hcz_3 : w9.cell? ⟨gB, 3, none⟩ = some (.int .i64 a0_3) := (blk_cell BK.out 3).trans rfl; have hfz_3 := blk_frozen BK.out 3; have hcz_4 : w9.cell? ⟨gB, 4, none⟩ = some (.int .i64 a0_4) := (blk_cell BK.out 4).trans rfl; have hfz_4 := blk_frozen BK.out 4; have hcz_5 : w9.cell? ⟨gB, 5, none⟩ = some (.int .i64 a0_5) := (blk_cell BK.out 5).trans rfl; have hfz_5 := blk_frozen BK.out 5; have hcz_6 : w9.cell? ⟨gB, 6, none⟩ = some (.int .i64 a0_6) := (blk_cell BK.out 6).trans rfl; have hfz_6 := blk_frozen BK.out 6; have hcz_7 : w9.cell? ⟨gB, 7, none⟩ = some (.int .i64 a0_7) := (blk_cell BK.out 7).trans rfl; have hfz_7 := blk_frozen BK.out 7) | (go_at_call 44; (with_reducible refine (transform_Valid.calls a0_5 _ _ A5.out).mono ?_); rintro e w' ⟨rfl, ⟨nd, rfl⟩⟩) | (go_at_call 42; (with_reducible refine (output_Check.sizes a0_1 _ gB _ a0_0 a0_1 a0_2 a0_3 a0_4 a0_5 a0_6 a0_7 ?hbk hsc.out A1.out).mono ?_); (case hbk => ((with_reducible repeat (first | refine blk_drewN ?_ _ | refine blk_drew ?_ | refine blk_alloc ?_ _)); exact BK.out)); rintro e w' ⟨rfl, ⟨nd, rfl⟩⟩) | (go_at_call 42; (with_reducible refine (output_Check.sizes a0_2 _ gB _ a0_0 a0_1 a0_2 a0_3 a0_4 a0_5 a0_6 a0_7 ?hbk hsc.out A2.out).mono ?_); (case hbk => ((with_reducible repeat (first | refine blk_drewN ?_ _ | refine blk_drew ?_ | refine blk_alloc ?_ _)); exact BK.out)); rintro e w' ⟨rfl, ⟨nd, rfl⟩⟩) | (go_at_call 43; (with_reducible refine (output_Check.place a0_6 _ _ A6.out).mono ?_); rintro e w' ⟨rfl, ⟨nd, rfl⟩⟩) | (go_at_call 43; (with_reducible refine (output_Check.place a0_7 _ _ A7.out).mono ?_); rintro e w' ⟨rfl, ⟨nd, rfl⟩⟩) | (go_at_call 46; (with_reducible refine (output_logical.calls a0_0 a0_1 a0_2 a0_3 a0_4 a0_5 a0_6 a0_7 _ _ _ _ _ AL.out).mono ?_); rintro e w10 ⟨rfl, hb⟩; have n0_ := Aside0.mk (below_step (by repeat (first | (with_reducible first | exact HB.out | apply below_alloc | apply pw_below_drewN | apply below_drew1) | exact HB.out)) hb); clear HB; have HB := n0_; clear n0_ hb) | (go_at_call 45; (with_reducible refine (rect_Valid.calls _ _ _ _ _ _ AR.out).mono ?_); rintro e w11 ⟨rfl, hb⟩; have n0_ := Aside0.mk (below_step (by repeat (first | (with_reducible first | exact HB.out | apply below_alloc | apply pw_below_drewN | apply below_drew1) | exact HB.out)) hb); clear HB; have HB := n0_; clear n0_ hb))
        go_ret
        exact ⟨rfl, (by repeat (first | (with_reducible first | exact HB.out | apply below_alloc | apply pw_below_drewN | apply below_drew1) | exact HB.out))⟩
      rw [if_pos rfl] at h
      by_cases c2 : a0_4 < 1
      · rw [if_pos c2] at h
        have d2 : decide (a0_4 < 1) = true := decide_eq_true c2
        obtain rfl := Option.some.inj h
        go_enter Try.func31, Try.ntmps31
        go_wp2_with (first | ((with_reducible refine gate_dst (N := 1) rfl ?_); refine box_event ?hg (N := 1) ?hd (cs := #[.string a0_0, .int .i64 a0_1, .int .i64 a0_2, .int .i64 a0_3, .int .i64 a0_4, .int .i64 a0_5, .int .i64 a0_6, .int .i64 a0_7]) (t := 23) ?hr ?_; (case hd => rfl); (case hg => rfl); (case hr => first | (go_simp; done) | (go_simp; rfl)); intro gB hg w9 hbox hb; have n0_ := Aside0.mk (below_step (by repeat (first | (with_reducible first | exact HB.out | apply below_alloc | apply pw_below_drewN | apply below_drew1) | exact HB.out)) hb); clear HB; have HB := n0_; clear n0_; have BK := Aside0.mk hbox; clear hb hbox hg; have hcz_0 : w9.cell? ⟨gB, 0, none⟩ = some (.string a0_0) := (blk_cell BK.out 0).trans rfl; have hfz_0 := blk_frozen BK.out 0; have hcz_1 : w9.cell? ⟨gB, 1, none⟩ = some (.int .i64 a0_1) := (blk_cell BK.out 1).trans rfl; have hfz_1 := blk_frozen BK.out 1; have hcz_2 : w9.cell? ⟨gB, 2, none⟩ = some (.int .i64 a0_2) := (blk_cell BK.out 2).trans rfl; have hfz_2 := blk_frozen BK.out 2; have hcz_3 : w9.cell? ⟨gB, 3, none⟩ = some (.int .i64 a0_3) := (blk_cell BK.out 3).trans rfl; have hfz_3 := blk_frozen BK.out 3; have hcz_4 : w9.cell? ⟨gB, 4, none⟩ = some (.int .i64 a0_4) := (blk_cell BK.out 4).trans rfl; have hfz_4 := blk_frozen BK.out 4; have hcz_5 : w9.cell? ⟨gB, 5, none⟩ = some (.int .i64 a0_5) := (blk_cell BK.out 5).trans rfl; have hfz_5 := blk_frozen BK.out 5; have hcz_6 : w9.cell? ⟨gB, 6, none⟩ = some (.int .i64 a0_6) := (blk_cell BK.out 6).trans rfl; have hfz_6 := blk_frozen BK.out 6; have hcz_7 : w9.cell? ⟨gB, 7, none⟩ = some (.int .i64 a0_7) := (blk_cell BK.out 7).trans rfl; have hfz_7 := blk_frozen BK.out 7) | (go_at_call 44; (with_reducible refine (transform_Valid.calls a0_5 _ _ A5.out).mono ?_); rintro e w' ⟨rfl, ⟨nd, rfl⟩⟩) | (go_at_call 42; (with_reducible refine (output_Check.sizes a0_1 _ gB _ a0_0 a0_1 a0_2 a0_3 a0_4 a0_5 a0_6 a0_7 ?hbk hsc.out A1.out).mono ?_); (case hbk => ((with_reducible repeat (first | refine blk_drewN ?_ _ | refine blk_drew ?_ | refine blk_alloc ?_ _)); exact BK.out)); rintro e w' ⟨rfl, ⟨nd, rfl⟩⟩) | (go_at_call 42; (with_reducible refine (output_Check.sizes a0_2 _ gB _ a0_0 a0_1 a0_2 a0_3 a0_4 a0_5 a0_6 a0_7 ?hbk hsc.out A2.out).mono ?_); (case hbk => ((with_reducible repeat (first | refine blk_drewN ?_ _ | refine blk_drew ?_ | refine blk_alloc ?_ _)); exact BK.out)); rintro e w' ⟨rfl, ⟨nd, rfl⟩⟩) | (go_at_call 43; (with_reducible refine (output_Check.place a0_6 _ _ A6.out).mono ?_); rintro e w' ⟨rfl, ⟨nd, rfl⟩⟩) | (go_at_call 43; (with_reducible refine (output_Check.place a0_7 _ _ A7.out).mono ?_); rintro e w' ⟨rfl, ⟨nd, rfl⟩⟩) | (go_at_call 46; (with_reducible refine (output_logical.calls a0_0 a0_1 a0_2 a0_3 a0_4 a0_5 a0_6 a0_7 _ _ _ _ _ AL.out).mono ?_); rintro e w10 ⟨rfl, hb⟩; have n0_ := Aside0.mk (below_step (by repeat (first | (with_reducible first | exact HB.out | apply below_alloc | apply pw_below_drewN | apply below_drew1) | exact HB.out)) hb); clear HB; have HB := n0_; clear n0_ hb) | (go_at_call 45; (with_reducible refine (rect_Valid.calls _ _ _ _ _ _ AR.out).mono ?_); rintro e w11 ⟨rfl, hb⟩; have n0_ := Aside0.mk (below_step (by repeat (first | (with_reducible first | exact HB.out | apply below_alloc | apply pw_below_drewN | apply below_drew1) | exact HB.out)) hb); clear HB; have HB := n0_; clear n0_ hb))
        go_ret
        exact ⟨rfl, (by repeat (first | (with_reducible first | exact HB.out | apply below_alloc | apply pw_below_drewN | apply below_drew1) | exact HB.out))⟩
      · rw [if_neg c2] at h
        have d2 : decide (a0_4 < 1) = false := decide_eq_false c2
        have hsc := Aside0.mk (le_of_c c2)
        by_cases c3 : a0_4 > 4
        · rw [if_pos c3] at h
          have d3 : decide (4 < a0_4) = true := decide_eq_true c3
          obtain rfl := Option.some.inj h
          go_enter Try.func31, Try.ntmps31
          go_wp2_with (first | ((with_reducible refine gate_dst (N := 1) rfl ?_); refine box_event ?hg (N := 1) ?hd (cs := #[.string a0_0, .int .i64 a0_1, .int .i64 a0_2, .int .i64 a0_3, .int .i64 a0_4, .int .i64 a0_5, .int .i64 a0_6, .int .i64 a0_7]) (t := 23) ?hr ?_; (case hd => rfl); (case hg => rfl); (case hr => first | (go_simp; done) | (go_simp; rfl)); intro gB hg w9 hbox hb; have n0_ := Aside0.mk (below_step (by repeat (first | (with_reducible first | exact HB.out | apply below_alloc | apply pw_below_drewN | apply below_drew1) | exact HB.out)) hb); clear HB; have HB := n0_; clear n0_; have BK := Aside0.mk hbox; clear hb hbox hg; have hcz_0 : w9.cell? ⟨gB, 0, none⟩ = some (.string a0_0) := (blk_cell BK.out 0).trans rfl; have hfz_0 := blk_frozen BK.out 0; have hcz_1 : w9.cell? ⟨gB, 1, none⟩ = some (.int .i64 a0_1) := (blk_cell BK.out 1).trans rfl; have hfz_1 := blk_frozen BK.out 1; have hcz_2 : w9.cell? ⟨gB, 2, none⟩ = some (.int .i64 a0_2) := (blk_cell BK.out 2).trans rfl; have hfz_2 := blk_frozen BK.out 2; have hcz_3 : w9.cell? ⟨gB, 3, none⟩ = some (.int .i64 a0_3) := (blk_cell BK.out 3).trans rfl; have hfz_3 := blk_frozen BK.out 3; have hcz_4 : w9.cell? ⟨gB, 4, none⟩ = some (.int .i64 a0_4) := (blk_cell BK.out 4).trans rfl; have hfz_4 := blk_frozen BK.out 4; have hcz_5 : w9.cell? ⟨gB, 5, none⟩ = some (.int .i64 a0_5) := (blk_cell BK.out 5).trans rfl; have hfz_5 := blk_frozen BK.out 5; have hcz_6 : w9.cell? ⟨gB, 6, none⟩ = some (.int .i64 a0_6) := (blk_cell BK.out 6).trans rfl; have hfz_6 := blk_frozen BK.out 6; have hcz_7 : w9.cell? ⟨gB, 7, none⟩ = some (.int .i64 a0_7) := (blk_cell BK.out 7).trans rfl; have hfz_7 := blk_frozen BK.out 7) | (go_at_call 44; (with_reducible refine (transform_Valid.calls a0_5 _ _ A5.out).mono ?_); rintro e w' ⟨rfl, ⟨nd, rfl⟩⟩) | (go_at_call 42; (with_reducible refine (output_Check.sizes a0_1 _ gB _ a0_0 a0_1 a0_2 a0_3 a0_4 a0_5 a0_6 a0_7 ?hbk hsc.out A1.out).mono ?_); (case hbk => ((with_reducible repeat (first | refine blk_drewN ?_ _ | refine blk_drew ?_ | refine blk_alloc ?_ _)); exact BK.out)); rintro e w' ⟨rfl, ⟨nd, rfl⟩⟩) | (go_at_call 42; (with_reducible refine (output_Check.sizes a0_2 _ gB _ a0_0 a0_1 a0_2 a0_3 a0_4 a0_5 a0_6 a0_7 ?hbk hsc.out A2.out).mono ?_); (case hbk => ((with_reducible repeat (first | refine blk_drewN ?_ _ | refine blk_drew ?_ | refine blk_alloc ?_ _)); exact BK.out)); rintro e w' ⟨rfl, ⟨nd, rfl⟩⟩) | (go_at_call 43; (with_reducible refine (output_Check.place a0_6 _ _ A6.out).mono ?_); rintro e w' ⟨rfl, ⟨nd, rfl⟩⟩) | (go_at_call 43; (with_reducible refine (output_Check.place a0_7 _ _ A7.out).mono ?_); rintro e w' ⟨rfl, ⟨nd, rfl⟩⟩) | (go_at_call 46; (with_reducible refine (output_logical.calls a0_0 a0_1 a0_2 a0_3 a0_4 a0_5 a0_6 a0_7 _ _ _ _ _ AL.out).mono ?_); rintro e w10 ⟨rfl, hb⟩; have n0_ := Aside0.mk (below_step (by repeat (first | (with_reducible first | exact HB.out | apply below_alloc | apply pw_below_drewN | apply below_drew1) | exact HB.out)) hb); clear HB; have HB := n0_; clear n0_ hb) | (go_at_call 45; (with_reducible refine (rect_Valid.calls _ _ _ _ _ _ AR.out).mono ?_); rintro e w11 ⟨rfl, hb⟩; have n0_ := Aside0.mk (below_step (by repeat (first | (with_reducible first | exact HB.out | apply below_alloc | apply pw_below_drewN | apply below_drew1) | exact HB.out)) hb); clear HB; have HB := n0_; clear n0_ hb))
          go_ret
          exact ⟨rfl, (by repeat (first | (with_reducible first | exact HB.out | apply below_alloc | apply pw_below_drewN | apply below_drew1) | exact HB.out))⟩
        · rw [if_neg c3] at h
          have d3 : decide (4 < a0_4) = false := decide_eq_false c3
          replace h := Option.bind_eq_some_iff.mp h
          obtain ⟨s1, A10, h⟩ := h
          have A1 := Aside0.mk A10
          clear A10
          try dsimp only at h
          rcases Bool.eq_false_or_eq_true s1 with e_ | e_ <;> subst e_
          rotate_left
          · rw [if_neg Bool.false_ne_true] at h
            obtain rfl := Option.some.inj h
            go_enter Try.func31, Try.ntmps31
            go_wp2_with (first | ((with_reducible refine gate_dst (N := 1) rfl ?_); refine box_event ?hg (N := 1) ?hd (cs := #[.string a0_0, .int .i64 a0_1, .int .i64 a0_2, .int .i64 a0_3, .int .i64 a0_4, .int .i64 a0_5, .int .i64 a0_6, .int .i64 a0_7]) (t := 23) ?hr ?_; (case hd => rfl); (case hg => rfl); (case hr => first | (go_simp; done) | (go_simp; rfl)); intro gB hg w9 hbox hb; have n0_ := Aside0.mk (below_step (by repeat (first | (with_reducible first | exact HB.out | apply below_alloc | apply pw_below_drewN | apply below_drew1) | exact HB.out)) hb); clear HB; have HB := n0_; clear n0_; have BK := Aside0.mk hbox; clear hb hbox hg; have hcz_0 : w9.cell? ⟨gB, 0, none⟩ = some (.string a0_0) := (blk_cell BK.out 0).trans rfl; have hfz_0 := blk_frozen BK.out 0; have hcz_1 : w9.cell? ⟨gB, 1, none⟩ = some (.int .i64 a0_1) := (blk_cell BK.out 1).trans rfl; have hfz_1 := blk_frozen BK.out 1; have hcz_2 : w9.cell? ⟨gB, 2, none⟩ = some (.int .i64 a0_2) := (blk_cell BK.out 2).trans rfl; have hfz_2 := blk_frozen BK.out 2; have hcz_3 : w9.cell? ⟨gB, 3, none⟩ = some (.int .i64 a0_3) := (blk_cell BK.out 3).trans rfl; have hfz_3 := blk_frozen BK.out 3; have hcz_4 : w9.cell? ⟨gB, 4, none⟩ = some (.int .i64 a0_4) := (blk_cell BK.out 4).trans rfl; have hfz_4 := blk_frozen BK.out 4; have hcz_5 : w9.cell? ⟨gB, 5, none⟩ = some (.int .i64 a0_5) := (blk_cell BK.out 5).trans rfl; have hfz_5 := blk_frozen BK.out 5; have hcz_6 : w9.cell? ⟨gB, 6, none⟩ = some (.int .i64 a0_6) := (blk_cell BK.out 6).trans rfl; have hfz_6 := blk_frozen BK.out 6; have hcz_7 : w9.cell? ⟨gB, 7, none⟩ = some (.int .i64 a0_7) := (blk_cell BK.out 7).trans rfl; have hfz_7 := blk_frozen BK.out 7) | (go_at_call 44; (with_reducible refine (transform_Valid.calls a0_5 _ _ A5.out).mono ?_); rintro e w' ⟨rfl, ⟨nd, rfl⟩⟩) | (go_at_call 42; (with_reducible refine (output_Check.sizes a0_1 _ gB _ a0_0 a0_1 a0_2 a0_3 a0_4 a0_5 a0_6 a0_7 ?hbk hsc.out A1.out).mono ?_); (case hbk => ((with_reducible repeat (first | refine blk_drewN ?_ _ | refine blk_drew ?_ | refine blk_alloc ?_ _)); exact BK.out)); rintro e w' ⟨rfl, ⟨nd, rfl⟩⟩) | (go_at_call 42; (with_reducible refine (output_Check.sizes a0_2 _ gB _ a0_0 a0_1 a0_2 a0_3 a0_4 a0_5 a0_6 a0_7 ?hbk hsc.out A2.out).mono ?_); (case hbk => ((with_reducible repeat (first | refine blk_drewN ?_ _ | refine blk_drew ?_ | refine blk_alloc ?_ _)); exact BK.out)); rintro e w' ⟨rfl, ⟨nd, rfl⟩⟩) | (go_at_call 43; (with_reducible refine (output_Check.place a0_6 _ _ A6.out).mono ?_); rintro e w' ⟨rfl, ⟨nd, rfl⟩⟩) | (go_at_call 43; (with_reducible refine (output_Check.place a0_7 _ _ A7.out).mono ?_); rintro e w' ⟨rfl, ⟨nd, rfl⟩⟩) | (go_at_call 46; (with_reducible refine (output_logical.calls a0_0 a0_1 a0_2 a0_3 a0_4 a0_5 a0_6 a0_7 _ _ _ _ _ AL.out).mono ?_); rintro e w10 ⟨rfl, hb⟩; have n0_ := Aside0.mk (below_step (by repeat (first | (with_reducible first | exact HB.out | apply below_alloc | apply pw_below_drewN | apply below_drew1) | exact HB.out)) hb); clear HB; have HB := n0_; clear n0_ hb) | (go_at_call 45; (with_reducible refine (rect_Valid.calls _ _ _ _ _ _ AR.out).mono ?_); rintro e w11 ⟨rfl, hb⟩; have n0_ := Aside0.mk (below_step (by repeat (first | (with_reducible first | exact HB.out | apply below_alloc | apply pw_below_drewN | apply below_drew1) | exact HB.out)) hb); clear HB; have HB := n0_; clear n0_ hb))
            go_ret
            exact ⟨rfl, (by repeat (first | (with_reducible first | exact HB.out | apply below_alloc | apply pw_below_drewN | apply below_drew1) | exact HB.out))⟩
          rw [if_pos rfl] at h
          replace h := Option.bind_eq_some_iff.mp h
          obtain ⟨s2, A20, h⟩ := h
          have A2 := Aside0.mk A20
          clear A20
          try dsimp only at h
          rcases Bool.eq_false_or_eq_true s2 with e_ | e_ <;> subst e_
          rotate_left
          · rw [if_neg Bool.false_ne_true] at h
            obtain rfl := Option.some.inj h
            go_enter Try.func31, Try.ntmps31
            go_wp2_with (first | ((with_reducible refine gate_dst (N := 1) rfl ?_); refine box_event ?hg (N := 1) ?hd (cs := #[.string a0_0, .int .i64 a0_1, .int .i64 a0_2, .int .i64 a0_3, .int .i64 a0_4, .int .i64 a0_5, .int .i64 a0_6, .int .i64 a0_7]) (t := 23) ?hr ?_; (case hd => rfl); (case hg => rfl); (case hr => first | (go_simp; done) | (go_simp; rfl)); intro gB hg w9 hbox hb; have n0_ := Aside0.mk (below_step (by repeat (first | (with_reducible first | exact HB.out | apply below_alloc | apply pw_below_drewN | apply below_drew1) | exact HB.out)) hb); clear HB; have HB := n0_; clear n0_; have BK := Aside0.mk hbox; clear hb hbox hg; have hcz_0 : w9.cell? ⟨gB, 0, none⟩ = some (.string a0_0) := (blk_cell BK.out 0).trans rfl; have hfz_0 := blk_frozen BK.out 0; have hcz_1 : w9.cell? ⟨gB, 1, none⟩ = some (.int .i64 a0_1) := (blk_cell BK.out 1).trans rfl; have hfz_1 := blk_frozen BK.out 1; have hcz_2 : w9.cell? ⟨gB, 2, none⟩ = some (.int .i64 a0_2) := (blk_cell BK.out 2).trans rfl; have hfz_2 := blk_frozen BK.out 2; have hcz_3 : w9.cell? ⟨gB, 3, none⟩ = some (.int .i64 a0_3) := (blk_cell BK.out 3).trans rfl; have hfz_3 := blk_frozen BK.out 3; have hcz_4 : w9.cell? ⟨gB, 4, none⟩ = some (.int .i64 a0_4) := (blk_cell BK.out 4).trans rfl; have hfz_4 := blk_frozen BK.out 4; have hcz_5 : w9.cell? ⟨gB, 5, none⟩ = some (.int .i64 a0_5) := (blk_cell BK.out 5).trans rfl; have hfz_5 := blk_frozen BK.out 5; have hcz_6 : w9.cell? ⟨gB, 6, none⟩ = some (.int .i64 a0_6) := (blk_cell BK.out 6).trans rfl; have hfz_6 := blk_frozen BK.out 6; have hcz_7 : w9.cell? ⟨gB, 7, none⟩ = some (.int .i64 a0_7) := (blk_cell BK.out 7).trans rfl; have hfz_7 := blk_frozen BK.out 7) | (go_at_call 44; (with_reducible refine (transform_Valid.calls a0_5 _ _ A5.out).mono ?_); rintro e w' ⟨rfl, ⟨nd, rfl⟩⟩) | (go_at_call 42; (with_reducible refine (output_Check.sizes a0_1 _ gB _ a0_0 a0_1 a0_2 a0_3 a0_4 a0_5 a0_6 a0_7 ?hbk hsc.out A1.out).mono ?_); (case hbk => ((with_reducible repeat (first | refine blk_drewN ?_ _ | refine blk_drew ?_ | refine blk_alloc ?_ _)); exact BK.out)); rintro e w' ⟨rfl, ⟨nd, rfl⟩⟩) | (go_at_call 42; (with_reducible refine (output_Check.sizes a0_2 _ gB _ a0_0 a0_1 a0_2 a0_3 a0_4 a0_5 a0_6 a0_7 ?hbk hsc.out A2.out).mono ?_); (case hbk => ((with_reducible repeat (first | refine blk_drewN ?_ _ | refine blk_drew ?_ | refine blk_alloc ?_ _)); exact BK.out)); rintro e w' ⟨rfl, ⟨nd, rfl⟩⟩) | (go_at_call 43; (with_reducible refine (output_Check.place a0_6 _ _ A6.out).mono ?_); rintro e w' ⟨rfl, ⟨nd, rfl⟩⟩) | (go_at_call 43; (with_reducible refine (output_Check.place a0_7 _ _ A7.out).mono ?_); rintro e w' ⟨rfl, ⟨nd, rfl⟩⟩) | (go_at_call 46; (with_reducible refine (output_logical.calls a0_0 a0_1 a0_2 a0_3 a0_4 a0_5 a0_6 a0_7 _ _ _ _ _ AL.out).mono ?_); rintro e w10 ⟨rfl, hb⟩; have n0_ := Aside0.mk (below_step (by repeat (first | (with_reducible first | exact HB.out | apply below_alloc | apply pw_below_drewN | apply below_drew1) | exact HB.out)) hb); clear HB; have HB := n0_; clear n0_ hb) | (go_at_call 45; (with_reducible refine (rect_Valid.calls _ _ _ _ _ _ AR.out).mono ?_); rintro e w11 ⟨rfl, hb⟩; have n0_ := Aside0.mk (below_step (by repeat (first | (with_reducible first | exact HB.out | apply below_alloc | apply pw_below_drewN | apply below_drew1) | exact HB.out)) hb); clear HB; have HB := n0_; clear n0_ hb))
            go_ret
            exact ⟨rfl, (by repeat (first | (with_reducible first | exact HB.out | apply below_alloc | apply pw_below_drewN | apply below_drew1) | exact HB.out))⟩
          rw [if_pos rfl] at h
          by_cases c4 : a0_3 < 1000
          · rw [if_pos c4] at h
            have d4 : decide (a0_3 < 1000) = true := decide_eq_true c4
            obtain rfl := Option.some.inj h
            go_enter Try.func31, Try.ntmps31
            go_wp2_with (first | ((with_reducible refine gate_dst (N := 1) rfl ?_); refine box_event ?hg (N := 1) ?hd (cs := #[.string a0_0, .int .i64 a0_1, .int .i64 a0_2, .int .i64 a0_3, .int .i64 a0_4, .int .i64 a0_5, .int .i64 a0_6, .int .i64 a0_7]) (t := 23) ?hr ?_; (case hd => rfl); (case hg => rfl); (case hr => first | (go_simp; done) | (go_simp; rfl)); intro gB hg w9 hbox hb; have n0_ := Aside0.mk (below_step (by repeat (first | (with_reducible first | exact HB.out | apply below_alloc | apply pw_below_drewN | apply below_drew1) | exact HB.out)) hb); clear HB; have HB := n0_; clear n0_; have BK := Aside0.mk hbox; clear hb hbox hg; have hcz_0 : w9.cell? ⟨gB, 0, none⟩ = some (.string a0_0) := (blk_cell BK.out 0).trans rfl; have hfz_0 := blk_frozen BK.out 0; have hcz_1 : w9.cell? ⟨gB, 1, none⟩ = some (.int .i64 a0_1) := (blk_cell BK.out 1).trans rfl; have hfz_1 := blk_frozen BK.out 1; have hcz_2 : w9.cell? ⟨gB, 2, none⟩ = some (.int .i64 a0_2) := (blk_cell BK.out 2).trans rfl; have hfz_2 := blk_frozen BK.out 2; have hcz_3 : w9.cell? ⟨gB, 3, none⟩ = some (.int .i64 a0_3) := (blk_cell BK.out 3).trans rfl; have hfz_3 := blk_frozen BK.out 3; have hcz_4 : w9.cell? ⟨gB, 4, none⟩ = some (.int .i64 a0_4) := (blk_cell BK.out 4).trans rfl; have hfz_4 := blk_frozen BK.out 4; have hcz_5 : w9.cell? ⟨gB, 5, none⟩ = some (.int .i64 a0_5) := (blk_cell BK.out 5).trans rfl; have hfz_5 := blk_frozen BK.out 5; have hcz_6 : w9.cell? ⟨gB, 6, none⟩ = some (.int .i64 a0_6) := (blk_cell BK.out 6).trans rfl; have hfz_6 := blk_frozen BK.out 6; have hcz_7 : w9.cell? ⟨gB, 7, none⟩ = some (.int .i64 a0_7) := (blk_cell BK.out 7).trans rfl; have hfz_7 := blk_frozen BK.out 7) | (go_at_call 44; (with_reducible refine (transform_Valid.calls a0_5 _ _ A5.out).mono ?_); rintro e w' ⟨rfl, ⟨nd, rfl⟩⟩) | (go_at_call 42; (with_reducible refine (output_Check.sizes a0_1 _ gB _ a0_0 a0_1 a0_2 a0_3 a0_4 a0_5 a0_6 a0_7 ?hbk hsc.out A1.out).mono ?_); (case hbk => ((with_reducible repeat (first | refine blk_drewN ?_ _ | refine blk_drew ?_ | refine blk_alloc ?_ _)); exact BK.out)); rintro e w' ⟨rfl, ⟨nd, rfl⟩⟩) | (go_at_call 42; (with_reducible refine (output_Check.sizes a0_2 _ gB _ a0_0 a0_1 a0_2 a0_3 a0_4 a0_5 a0_6 a0_7 ?hbk hsc.out A2.out).mono ?_); (case hbk => ((with_reducible repeat (first | refine blk_drewN ?_ _ | refine blk_drew ?_ | refine blk_alloc ?_ _)); exact BK.out)); rintro e w' ⟨rfl, ⟨nd, rfl⟩⟩) | (go_at_call 43; (with_reducible refine (output_Check.place a0_6 _ _ A6.out).mono ?_); rintro e w' ⟨rfl, ⟨nd, rfl⟩⟩) | (go_at_call 43; (with_reducible refine (output_Check.place a0_7 _ _ A7.out).mono ?_); rintro e w' ⟨rfl, ⟨nd, rfl⟩⟩) | (go_at_call 46; (with_reducible refine (output_logical.calls a0_0 a0_1 a0_2 a0_3 a0_4 a0_5 a0_6 a0_7 _ _ _ _ _ AL.out).mono ?_); rintro e w10 ⟨rfl, hb⟩; have n0_ := Aside0.mk (below_step (by repeat (first | (with_reducible first | exact HB.out | apply below_alloc | apply pw_below_drewN | apply below_drew1) | exact HB.out)) hb); clear HB; have HB := n0_; clear n0_ hb) | (go_at_call 45; (with_reducible refine (rect_Valid.calls _ _ _ _ _ _ AR.out).mono ?_); rintro e w11 ⟨rfl, hb⟩; have n0_ := Aside0.mk (below_step (by repeat (first | (with_reducible first | exact HB.out | apply below_alloc | apply pw_below_drewN | apply below_drew1) | exact HB.out)) hb); clear HB; have HB := n0_; clear n0_ hb))
            go_ret
            exact ⟨rfl, (by repeat (first | (with_reducible first | exact HB.out | apply below_alloc | apply pw_below_drewN | apply below_drew1) | exact HB.out))⟩
          · rw [if_neg c4] at h
            have d4 : decide (a0_3 < 1000) = false := decide_eq_false c4
            by_cases c5 : a0_3 > 240000
            · rw [if_pos c5] at h
              have d5 : decide (240000 < a0_3) = true := decide_eq_true c5
              obtain rfl := Option.some.inj h
              go_enter Try.func31, Try.ntmps31
              go_wp2_with (first | ((with_reducible refine gate_dst (N := 1) rfl ?_); refine box_event ?hg (N := 1) ?hd (cs := #[.string a0_0, .int .i64 a0_1, .int .i64 a0_2, .int .i64 a0_3, .int .i64 a0_4, .int .i64 a0_5, .int .i64 a0_6, .int .i64 a0_7]) (t := 23) ?hr ?_; (case hd => rfl); (case hg => rfl); (case hr => first | (go_simp; done) | (go_simp; rfl)); intro gB hg w9 hbox hb; have n0_ := Aside0.mk (below_step (by repeat (first | (with_reducible first | exact HB.out | apply below_alloc | apply pw_below_drewN | apply below_drew1) | exact HB.out)) hb); clear HB; have HB := n0_; clear n0_; have BK := Aside0.mk hbox; clear hb hbox hg; have hcz_0 : w9.cell? ⟨gB, 0, none⟩ = some (.string a0_0) := (blk_cell BK.out 0).trans rfl; have hfz_0 := blk_frozen BK.out 0; have hcz_1 : w9.cell? ⟨gB, 1, none⟩ = some (.int .i64 a0_1) := (blk_cell BK.out 1).trans rfl; have hfz_1 := blk_frozen BK.out 1; have hcz_2 : w9.cell? ⟨gB, 2, none⟩ = some (.int .i64 a0_2) := (blk_cell BK.out 2).trans rfl; have hfz_2 := blk_frozen BK.out 2; have hcz_3 : w9.cell? ⟨gB, 3, none⟩ = some (.int .i64 a0_3) := (blk_cell BK.out 3).trans rfl; have hfz_3 := blk_frozen BK.out 3; have hcz_4 : w9.cell? ⟨gB, 4, none⟩ = some (.int .i64 a0_4) := (blk_cell BK.out 4).trans rfl; have hfz_4 := blk_frozen BK.out 4; have hcz_5 : w9.cell? ⟨gB, 5, none⟩ = some (.int .i64 a0_5) := (blk_cell BK.out 5).trans rfl; have hfz_5 := blk_frozen BK.out 5; have hcz_6 : w9.cell? ⟨gB, 6, none⟩ = some (.int .i64 a0_6) := (blk_cell BK.out 6).trans rfl; have hfz_6 := blk_frozen BK.out 6; have hcz_7 : w9.cell? ⟨gB, 7, none⟩ = some (.int .i64 a0_7) := (blk_cell BK.out 7).trans rfl; have hfz_7 := blk_frozen BK.out 7) | (go_at_call 44; (with_reducible refine (transform_Valid.calls a0_5 _ _ A5.out).mono ?_); rintro e w' ⟨rfl, ⟨nd, rfl⟩⟩) | (go_at_call 42; (with_reducible refine (output_Check.sizes a0_1 _ gB _ a0_0 a0_1 a0_2 a0_3 a0_4 a0_5 a0_6 a0_7 ?hbk hsc.out A1.out).mono ?_); (case hbk => ((with_reducible repeat (first | refine blk_drewN ?_ _ | refine blk_drew ?_ | refine blk_alloc ?_ _)); exact BK.out)); rintro e w' ⟨rfl, ⟨nd, rfl⟩⟩) | (go_at_call 42; (with_reducible refine (output_Check.sizes a0_2 _ gB _ a0_0 a0_1 a0_2 a0_3 a0_4 a0_5 a0_6 a0_7 ?hbk hsc.out A2.out).mono ?_); (case hbk => ((with_reducible repeat (first | refine blk_drewN ?_ _ | refine blk_drew ?_ | refine blk_alloc ?_ _)); exact BK.out)); rintro e w' ⟨rfl, ⟨nd, rfl⟩⟩) | (go_at_call 43; (with_reducible refine (output_Check.place a0_6 _ _ A6.out).mono ?_); rintro e w' ⟨rfl, ⟨nd, rfl⟩⟩) | (go_at_call 43; (with_reducible refine (output_Check.place a0_7 _ _ A7.out).mono ?_); rintro e w' ⟨rfl, ⟨nd, rfl⟩⟩) | (go_at_call 46; (with_reducible refine (output_logical.calls a0_0 a0_1 a0_2 a0_3 a0_4 a0_5 a0_6 a0_7 _ _ _ _ _ AL.out).mono ?_); rintro e w10 ⟨rfl, hb⟩; have n0_ := Aside0.mk (below_step (by repeat (first | (with_reducible first | exact HB.out | apply below_alloc | apply pw_below_drewN | apply below_drew1) | exact HB.out)) hb); clear HB; have HB := n0_; clear n0_ hb) | (go_at_call 45; (with_reducible refine (rect_Valid.calls _ _ _ _ _ _ AR.out).mono ?_); rintro e w11 ⟨rfl, hb⟩; have n0_ := Aside0.mk (below_step (by repeat (first | (with_reducible first | exact HB.out | apply below_alloc | apply pw_below_drewN | apply below_drew1) | exact HB.out)) hb); clear HB; have HB := n0_; clear n0_ hb))
              go_ret
              exact ⟨rfl, (by repeat (first | (with_reducible first | exact HB.out | apply below_alloc | apply pw_below_drewN | apply below_drew1) | exact HB.out))⟩
            · rw [if_neg c5] at h
              have d5 : decide (240000 < a0_3) = false := decide_eq_false c5
              replace h := Option.bind_eq_some_iff.mp h
              obtain ⟨p1, A60, h⟩ := h
              have A6 := Aside0.mk A60
              clear A60
              try dsimp only at h
              rcases Bool.eq_false_or_eq_true p1 with e_ | e_ <;> subst e_
              rotate_left
              · rw [if_neg Bool.false_ne_true] at h
                obtain rfl := Option.some.inj h
                go_enter Try.func31, Try.ntmps31
                go_wp2_with (first | ((with_reducible refine gate_dst (N := 1) rfl ?_); refine box_event ?hg (N := 1) ?hd (cs := #[.string a0_0, .int .i64 a0_1, .int .i64 a0_2, .int .i64 a0_3, .int .i64 a0_4, .int .i64 a0_5, .int .i64 a0_6, .int .i64 a0_7]) (t := 23) ?hr ?_; (case hd => rfl); (case hg => rfl); (case hr => first | (go_simp; done) | (go_simp; rfl)); intro gB hg w9 hbox hb; have n0_ := Aside0.mk (below_step (by repeat (first | (with_reducible first | exact HB.out | apply below_alloc | apply pw_below_drewN | apply below_drew1) | exact HB.out)) hb); clear HB; have HB := n0_; clear n0_; have BK := Aside0.mk hbox; clear hb hbox hg; have hcz_0 : w9.cell? ⟨gB, 0, none⟩ = some (.string a0_0) := (blk_cell BK.out 0).trans rfl; have hfz_0 := blk_frozen BK.out 0; have hcz_1 : w9.cell? ⟨gB, 1, none⟩ = some (.int .i64 a0_1) := (blk_cell BK.out 1).trans rfl; have hfz_1 := blk_frozen BK.out 1; have hcz_2 : w9.cell? ⟨gB, 2, none⟩ = some (.int .i64 a0_2) := (blk_cell BK.out 2).trans rfl; have hfz_2 := blk_frozen BK.out 2; have hcz_3 : w9.cell? ⟨gB, 3, none⟩ = some (.int .i64 a0_3) := (blk_cell BK.out 3).trans rfl; have hfz_3 := blk_frozen BK.out 3; have hcz_4 : w9.cell? ⟨gB, 4, none⟩ = some (.int .i64 a0_4) := (blk_cell BK.out 4).trans rfl; have hfz_4 := blk_frozen BK.out 4; have hcz_5 : w9.cell? ⟨gB, 5, none⟩ = some (.int .i64 a0_5) := (blk_cell BK.out 5).trans rfl; have hfz_5 := blk_frozen BK.out 5; have hcz_6 : w9.cell? ⟨gB, 6, none⟩ = some (.int .i64 a0_6) := (blk_cell BK.out 6).trans rfl; have hfz_6 := blk_frozen BK.out 6; have hcz_7 : w9.cell? ⟨gB, 7, none⟩ = some (.int .i64 a0_7) := (blk_cell BK.out 7).trans rfl; have hfz_7 := blk_frozen BK.out 7) | (go_at_call 44; (with_reducible refine (transform_Valid.calls a0_5 _ _ A5.out).mono ?_); rintro e w' ⟨rfl, ⟨nd, rfl⟩⟩) | (go_at_call 42; (with_reducible refine (output_Check.sizes a0_1 _ gB _ a0_0 a0_1 a0_2 a0_3 a0_4 a0_5 a0_6 a0_7 ?hbk hsc.out A1.out).mono ?_); (case hbk => ((with_reducible repeat (first | refine blk_drewN ?_ _ | refine blk_drew ?_ | refine blk_alloc ?_ _)); exact BK.out)); rintro e w' ⟨rfl, ⟨nd, rfl⟩⟩) | (go_at_call 42; (with_reducible refine (output_Check.sizes a0_2 _ gB _ a0_0 a0_1 a0_2 a0_3 a0_4 a0_5 a0_6 a0_7 ?hbk hsc.out A2.out).mono ?_); (case hbk => ((with_reducible repeat (first | refine blk_drewN ?_ _ | refine blk_drew ?_ | refine blk_alloc ?_ _)); exact BK.out)); rintro e w' ⟨rfl, ⟨nd, rfl⟩⟩) | (go_at_call 43; (with_reducible refine (output_Check.place a0_6 _ _ A6.out).mono ?_); rintro e w' ⟨rfl, ⟨nd, rfl⟩⟩) | (go_at_call 43; (with_reducible refine (output_Check.place a0_7 _ _ A7.out).mono ?_); rintro e w' ⟨rfl, ⟨nd, rfl⟩⟩) | (go_at_call 46; (with_reducible refine (output_logical.calls a0_0 a0_1 a0_2 a0_3 a0_4 a0_5 a0_6 a0_7 _ _ _ _ _ AL.out).mono ?_); rintro e w10 ⟨rfl, hb⟩; have n0_ := Aside0.mk (below_step (by repeat (first | (with_reducible first | exact HB.out | apply below_alloc | apply pw_below_drewN | apply below_drew1) | exact HB.out)) hb); clear HB; have HB := n0_; clear n0_ hb) | (go_at_call 45; (with_reducible refine (rect_Valid.calls _ _ _ _ _ _ AR.out).mono ?_); rintro e w11 ⟨rfl, hb⟩; have n0_ := Aside0.mk (below_step (by repeat (first | (with_reducible first | exact HB.out | apply below_alloc | apply pw_below_drewN | apply below_drew1) | exact HB.out)) hb); clear HB; have HB := n0_; clear n0_ hb))
                go_ret
                exact ⟨rfl, (by repeat (first | (with_reducible first | exact HB.out | apply below_alloc | apply pw_below_drewN | apply below_drew1) | exact HB.out))⟩
              rw [if_pos rfl] at h
              replace h := Option.bind_eq_some_iff.mp h
              obtain ⟨p2, A70, h⟩ := h
              have A7 := Aside0.mk A70
              clear A70
              try dsimp only at h
              rcases Bool.eq_false_or_eq_true p2 with e_ | e_ <;> subst e_
              rotate_left
              · rw [if_neg Bool.false_ne_true] at h
                obtain rfl := Option.some.inj h
                go_enter Try.func31, Try.ntmps31
                go_wp2_with (first | ((with_reducible refine gate_dst (N := 1) rfl ?_); refine box_event ?hg (N := 1) ?hd (cs := #[.string a0_0, .int .i64 a0_1, .int .i64 a0_2, .int .i64 a0_3, .int .i64 a0_4, .int .i64 a0_5, .int .i64 a0_6, .int .i64 a0_7]) (t := 23) ?hr ?_; (case hd => rfl); (case hg => rfl); (case hr => first | (go_simp; done) | (go_simp; rfl)); intro gB hg w9 hbox hb; have n0_ := Aside0.mk (below_step (by repeat (first | (with_reducible first | exact HB.out | apply below_alloc | apply pw_below_drewN | apply below_drew1) | exact HB.out)) hb); clear HB; have HB := n0_; clear n0_; have BK := Aside0.mk hbox; clear hb hbox hg; have hcz_0 : w9.cell? ⟨gB, 0, none⟩ = some (.string a0_0) := (blk_cell BK.out 0).trans rfl; have hfz_0 := blk_frozen BK.out 0; have hcz_1 : w9.cell? ⟨gB, 1, none⟩ = some (.int .i64 a0_1) := (blk_cell BK.out 1).trans rfl; have hfz_1 := blk_frozen BK.out 1; have hcz_2 : w9.cell? ⟨gB, 2, none⟩ = some (.int .i64 a0_2) := (blk_cell BK.out 2).trans rfl; have hfz_2 := blk_frozen BK.out 2; have hcz_3 : w9.cell? ⟨gB, 3, none⟩ = some (.int .i64 a0_3) := (blk_cell BK.out 3).trans rfl; have hfz_3 := blk_frozen BK.out 3; have hcz_4 : w9.cell? ⟨gB, 4, none⟩ = some (.int .i64 a0_4) := (blk_cell BK.out 4).trans rfl; have hfz_4 := blk_frozen BK.out 4; have hcz_5 : w9.cell? ⟨gB, 5, none⟩ = some (.int .i64 a0_5) := (blk_cell BK.out 5).trans rfl; have hfz_5 := blk_frozen BK.out 5; have hcz_6 : w9.cell? ⟨gB, 6, none⟩ = some (.int .i64 a0_6) := (blk_cell BK.out 6).trans rfl; have hfz_6 := blk_frozen BK.out 6; have hcz_7 : w9.cell? ⟨gB, 7, none⟩ = some (.int .i64 a0_7) := (blk_cell BK.out 7).trans rfl; have hfz_7 := blk_frozen BK.out 7) | (go_at_call 44; (with_reducible refine (transform_Valid.calls a0_5 _ _ A5.out).mono ?_); rintro e w' ⟨rfl, ⟨nd, rfl⟩⟩) | (go_at_call 42; (with_reducible refine (output_Check.sizes a0_1 _ gB _ a0_0 a0_1 a0_2 a0_3 a0_4 a0_5 a0_6 a0_7 ?hbk hsc.out A1.out).mono ?_); (case hbk => ((with_reducible repeat (first | refine blk_drewN ?_ _ | refine blk_drew ?_ | refine blk_alloc ?_ _)); exact BK.out)); rintro e w' ⟨rfl, ⟨nd, rfl⟩⟩) | (go_at_call 42; (with_reducible refine (output_Check.sizes a0_2 _ gB _ a0_0 a0_1 a0_2 a0_3 a0_4 a0_5 a0_6 a0_7 ?hbk hsc.out A2.out).mono ?_); (case hbk => ((with_reducible repeat (first | refine blk_drewN ?_ _ | refine blk_drew ?_ | refine blk_alloc ?_ _)); exact BK.out)); rintro e w' ⟨rfl, ⟨nd, rfl⟩⟩) | (go_at_call 43; (with_reducible refine (output_Check.place a0_6 _ _ A6.out).mono ?_); rintro e w' ⟨rfl, ⟨nd, rfl⟩⟩) | (go_at_call 43; (with_reducible refine (output_Check.place a0_7 _ _ A7.out).mono ?_); rintro e w' ⟨rfl, ⟨nd, rfl⟩⟩) | (go_at_call 46; (with_reducible refine (output_logical.calls a0_0 a0_1 a0_2 a0_3 a0_4 a0_5 a0_6 a0_7 _ _ _ _ _ AL.out).mono ?_); rintro e w10 ⟨rfl, hb⟩; have n0_ := Aside0.mk (below_step (by repeat (first | (with_reducible first | exact HB.out | apply below_alloc | apply pw_below_drewN | apply below_drew1) | exact HB.out)) hb); clear HB; have HB := n0_; clear n0_ hb) | (go_at_call 45; (with_reducible refine (rect_Valid.calls _ _ _ _ _ _ AR.out).mono ?_); rintro e w11 ⟨rfl, hb⟩; have n0_ := Aside0.mk (below_step (by repeat (first | (with_reducible first | exact HB.out | apply below_alloc | apply pw_below_drewN | apply below_drew1) | exact HB.out)) hb); clear HB; have HB := n0_; clear n0_ hb))
                go_ret
                exact ⟨rfl, (by repeat (first | (with_reducible first | exact HB.out | apply below_alloc | apply pw_below_drewN | apply below_drew1) | exact HB.out))⟩
              rw [if_pos rfl] at h
              replace h := Option.bind_eq_some_iff.mp h
              obtain ⟨⟨q1_, q2_, q3_, q4_⟩, AL0, h⟩ := h
              have AL := Aside0.mk AL0
              clear AL0
              dsimp only at h
              replace h := Option.bind_eq_some_iff.mp h
              obtain ⟨b, AR0, h⟩ := h
              have AR := Aside0.mk AR0
              clear AR0
              try dsimp only at h
              rcases Bool.eq_false_or_eq_true b with e_ | e_ <;> subst e_
              rotate_left
              · rw [if_neg Bool.false_ne_true] at h
                obtain rfl := Option.some.inj h
                go_enter Try.func31, Try.ntmps31
                go_wp2_with (first | ((with_reducible refine gate_dst (N := 1) rfl ?_); refine box_event ?hg (N := 1) ?hd (cs := #[.string a0_0, .int .i64 a0_1, .int .i64 a0_2, .int .i64 a0_3, .int .i64 a0_4, .int .i64 a0_5, .int .i64 a0_6, .int .i64 a0_7]) (t := 23) ?hr ?_; (case hd => rfl); (case hg => rfl); (case hr => first | (go_simp; done) | (go_simp; rfl)); intro gB hg w9 hbox hb; have n0_ := Aside0.mk (below_step (by repeat (first | (with_reducible first | exact HB.out | apply below_alloc | apply pw_below_drewN | apply below_drew1) | exact HB.out)) hb); clear HB; have HB := n0_; clear n0_; have BK := Aside0.mk hbox; clear hb hbox hg; have hcz_0 : w9.cell? ⟨gB, 0, none⟩ = some (.string a0_0) := (blk_cell BK.out 0).trans rfl; have hfz_0 := blk_frozen BK.out 0; have hcz_1 : w9.cell? ⟨gB, 1, none⟩ = some (.int .i64 a0_1) := (blk_cell BK.out 1).trans rfl; have hfz_1 := blk_frozen BK.out 1; have hcz_2 : w9.cell? ⟨gB, 2, none⟩ = some (.int .i64 a0_2) := (blk_cell BK.out 2).trans rfl; have hfz_2 := blk_frozen BK.out 2; have hcz_3 : w9.cell? ⟨gB, 3, none⟩ = some (.int .i64 a0_3) := (blk_cell BK.out 3).trans rfl; have hfz_3 := blk_frozen BK.out 3; have hcz_4 : w9.cell? ⟨gB, 4, none⟩ = some (.int .i64 a0_4) := (blk_cell BK.out 4).trans rfl; have hfz_4 := blk_frozen BK.out 4; have hcz_5 : w9.cell? ⟨gB, 5, none⟩ = some (.int .i64 a0_5) := (blk_cell BK.out 5).trans rfl; have hfz_5 := blk_frozen BK.out 5; have hcz_6 : w9.cell? ⟨gB, 6, none⟩ = some (.int .i64 a0_6) := (blk_cell BK.out 6).trans rfl; have hfz_6 := blk_frozen BK.out 6; have hcz_7 : w9.cell? ⟨gB, 7, none⟩ = some (.int .i64 a0_7) := (blk_cell BK.out 7).trans rfl; have hfz_7 := blk_frozen BK.out 7) | (go_at_call 44; (with_reducible refine (transform_Valid.calls a0_5 _ _ A5.out).mono ?_); rintro e w' ⟨rfl, ⟨nd, rfl⟩⟩) | (go_at_call 42; (with_reducible refine (output_Check.sizes a0_1 _ gB _ a0_0 a0_1 a0_2 a0_3 a0_4 a0_5 a0_6 a0_7 ?hbk hsc.out A1.out).mono ?_); (case hbk => ((with_reducible repeat (first | refine blk_drewN ?_ _ | refine blk_drew ?_ | refine blk_alloc ?_ _)); exact BK.out)); rintro e w' ⟨rfl, ⟨nd, rfl⟩⟩) | (go_at_call 42; (with_reducible refine (output_Check.sizes a0_2 _ gB _ a0_0 a0_1 a0_2 a0_3 a0_4 a0_5 a0_6 a0_7 ?hbk hsc.out A2.out).mono ?_); (case hbk => ((with_reducible repeat (first | refine blk_drewN ?_ _ | refine blk_drew ?_ | refine blk_alloc ?_ _)); exact BK.out)); rintro e w' ⟨rfl, ⟨nd, rfl⟩⟩) | (go_at_call 43; (with_reducible refine (output_Check.place a0_6 _ _ A6.out).mono ?_); rintro e w' ⟨rfl, ⟨nd, rfl⟩⟩) | (go_at_call 43; (with_reducible refine (output_Check.place a0_7 _ _ A7.out).mono ?_); rintro e w' ⟨rfl, ⟨nd, rfl⟩⟩) | (go_at_call 46; (with_reducible refine (output_logical.calls a0_0 a0_1 a0_2 a0_3 a0_4 a0_5 a0_6 a0_7 _ _ _ _ _ AL.out).mono ?_); rintro e w10 ⟨rfl, hb⟩; have n0_ := Aside0.mk (below_step (by repeat (first | (with_reducible first | exact HB.out | apply below_alloc | apply pw_below_drewN | apply below_drew1) | exact HB.out)) hb); clear HB; have HB := n0_; clear n0_ hb) | (go_at_call 45; (with_reducible refine (rect_Valid.calls _ _ _ _ _ _ AR.out).mono ?_); rintro e w11 ⟨rfl, hb⟩; have n0_ := Aside0.mk (below_step (by repeat (first | (with_reducible first | exact HB.out | apply below_alloc | apply pw_below_drewN | apply below_drew1) | exact HB.out)) hb); clear HB; have HB := n0_; clear n0_ hb))
                go_ret
                exact ⟨rfl, (by repeat (first | (with_reducible first | exact HB.out | apply below_alloc | apply pw_below_drewN | apply below_drew1) | exact HB.out))⟩
              rw [if_pos rfl] at h
              obtain rfl := Option.some.inj h
              go_enter Try.func31, Try.ntmps31
              go_wp2_with (first | ((with_reducible refine gate_dst (N := 1) rfl ?_); refine box_event ?hg (N := 1) ?hd (cs := #[.string a0_0, .int .i64 a0_1, .int .i64 a0_2, .int .i64 a0_3, .int .i64 a0_4, .int .i64 a0_5, .int .i64 a0_6, .int .i64 a0_7]) (t := 23) ?hr ?_; (case hd => rfl); (case hg => rfl); (case hr => first | (go_simp; done) | (go_simp; rfl)); intro gB hg w9 hbox hb; have n0_ := Aside0.mk (below_step (by repeat (first | (with_reducible first | exact HB.out | apply below_alloc | apply pw_below_drewN | apply below_drew1) | exact HB.out)) hb); clear HB; have HB := n0_; clear n0_; have BK := Aside0.mk hbox; clear hb hbox hg; have hcz_0 : w9.cell? ⟨gB, 0, none⟩ = some (.string a0_0) := (blk_cell BK.out 0).trans rfl; have hfz_0 := blk_frozen BK.out 0; have hcz_1 : w9.cell? ⟨gB, 1, none⟩ = some (.int .i64 a0_1) := (blk_cell BK.out 1).trans rfl; have hfz_1 := blk_frozen BK.out 1; have hcz_2 : w9.cell? ⟨gB, 2, none⟩ = some (.int .i64 a0_2) := (blk_cell BK.out 2).trans rfl; have hfz_2 := blk_frozen BK.out 2; have hcz_3 : w9.cell? ⟨gB, 3, none⟩ = some (.int .i64 a0_3) := (blk_cell BK.out 3).trans rfl; have hfz_3 := blk_frozen BK.out 3; have hcz_4 : w9.cell? ⟨gB, 4, none⟩ = some (.int .i64 a0_4) := (blk_cell BK.out 4).trans rfl; have hfz_4 := blk_frozen BK.out 4; have hcz_5 : w9.cell? ⟨gB, 5, none⟩ = some (.int .i64 a0_5) := (blk_cell BK.out 5).trans rfl; have hfz_5 := blk_frozen BK.out 5; have hcz_6 : w9.cell? ⟨gB, 6, none⟩ = some (.int .i64 a0_6) := (blk_cell BK.out 6).trans rfl; have hfz_6 := blk_frozen BK.out 6; have hcz_7 : w9.cell? ⟨gB, 7, none⟩ = some (.int .i64 a0_7) := (blk_cell BK.out 7).trans rfl; have hfz_7 := blk_frozen BK.out 7) | (go_at_call 44; (with_reducible refine (transform_Valid.calls a0_5 _ _ A5.out).mono ?_); rintro e w' ⟨rfl, ⟨nd, rfl⟩⟩) | (go_at_call 42; (with_reducible refine (output_Check.sizes a0_1 _ gB _ a0_0 a0_1 a0_2 a0_3 a0_4 a0_5 a0_6 a0_7 ?hbk hsc.out A1.out).mono ?_); (case hbk => ((with_reducible repeat (first | refine blk_drewN ?_ _ | refine blk_drew ?_ | refine blk_alloc ?_ _)); exact BK.out)); rintro e w' ⟨rfl, ⟨nd, rfl⟩⟩) | (go_at_call 42; (with_reducible refine (output_Check.sizes a0_2 _ gB _ a0_0 a0_1 a0_2 a0_3 a0_4 a0_5 a0_6 a0_7 ?hbk hsc.out A2.out).mono ?_); (case hbk => ((with_reducible repeat (first | refine blk_drewN ?_ _ | refine blk_drew ?_ | refine blk_alloc ?_ _)); exact BK.out)); rintro e w' ⟨rfl, ⟨nd, rfl⟩⟩) | (go_at_call 43; (with_reducible refine (output_Check.place a0_6 _ _ A6.out).mono ?_); rintro e w' ⟨rfl, ⟨nd, rfl⟩⟩) | (go_at_call 43; (with_reducible refine (output_Check.place a0_7 _ _ A7.out).mono ?_); rintro e w' ⟨rfl, ⟨nd, rfl⟩⟩) | (go_at_call 46; (with_reducible refine (output_logical.calls a0_0 a0_1 a0_2 a0_3 a0_4 a0_5 a0_6 a0_7 _ _ _ _ _ AL.out).mono ?_); rintro e w10 ⟨rfl, hb⟩; have n0_ := Aside0.mk (below_step (by repeat (first | (with_reducible first | exact HB.out | apply below_alloc | apply pw_below_drewN | apply below_drew1) | exact HB.out)) hb); clear HB; have HB := n0_; clear n0_ hb) | (go_at_call 45; (with_reducible refine (rect_Valid.calls _ _ _ _ _ _ AR.out).mono ?_); rintro e w11 ⟨rfl, hb⟩; have n0_ := Aside0.mk (below_step (by repeat (first | (with_reducible first | exact HB.out | apply below_alloc | apply pw_below_drewN | apply below_drew1) | exact HB.out)) hb); clear HB; have HB := n0_; clear n0_ hb))
              go_ret
              exact ⟨rfl, (by repeat (first | (with_reducible first | exact HB.out | apply below_alloc | apply pw_below_drewN | apply below_drew1) | exact HB.out))⟩
end
end Go.Proofs.Ytmkhphkkpdiliaa.All
end
section
namespace Go.Proofs.Ytmkhphkkpdiliaa.All
open Go.RowKit Go.Proofs.YtmkhphkkpdiliaaW.PrintWords Go.Proofs.YtmkhphkkpdiliaaW.PrintLast Go.Proofs.YtmkhphkkpdiliaaW.PrintMore
attribute [local go_sem] max2_int min2_int max_two min_two max_three min_three max_four min_four
set_option linter.unusedVariables false
set_option linter.unusedSimpArgs false
def output_Interval.f (a0_0 : ByteArray) (a0_1 : Int) (a0_2 : Int) (a0_3 : Int) (a0_4 : Int) (a0_5 : Int) (a0_6 : Int) (a0_7 : Int) : Option (Int) := (output_Check.f a0_0 a0_1 a0_2 a0_3 a0_4 a0_5 a0_6 a0_7).bind fun t113 => (if t113 = 0 then (if (wrap64 (2 * a0_3)) = 0 then (none) else (some (wrap64 (Int.tdiv (wrap64 (2000000000000 + a0_3)) (wrap64 (2 * a0_3)))))) else (some 0))
set_option maxHeartbeats 8000000 in
set_option maxRecDepth 100000 in
theorem output_Interval.calls (a0_0 : ByteArray) (a0_1 : Int) (a0_2 : Int) (a0_3 : Int) (a0_4 : Int) (a0_5 : Int) (a0_6 : Int) (a0_7 : Int) (r : Int) (w : World) (h : output_Interval.f a0_0 a0_1 a0_2 a0_3 a0_4 a0_5 a0_6 a0_7 = some r) :
    Calls Try.prog 32 #[.agg #[.string a0_0, .int .i64 a0_1, .int .i64 a0_2, .int .i64 a0_3, .int .i64 a0_4, .int .i64 a0_5, .int .i64 a0_6, .int .i64 a0_7]] w fun e w' => e = .returned (.int .i64 r) ∧ Below w.heap.size w w' := by
  have hu23 := Try.underlying23
  have HB := Aside0.mk (Below.refl w.heap.size w)
  have H : ((output_Check.f a0_0 a0_1 a0_2 a0_3 a0_4 a0_5 a0_6 a0_7).bind fun t113 => (if t113 = 0 then (if (wrap64 (2 * a0_3)) = 0 then (none) else (some (wrap64 (Int.tdiv (wrap64 (2000000000000 + a0_3)) (wrap64 (2 * a0_3)))))) else (some 0))) = some r := h
  clear h
  replace H := Option.bind_eq_some_iff.mp H
  obtain ⟨t113, A20, H⟩ := H
  replace H : (if t113 = 0 then (if (wrap64 (2 * a0_3)) = 0 then (none) else (some (wrap64 (Int.tdiv (wrap64 (2000000000000 + a0_3)) (wrap64 (2 * a0_3)))))) else (some 0)) = some r := H
  have A2 := Aside0.mk A20
  clear A20
  by_cases c3 : t113 = 0
  · rw [if_pos c3] at H
    have c3b0 : (t113 == 0) = true := beq_iff_eq.mpr c3
    have c3b1 : (t113 != 0) = false := bne_eq_false_iff_eq.mpr c3
    clear c3
    by_cases c4 : (wrap64 (2 * a0_3)) = 0
    · rw [if_pos c4] at H
      exact absurd H (by simp)
    · rw [if_neg c4] at H
      have c4b0 : ((wrap64 (2 * a0_3)) == 0) = false := beq_eq_false_iff_ne.mpr c4
      have c4b1 : ((wrap64 (2 * a0_3)) != 0) = true := bne_iff_ne.mpr c4
      obtain rfl := Option.some.inj H
      go_enter Try.func32, Try.ntmps32
      go_wp2_with (first | ((with_reducible refine gate_dst (N := 1) rfl ?_); refine box_event ?hg (N := 1) ?hd (cs := #[.string a0_0, .int .i64 a0_1, .int .i64 a0_2, .int .i64 a0_3, .int .i64 a0_4, .int .i64 a0_5, .int .i64 a0_6, .int .i64 a0_7]) (t := 23) ?hr ?_; (case hd => rfl); (case hg => rfl); (case hr => first | (go_simp; done) | (go_simp; rfl)); intro gb112 hg w5 hbox hb; have n0_ := Aside0.mk (below_step (by repeat (first | (with_reducible first | exact HB.out | apply below_alloc | apply pw_below_drewN | apply below_drew1) | exact HB.out)) hb); have n1_ := Aside0.mk (hbox); have n2_ := Aside0.mk ((by rw [hg]; exact (below_size (by repeat (first | (with_reducible first | exact HB.out | apply below_alloc | apply pw_below_drewN | apply below_drew1) | exact HB.out))) : w.heap.size ≤ gb112)); have n3_ := Aside0.mk ((by rw [hg]; exact (below_size (by repeat (first | (with_reducible first | exact HB.out | apply below_alloc | apply pw_below_drewN | apply below_drew1) | exact HB.out))) : w.heap.size ≤ gb112)); clear HB; have HB := n0_; have BK112 := n1_; have GW112 := n2_; have GE112 := n3_; clear n0_ n1_ n2_ n3_; clear hb hbox hg; have hcz6_0 : w5.cell? ⟨gb112, 0, none⟩ = some (.string a0_0) := (blk_cell BK112.out 0).trans rfl; have hcz6_1 : w5.cell? ⟨gb112, 1, none⟩ = some (.int .i64 a0_1) := (blk_cell BK112.out 1).trans rfl; have hcz6_2 : w5.cell? ⟨gb112, 2, none⟩ = some (.int .i64 a0_2) := (blk_cell BK112.out 2).trans rfl; have hcz6_3 : w5.cell? ⟨gb112, 3, none⟩ = some (.int .i64 a0_3) := (blk_cell BK112.out 3).trans rfl; have hcz6_4 : w5.cell? ⟨gb112, 4, none⟩ = some (.int .i64 a0_4) := (blk_cell BK112.out 4).trans rfl; have hcz6_5 : w5.cell? ⟨gb112, 5, none⟩ = some (.int .i64 a0_5) := (blk_cell BK112.out 5).trans rfl; have hcz6_6 : w5.cell? ⟨gb112, 6, none⟩ = some (.int .i64 a0_6) := (blk_cell BK112.out 6).trans rfl; have hcz6_7 : w5.cell? ⟨gb112, 7, none⟩ = some (.int .i64 a0_7) := (blk_cell BK112.out 7).trans rfl; have hfz6_0 := blk_frozen BK112.out 0; have hfz6_1 := blk_frozen BK112.out 1; have hfz6_2 := blk_frozen BK112.out 2; have hfz6_3 := blk_frozen BK112.out 3; have hfz6_4 := blk_frozen BK112.out 4; have hfz6_5 := blk_frozen BK112.out 5; have hfz6_6 := blk_frozen BK112.out 6; have hfz6_7 := blk_frozen BK112.out 7) | ((with_reducible refine gate_callee (f := 31) rfl ?_); refine goesL_ (some 4) rfl rfl Try.func31 (by kernel_rfl) rfl #[.agg #[.string a0_0, .int .i64 a0_1, .int .i64 a0_2, .int .i64 a0_3, .int .i64 a0_4, .int .i64 a0_5, .int .i64 a0_6, .int .i64 a0_7]] rfl (by (try simp only [List.map_toArray, List.map_cons, List.map_nil]); first | done | rfl | (simp only [List.length_drop, List.length_take]; rfl)) ?_; (with_reducible refine (output_Check.calls a0_0 a0_1 a0_2 a0_3 a0_4 a0_5 a0_6 a0_7 t113 _ A2.out).mono ?_); rintro e w7 ⟨rfl, hb⟩; refine ⟨_, rfl, ?_⟩; have n0_ := Aside0.mk (blk_below (g := gb112) (o := .cells #[.string a0_0, .int .i64 a0_1, .int .i64 a0_2, .int .i64 a0_3, .int .i64 a0_4, .int .i64 a0_5, .int .i64 a0_6, .int .i64 a0_7] 23 (0, 0)) (by (with_reducible repeat (first | refine blk_drewN ?_ _ | refine blk_drew ?_ | refine blk_alloc ?_ _)); exact BK112.out) hb); have n1_ := Aside0.mk (below_step (by repeat (first | (with_reducible first | exact HB.out | apply below_alloc | apply pw_below_drewN | apply below_drew1 | refine below_set ?_ GE112.out) | exact HB.out)) hb); clear BK112; clear HB; have BK112 := n0_; have HB := n1_; clear n0_ n1_; (try clear hb); (try clear hb2); (try clear hk); (try clear hi); have hcz8_0 : w7.cell? ⟨gb112, 0, none⟩ = some (.string a0_0) := (blk_cell BK112.out 0).trans rfl; have hcz8_1 : w7.cell? ⟨gb112, 1, none⟩ = some (.int .i64 a0_1) := (blk_cell BK112.out 1).trans rfl; have hcz8_2 : w7.cell? ⟨gb112, 2, none⟩ = some (.int .i64 a0_2) := (blk_cell BK112.out 2).trans rfl; have hcz8_3 : w7.cell? ⟨gb112, 3, none⟩ = some (.int .i64 a0_3) := (blk_cell BK112.out 3).trans rfl; have hcz8_4 : w7.cell? ⟨gb112, 4, none⟩ = some (.int .i64 a0_4) := (blk_cell BK112.out 4).trans rfl; have hcz8_5 : w7.cell? ⟨gb112, 5, none⟩ = some (.int .i64 a0_5) := (blk_cell BK112.out 5).trans rfl; have hcz8_6 : w7.cell? ⟨gb112, 6, none⟩ = some (.int .i64 a0_6) := (blk_cell BK112.out 6).trans rfl; have hcz8_7 : w7.cell? ⟨gb112, 7, none⟩ = some (.int .i64 a0_7) := (blk_cell BK112.out 7).trans rfl; have hfz8_0 := blk_frozen BK112.out 0; have hfz8_1 := blk_frozen BK112.out 1; have hfz8_2 := blk_frozen BK112.out 2; have hfz8_3 := blk_frozen BK112.out 3; have hfz8_4 := blk_frozen BK112.out 4; have hfz8_5 := blk_frozen BK112.out 5; have hfz8_6 := blk_frozen BK112.out 6; have hfz8_7 := blk_frozen BK112.out 7))
      go_ret
      exact ⟨by first | rfl | (simp [errW_none, errW_some] <;> rfl) | (simp [*, errW_none, errW_some] <;> rfl), by repeat (first | (with_reducible first | exact HB.out | apply below_alloc | apply pw_below_drewN | apply below_drew1 | refine below_set ?_ GE112.out) | exact HB.out)⟩
  · rw [if_neg c3] at H
    have c3b0 : (t113 == 0) = false := beq_eq_false_iff_ne.mpr c3
    have c3b1 : (t113 != 0) = true := bne_iff_ne.mpr c3
    obtain rfl := Option.some.inj H
    go_enter Try.func32, Try.ntmps32
    go_wp2_with (first | ((with_reducible refine gate_dst (N := 1) rfl ?_); refine box_event ?hg (N := 1) ?hd (cs := #[.string a0_0, .int .i64 a0_1, .int .i64 a0_2, .int .i64 a0_3, .int .i64 a0_4, .int .i64 a0_5, .int .i64 a0_6, .int .i64 a0_7]) (t := 23) ?hr ?_; (case hd => rfl); (case hg => rfl); (case hr => first | (go_simp; done) | (go_simp; rfl)); intro gb112 hg w9 hbox hb; have n0_ := Aside0.mk (below_step (by repeat (first | (with_reducible first | exact HB.out | apply below_alloc | apply pw_below_drewN | apply below_drew1) | exact HB.out)) hb); have n1_ := Aside0.mk (hbox); have n2_ := Aside0.mk ((by rw [hg]; exact (below_size (by repeat (first | (with_reducible first | exact HB.out | apply below_alloc | apply pw_below_drewN | apply below_drew1) | exact HB.out))) : w.heap.size ≤ gb112)); have n3_ := Aside0.mk ((by rw [hg]; exact (below_size (by repeat (first | (with_reducible first | exact HB.out | apply below_alloc | apply pw_below_drewN | apply below_drew1) | exact HB.out))) : w.heap.size ≤ gb112)); clear HB; have HB := n0_; have BK112 := n1_; have GW112 := n2_; have GE112 := n3_; clear n0_ n1_ n2_ n3_; clear hb hbox hg; have hcz10_0 : w9.cell? ⟨gb112, 0, none⟩ = some (.string a0_0) := (blk_cell BK112.out 0).trans rfl; have hcz10_1 : w9.cell? ⟨gb112, 1, none⟩ = some (.int .i64 a0_1) := (blk_cell BK112.out 1).trans rfl; have hcz10_2 : w9.cell? ⟨gb112, 2, none⟩ = some (.int .i64 a0_2) := (blk_cell BK112.out 2).trans rfl; have hcz10_3 : w9.cell? ⟨gb112, 3, none⟩ = some (.int .i64 a0_3) := (blk_cell BK112.out 3).trans rfl; have hcz10_4 : w9.cell? ⟨gb112, 4, none⟩ = some (.int .i64 a0_4) := (blk_cell BK112.out 4).trans rfl; have hcz10_5 : w9.cell? ⟨gb112, 5, none⟩ = some (.int .i64 a0_5) := (blk_cell BK112.out 5).trans rfl; have hcz10_6 : w9.cell? ⟨gb112, 6, none⟩ = some (.int .i64 a0_6) := (blk_cell BK112.out 6).trans rfl; have hcz10_7 : w9.cell? ⟨gb112, 7, none⟩ = some (.int .i64 a0_7) := (blk_cell BK112.out 7).trans rfl; have hfz10_0 := blk_frozen BK112.out 0; have hfz10_1 := blk_frozen BK112.out 1; have hfz10_2 := blk_frozen BK112.out 2; have hfz10_3 := blk_frozen BK112.out 3; have hfz10_4 := blk_frozen BK112.out 4; have hfz10_5 := blk_frozen BK112.out 5; have hfz10_6 := blk_frozen BK112.out 6; have hfz10_7 := blk_frozen BK112.out 7) | ((with_reducible refine gate_callee (f := 31) rfl ?_); refine goesL_ (some 4) rfl rfl Try.func31 (by kernel_rfl) rfl #[.agg #[.string a0_0, .int .i64 a0_1, .int .i64 a0_2, .int .i64 a0_3, .int .i64 a0_4, .int .i64 a0_5, .int .i64 a0_6, .int .i64 a0_7]] rfl (by (try simp only [List.map_toArray, List.map_cons, List.map_nil]); first | done | rfl | (simp only [List.length_drop, List.length_take]; rfl)) ?_; (with_reducible refine (output_Check.calls a0_0 a0_1 a0_2 a0_3 a0_4 a0_5 a0_6 a0_7 t113 _ A2.out).mono ?_); rintro e w11 ⟨rfl, hb⟩; refine ⟨_, rfl, ?_⟩; have n0_ := Aside0.mk (blk_below (g := gb112) (o := .cells #[.string a0_0, .int .i64 a0_1, .int .i64 a0_2, .int .i64 a0_3, .int .i64 a0_4, .int .i64 a0_5, .int .i64 a0_6, .int .i64 a0_7] 23 (0, 0)) (by (with_reducible repeat (first | refine blk_drewN ?_ _ | refine blk_drew ?_ | refine blk_alloc ?_ _)); exact BK112.out) hb); have n1_ := Aside0.mk (below_step (by repeat (first | (with_reducible first | exact HB.out | apply below_alloc | apply pw_below_drewN | apply below_drew1 | refine below_set ?_ GE112.out) | exact HB.out)) hb); clear BK112; clear HB; have BK112 := n0_; have HB := n1_; clear n0_ n1_; (try clear hb); (try clear hb2); (try clear hk); (try clear hi)))
    go_ret
    exact ⟨by first | rfl | (simp [errW_none, errW_some] <;> rfl) | (simp [*, errW_none, errW_some] <;> rfl), by repeat (first | (with_reducible first | exact HB.out | apply below_alloc | apply pw_below_drewN | apply below_drew1 | refine below_set ?_ GE112.out) | exact HB.out)⟩
end Go.Proofs.Ytmkhphkkpdiliaa.All
end
section
namespace Go.Proofs.Ytmkhphkkpdiliaa.All
open Go.Proofs.YtmkhphkkpdiliaaSq
open Go.RowKit Go.Proofs.YtmkhphkkpdiliaaW.PrintWords Go.Proofs.YtmkhphkkpdiliaaW.PrintLast Go.Proofs.YtmkhphkkpdiliaaW.PrintMore
attribute [local go_sem] max2_int min2_int max_two min_two max_three min_three max_four min_four
set_option linter.unusedVariables false
set_option linter.unusedSimpArgs false
section
open Go.Proofs.YtmkhphkkpdiliaaHand Go.Proofs.YtmkhphkkpdiliaaSq
theorem usable_ok (w : World) (g : Nat) (iv : Int) (h0 : w.cell? ⟨g, 0, none⟩ = some (.int .i64 iv)) (hf : w.frozen? ⟨g, 0, none⟩ = false) (hiv : 1 ≤ iv) : Calls Try.prog 36 #[.pointer (some ⟨g, 0, none⟩)] w fun e w' => e = .returned (.bool true) ∧ ∃ nd, w' = w.drewN nd := by
  have hu69 := Try.underlying69
  have d0 : decide (0 < iv) = true := decide_eq_true (by omega)
  go_enter Try.func36, Try.ntmps36
  go_wp2_with fail
  go_ret
  exact ⟨rfl, 0, rfl⟩
theorem clamp_ok (w : World) (a0 : Int) : Calls Try.prog 37 #[.int .i64 a0] w fun e w' => e = .returned (.int .i64 (mn (mx a0 0) 4611686018427387904)) ∧ ∃ nd, w' = w.drewN nd := by
  obtain ⟨ji2, hji2⟩ : ∃ j_ : Int, (mx a0 0) = j_ := ⟨_, rfl⟩
  have hji2_ : (if a0 < 0 then 0 else a0) = ji2 := hji2
  obtain ⟨ji3, hji3⟩ : ∃ j_ : Int, (mn (ji2) 4611686018427387904) = j_ := ⟨_, rfl⟩
  have hji3_ : (if 4611686018427387904 < (ji2) then 4611686018427387904 else (ji2)) = ji3 := hji3
  rw [hji2, hji3]
  go_enter Try.func37, Try.ntmps37
  go_wp2
  go_ret
  exact ⟨rfl, 0, rfl⟩
def nextOf (iv now : Int) : Int := wrap64 ((wrap64 ((wrap64 (Int.tdiv (mn (mx now 0) 4611686018427387904) iv)) + 1)) * iv)
theorem next_ok (w : World) (g : Nat) (iv now : Int) (h0 : w.cell? ⟨g, 0, none⟩ = some (.int .i64 iv)) (hf : w.frozen? ⟨g, 0, none⟩ = false) (hiv : 1 ≤ iv) : Calls Try.prog 13 #[.pointer (some ⟨g, 0, none⟩), .int .i64 now] w fun e w' => e = .returned (.int .i64 (nextOf iv now)) ∧ ∃ nd, w' = w.drewN nd := by
  have hu69 := Try.underlying69
  have hi0 : ¬ iv = 0 := by omega
  have hh := Aside0.mk h0
  have hhf := Aside0.mk hf
  have hiv' := Aside0.mk hiv
  go_enter Try.func13, Try.ntmps13
  go_wp2_with (first | (go_at_call 36; (with_reducible refine (usable_ok _ g iv (by exact hh.out) (by exact hhf.out) hiv'.out).mono ?_); rintro e w' ⟨rfl, ⟨nd, rfl⟩⟩) | (go_at_call 37; (with_reducible refine (clamp_ok _ now).mono ?_); rintro e w' ⟨rfl, ⟨nd, rfl⟩⟩))
  have hh1 : (w.drewN nd).drew.cell? ⟨g, 0, none⟩ = some (.int .i64 iv) := hh.out
  have hh2 : (w.drewN nd).drew.frozen? ⟨g, 0, none⟩ = false := hhf.out
  go_region_held3 (fun w' => w'.cell? ⟨g, 0, none⟩ = some (.int .i64 iv)) (exact hh.out) (first | (go_at_call 37; (with_reducible refine (clamp_ok _ now).mono ?_); rintro e w' ⟨rfl, ⟨nd2, rfl⟩⟩))
  go_wp2
  go_ret
  exact ⟨by simp only [nextOf, i64_w]; rfl, _, rfl⟩
theorem sequence_ok (w : World) (g : Nat) (iv now : Int) (h0 : w.cell? ⟨g, 0, none⟩ = some (.int .i64 iv)) (hf : w.frozen? ⟨g, 0, none⟩ = false) (h1 : w.cell? ⟨g, 1, none⟩ = some (.int .i64 now)) (hf1 : w.frozen? ⟨g, 1, none⟩ = false) (hiv : 1 ≤ iv) : Calls Try.prog 19 #[.pointer (some ⟨g, 0, none⟩)] w fun e w' => e = .returned (.int .i64 (wrap64 (Int.tdiv now iv))) ∧ ∃ nd, w' = w.drewN nd := by
  have hu69 := Try.underlying69
  have hi0 : ¬ iv = 0 := by omega
  have hh := Aside0.mk h0
  have hhf := Aside0.mk hf
  have hg := Aside0.mk h1
  have hgf := Aside0.mk hf1
  have hiv' := Aside0.mk hiv
  go_enter Try.func19, Try.ntmps19
  go_wp2_with (first | (go_at_call 36; (with_reducible refine (usable_ok _ g iv (by exact hh.out) (by exact hhf.out) hiv'.out).mono ?_); rintro e w' ⟨rfl, ⟨nd, rfl⟩⟩))
  have hh1 : (w.drewN nd).drew.cell? ⟨g, 0, none⟩ = some (.int .i64 iv) := hh.out
  have hh2 : (w.drewN nd).drew.frozen? ⟨g, 0, none⟩ = false := hhf.out
  have hh3 : (w.drewN nd).drew.cell? ⟨g, 1, none⟩ = some (.int .i64 now) := hg.out
  have hh4 : (w.drewN nd).drew.frozen? ⟨g, 1, none⟩ = false := hgf.out
  go_region_held3 (fun w' => w'.cell? ⟨g, 0, none⟩ = some (.int .i64 iv) ∧ w'.cell? ⟨g, 1, none⟩ = some (.int .i64 now)) (exact ⟨hh.out, hg.out⟩) (fail)
  go_wp2
  go_ret
  exact ⟨by simp only [i64_w]; rfl, nd + 1, rfl⟩
theorem pending_ok (w : World) (g : Nat) (iv : Int) (A : Option Addr) (n c : Nat) (h0 : w.cell? ⟨g, 0, none⟩ = some (.int .i64 iv)) (hf : w.frozen? ⟨g, 0, none⟩ = false) (h1 : w.cell? ⟨g, 2, none⟩ = some (.slice A n c)) (hf1 : w.frozen? ⟨g, 2, none⟩ = false) (hiv : 1 ≤ iv) : Calls Try.prog 17 #[.pointer (some ⟨g, 0, none⟩)] w fun e w' => e = .returned (.int .i64 n) ∧ ∃ nd, w' = w.drewN nd := by
  have hu69 := Try.underlying69
  have hh := Aside0.mk h0
  have hhf := Aside0.mk hf
  have hg := Aside0.mk h1
  have hgf := Aside0.mk hf1
  have hiv' := Aside0.mk hiv
  go_enter Try.func17, Try.ntmps17
  go_wp2_with (first | (go_at_call 36; (with_reducible refine (usable_ok _ g iv (by exact hh.out) (by exact hhf.out) hiv'.out).mono ?_); rintro e w' ⟨rfl, ⟨nd, rfl⟩⟩))
  go_ret
  exact ⟨rfl, _, rfl⟩
set_option maxHeartbeats 8000000 in
set_option maxRecDepth 100000 in
theorem new_ok (a0_0 : ByteArray) (a0_1 a0_2 a0_3 a0_4 a0_5 a0_6 a0_7 : Int) (iv : Int) (w : World) (h : output_Check.f a0_0 a0_1 a0_2 a0_3 a0_4 a0_5 a0_6 a0_7 = some 0) (hi : output_Interval.f a0_0 a0_1 a0_2 a0_3 a0_4 a0_5 a0_6 a0_7 = some iv) :
    Calls Try.prog 10 #[.agg #[.string a0_0, .int .i64 a0_1, .int .i64 a0_2, .int .i64 a0_3, .int .i64 a0_4, .int .i64 a0_5, .int .i64 a0_6, .int .i64 a0_7]] w fun e w' => ∃ g, e = .returned (.tuple #[.pointer (some ⟨g, 0, none⟩), .int .i64 0]) ∧ w'.heap[g]? = some (.cells #[.int .i64 iv, .int .i64 0, .slice none 0 0] 69 (0, 0)) ∧ w.heap.size ≤ g ∧ Below w.heap.size w w' := by
  have hu23 := Try.underlying23
  have hu69 := Try.underlying69
  have HB := Aside0.mk (Below.refl w.heap.size w)
  have hC := Aside0.mk h
  have hI := Aside0.mk hi
  clear h hi
  go_enter Try.func10, Try.ntmps10
  go_wp2_with (first | ((with_reducible refine gate_dst (N := 1) rfl ?_); refine box_event ?hg (N := 1) ?hd (cs := #[.string a0_0, .int .i64 a0_1, .int .i64 a0_2, .int .i64 a0_3, .int .i64 a0_4, .int .i64 a0_5, .int .i64 a0_6, .int .i64 a0_7]) (t := 23) ?hr ?_; (case hd => rfl); (case hg => rfl); (case hr => first | (go_simp; done) | (go_simp; rfl)); intro gB hg w9 hbox hb; have n0_ := Aside0.mk (below_step (by repeat (first | (with_reducible first | exact HB.out | apply below_alloc | apply pw_below_drewN | apply below_drew1) | exact HB.out)) hb); clear HB; have HB := n0_; clear n0_; have BK := Aside0.mk hbox; clear hb hbox hg; have hcz_0 : w9.cell? ⟨gB, 0, none⟩ = some (.string a0_0) := (blk_cell BK.out 0).trans rfl; have fcz_0 := blk_frozen BK.out 0; have hcz_1 : w9.cell? ⟨gB, 1, none⟩ = some (.int .i64 a0_1) := (blk_cell BK.out 1).trans rfl; have fcz_1 := blk_frozen BK.out 1; have hcz_2 : w9.cell? ⟨gB, 2, none⟩ = some (.int .i64 a0_2) := (blk_cell BK.out 2).trans rfl; have fcz_2 := blk_frozen BK.out 2; have hcz_3 : w9.cell? ⟨gB, 3, none⟩ = some (.int .i64 a0_3) := (blk_cell BK.out 3).trans rfl; have fcz_3 := blk_frozen BK.out 3; have hcz_4 : w9.cell? ⟨gB, 4, none⟩ = some (.int .i64 a0_4) := (blk_cell BK.out 4).trans rfl; have fcz_4 := blk_frozen BK.out 4; have hcz_5 : w9.cell? ⟨gB, 5, none⟩ = some (.int .i64 a0_5) := (blk_cell BK.out 5).trans rfl; have fcz_5 := blk_frozen BK.out 5; have hcz_6 : w9.cell? ⟨gB, 6, none⟩ = some (.int .i64 a0_6) := (blk_cell BK.out 6).trans rfl; have fcz_6 := blk_frozen BK.out 6; have hcz_7 : w9.cell? ⟨gB, 7, none⟩ = some (.int .i64 a0_7) := (blk_cell BK.out 7).trans rfl; have fcz_7 := blk_frozen BK.out 7) | (go_at_call 31; (with_reducible refine (output_Check.calls a0_0 a0_1 a0_2 a0_3 a0_4 a0_5 a0_6 a0_7 _ _ hC.out).mono ?_); rintro e w10 ⟨rfl, hb⟩; have n0_ := Aside0.mk (below_step (by repeat (first | (with_reducible first | exact HB.out | apply below_alloc | apply pw_below_drewN | apply below_drew1) | exact HB.out)) hb); have n1_ := Aside0.mk (blk_below (g := gB) (o := .cells #[.string a0_0, .int .i64 a0_1, .int .i64 a0_2, .int .i64 a0_3, .int .i64 a0_4, .int .i64 a0_5, .int .i64 a0_6, .int .i64 a0_7] 23 (0, 0)) (by ((with_reducible repeat (first | refine blk_drewN ?_ _ | refine blk_drew ?_ | refine blk_alloc ?_ _)); exact BK.out)) hb); clear HB BK; have HB := n0_; have BK := n1_; clear n0_ n1_ hb; have hca_0 : w10.cell? ⟨gB, 0, none⟩ = some (.string a0_0) := (blk_cell BK.out 0).trans rfl; have fca_0 := blk_frozen BK.out 0; have hca_1 : w10.cell? ⟨gB, 1, none⟩ = some (.int .i64 a0_1) := (blk_cell BK.out 1).trans rfl; have fca_1 := blk_frozen BK.out 1; have hca_2 : w10.cell? ⟨gB, 2, none⟩ = some (.int .i64 a0_2) := (blk_cell BK.out 2).trans rfl; have fca_2 := blk_frozen BK.out 2; have hca_3 : w10.cell? ⟨gB, 3, none⟩ = some (.int .i64 a0_3) := (blk_cell BK.out 3).trans rfl; have fca_3 := blk_frozen BK.out 3; have hca_4 : w10.cell? ⟨gB, 4, none⟩ = some (.int .i64 a0_4) := (blk_cell BK.out 4).trans rfl; have fca_4 := blk_frozen BK.out 4; have hca_5 : w10.cell? ⟨gB, 5, none⟩ = some (.int .i64 a0_5) := (blk_cell BK.out 5).trans rfl; have fca_5 := blk_frozen BK.out 5; have hca_6 : w10.cell? ⟨gB, 6, none⟩ = some (.int .i64 a0_6) := (blk_cell BK.out 6).trans rfl; have fca_6 := blk_frozen BK.out 6; have hca_7 : w10.cell? ⟨gB, 7, none⟩ = some (.int .i64 a0_7) := (blk_cell BK.out 7).trans rfl; have fca_7 := blk_frozen BK.out 7) | (go_at_call 32; (with_reducible refine (output_Interval.calls a0_0 a0_1 a0_2 a0_3 a0_4 a0_5 a0_6 a0_7 _ _ hI.out).mono ?_); rintro e w11 ⟨rfl, hb⟩; have n0_ := Aside0.mk (below_step (by repeat (first | (with_reducible first | exact HB.out | apply below_alloc | apply pw_below_drewN | apply below_drew1) | exact HB.out)) hb); clear HB; have HB := n0_; clear n0_ hb) | ((with_reducible refine gate_dst (N := 13) rfl ?_); refine box_event ?hg (N := 13) ?hd (cs := #[.int .i64 iv, .int .i64 0, .slice none 0 0]) (t := 69) ?hr ?_; (case hd => rfl); (case hg => rfl); (case hr => first | (go_simp; done) | (go_simp; rfl)); intro gC hg w12 hbox hb; have n1_ := Aside0.mk ((by rw [hg]; exact (below_size (by repeat (first | (with_reducible first | exact HB.out | apply below_alloc | apply pw_below_drewN | apply below_drew1) | exact HB.out))) : w.heap.size ≤ gC)); have n0_ := Aside0.mk (below_step (by repeat (first | (with_reducible first | exact HB.out | apply below_alloc | apply pw_below_drewN | apply below_drew1) | exact HB.out)) hb); clear HB; have HB := n0_; clear n0_; have CK := Aside0.mk hbox; clear hb hbox hg))
  go_ret2
  exact ⟨gC, rfl, CK.out, n1_.out, HB.out⟩
theorem info75 : (Try.prog.info? 75).map (fun i => (i.zero, i.size, i.bytes)) = some (some (.agg #[(.int .i64 0), (.slice none 0 0)]), 2, 32) := by kernel_rfl
structure Clk (w0 w : World) (g : Nat) (iv now : Int) (vq : Value) (q : List S78) : Prop where
  blk : w.heap[g]? = some (.cells #[.int .i64 iv, .int .i64 now, vq] 69 (0, 0))
  low : w0.heap.size ≤ g
  own : Kd.N k78 75 w w0.heap.size (fun k => w0.heap.size ≤ k ∧ k ≠ g) vq q
  below : Below w0.heap.size w0 w
def Stp (w w' : World) (g : Nat) (vq vq' : Value) : Prop := Kept w w' (fun k => k = g ∨ some k = vq.ownBlock) ∧ (vq'.ownBlock = vq.ownBlock ∨ vq'.ownBlock = none ∨ ∃ b, vq'.ownBlock = some b ∧ w.heap.size ≤ b)
theorem Clk.cells {w0 w : World} {g : Nat} {iv now : Int} {vq : Value} {q : List S78} (h : Clk w0 w g iv now vq q) : (w.cell? ⟨g, 0, none⟩ = some (.int .i64 iv) ∧ w.frozen? ⟨g, 0, none⟩ = false) ∧ (w.cell? ⟨g, 1, none⟩ = some (.int .i64 now) ∧ w.frozen? ⟨g, 1, none⟩ = false) ∧ (w.cell? ⟨g, 2, none⟩ = some vq ∧ w.frozen? ⟨g, 2, none⟩ = false) :=
  ⟨⟨(blk_cell h.blk 0).trans rfl, blk_frozen h.blk 0⟩, ⟨(blk_cell h.blk 1).trans rfl, blk_frozen h.blk 1⟩, (blk_cell h.blk 2).trans rfl, blk_frozen h.blk 2⟩
theorem Clk.drewN {w0 w : World} {g : Nat} {iv now : Int} {vq : Value} {q : List S78} (h : Clk w0 w g iv now vq q) (n : Nat) : Clk w0 (w.drewN n) g iv now vq q := ⟨blk_drewN h.blk n, h.low, Kd.N_drewN h.own n, pw_below_drewN h.below n⟩
theorem Clk.drew {w0 w : World} {g : Nat} {iv now : Int} {vq : Value} {q : List S78} (h : Clk w0 w g iv now vq q) : Clk w0 w.drew g iv now vq q := ⟨blk_drew h.blk, h.low, Kd.N_drew h.own, below_drew1 h.below⟩
theorem below_thru {w0 w w1 : World} (h : Below w0.heap.size w0 w) (hb : Below w.heap.size w w1) : Below w0.heap.size w0 w1 := below_step h hb
theorem Clk.after {w0 w w1 : World} {g : Nat} {iv now : Int} {vq : Value} {q : List S78} (h : Clk w0 w g iv now vq q) (hb : Below w.heap.size w w1) : Clk w0 w1 g iv now vq q := ⟨blk_below h.blk hb, h.low, Kd.N_below h.own hb, below_thru h.below hb⟩
set_option maxHeartbeats 8000000 in
set_option maxRecDepth 100000 in
theorem commit_ok (w0 w : World) (g : Nat) (iv now s : Int) (vq : Value) (q : List S78) (A2 : Option Addr) (c2 : Nat) (l2 : List Int) (hK : Clk w0 w g iv now vq q) (hiv : 1 ≤ iv) (hs : 1 ≤ s) (hq : q.length < 256) (hl : l2.length ≤ 256) (hr2 : Kd.C (Kd.int .u32) w A2 l2.length l2) (hc2 : l2.length ≤ c2) :
    Calls Try.prog 16 #[.pointer (some ⟨g, 0, none⟩), .int .i64 s, .slice A2 l2.length c2] w fun e w' => e = .returned (.int .i64 0) ∧ ∃ vq', Clk w0 w' g iv now vq' (q ++ [⟨s, l2⟩]) ∧ Stp w w' g vq vq' := by
  have hu69 := Try.underlying69
  obtain ⟨Aq, cq, rfl⟩ := Kd.N_slice hK.own
  have hh := Aside0.mk hK.cells
  have c2_ := hh.out.2.2.1
  have f2_ := hh.out.2.2.2
  have HK := Aside0.mk hK
  have HR2 := Aside0.mk (And.intro hr2 hc2)
  have hiv' := Aside0.mk hiv
  have HQ := Aside0.mk (And.intro hq hl)
  have d0 : decide (s < 1) = false := decide_eq_false (by omega)
  have d1 : decide (256 ≤ q.length) = false := decide_eq_false (by omega)
  have d2 : decide (256 ≤ (q.length : Int)) = false := decide_eq_false (by omega)
  have d3 : decide (256 < l2.length) = false := decide_eq_false (by omega)
  have d4 : decide (256 < (l2.length : Int)) = false := decide_eq_false (by omega)
  clear hK hs hq hl hr2 hc2
  go_enter Try.func16, Try.ntmps16
  go_wp2_with (first | (go_at_call 36; (with_reducible refine (usable_ok _ g iv (by exact hh.out.1.1) (by exact hh.out.1.2) hiv'.out).mono ?_); rintro e w' ⟨rfl, ⟨nd, rfl⟩⟩))
  clear c2_ f2_
  obtain ⟨W, hW⟩ : ∃ W, W = (w.drewN nd).drew := ⟨_, rfl⟩
  have hbW : Aside0 (Below w.heap.size w W) := ⟨by rw [hW]; exact below_drew1 (pw_below_drewN (Below.refl _ _) _)⟩
  have HKW : Aside0 (Clk w0 W g iv now (.slice Aq q.length cq) q) := ⟨by rw [hW]; exact (HK.out.drewN nd).drew⟩
  refine start_ (n := 14) (S := fun w' => w'.cell? ⟨g, 2, none⟩ = some (.slice Aq q.length cq) ∧ w'.frozen? ⟨g, 2, none⟩ = false) (ds := [13]) #[false, false, false, false, false, false, false, false, false, false, false, false, false, false] (by kernel_rfl) rfl rfl (by rw [← hW]; exact ⟨HKW.out.cells.2.2.1, HKW.out.cells.2.2.2⟩) (fun hHeld => ?_)
  rw [← hW] at hHeld ⊢
  have HT_ : Aside0 (rtab .any (opsOf Try.f16 7) = rtab .any (opsOf Try.f16 7)) := ⟨rfl⟩
  refine pv_ 0 26 #[true, false, false, false, false, false, false, false, false, false, false, false, false, false] HT_ ?_
  refine pv_ 1 27 #[true, true, false, false, false, false, false, false, false, false, false, false, false, false] HT_ ?_
  refine pv_ 2 28 #[true, true, true, false, false, false, false, false, false, false, false, false, false, false] HT_ ?_
  refine pv_ 3 29 #[true, true, true, true, false, false, false, false, false, false, false, false, false, false] HT_ ?_
  refine pv_ 5 31 #[true, true, true, true, false, true, false, false, false, false, false, false, false, false] HT_ ?_
  refine pv_ 6 32 #[true, true, true, true, false, true, true, false, false, false, false, false, false, false] HT_ ?_
  refine take_ (i := 4) (N := some 30) (v := ?_) (a' := ?_) #[true, true, true, true, true, true, true, false, false, false, false, false, false, false] rfl rfl (take_of HT_.out (by kernel_rfl)) (fun _ _ _ h => h) (Or.inl ⟨by rfl, ?_⟩) hHeld ?_ ?_
  rotate_left
  · rintro w' ⟨s0, s1⟩
    go_simp
    with_reducible rfl
  rotate_left
  · simp only [Act.put, List.setIfInBounds_toArray, List.set_cons_zero, List.set_cons_succ, i64_w, i32_w]
    rfl
  refine one_ (i := 7) (N := some 33) #[true, true, true, true, true, true, true, true, false, false, false, false, false, false] rfl rfl (one_of HT_.out (by kernel_rfl)) (by decide) (fun K hK => ?_)
  refine Kd.R_append_rows_step (Kd.int .u32) (w0 := w) w.heap.size (by rfl) (.const (.slice none 0 0)) (.tmp 32) 37 36 (.int .u32 0) 4 rfl Try.underlying37 info36 rfl (by decide) (by omega) (.slice none 0 0) [] l2 A2 l2.length c2 (fun k => w.heap.size ≤ k) (fun _ => False) rfl rfl (Kd.R_nil _ _ _ _ _) (Kd.C_below HR2.out.1 hbW.out) (fun x cs h => h) (fun _ h => h.elim) (fun k hk => Nat.le_trans hbW.out.size hk) hbW.out hbW.out.size (by have := HQ.out.2; rw [List.length_nil]; omega) ?_
  rw [List.nil_append]
  intro v1 w1 hv1 hb1 _ hat1
  obtain ⟨A1, c1, e1⟩ := Kd.R_slice hv1
  subst e1
  have HV1 := Aside0.mk hv1
  have HB1 := Aside0.mk hb1
  have HK1 := Aside0.mk (HK.out.after hb1)
  clear hv1 hb1 hat1
  refine hK.out _ _ ⟨HK1.out.cells.2.2.1, HK1.out.cells.2.2.2⟩ (fun hHeld => ?_)
  clear hK K
  refine norm_ (a' := ?_) ?_ ?_
  rotate_left
  · show Act.put _ (some 33) _ = _
    simp only [Act.put, List.setIfInBounds_toArray, List.set_cons_zero, List.set_cons_succ, i64_w, i32_w]
    rfl
  refine pv_ 8 34 #[true, true, true, true, true, true, true, true, true, false, false, false, false, false] HT_ ?_
  refine one_ (i := 9) (N := some 35) #[true, true, true, true, true, true, true, true, true, true, false, false, false, false] rfl rfl (one_of HT_.out (by kernel_rfl)) (by decide) (fun K hK => ?_)
  refine event_step (by rfl) (v := .slice (some ⟨w1.heap.size, 0, none⟩) 1 1) (w1 := w1.alloc (.cells #[.int .i64 s, .slice A1 l2.length c1] 75 (0, 0))) ?hr ?_
  case hr => first | (go_simp; done) | (go_simp; rfl)
  refine hK.out _ _ ⟨(HK1.out.after (below_alloc (Below.refl _ _) _)).cells.2.2.1, (HK1.out.after (below_alloc (Below.refl _ _) _)).cells.2.2.2⟩ (fun hHeld => ?_)
  clear hK K
  refine norm_ (a' := ?_) ?_ ?_
  rotate_left
  · show Act.put _ (some 35) _ = _
    simp only [Act.put, List.setIfInBounds_toArray, List.set_cons_zero, List.set_cons_succ, i64_w, i32_w]
    rfl
  refine one_ (i := 10) (N := some 36) #[true, true, true, true, true, true, true, true, true, true, true, false, false, false] rfl rfl (one_of HT_.out (by kernel_rfl)) (by decide) (fun K hK => ?_)
  refine Kd.N_append_step k78 (w0 := w0) w0.heap.size (by rfl) (.tmp 30) (.tmp 35) 67 75 (.agg #[(.int .i64 0), (.slice none 0 0)]) 32 rfl Try.underlying67 info75 rfl (by decide) (by omega) (.slice Aq q.length cq) q (⟨s, l2⟩ : S78) [.int .i64 s, .slice A1 l2.length c1] (fun k => w0.heap.size ≤ k ∧ k ≠ g) (fun k => w.heap.size ≤ k) rfl rfl (k78_mkF _ _ (⟨s, l2⟩ : S78) (Kd.R_reads' HV1.out).2.1 (Kd.R_F HV1.out)) ?hokp ?hfr HK1.out.own HK1.out.below HK1.out.below.size (by have := HQ.out.1; omega) ?_
  case hokp =>
    intro k hk
    refine ⟨⟨Nat.le_trans HK.out.below.size hk, fun e => ?_⟩, fun e => ?_⟩
    · have := blk_lt HK.out.blk
      omega
    · have := Kd.N_lt HK.out.own k e.symm
      omega
  case hfr =>
    intro k hk
    refine ⟨Nat.le_trans HK1.out.below.size hk, fun e => ?_⟩
    have := blk_lt HK1.out.blk
    omega
  intro v3 w3 hv3 hb3 hg3 hat3
  have hgn : some g ≠ (Value.slice Aq q.length cq).ownBlock := fun e => (HK.out.own.1 g e.symm).2 rfl
  have HK3 : Aside0 (Clk w0 w3 g iv now (.slice Aq q.length cq) q → True) := ⟨fun _ => trivial⟩
  have BK3 := Aside0.mk (blk_grown HK1.out.blk hg3 hgn)
  have HV3 := Aside0.mk hv3
  have HB3 := Aside0.mk hb3
  have KP3 : Aside0 (Kept w w3 (fun k => k = g ∨ some k = (Value.slice Aq q.length cq).ownBlock)) := ⟨Kept.of_grown hg3 (Kept.of_below HB1.out _) (fun k hk => Or.inl (Or.inr hk.symm))⟩
  have HAT : Aside0 (v3.ownBlock = (Value.slice Aq q.length cq).ownBlock ∨ ∃ b, v3.ownBlock = some b ∧ w.heap.size ≤ b) := ⟨hat3.elim Or.inl (fun ⟨b, h1, h2⟩ => Or.inr ⟨b, h1, Nat.le_trans HB1.out.size h2⟩)⟩
  clear hv3 hb3 hg3 hat3 hgn HK3
  refine hK.out _ _ ⟨(blk_cell BK3.out 2).trans rfl, blk_frozen BK3.out 2⟩ (fun hHeld => ?_)
  clear hK K
  refine norm_ (a' := ?_) ?_ ?_
  rotate_left
  · show Act.put _ (some 36) _ = _
    simp only [Act.put, List.setIfInBounds_toArray, List.set_cons_zero, List.set_cons_succ, i64_w, i32_w]
    rfl
  refine pv_ 11 37 #[true, true, true, true, true, true, true, true, true, true, true, true, false, false] HT_ ?_
  refine pv_ 12 38 #[true, true, true, true, true, true, true, true, true, true, true, true, true, false] HT_ ?_
  refine last_ (i := 13) (N := none) #[true, true, true, true, true, true, true, true, true, true, true, true, true, true] rfl rfl (one_of HT_.out (by kernel_rfl)) (by decide) (fun K hK => ?_)
  have cs2 : w3.cell? ⟨g, 2, none⟩ = some (.slice Aq q.length cq) := (blk_cell BK3.out 2).trans rfl
  have fs2 := blk_frozen BK3.out 2
  obtain ⟨A3, c3, e3⟩ := Kd.N_slice HV3.out
  subst e3
  have HV4 := HV3.out
  simp only [List.length_append, List.length_cons, List.length_nil, Nat.zero_add] at HV4
  have HV5 := Aside0.mk HV4
  clear HV4 HV3
  simp only [List.length_append, List.length_cons, List.length_nil, Nat.zero_add] at HAT
  refine skip_ (w1 := ?_) (by rfl) rfl ?_ ?_
  rotate_left
  · go_simp
    rfl
  refine hK.out _ _ ?_
  clear hK K
  refine done_ (done_of HT_.out (by kernel_rfl)) ?_
  go_wp2
  go_ret
  refine ⟨rfl, _, ⟨blk_put (cs := #[.int .i64 iv, .int .i64 now, .slice Aq q.length cq]) BK3.out 2 _ rfl, HK.out.low, Kd.N_far (p := ⟨g, 2, none⟩) HV5.out (fun _ hk => hk.2) _, below_set HB3.out HK.out.low⟩, Kept.setCell KP3.out (Or.inl (Or.inl rfl)) _, ?_⟩
  exact HAT.out.elim Or.inl (fun h => Or.inr (Or.inr h))
theorem addr_add (a : Addr) (m n : Nat) : (a.add m).add n = a.add (m + n) := by
  unfold Addr.add
  by_cases hm : m = 0 <;> by_cases hn : n = 0 <;> simp [hm, hn, Nat.add_assoc]
theorem w1_ {k : Nat} (h : k ≤ 256) : wrap64 ((k : Int) + 1) = ((k + 1 : Nat) : Int) := by unfold wrap64; omega
def sup (q : List S78) (i : Nat) : Bool := (q.drop (i + 1)).any fun x => x.f0 == (rd_T78 q (i : Int)).f0
theorem sup_step (q : List S78) (i j : Nat) (hj : i + 1 + j < q.length) : (q.drop (i + 1 + j)).any (fun x => x.f0 == (rd_T78 q (i : Int)).f0) = ((rd_T78 q ((i + 1 + j : Nat) : Int)).f0 == (rd_T78 q (i : Int)).f0 || (q.drop (i + 1 + (j + 1))).any fun x => x.f0 == (rd_T78 q (i : Int)).f0) := by
  rw [List.drop_eq_getElem_cons hj, List.any_cons]
  have e : rd_T78 q ((i + 1 + j : Nat) : Int) = q[i + 1 + j] := by
    unfold rd_T78
    rw [Int.toNat_natCast, List.getD_eq_getElem?_getD, List.getElem?_eq_getElem hj]
    rfl
  rw [e]
  rfl
set_option maxHeartbeats 8000000 in
theorem superseded_ok (w0 w : World) (g : Nat) (iv now : Int) (vq : Value) (q : List S78) (i : Nat) (hK : Clk w0 w g iv now vq q) (hi : i < q.length) (hq : q.length ≤ 256) : Calls Try.prog 39 #[.pointer (some ⟨g, 0, none⟩), .int .i64 i] w fun e w' => e = .returned (.bool (sup q i)) ∧ Below w.heap.size w w' := by
  have hu69 := Try.underlying69
  have hu67 := Try.underlying67
  have hu75 := Try.underlying75
  obtain ⟨Aq, cq, rfl⟩ := Kd.N_slice hK.own
  obtain ⟨_, hcq, hC⟩ := Kd.N_reads' hK.own
  have hh := Aside0.mk hK.cells
  have c2_ := hh.out.2.2.1
  have f2_ := hh.out.2.2.2
  have HK := Aside0.mk hK
  have HC := Aside0.mk hC
  obtain ⟨ad, A1, c1, e0, x0, x1, _⟩ := at_T78 hC (i : Int) (by omega) (by omega)
  subst e0
  simp only [Int.toNat_natCast] at x0 x1
  have hX := Aside0.mk x0
  have hI := Aside0.mk (And.intro hi (And.intro hq hcq))
  have ew : wrap64 ((i : Int) + 1) = ((i + 1 : Nat) : Int) := by unfold wrap64; omega
  clear hK hC x0 x1 hi hq
  have hle : i + 1 ≤ q.length := hI.out.1
  by_cases hcap : cq = i + 1
  · have hz : q.length = i + 1 := by have := hI.out.1; have := hI.out.2.2; omega
    have hf : Aside0 (sup q i = false) := ⟨by unfold sup; rw [← hz, List.drop_length]; rfl⟩
    subst hcap
    go_enter Try.func39, Try.ntmps39
    go_wp2
    go_step3
    go_wp2
    go_step3
    go_wp2
    clear c2_ f2_
    go_loopw [5, 16] (fun v5 v w' => v5 = .bool false ∧ v = .int .i64 0 ∧ Aside0 (Below w.heap.size w w')) (fun _ v _ => 0)
    case atStart => exact ⟨rfl, rfl, ⟨Below.refl _ _⟩⟩
    case round =>
      obtain ⟨rfl, rfl, hb⟩ := hrel
      go_wp2
      rw [Exit.noGoto_ret]
      go_ret
      exact ⟨by rw [hf.out]; rfl, hb.out⟩
  · go_enter Try.func39, Try.ntmps39
    go_wp2
    go_step3
    go_wp2
    go_step3
    go_wp2
    clear c2_ f2_
    go_loopw [5, 16] (fun v5 v w' => ∃ k : Nat, k ≤ q.length - (i + 1) ∧ v5 = .bool false ∧ v = .int .i64 k ∧ Aside0 (sup q i = (q.drop (i + 1 + k)).any fun x => x.f0 == (rd_T78 q (i : Int)).f0) ∧ Aside0 (Below w.heap.size w w')) (fun _ v _ => q.length - (intOf v).toNat)
    case atStart => exact ⟨0, Nat.zero_le _, rfl, rfl, ⟨rfl⟩, ⟨Below.refl _ _⟩⟩
    case round =>
      obtain ⟨k, hk, rfl, rfl, he, hb⟩ := hrel
      by_cases hlt : k < q.length - (i + 1)
      · obtain ⟨ad', A1, c1, e0, x0, x1, _⟩ := at_T78 HC.out ((i + 1 + k : Nat) : Int) (by omega) (by omega)
        cases e0
        simp only [Int.toNat_natCast] at x0 x1
        replace x0 := (hb.out.cell (World.block_lt_of_cell? w _ x0)).trans x0
        replace x1 := (hb.out.cell (World.block_lt_of_cell? w _ x1)).trans x1
        have ea : (ad.add ((i + 1) * 2)).add (k * 2) = ad.add ((i + 1 + k) * 2) := by rw [addr_add, Nat.add_mul (i + 1) k 2]
        have hlt' : (k : Int) < ((q.length - (i + 1) : Nat) : Int) := by omega
        have hs := sup_step q i k (by omega)
        rw [hs] at he
        clear hs
        have ew2 : Aside0 (wrap64 ((k : Int) + 1) = ((k + 1 : Nat) : Int)) := ⟨w1_ (Nat.le_trans (Nat.le_of_lt hlt) (Nat.le_trans (Nat.sub_le _ _) hI.out.2.1))⟩
        generalize rd_T78 q ((i + 1 + k : Nat) : Int) = x at x0 x1 he
        go_wp2_with fail
        obtain ⟨hR0, hb0⟩ := allocs1 wr (Obj.cells #[Value.int IntKind.i64 x.f0, Value.slice A1 x.f1.length c1] 75)
        generalize hgz : wr.heap.size = gz at *
        generalize wr.alloc (Obj.cells #[Value.int IntKind.i64 x.f0, Value.slice A1 x.f1.length c1] 75) = W at hR0 hb0 ⊢
        have hbW : Aside0 (Below w.heap.size w W) := ⟨below_step hb.out (by rw [← hgz] at hb0; exact hb0)⟩
        have HW := Aside0.mk (HK.out.after hbW.out)
        have hXW : Aside0 (W.cell? (ad.add (i * 2)) = some (.int .i64 (rd_T78 q (i : Int)).f0)) := ⟨(hbW.out.cell (World.block_lt_of_cell? w _ hX.out)).trans hX.out⟩
        have hRW := Aside0.mk hR0
        have y0 : W.drew.cell? ⟨gz, 0, none⟩ = some (.int .i64 x.f0) := (blk_cell hR0 0).trans rfl
        have y1 : W.drew.cell? ⟨g, 2, none⟩ = some (.slice (some ad) q.length cq) := HW.out.cells.2.2.1
        have y2 : W.drew.cell? (ad.add (i * 2)) = some (.int .i64 (rd_T78 q (i : Int)).f0) := hXW.out
        have hiq : (i : Int) < (q.length : Int) := by have := hI.out.1; omega
        clear hb0 hR0 x0 x1 hgz
        go_region_held3 (fun w' => w'.cell? ⟨gz, 0, none⟩ = some (.int .i64 x.f0) ∧ w'.cell? ⟨g, 2, none⟩ = some (.slice (some ad) q.length cq) ∧ w'.cell? (ad.add (i * 2)) = some (.int .i64 (rd_T78 q (i : Int)).f0)) (exact ⟨(blk_cell hRW.out 0).trans rfl, HW.out.cells.2.2.1, hXW.out⟩) (fail)
        have hbD : Aside0 (Below w.heap.size w W.drew) := ⟨below_drew1 hbW.out⟩
        clear y0 y1 y2 HW hXW hRW hb hbW
        by_cases hk2 : (x.f0 == (rd_T78 q (i : Int)).f0) = true
        · rw [hk2] at he ⊢
          rw [Bool.true_or] at he
          go_wp2
          rw [Exit.noGoto_ret]
          go_ret
          exact ⟨by rw [he.out]; rfl, hbD.out⟩
        · replace hk2 := Bool.eq_false_iff.mpr hk2
          rw [hk2] at he ⊢
          rw [Bool.false_or] at he
          go_wp2
          go_roundw
          case rel => exact ⟨k + 1, by omega, rfl, by simp only [ew2.out], he, hbD⟩
          case measure =>
            clear he hbD
            rw [ew2.out]
            simp only [intOf, Int.toNat_natCast]
            omega
      · obtain rfl : k = q.length - (i + 1) := by omega
        have hf : Aside0 (sup q i = false) := ⟨by rw [he.out, show i + 1 + (q.length - (i + 1)) = q.length by omega, List.drop_length]; rfl⟩
        go_wp2
        rw [Exit.noGoto_ret]
        go_ret
        exact ⟨by rw [hf.out]; rfl, hb.out⟩
structure Out (u w : World) (go : Nat) (vo : Value) (l : List S42) : Prop where
  blk : w.heap[go]? = some (.cells #[vo] 39 (0, 0))
  low : u.heap.size ≤ go
  own : Kd.R k42 42 w u.heap.size (fun k => u.heap.size ≤ k ∧ k ≠ go) vo l
  below : Below u.heap.size u w
theorem Out.drewN {u w : World} {go : Nat} {vo : Value} {l : List S42} (h : Out u w go vo l) (n : Nat) : Out u (w.drewN n) go vo l := ⟨blk_drewN h.blk n, h.low, Kd.R_drewN h.own n, pw_below_drewN h.below n⟩
theorem Out.drew {u w : World} {go : Nat} {vo : Value} {l : List S42} (h : Out u w go vo l) : Out u w.drew go vo l := ⟨blk_drew h.blk, h.low, Kd.R_drew h.own, below_drew1 h.below⟩
theorem Out.after {u w w1 : World} {go : Nat} {vo : Value} {l : List S42} (h : Out u w go vo l) (hb : Below w.heap.size w w1) : Out u w1 go vo l := ⟨blk_below h.blk hb, h.low, Kd.R_below h.own hb, below_step h.below hb⟩
theorem report_ok (u w : World) (go : Nat) (vo : Value) (l : List S42) (s kd tm cd : Int) (hO : Out u w go vo l) (hl : l.length ≤ 1000000) : Calls Try.prog 38 #[.int .i64 s, .int .i64 kd, .int .i64 tm, .int .i64 cd, .pointer (some ⟨go, 0, none⟩)] w fun e w' => e = .returned (.tuple #[]) ∧ (∀ (k : Nat) (cs : Array Value), w.heap[k]? = some (Obj.cells cs 75 (0, 0)) → w'.heap[k]? = some (Obj.cells cs 75 (0, 0))) ∧ ∃ vo', Out u w' go vo' (l ++ [⟨0, s, kd, tm, 0, 0, cd, 0, 0⟩]) := by
  obtain ⟨Ao, co, rfl⟩ := Kd.R_slice hO.own
  have HO := Aside0.mk hO
  have HL := Aside0.mk hl
  have hc0 : w.cell? ⟨go, 0, none⟩ = some (.slice Ao l.length co) := (blk_cell hO.blk 0).trans rfl
  have hf0 := blk_frozen hO.blk 0
  clear hO hl
  go_enter Try.func38, Try.ntmps38
  go_wp2_with (first | ((with_reducible refine gate_builtin (b := .append) (xs := #[.tmp 9, .tmp 15]) rfl ?_); at_builtin; refine Kd.R_append k42 (w0 := u) u.heap.size rfl (.tmp 9) (.tmp 15) 39 42 (.agg #[(.int .i64 0), (.int .i64 0), (.int .i64 0), (.int .i64 0), (.int .i64 0), (.int .i64 0), (.int .i64 0), (.int .i64 0), (.int .u32 0)]) 72 rfl Try.underlying39 info42 rfl (by decide) (by omega) (.slice Ao l.length co) l (⟨0, s, kd, tm, 0, 0, cd, 0, 0⟩ : S42) [.int .i64 0, .int .i64 s, .int .i64 kd, .int .i64 tm, .int .i64 0, .int .i64 0, .int .i64 cd, .int .i64 0, .int .u32 0] (fun k => u.heap.size ≤ k ∧ k ≠ go) (fun _ => False) rfl rfl ?aP (fun _ hk => hk.elim) ?aF ?aO ?aB ?aS ?aL ?_; (case aP => exact k42_mkM _ _ _ (⟨0, s, kd, tm, 0, 0, cd, 0, 0⟩ : S42)); (case aB => exact HO.out.below); (case aF => exact (fun k hk => ⟨Nat.le_trans HO.out.below.size hk, fun e => Nat.lt_irrefl _ (Nat.lt_of_lt_of_le (blk_lt HO.out.blk) (e ▸ hk))⟩)); (case aO => exact HO.out.own); (case aS => exact HO.out.below.size); (case aL => have := HL.out; omega); intro v1 w1 ho hb hg hat; have hv1 := Aside0.mk ho; have hB1 := Aside0.mk hb; have hbk := Aside0.mk (blk_grown HO.out.blk hg (fun e => (HO.out.own.1 go e.symm).2 rfl)); have hkp : Aside0 (∀ (k : Nat) (cs : Array Value), w.heap[k]? = some (Obj.cells cs 75 (0, 0)) → w1.heap[k]? = some (Obj.cells cs 75 (0, 0))) := ⟨fun k cs hk => blk_grown hk hg (Kd.R_ne HO.out.own hk (by decide))⟩; clear ho hb hg hat; have hc1 : w1.cell? ⟨go, 0, none⟩ = some (.slice Ao l.length co) := (blk_cell hbk.out 0).trans rfl; have hf1 := blk_frozen hbk.out 0; obtain ⟨A1, c1, e1⟩ := Kd.R_slice hv1.out; subst e1))
  have hv2 := hv1.out
  rw [List.length_append, List.length_singleton] at hv2
  exact bodyPost_end (results_none rfl _ _ _) rfl ⟨rfl, fun k cs hk => blk_far (hkp.out k cs hk) (fun e => by subst e; exact absurd (hk.symm.trans HO.out.blk) (by simp)) _, _, blk_put (cs := #[.slice Ao l.length co]) hbk.out 0 _ rfl, HO.out.low, Kd.R_far (p := ⟨go, 0, none⟩) hv2 (fun _ hk => hk.2) _, below_set hB1.out HO.out.low⟩
def clampOf (n : Int) : Int := mn (mx n 0) 4611686018427387904
def dlOf (b iv : Int) (q : List S78) (i : Nat) : List S42 :=
  (rd_T78 q (i : Int)).f1.map (fun n => (⟨0, (rd_T78 q (i : Int)).f0, 19, wrap64 (Int.tdiv b 1000000), 0, 0, wrap64 n, 0, 0⟩ : S42)) ++ [if sup q i = true then ⟨0, (rd_T78 q (i : Int)).f0, 23, 0, 0, 0, 0, 0, 0⟩ else ⟨0, (rd_T78 q (i : Int)).f0, 22, wrap64 (Int.tdiv b 1000), 0, 0, wrap64 (Int.tdiv b iv), 0, 0⟩]
def dlAll (b iv : Int) (q : List S78) (n : Nat) : List S42 := (List.range n).flatMap (dlOf b iv q)
set_option maxHeartbeats 8000000 in
set_option maxRecDepth 100000 in
theorem tick_early (w0 w : World) (g : Nat) (iv now n : Int) (vq : Value) (q : List S78) (hK : Clk w0 w g iv now vq q) (hiv : 1 ≤ iv) (hb : mx now (clampOf n) < nextOf iv now) :
    Calls Try.prog 18 #[.pointer (some ⟨g, 0, none⟩), .int .i64 n] w fun e w' => e = .returned (.slice none 0 0) ∧ Clk w0 w' g iv (mx now (clampOf n)) vq q ∧ Kept w w' (fun k => k = g) := by
  have hu69 := Try.underlying69
  have HK := Aside0.mk hK
  have hh := Aside0.mk hK.cells
  have c1_ := hh.out.2.1.1
  have f1_ := hh.out.2.1.2
  have hiv' := Aside0.mk hiv
  have hB := Aside0.mk hb
  clear hK hb
  obtain ⟨M, hM⟩ : ∃ M, mx now (clampOf n) = M := ⟨_, rfl⟩
  rw [hM] at hB ⊢
  have hM_ : (if now < clampOf n then clampOf n else now) = M := hM
  obtain ⟨C, hC⟩ : ∃ C, clampOf n = C := ⟨_, rfl⟩
  rw [hC] at hM_
  have hC' : mn (mx n 0) 4611686018427387904 = C := hC
  go_enter Try.func18, Try.ntmps18
  go_wp2_with (first | (go_at_call 36; (with_reducible refine (usable_ok _ g iv (by exact hh.out.1.1) (by exact hh.out.1.2) hiv'.out).mono ?_); rintro e w' ⟨rfl, ⟨nd, rfl⟩⟩) | (go_at_call 13; (with_reducible refine (next_ok _ g iv now ?hx ?hy hiv'.out).mono ?_); (case hx => exact hh.out.1.1); (case hy => exact hh.out.1.2); rintro e w' ⟨rfl, ⟨nd2, rfl⟩⟩))
  clear c1_ f1_
  obtain ⟨W, hW⟩ : ∃ W, W = (w.drewN (nd + nd2)).drew := ⟨_, rfl⟩
  have HKW : Aside0 (Clk w0 W g iv now vq q) := ⟨by rw [hW]; exact (HK.out.drewN _).drew⟩
  have KPW : Aside0 (Kept w W (fun k => k = g)) := ⟨by rw [hW]; exact Kept.drew (Kept.drewN (Kept.refl _ _) _)⟩
  refine start_ (n := 11) (S := fun w' => w'.cell? ⟨g, 1, none⟩ = some (.int .i64 now) ∧ w'.frozen? ⟨g, 1, none⟩ = false) (ds := [10]) #[false, false, false, false, false, false, false, false, false, false, false] (by kernel_rfl) rfl rfl (by rw [← hW]; exact ⟨HKW.out.cells.2.1.1, HKW.out.cells.2.1.2⟩) (fun hHeld => ?_)
  rw [← hW] at hHeld ⊢
  clear hW
  have HT_ : Aside0 (rtab .any (opsOf Try.f18 4) = rtab .any (opsOf Try.f18 4)) := ⟨rfl⟩
  refine pv_ 0 21 #[true, false, false, false, false, false, false, false, false, false, false] HT_ ?_
  refine pv_ 1 22 #[true, true, false, false, false, false, false, false, false, false, false] HT_ ?_
  refine pv_ 2 23 #[true, true, true, false, false, false, false, false, false, false, false] HT_ ?_
  refine pv_ 3 24 #[true, true, true, true, false, false, false, false, false, false, false] HT_ ?_
  refine pv_ 5 26 #[true, true, true, true, false, true, false, false, false, false, false] HT_ ?_
  refine take_ (i := 4) (N := some 25) (v := ?_) (a' := ?_) #[true, true, true, true, true, true, false, false, false, false, false] rfl rfl (take_of HT_.out (by kernel_rfl)) (fun _ _ _ h => h) (Or.inl ⟨by rfl, ?_⟩) hHeld ?_ ?_
  rotate_left
  · rintro w' ⟨s0, s1⟩
    go_simp
    with_reducible rfl
  rotate_left
  · simp only [Act.put, List.setIfInBounds_toArray, List.set_cons_zero, List.set_cons_succ, i64_w, i32_w]
    rfl
  refine one_ (i := 6) (N := some 27) #[true, true, true, true, true, true, true, false, false, false, false] rfl rfl (one_of HT_.out (by kernel_rfl)) (by decide) (fun K hK => ?_)
  refine goes_ Try.func37 (by kernel_rfl) rfl #[.int .i64 n] (by rfl) rfl rfl (by (try simp only [List.map_toArray, List.map_cons, List.map_nil]) <;> rfl) ?_
  refine (clamp_ok _ n).mono ?_
  rintro e w' ⟨rfl, ⟨nd3, rfl⟩⟩
  refine ⟨_, rfl, ?_⟩
  rw [hC']
  have HK3 := Aside0.mk (HKW.out.drewN nd3)
  refine hK.out _ _ ⟨HK3.out.cells.2.1.1, HK3.out.cells.2.1.2⟩ (fun hHeld => ?_)
  clear hK K
  refine norm_ (a' := ?_) ?_ ?_
  rotate_left
  · show Act.put _ (some 27) _ = _
    simp only [Act.put, List.setIfInBounds_toArray, List.set_cons_zero, List.set_cons_succ, i64_w, i32_w]
    rfl
  refine pv_ 7 28 #[true, true, true, true, true, true, true, true, false, false, false] HT_ ?_
  refine pv_ 8 29 #[true, true, true, true, true, true, true, true, true, false, false] HT_ ?_
  refine pv_ 9 30 #[true, true, true, true, true, true, true, true, true, true, false] HT_ ?_
  refine last_ (i := 10) (N := none) #[true, true, true, true, true, true, true, true, true, true, true] rfl rfl (one_of HT_.out (by kernel_rfl)) (by decide) (fun K hK => ?_)
  have cs1 : (W.drewN nd3).cell? ⟨g, 1, none⟩ = some (.int .i64 now) := HK3.out.cells.2.1.1
  have fs1 : (W.drewN nd3).frozen? ⟨g, 1, none⟩ = false := HK3.out.cells.2.1.2
  refine skip_ (w1 := ?_) (by rfl) rfl ?_ ?_
  rotate_left
  · go_simp
    rfl
  refine hK.out _ _ ?_
  clear hK K
  refine done_ (done_of HT_.out (by kernel_rfl)) ?_
  have HK4 : Aside0 (Clk w0 ((W.drewN nd3).setCell ⟨g, 1, none⟩ (.int .i64 M)) g iv M vq q) := ⟨⟨blk_put (cs := #[.int .i64 iv, .int .i64 now, vq]) HK3.out.blk 1 _ rfl, HK3.out.low, Kd.N_far (p := ⟨g, 1, none⟩) HK3.out.own (fun _ hk => hk.2) _, below_set HK3.out.below HK3.out.low⟩⟩
  have KP4 : Aside0 (Kept w ((W.drewN nd3).setCell ⟨g, 1, none⟩ (.int .i64 M)) (fun k => k = g)) := ⟨Kept.setCell (Kept.drewN KPW.out _) (Or.inl rfl) _⟩
  generalize (W.drewN nd3).setCell ⟨g, 1, none⟩ (.int .i64 M) = U at HK4 KP4 ⊢
  have u1 := HK4.out.cells.2.1.1
  have v1 := HK4.out.cells.2.1.2
  have dB : decide (M < nextOf iv now) = true := decide_eq_true hB.out
  clear cs1 fs1
  go_wp2
  go_ret
  exact ⟨rfl, HK4.out, KP4.out⟩
theorem meas_ {n k : Nat} (h : k < n) : n - (intOf (.int .i64 ((k + 1 : Nat) : Int))).toNat < n - (intOf (.int .i64 (k : Int))).toNat := by
  simp only [intOf, Int.toNat_natCast]
  omega
theorem lim_ {a b c d e : Nat} (h1 : a ≤ b * 257) (h2 : c ≤ 256) (h3 : d ≤ 256) (hb : b ≤ d) (he : e ≤ c) : a + e ≤ 1000000 := by
  have : b * 257 ≤ 256 * 257 := Nat.mul_le_mul_right _ (Nat.le_trans hb h3)
  omega
theorem at_u32 {w : World} {A : Option Addr} {n : Nat} {xs : List Int} (h : Kd.C (Kd.int .u32) w A n xs) (i : Int) (h0 : 0 ≤ i) (h1 : i < n) : ∃ ad, A = some ad ∧ w.cell? (ad.add i.toNat) = some (.int .u32 (xs.getD i.toNat 0)) := by
  obtain ⟨ad, c, e, _, hK, hc0⟩ := Kd.C_get h (0 : Int) i h0 h1
  have hc : ∀ j u, c[j]? = some u → w.cell? (ad.add (i.toNat * 1 + j)) = some u := hc0
  have hk : c = [.int .u32 (xs.getD i.toNat 0)] := hK
  subst hk
  exact ⟨ad, e, by have hq := hc 0 _ rfl; rwa [Nat.mul_one, Nat.add_zero] at hq⟩
theorem dl_len (b iv : Int) (q : List S78) (hq : ∀ x ∈ q, x.f1.length ≤ 256) : ∀ k, k ≤ q.length → (dlAll b iv q k).length ≤ k * 257 := by
  intro k
  induction k with
  | zero => intro _; simp [dlAll]
  | succ k ih =>
    intro hk
    have h1 := ih (by omega)
    have hm : rd_T78 q (k : Int) ∈ q := by
      unfold rd_T78
      rw [Int.toNat_natCast, List.getD_eq_getElem?_getD, List.getElem?_eq_getElem (show k < q.length by omega)]
      exact List.getElem_mem _
    have h2 := hq _ hm
    have h3 : (dlOf b iv q k).length = (rd_T78 q (k : Int)).f1.length + 1 := by
      unfold dlOf
      rw [List.length_append, List.length_map, List.length_singleton]
    unfold dlAll at h1 ⊢
    rw [List.range_succ, List.flatMap_append, List.length_append, List.flatMap_cons, List.flatMap_nil, List.append_nil, h3, Nat.succ_mul]
    omega
theorem dl_succ (b iv : Int) (q : List S78) (k : Nat) : dlAll b iv q (k + 1) = dlAll b iv q k ++ dlOf b iv q k := by
  unfold dlAll
  rw [List.range_succ, List.flatMap_append, List.flatMap_cons, List.flatMap_nil, List.append_nil]
set_option maxHeartbeats 8000000 in
set_option maxRecDepth 100000 in
theorem tick_full (w0 w : World) (g : Nat) (iv now n : Int) (vq : Value) (q : List S78) (hK : Clk w0 w g iv now vq q) (hiv : 1 ≤ iv) (hq : q.length ≤ 256) (hcb : ∀ x ∈ q, x.f1.length ≤ 256) (hb : ¬ mx now (clampOf n) < nextOf iv now) :
    Calls Try.prog 18 #[.pointer (some ⟨g, 0, none⟩), .int .i64 n] w fun e w' => ∃ v, e = .returned v ∧ Kd.R k42 42 w' w.heap.size (fun k => w.heap.size ≤ k) v (dlAll (nextOf iv now) iv q q.length) ∧ Clk w0 w' g iv (mx now (clampOf n)) (.slice none 0 0) [] ∧ Kept w w' (fun k => k = g) := by
  have hu69 := Try.underlying69
  have HK := Aside0.mk hK
  have hh := Aside0.mk hK.cells
  have c1_ := hh.out.2.1.1
  have f1_ := hh.out.2.1.2
  have hiv' := Aside0.mk hiv
  have hB := Aside0.mk hb
  have hQ := Aside0.mk (And.intro hq hcb)
  clear hK hb hq hcb
  obtain ⟨M, hM⟩ : ∃ M, mx now (clampOf n) = M := ⟨_, rfl⟩
  rw [hM] at hB ⊢
  have hM_ : (if now < clampOf n then clampOf n else now) = M := hM
  obtain ⟨C, hC⟩ : ∃ C, clampOf n = C := ⟨_, rfl⟩
  rw [hC] at hM_
  have hC' : mn (mx n 0) 4611686018427387904 = C := hC
  go_enter Try.func18, Try.ntmps18
  go_wp2_with (first | (go_at_call 36; (with_reducible refine (usable_ok _ g iv (by exact hh.out.1.1) (by exact hh.out.1.2) hiv'.out).mono ?_); rintro e w' ⟨rfl, ⟨nd, rfl⟩⟩) | (go_at_call 13; (with_reducible refine (next_ok _ g iv now ?hx ?hy hiv'.out).mono ?_); (case hx => exact hh.out.1.1); (case hy => exact hh.out.1.2); rintro e w' ⟨rfl, ⟨nd2, rfl⟩⟩))
  clear c1_ f1_
  obtain ⟨W, hW⟩ : ∃ W, W = (w.drewN (nd + nd2)).drew := ⟨_, rfl⟩
  have HKW : Aside0 (Clk w0 W g iv now vq q) := ⟨by rw [hW]; exact (HK.out.drewN _).drew⟩
  have KPW : Aside0 (Kept w W (fun k => k = g)) := ⟨by rw [hW]; exact Kept.drew (Kept.drewN (Kept.refl _ _) _)⟩
  refine start_ (n := 11) (S := fun w' => w'.cell? ⟨g, 1, none⟩ = some (.int .i64 now) ∧ w'.frozen? ⟨g, 1, none⟩ = false) (ds := [10]) #[false, false, false, false, false, false, false, false, false, false, false] (by kernel_rfl) rfl rfl (by rw [← hW]; exact ⟨HKW.out.cells.2.1.1, HKW.out.cells.2.1.2⟩) (fun hHeld => ?_)
  rw [← hW] at hHeld ⊢
  clear hW
  have HT_ : Aside0 (rtab .any (opsOf Try.f18 4) = rtab .any (opsOf Try.f18 4)) := ⟨rfl⟩
  refine pv_ 0 21 #[true, false, false, false, false, false, false, false, false, false, false] HT_ ?_
  refine pv_ 1 22 #[true, true, false, false, false, false, false, false, false, false, false] HT_ ?_
  refine pv_ 2 23 #[true, true, true, false, false, false, false, false, false, false, false] HT_ ?_
  refine pv_ 3 24 #[true, true, true, true, false, false, false, false, false, false, false] HT_ ?_
  refine pv_ 5 26 #[true, true, true, true, false, true, false, false, false, false, false] HT_ ?_
  refine take_ (i := 4) (N := some 25) (v := ?_) (a' := ?_) #[true, true, true, true, true, true, false, false, false, false, false] rfl rfl (take_of HT_.out (by kernel_rfl)) (fun _ _ _ h => h) (Or.inl ⟨by rfl, ?_⟩) hHeld ?_ ?_
  rotate_left
  · rintro w' ⟨s0, s1⟩
    go_simp
    with_reducible rfl
  rotate_left
  · simp only [Act.put, List.setIfInBounds_toArray, List.set_cons_zero, List.set_cons_succ, i64_w, i32_w]
    rfl
  refine one_ (i := 6) (N := some 27) #[true, true, true, true, true, true, true, false, false, false, false] rfl rfl (one_of HT_.out (by kernel_rfl)) (by decide) (fun K hK => ?_)
  refine goes_ Try.func37 (by kernel_rfl) rfl #[.int .i64 n] (by rfl) rfl rfl (by (try simp only [List.map_toArray, List.map_cons, List.map_nil]) <;> rfl) ?_
  refine (clamp_ok _ n).mono ?_
  rintro e w' ⟨rfl, ⟨nd3, rfl⟩⟩
  refine ⟨_, rfl, ?_⟩
  rw [hC']
  have HK3 := Aside0.mk (HKW.out.drewN nd3)
  refine hK.out _ _ ⟨HK3.out.cells.2.1.1, HK3.out.cells.2.1.2⟩ (fun hHeld => ?_)
  clear hK K
  refine norm_ (a' := ?_) ?_ ?_
  rotate_left
  · show Act.put _ (some 27) _ = _
    simp only [Act.put, List.setIfInBounds_toArray, List.set_cons_zero, List.set_cons_succ, i64_w, i32_w]
    rfl
  refine pv_ 7 28 #[true, true, true, true, true, true, true, true, false, false, false] HT_ ?_
  refine pv_ 8 29 #[true, true, true, true, true, true, true, true, true, false, false] HT_ ?_
  refine pv_ 9 30 #[true, true, true, true, true, true, true, true, true, true, false] HT_ ?_
  refine last_ (i := 10) (N := none) #[true, true, true, true, true, true, true, true, true, true, true] rfl rfl (one_of HT_.out (by kernel_rfl)) (by decide) (fun K hK => ?_)
  have cs1 : (W.drewN nd3).cell? ⟨g, 1, none⟩ = some (.int .i64 now) := HK3.out.cells.2.1.1
  have fs1 : (W.drewN nd3).frozen? ⟨g, 1, none⟩ = false := HK3.out.cells.2.1.2
  refine skip_ (w1 := ?_) (by rfl) rfl ?_ ?_
  rotate_left
  · go_simp
    rfl
  refine hK.out _ _ ?_
  clear hK K
  refine done_ (done_of HT_.out (by kernel_rfl)) ?_
  have HK4 : Aside0 (Clk w0 ((W.drewN nd3).setCell ⟨g, 1, none⟩ (.int .i64 M)) g iv M vq q) := ⟨⟨blk_put (cs := #[.int .i64 iv, .int .i64 now, vq]) HK3.out.blk 1 _ rfl, HK3.out.low, Kd.N_far (p := ⟨g, 1, none⟩) HK3.out.own (fun _ hk => hk.2) _, below_set HK3.out.below HK3.out.low⟩⟩
  have KP4 : Aside0 (Kept w ((W.drewN nd3).setCell ⟨g, 1, none⟩ (.int .i64 M)) (fun k => k = g)) := ⟨Kept.setCell (Kept.drewN KPW.out _) (Or.inl rfl) _⟩
  generalize (W.drewN nd3).setCell ⟨g, 1, none⟩ (.int .i64 M) = U at HK4 KP4 ⊢
  have u1 := HK4.out.cells.2.1.1
  have v1 := HK4.out.cells.2.1.2
  have dB : decide (M < nextOf iv now) = false := decide_eq_false (by have := hB.out; omega)
  clear cs1 fs1
  obtain ⟨Aq, cq, rfl⟩ := Kd.N_slice HK4.out.own
  have u2 := HK4.out.cells.2.2.1
  have v2 := HK4.out.cells.2.2.2
  generalize hbl : nextOf iv now = b at *
  go_wp2_with (first | ((with_reducible refine gate_dst (N := 6) rfl ?_); refine box_event ?hg (N := 6) ?hd (cs := #[.slice none 0 0]) (t := 39) ?hr ?_; (case hd => rfl); (case hg => rfl); (case hr => first | (go_simp; done) | (go_simp; rfl)); intro gO hgO V hbox hb; have HO : Aside0 (Out U V gO (.slice none 0 0) []) := ⟨⟨hbox, by rw [hgO]; exact Nat.le_refl _, Kd.R_nil _ _ _ _ _, hb⟩⟩; have u3 := (HK4.out.after hb).cells.2.2.1; have v3 := (HK4.out.after hb).cells.2.2.2; clear hbox hb hgO u1 v1 u2 v2))
  obtain ⟨_, hcq, hCu⟩ := Kd.N_reads' HK4.out.own
  have HCu := Aside0.mk (And.intro hcq hCu)
  clear u3 v3 hcq hCu
  go_loopw [43] (fun v w' => ∃ (k : Nat) (vo : Value), k ≤ q.length ∧ v = .int .i64 k ∧ Aside0 (Out U w' gO vo (dlAll b iv q k))) (fun v _ => q.length - (intOf v).toNat)
  case atStart => exact ⟨0, _, Nat.zero_le _, rfl, HO⟩
  case round =>
    obtain ⟨k, vo, hk, rfl, hO⟩ := hrel
    by_cases hlt : k < q.length
    · obtain ⟨ad, A1, c1, e0, x0, x1, l1, g1⟩ := at_T78 HCu.out.2 (k : Int) (by omega) (by omega)
      subst e0
      simp only [Int.toNat_natCast] at x0 x1
      replace x0 := (hO.out.below.cell (World.block_lt_of_cell? U _ x0)).trans x0
      replace x1 := (hO.out.below.cell (World.block_lt_of_cell? U _ x1)).trans x1
      have hX : Aside0 (rd_T78 q (k : Int) ∈ q) := ⟨by unfold rd_T78; rw [Int.toNat_natCast, List.getD_eq_getElem?_getD, List.getElem?_eq_getElem hlt]; exact List.getElem_mem hlt⟩
      obtain ⟨x, hx⟩ : ∃ x, x = rd_T78 q (k : Int) := ⟨_, rfl⟩
      rw [← hx] at x0 x1 l1 g1 hX
      have hx' := Aside0.mk hx
      have hG := Aside0.mk (And.intro l1 g1)
      have hlt' : (k : Int) < (q.length : Int) := by omega
      clear hx l1 g1
      go_wp2_with fail
      obtain ⟨hR0, hb0⟩ := allocs1 wr (Obj.cells #[Value.int IntKind.i64 x.f0, Value.slice A1 x.f1.length c1] 75)
      generalize hgz : wr.heap.size = gz at *
      generalize wr.alloc (Obj.cells #[Value.int IntKind.i64 x.f0, Value.slice A1 x.f1.length c1] 75) = W2 at hR0 hb0 ⊢
      have hO2 : Aside0 (Out U W2 gO vo (dlAll b iv q k)) := ⟨hO.out.after (by rw [← hgz] at hb0; exact hb0)⟩
      have hX2 := Aside0.mk hR0
      clear hb0 hR0 hgz x0 x1 hO
      go_loopw [51] (fun v w' => ∃ (j : Nat) (vo : Value), j ≤ x.f1.length ∧ v = .int .i64 j ∧ Aside0 (Out U w' gO vo (dlAll b iv q k ++ (x.f1.take j).map (fun n => (⟨0, x.f0, 19, wrap64 (Int.tdiv b 1000000), 0, 0, wrap64 n, 0, 0⟩ : S42)))) ∧ Aside0 (w'.heap[gz]? = some (Obj.cells #[Value.int IntKind.i64 x.f0, Value.slice A1 x.f1.length c1] 75 (0, 0)))) (fun v _ => x.f1.length - (intOf v).toNat)
      case atStart => exact ⟨0, vo, Nat.zero_le _, rfl, ⟨by rw [List.take_zero, List.map_nil, List.append_nil]; exact hO2.out⟩, hX2⟩
      case round =>
        obtain ⟨j, vo2, hj, rfl, hO3, hX3⟩ := hrel
        by_cases hjt : j < x.f1.length
        · obtain ⟨aq, e1, y0⟩ := at_u32 (Kd.C_below hG.out.2 hO3.out.below) (j : Int) (by omega) (by omega)
          rw [Int.toNat_natCast] at y0
          have z0 : wr.cell? ⟨gz, 0, none⟩ = some (.int .i64 x.f0) := (blk_cell hX3.out 0).trans rfl
          subst e1
          have hjt' : (j : Int) < (x.f1.length : Int) := by omega
          have hll : Aside0 ((dlAll b iv q k ++ (x.f1.take j).map (fun n => (⟨0, x.f0, 19, wrap64 (Int.tdiv b 1000000), 0, 0, wrap64 n, 0, 0⟩ : S42))).length ≤ 1000000) := ⟨by rw [List.length_append, List.length_map, List.length_take]; exact lim_ (dl_len b iv q hQ.out.2 k hk) (hQ.out.2 x hX.out) hQ.out.1 hk (Nat.min_le_right _ _)⟩
          obtain ⟨y, hy⟩ : ∃ y, y = x.f1.getD j 0 := ⟨_, rfl⟩
          rw [← hy] at y0
          have hy' := Aside0.mk hy
          clear hy
          go_wp2_with (first | (go_at_call 38; (with_reducible refine (report_ok U wr gO vo2 _ _ _ _ _ hO3.out hll.out).mono ?_); rintro e w3 ⟨rfl, hkp, vo3, ho3⟩))
          have hj2 : x.f1.take (j + 1) = x.f1.take j ++ [y] := by
            rw [List.take_add_one, List.getElem?_eq_getElem hjt, hy'.out, List.getD_eq_getElem?_getD, List.getElem?_eq_getElem hjt]
            rfl
          have hjw : wrap64 ((j : Int) + 1) = ((j + 1 : Nat) : Int) := w1_ (Nat.le_trans (Nat.le_of_lt hjt) (hQ.out.2 x hX.out))
          refine ⟨⟨j + 1, vo3, hjt, by rw [hjw], ⟨?_⟩, ⟨hkp _ _ hX3.out⟩⟩, ?_⟩
          · rw [hj2, List.map_append, ← List.append_assoc]
            exact ho3
          · rw [hjw]
            exact meas_ hjt
        · obtain rfl : j = x.f1.length := by omega
          have hOe : Aside0 (Out U wr gO vo2 (dlAll b iv q k ++ x.f1.map (fun n => (⟨0, x.f0, 19, wrap64 (Int.tdiv b 1000000), 0, 0, wrap64 n, 0, 0⟩ : S42)))) := ⟨by have h := hO3.out; rwa [List.take_length] at h⟩
          have hll : Aside0 ((dlAll b iv q k ++ x.f1.map (fun n => (⟨0, x.f0, 19, wrap64 (Int.tdiv b 1000000), 0, 0, wrap64 n, 0, 0⟩ : S42))).length ≤ 1000000) := ⟨by rw [List.length_append, List.length_map]; exact lim_ (dl_len b iv q hQ.out.2 k hk) (hQ.out.2 x hX.out) hQ.out.1 hk (Nat.le_refl _)⟩
          have HKr := Aside0.mk (HK4.out.after hOe.out.below)
          clear hO3
          by_cases hsp : sup q k = true
          · have hs' := Aside0.mk hsp
            go_wp2_with (first | (go_at_call 39; (with_reducible refine (superseded_ok w0 _ g iv M _ q k HKr.out hlt hQ.out.1).mono ?_); rintro e w3 ⟨rfl, hb3⟩; rw [hs'.out]; have hO4 := Aside0.mk (hOe.out.after hb3); have hX4 := Aside0.mk (blk_below hX3.out hb3); clear hb3; have z0 : w3.cell? ⟨gz, 0, none⟩ = some (.int .i64 x.f0) := (blk_cell hX4.out 0).trans rfl) | (go_at_call 38; (with_reducible refine (report_ok U _ gO vo2 _ _ _ _ _ hO4.out hll.out).mono ?_); rintro e w5 ⟨rfl, hkp, vo5, ho5⟩))
            have hkw : wrap64 ((k : Int) + 1) = ((k + 1 : Nat) : Int) := w1_ (Nat.le_trans (Nat.le_of_lt hlt) hQ.out.1)
            refine ⟨⟨k + 1, vo5, hlt, by rw [hkw], ⟨?_⟩⟩, ?_⟩
            · rw [dl_succ, dlOf, if_pos hs'.out, ← hx'.out, ← List.append_assoc]
              exact ho5
            · rw [hkw]
              exact meas_ hlt
          · replace hsp := Bool.eq_false_iff.mpr hsp
            have hs' := Aside0.mk hsp
            go_wp2_with (first | (go_at_call 39; (with_reducible refine (superseded_ok w0 _ g iv M _ q k HKr.out hlt hQ.out.1).mono ?_); rintro e w3 ⟨rfl, hb3⟩; rw [hs'.out]; have hO4 := Aside0.mk (hOe.out.after hb3); have hX4 := Aside0.mk (blk_below hX3.out hb3); clear hb3))
            have hO4d := Aside0.mk hO4.out.drew
            have hX4d : Aside0 (w3.drew.heap[gz]? = some (Obj.cells #[Value.int IntKind.i64 x.f0, Value.slice A1 x.f1.length c1] 75 (0, 0))) := ⟨blk_drew hX4.out⟩
            have y0 : w3.drew.cell? ⟨gz, 0, none⟩ = some (.int .i64 x.f0) := (blk_cell hX4d.out 0).trans rfl
            have y1 : w3.drew.cell? ⟨g, 0, none⟩ = some (.int .i64 iv) := (HK4.out.after hO4d.out.below).cells.1.1
            have y0s := Aside0.mk (And.intro y0 y1)
            have hiv0 : ¬ iv = 0 := by have := hiv'.out; omega
            go_region_held3 (fun w' => w'.cell? ⟨gz, 0, none⟩ = some (.int .i64 x.f0) ∧ w'.cell? ⟨g, 0, none⟩ = some (.int .i64 iv)) (first | exact y0s.out | exact z5.out) (first | (go_at_call 38; (with_reducible refine (report_ok U _ gO vo2 _ _ _ _ _ hO4d.out hll.out).mono ?_); rintro e w5 ⟨rfl, hkp, vo5, ho5⟩; have z5 : Aside0 (w5.cell? ⟨gz, 0, none⟩ = some (.int .i64 x.f0) ∧ w5.cell? ⟨g, 0, none⟩ = some (.int .i64 iv)) := ⟨⟨(blk_cell (hkp _ _ hX4d.out) 0).trans rfl, (HK4.out.after ho5.below).cells.1.1⟩⟩))
            go_wp2
            have hkw : wrap64 ((k : Int) + 1) = ((k + 1 : Nat) : Int) := w1_ (Nat.le_trans (Nat.le_of_lt hlt) hQ.out.1)
            refine ⟨⟨k + 1, vo5, hlt, by rw [hkw], ⟨?_⟩⟩, ?_⟩
            · rw [dl_succ, dlOf, if_neg (by rw [hs'.out]; decide), ← hx'.out, ← List.append_assoc]
              simp only [i64_w] at ho5
              exact ho5
            · rw [hkw]
              exact meas_ hlt
    · obtain rfl : k = q.length := by omega
      have HKr := Aside0.mk (HK4.out.after hO.out.below)
      have u5 := HKr.out.cells.2.2.1
      have v5 := HKr.out.cells.2.2.2
      have hgo : gO ≠ g := fun e => Nat.lt_irrefl _ (Nat.lt_of_lt_of_le (blk_lt HK4.out.blk) (e ▸ hO.out.low))
      have o5 : wr.cell? ⟨gO, 0, none⟩ = some vo := (blk_cell hO.out.blk 0).trans rfl
      have o6 : (wr.setCell ⟨g, 2, none⟩ (.slice none 0 0)).cell? ⟨gO, 0, none⟩ = some vo := (blk_cell (blk_far hO.out.blk (p := ⟨g, 2, none⟩) hgo (.slice none 0 0)) 0).trans rfl
      go_wp2
      go_ret
      have hlow : w.heap.size ≤ U.heap.size := KP4.out.1
      refine ⟨_, rfl, Kd.R_lower (Kd.R_mono (Kd.R_far (p := ⟨g, 2, none⟩) hO.out.own (fun j hj e => Nat.lt_irrefl g (Nat.lt_of_lt_of_le (blk_lt HK4.out.blk) (by have h := hj.1; rw [show j = g from e] at h; exact h))) _) (fun j hj => Nat.le_trans hlow hj.1)) hlow, ⟨blk_put (cs := #[.int .i64 iv, .int .i64 M, .slice Aq q.length cq]) HKr.out.blk 2 _ rfl, HK.out.low, Kd.N_nil _ _ _ _ _, below_set HKr.out.below HK.out.low⟩, Kept.setCell (Kept.below KP4.out hO.out.below) (Or.inl rfl) _⟩
theorem ex_check : output_Check.f (⟨#[111]⟩ : ByteArray) 1 1 1000 1 0 0 0 = some 0 := by kernel_rfl
theorem ex_int : output_Interval.f (⟨#[111]⟩ : ByteArray) 1 1 1000 1 0 0 0 = some 1000000000 := by kernel_rfl
theorem ex_e0 : mx 0 (clampOf 999999999) = 999999999 := by kernel_rfl
theorem ex_e1 : mx 999999999 (clampOf 2000000005) = 2000000005 := by kernel_rfl
theorem ex_e2 : mx 2000000005 (clampOf 3000000000) = 3000000000 := by kernel_rfl
theorem ex_n3 : nextOf 1000000000 2000000005 = 3000000000 := by kernel_rfl
theorem ex_d1 : dlAll (nextOf 1000000000 999999999) 1000000000 [⟨5, [7, 8]⟩] 1 = [⟨0, 5, 19, 1000, 0, 0, 7, 0, 0⟩, ⟨0, 5, 19, 1000, 0, 0, 8, 0, 0⟩, ⟨0, 5, 22, 1000000, 0, 0, 1, 0, 0⟩] := by kernel_rfl
theorem ex_d2 : dlAll (nextOf 1000000000 2000000005) 1000000000 [⟨5, []⟩, ⟨5, []⟩] 2 = [⟨0, 5, 23, 0, 0, 0, 0, 0, 0⟩, ⟨0, 5, 22, 3000000, 0, 0, 3, 0, 0⟩] := by kernel_rfl
theorem ex_n0 : nextOf 1000000000 0 = 1000000000 := by kernel_rfl
theorem ex_n1 : nextOf 1000000000 999999999 = 1000000000 := by kernel_rfl
theorem ex_n2 : nextOf 1000000000 1000000000 = 2000000000 := by kernel_rfl
theorem at42 {w : World} {A : Option Addr} {n : Nat} {xs : List S42} (h : Kd.C k42 w A n xs) (i k : Nat) (p0 p1 p2 p3 p4 p5 p6 p7 p8 : Int) (hx : xs[i]? = some ⟨p0, p1, p2, p3, p4, p5, p6, p7, p8⟩) (hk : i * 9 = k) (hk0 : k ≠ 0) : ∃ ad, A = some ad ∧ w.cell? ⟨ad.block, ad.off + k, none⟩ = some (.int .i64 p0) ∧ w.cell? ⟨ad.block, ad.off + k + 1, none⟩ = some (.int .i64 p1) ∧ w.cell? ⟨ad.block, ad.off + k + 2, none⟩ = some (.int .i64 p2) ∧ w.cell? ⟨ad.block, ad.off + k + 3, none⟩ = some (.int .i64 p3) ∧ w.cell? ⟨ad.block, ad.off + k + 4, none⟩ = some (.int .i64 p4) ∧ w.cell? ⟨ad.block, ad.off + k + 5, none⟩ = some (.int .i64 p5) ∧ w.cell? ⟨ad.block, ad.off + k + 6, none⟩ = some (.int .i64 p6) ∧ w.cell? ⟨ad.block, ad.off + k + 7, none⟩ = some (.int .i64 p7) ∧ w.cell? ⟨ad.block, ad.off + k + 8, none⟩ = some (.int .u32 p8) := by
  have hl := (List.getElem?_eq_some_iff.1 hx).1
  have hn := h.1
  obtain ⟨ad, e0, a0, a1, a2, a3, a4, a5, a6, a7, a8⟩ := at_T42 h (i : Int) (by omega) (by omega)
  have e : rd_T42 xs (i : Int) = ⟨p0, p1, p2, p3, p4, p5, p6, p7, p8⟩ := by
    unfold rd_T42
    rw [Int.toNat_natCast, List.getD_eq_getElem?_getD, hx]
    rfl
  rw [e, Int.toNat_natCast, hk] at a0 a1 a2 a3 a4 a5 a6 a7 a8
  have key : ad.add k = ⟨ad.block, ad.off + k, none⟩ := by unfold Addr.add; simp [hk0]
  rw [key] at a0 a1 a2 a3 a4 a5 a6 a7 a8
  exact ⟨ad, e0, a0, a1, a2, a3, a4, a5, a6, a7, a8⟩
theorem lit_u32 {w : World} {g : Nat} {cs : Array Value} (xs : List Int) (h : w.heap[g]? = some (.cells cs 36 (0, 0))) (hc : cs = (xs.map (Value.int .u32)).toArray) (hl : xs.length ≤ 1000000) : Kd.C (Kd.int .u32) w (some ⟨g, 0, none⟩) xs.length xs := by
  subst hc
  refine ⟨rfl, by omega, fun _ => ⟨_, rfl, fun j p hp => ⟨[.int .u32 p], rfl, rfl, fun i u hi => ?_⟩⟩⟩
  rcases i with _ | i
  · simp only [List.getElem?_cons_zero, Option.some.injEq] at hi
    subst hi
    rw [Addr.add_lit]
    refine (blk_cell h _).trans ?_
    simp only [Kd.int, Kd.scalar, Nat.zero_add, Nat.mul_one, Nat.add_zero, List.getElem?_toArray, List.getElem?_map, hp, Option.map_some]
  · simp at hi
set_option maxHeartbeats 8000000 in
set_option maxRecDepth 100000 in
theorem example30 (w : World) : Calls Try.prog 12 #[] w fun e w' => e = .returned (.bool true) ∧ Below w.heap.size w w' := by
  have hu24 := Try.underlying24
  have hu42 := Try.underlying42
  go_enter Try.func12, Try.ntmps12
  go_wp2_with fail
  refine (compositorlaw30_slow.calls _ _ _ _ _ _ _ _ w rfl).mono ?_
  rintro e w1 ⟨rfl, hb1⟩
  go_wp2_with fail
  refine (new_ok _ _ _ _ _ _ _ _ _ w1 ex_check ex_int).mono ?_
  rintro e w2 ⟨g, rfl, hblk, hlow, hb2⟩
  have HK := Aside0.mk (show Clk w w2 g 1000000000 0 (.slice none 0 0) [] from ⟨hblk, Nat.le_trans hb1.size hlow, Kd.N_nil _ _ _ _ _, below_step hb1 hb2⟩)
  clear hblk hlow hb2 hb1
  go_wp2_with fail
  refine (next_ok _ g _ _ HK.out.cells.1.1 HK.out.cells.1.2 (by decide)).mono ?_
  rintro e w' ⟨rfl, ⟨nd, rfl⟩⟩
  rw [ex_n0]
  replace HK := Aside0.mk (HK.out.drewN nd)
  generalize w2.drewN nd = w3 at HK ⊢
  go_wp2_with fail
  refine (next_ok _ g _ _ HK.out.cells.1.1 HK.out.cells.1.2 (by decide)).mono ?_
  rintro e w' ⟨rfl, ⟨nd1, rfl⟩⟩
  rw [ex_n1]
  replace HK := Aside0.mk (HK.out.drewN nd1)
  generalize w3.drewN nd1 = w4 at HK ⊢
  go_wp2_with fail
  refine (next_ok _ g _ _ HK.out.cells.1.1 HK.out.cells.1.2 (by decide)).mono ?_
  rintro e w' ⟨rfl, ⟨nd2, rfl⟩⟩
  rw [ex_n2]
  replace HK := Aside0.mk (HK.out.drewN nd2)
  generalize w4.drewN nd2 = w5 at HK ⊢
  go_wp2_with fail
  obtain ⟨hR5, hb5⟩ := allocs1 w5 (Obj.cells #[Value.int IntKind.u32 7, Value.int IntKind.u32 8] 36)
  generalize w5.alloc (Obj.cells #[Value.int IntKind.u32 7, Value.int IntKind.u32 8] 36) = w6 at hR5 hb5 ⊢
  have HK6 := Aside0.mk (HK.out.after hb5)
  clear hb5
  generalize w5.heap.size = g5 at hR5 ⊢
  refine (commit_ok w w6 g 1000000000 0 5 (.slice none 0 0) [] (some ⟨g5, 0, none⟩) 2 [7, 8] HK6.out (by decide) (by decide) (by decide) (by decide) (lit_u32 [7, 8] hR5 rfl (by decide)) (Nat.le_refl _)).mono ?_
  rintro e w7 ⟨rfl, vq7, hK7, _⟩
  replace HK := Aside0.mk hK7
  clear hK7 hR5 HK6
  go_wp2_with fail
  refine (tick_early w w7 g 1000000000 0 999999999 vq7 [⟨5, [7, 8]⟩] HK.out (by decide) (by rw [ex_e0, ex_n0]; decide)).mono ?_
  rintro e w8 ⟨rfl, hK8, _⟩
  rw [ex_e0] at hK8
  replace HK := Aside0.mk hK8
  clear hK8
  go_wp2_with fail
  refine (tick_full w w8 g 1000000000 999999999 2000000005 vq7 [⟨5, [7, 8]⟩] HK.out (by decide) (by decide) (by decide) (by rw [ex_e1, ex_n1]; decide)).mono ?_
  rintro e w9 ⟨v9, rfl, hR9, hK9, _⟩
  rw [ex_e1] at hK9
  rw [show [(⟨5, [7, 8]⟩ : S78)].length = 1 from rfl, ex_d1] at hR9
  replace HK := Aside0.mk hK9
  clear hK9
  obtain ⟨A9, c9, e9⟩ := Kd.R_slice hR9
  subst e9
  obtain ⟨ad, e0, a0, a1, a2, a3, a4, a5, a6, a7, a8⟩ := at42 (Kd.R_reads' hR9).2.2 1 9 _ _ _ _ _ _ _ _ _ rfl rfl (by decide)
  subst e0
  obtain ⟨ad', e0, b0, b1, b2, b3, b4, b5, b6, b7, b8⟩ := at42 (Kd.R_reads' hR9).2.2 2 18 _ _ _ _ _ _ _ _ _ rfl rfl (by decide)
  cases e0
  clear hR9
  have s1 := HK.out.cells.1.1
  go_wp2_with fail
  refine (sequence_ok w9 g 1000000000 2000000005 HK.out.cells.1.1 HK.out.cells.1.2 HK.out.cells.2.1.1 HK.out.cells.2.1.2 (by decide)).mono ?_
  rintro e w' ⟨rfl, ⟨nd9, rfl⟩⟩
  rw [show wrap64 (Int.tdiv 2000000005 1000000000) = 2 from by kernel_rfl]
  replace HK := Aside0.mk (HK.out.drewN nd9)
  generalize w9.drewN nd9 = wa at HK ⊢
  clear a0 a1 a2 a3 a4 a5 a6 a7 a8 b0 b1 b2 b3 b4 b5 b6 b7 b8 s1
  go_wp2_with fail
  refine (commit_ok w wa g 1000000000 2000000005 5 (.slice none 0 0) [] none 0 [] HK.out (by decide) (by decide) (by decide) (by decide) ⟨rfl, by decide, fun h => absurd h (Nat.lt_irrefl _)⟩ (Nat.le_refl _)).mono ?_
  rintro e wb ⟨rfl, vqb, hKb, _⟩
  replace HK := Aside0.mk hKb
  clear hKb
  go_wp2_with fail
  refine (commit_ok w wb g 1000000000 2000000005 5 vqb [⟨5, []⟩] none 0 [] HK.out (by decide) (by decide) (by decide) (by decide) ⟨rfl, by decide, fun h => absurd h (Nat.lt_irrefl _)⟩ (Nat.le_refl _)).mono ?_
  rintro e wc ⟨rfl, vqc, hKc, _⟩
  replace HK := Aside0.mk hKc
  clear hKc
  go_wp2_with fail
  refine (tick_full w wc g 1000000000 2000000005 3000000000 vqc [⟨5, []⟩, ⟨5, []⟩] HK.out (by decide) (by decide) (by decide) (by rw [ex_e2, ex_n3]; decide)).mono ?_
  rintro e wd ⟨vd, rfl, hRd, hKd, _⟩
  rw [show [(⟨5, []⟩ : S78), ⟨5, []⟩].length = 2 from rfl, ex_d2] at hRd
  replace HK := Aside0.mk hKd
  clear hKd
  obtain ⟨Ad, cd, ed⟩ := Kd.R_slice hRd
  subst ed
  obtain ⟨ad2, e0, a0, a1, a2, a3, a4, a5, a6, a7, a8⟩ := at_T42 (Kd.R_reads' hRd).2.2 0 (by decide) (by decide)
  subst e0
  obtain ⟨ad', e0, b0, b1, b2, b3, b4, b5, b6, b7, b8⟩ := at42 (Kd.R_reads' hRd).2.2 1 9 _ _ _ _ _ _ _ _ _ rfl rfl (by decide)
  cases e0
  clear hRd
  have a2' : wd.cell? ⟨ad2.block, ad2.off + 2, none⟩ = some (.int .i64 23) := a2
  clear a0 a1 a2 a3 a4 a5 a6 a7 a8
  go_wp2_with fail
  go_ret
  exact ⟨rfl, HK.out.below⟩
end
end Go.Proofs.Ytmkhphkkpdiliaa.All
end
section
namespace Go.Proofs.Ytmkhphkkpdiliaa.All
open Go.RowKit Go.Proofs.YtmkhphkkpdiliaaW.PrintWords Go.Proofs.YtmkhphkkpdiliaaW.PrintLast Go.Proofs.YtmkhphkkpdiliaaW.PrintMore
attribute [local go_sem] max2_int min2_int max_two min_two max_three min_three max_four min_four
set_option linter.unusedVariables false
set_option linter.unusedSimpArgs false
section
open Go.Proofs.YtmkhphkkpdiliaaHand Go.Proofs.YtmkhphkkpdiliaaSq
theorem at_u8 {w : World} {A : Option Addr} {n : Nat} {xs : List Int} (h : Kd.C (Kd.int .u8) w A n xs) (i : Int) (h0 : 0 ≤ i) (h1 : i < n) : ∃ ad, A = some ad ∧ w.cell? (ad.add i.toNat) = some (.int .u8 (xs.getD i.toNat 0)) := by
  obtain ⟨ad, c, e, _, hK, hc0⟩ := Kd.C_get h (0 : Int) i h0 h1
  have hc : ∀ j u, c[j]? = some u → w.cell? (ad.add (i.toNat * 1 + j)) = some u := hc0
  have hk : c = [.int .u8 (xs.getD i.toNat 0)] := hK
  subst hk
  exact ⟨ad, e, by have hq := hc 0 _ rfl; rwa [Nat.mul_one, Nat.add_zero] at hq⟩
def fqs : List Int → Nat → List S78
  | [], _ => []
  | x :: r, i => if x = 0 then fqs r (i + 1) else ⟨x, [1000 + (i : Int)]⟩ :: fqs r (i + 1)
theorem fqs_app : ∀ (a b : List Int) (i : Nat), fqs (a ++ b) i = fqs a i ++ fqs b (i + a.length)
  | [], b, i => rfl
  | x :: r, b, i => by
    have ih := fqs_app r b (i + 1)
    have e : i + 1 + r.length = i + (r.length + 1) := by omega
    rw [e] at ih
    rw [List.cons_append, fqs, fqs, ih, List.length_cons]
    split <;> rfl
theorem fqs_len : ∀ (l : List Int) (i : Nat), (fqs l i).length ≤ l.length
  | [], _ => Nat.le_refl _
  | x :: r, i => by
    have ih := fqs_len r (i + 1)
    rw [fqs]
    split <;> simp only [List.length_cons] <;> omega
theorem fqs_cb : ∀ (l : List Int) (i : Nat), ∀ x ∈ fqs l i, x.f1.length = 1
  | [], _ => fun x h => absurd h (by simp [fqs])
  | y :: r, i => fun x h => by
    rw [fqs] at h
    split at h
    · exact fqs_cb r (i + 1) x h
    · rcases List.mem_cons.1 h with rfl | h
      · rfl
      · exact fqs_cb r (i + 1) x h
theorem fqs_any (s : Int) (hs : s ≠ 0) : ∀ (r : List Int) (i : Nat), ((fqs r i).any fun x => x.f0 == s) = r.any fun y => y == s
  | [], _ => rfl
  | y :: r, i => by
    rw [fqs, List.any_cons, ← fqs_any s hs r (i + 1)]
    split
    · rename_i h
      subst h
      rw [beq_false_of_ne (Ne.symm hs), Bool.false_or]
    · rw [List.any_cons]
theorem fqs_step (l : List Int) (k : Nat) (h : k < l.length) : fqs (l.take (k + 1)) 0 = if l.getD k 0 = 0 then fqs (l.take k) 0 else fqs (l.take k) 0 ++ [⟨l.getD k 0, [1000 + (k : Int)]⟩] := by
  have e : l.take (k + 1) = l.take k ++ [l.getD k 0] := by
    rw [List.take_add_one, List.getElem?_eq_getElem h, List.getD_eq_getElem?_getD, List.getElem?_eq_getElem h]
    rfl
  rw [e, fqs_app, List.length_take, Nat.min_eq_left (Nat.le_of_lt h), Nat.zero_add, fqs, fqs]
  split
  · rw [List.append_nil]
  · rfl
theorem fqs_at (l : List Int) (k : Nat) (h : k < l.length) (hs : l.getD k 0 ≠ 0) : rd_T78 (fqs l 0) ((fqs (l.take k) 0).length : Int) = ⟨l.getD k 0, [1000 + (k : Int)]⟩ ∧ sup (fqs l 0) (fqs (l.take k) 0).length = ((l.drop (k + 1)).any fun y => y == l.getD k 0) ∧ (fqs (l.take k) 0).length < (fqs l 0).length := by
  have e : l.drop k = l.getD k 0 :: l.drop (k + 1) := by
    rw [List.drop_eq_getElem_cons h, List.getD_eq_getElem?_getD, List.getElem?_eq_getElem h]
    rfl
  have e2 : fqs l 0 = fqs (l.take k) 0 ++ ⟨l.getD k 0, [1000 + (k : Int)]⟩ :: fqs (l.drop (k + 1)) (k + 1) := by
    have h1 := fqs_app (l.take k) (l.drop k) 0
    rw [List.take_append_drop, List.length_take, Nat.min_eq_left (Nat.le_of_lt h), Nat.zero_add, e, fqs, if_neg hs] at h1
    exact h1
  generalize fqs (l.take k) 0 = P at e2 ⊢
  have r : rd_T78 (fqs l 0) (P.length : Int) = ⟨l.getD k 0, [1000 + (k : Int)]⟩ := by
    unfold rd_T78
    rw [Int.toNat_natCast, e2, List.getD_eq_getElem?_getD, List.getElem?_append_right (Nat.le_refl _), Nat.sub_self]
    rfl
  refine ⟨r, ?_, ?_⟩
  · unfold sup
    rw [r, e2]
    generalize hx : (⟨l.getD k 0, [1000 + (k : Int)]⟩ : S78) = x
    have e3 : (P ++ x :: fqs (l.drop (k + 1)) (k + 1)).drop (P.length + 1) = fqs (l.drop (k + 1)) (k + 1) := by
      rw [show P ++ x :: fqs (l.drop (k + 1)) (k + 1) = (P ++ [x]) ++ fqs (l.drop (k + 1)) (k + 1) by simp, show P.length + 1 = (P ++ [x]).length by simp, List.drop_left]
    rw [e3, ← hx]
    exact fqs_any _ hs _ _
  · rw [e2, List.length_append, List.length_cons]
    omega
theorem dl_get (b iv : Int) (q : List S78) (hq : ∀ x ∈ q, x.f1.length = 1) : ∀ n, n ≤ q.length → (dlAll b iv q n).length = 2 * n ∧ ∀ j, j < n → (dlAll b iv q n)[2 * j]? = (dlOf b iv q j)[0]? ∧ (dlAll b iv q n)[2 * j + 1]? = (dlOf b iv q j)[1]? := by
  intro n
  induction n with
  | zero => intro _; exact ⟨rfl, fun j hj => absurd hj (Nat.not_lt_zero _)⟩
  | succ n ih =>
    intro hn
    obtain ⟨h1, h2⟩ := ih (by omega)
    have hm : rd_T78 q (n : Int) ∈ q := by
      unfold rd_T78
      rw [Int.toNat_natCast, List.getD_eq_getElem?_getD, List.getElem?_eq_getElem (show n < q.length by omega)]
      exact List.getElem_mem _
    have h3 : (dlOf b iv q n).length = 2 := by
      unfold dlOf
      rw [List.length_append, List.length_map, hq _ hm, List.length_singleton]
    rw [dl_succ]
    refine ⟨by rw [List.length_append, h1, h3]; omega, fun j hj => ?_⟩
    by_cases hjn : j < n
    · rw [List.getElem?_append_left (by omega), List.getElem?_append_left (by omega)]
      exact h2 j hjn
    · obtain rfl : j = n := by omega
      rw [List.getElem?_append_right (by omega), List.getElem?_append_right (by omega), h1, show 2 * j - 2 * j = 0 by omega, show 2 * j + 1 - 2 * j = 1 by omega]
      exact ⟨rfl, rfl⟩
theorem dl_rd (b iv : Int) (q : List S78) (hq : ∀ x ∈ q, x.f1.length = 1) (j : Nat) (hj : j < q.length) (s c : Int) (hx : rd_T78 q (j : Int) = ⟨s, [c]⟩) : rd_T42 (dlAll b iv q q.length) ((2 * j : Nat) : Int) = ⟨0, s, 19, wrap64 (Int.tdiv b 1000000), 0, 0, wrap64 c, 0, 0⟩ ∧ rd_T42 (dlAll b iv q q.length) ((2 * j + 1 : Nat) : Int) = (if sup q j = true then ⟨0, s, 23, 0, 0, 0, 0, 0, 0⟩ else ⟨0, s, 22, wrap64 (Int.tdiv b 1000), 0, 0, wrap64 (Int.tdiv b iv), 0, 0⟩) := by
  obtain ⟨_, h⟩ := dl_get b iv q hq q.length (Nat.le_refl _)
  obtain ⟨h1, h2⟩ := h j hj
  unfold rd_T42
  rw [Int.toNat_natCast, Int.toNat_natCast, List.getD_eq_getElem?_getD, List.getD_eq_getElem?_getD, h1, h2]
  unfold dlOf
  rw [hx]
  exact ⟨rfl, rfl⟩
theorem tick_a (a : Int) (h0 : 0 ≤ a) (h1 : a ≤ 255) : clampOf (1000000000 + a * 1000000000) = 1000000000 + a * 1000000000 ∧ ¬ mx 0 (clampOf (1000000000 + a * 1000000000)) < nextOf 1000000000 0 := by
  have e : clampOf (1000000000 + a * 1000000000) = 1000000000 + a * 1000000000 := by unfold clampOf mn mx; omega
  have n0 : nextOf 1000000000 0 = 1000000000 := by kernel_rfl
  refine ⟨e, ?_⟩
  rw [e, n0]
  unfold mx
  omega
theorem w2_ {k : Nat} (h : k ≤ 240) : wrap64 ((k : Int) + 2) = ((k + 2 : Nat) : Int) := by unfold wrap64; omega
theorem w1000_ {k : Nat} (h : k ≤ 60) : wrap64 (1000 + (k : Int)) = 1000 + (k : Int) := by unfold wrap64; omega
theorem next_small (M : Int) (h : 0 ≤ M ∧ M ≤ 256000000000) : ¬ mx M (clampOf 1125899906842624) < nextOf 1000000000 M := by
  have e : mn (mx M 0) 4611686018427387904 = M := by unfold mn mx; omega
  have c : clampOf 1125899906842624 = 1125899906842624 := by kernel_rfl
  have q1 : 0 ≤ M / 1000000000 ∧ M / 1000000000 ≤ 256 := by omega
  have m1 : mx M 1125899906842624 = 1125899906842624 := by unfold mx; omega
  unfold nextOf
  rw [e, c, Int.tdiv_eq_ediv_of_nonneg h.1, m1]
  generalize M / 1000000000 = q at q1
  clear e c m1 h
  have w1 : wrap64 q = q := by unfold wrap64; omega
  have w2 : wrap64 (q + 1) = q + 1 := by unfold wrap64; omega
  have w3 : wrap64 ((q + 1) * 1000000000) = (q + 1) * 1000000000 := by unfold wrap64; omega
  rw [w1, w2, w3]
  omega
set_option maxHeartbeats 8000000 in
set_option maxRecDepth 100000 in
theorem feedback_ok (A0 : Option Addr) (c0 : Nat) (l0 : List Int) (a1 : Int) (w : World) (hr0 : Kd.C (Kd.int .u8) w A0 l0.length l0) (hc0 : l0.length ≤ c0) (hn : l0.length ≤ 60) (hl : ∀ x ∈ l0, 0 ≤ x ∧ x ≤ 255) (h0 : 0 ≤ a1) (h1 : a1 ≤ 255) :
    Calls Try.prog 4 #[.slice A0 l0.length c0, .int .u8 a1] w fun e w' => e = .returned (.bool true) ∧ Below w.heap.size w w' := by
  have hu24 := Try.underlying24
  have hu33 := Try.underlying33
  have hu39 := Try.underlying39
  have hu42 := Try.underlying42
  have HR := Aside0.mk (And.intro hr0 hc0)
  have HN := Aside0.mk hn
  have HL := Aside0.mk hl
  have q1 : decide (60 < l0.length) = false := decide_eq_false (by omega)
  have q2 : decide (60 < (l0.length : Int)) = false := decide_eq_false (by omega)
  clear hr0 hc0 hl hn
  go_enter Try.func4, Try.ntmps4
  go_wp2_with fail
  refine (compositorlaw30_slow.calls _ _ _ _ _ _ _ _ w rfl).mono ?_
  rintro e w1 ⟨rfl, hb1⟩
  go_wp2_with fail
  refine (new_ok _ _ _ _ _ _ _ _ _ w1 ex_check ex_int).mono ?_
  rintro e w2 ⟨g, rfl, hblk, hlow, hb2⟩
  have HK := Aside0.mk (show Clk w w2 g 1000000000 0 (.slice none 0 0) [] from ⟨hblk, Nat.le_trans hb1.size hlow, Kd.N_nil _ _ _ _ _, below_step hb1 hb2⟩)
  clear hblk hlow hb2 hb1
  go_wp2_with fail
  go_loopw [7, 8] (fun v7 v8 w' => ∃ (k : Nat) (vq : Value), k ≤ l0.length ∧ v7 = .int .i64 ((fqs (l0.take k) 0).length : Nat) ∧ v8 = .int .i64 k ∧ Aside0 (Clk w w' g 1000000000 0 vq (fqs (l0.take k) 0))) (fun _ v _ => l0.length - (intOf v).toNat)
  case atStart => exact ⟨0, _, Nat.zero_le _, rfl, rfl, HK⟩
  case round =>
    obtain ⟨k, vq, hk, rfl, rfl, hK⟩ := hrel
    clear HK
    by_cases hlt : k < l0.length
    · have hlt' : (k : Int) < (l0.length : Int) := by omega
      have hfs := Aside0.mk (fqs_step l0 k hlt)
      have hfl := Aside0.mk (Nat.le_trans (fqs_len (l0.take k) 0) (by rw [List.length_take, Nat.min_eq_left hk]; exact hk))
      obtain ⟨ad, e1, x0⟩ := at_u8 HR.out.1 (k : Int) (by omega) (by omega)
      subst e1
      rw [Int.toNat_natCast] at x0
      have hb := HL.out (l0.getD k 0) (by rw [List.getD_eq_getElem?_getD, List.getElem?_eq_getElem hlt]; exact List.getElem_mem hlt)
      generalize l0.getD k 0 = s at x0 hb hfs
      obtain ⟨hb0, hb1⟩ := hb
      generalize hF : fqs (l0.take k) 0 = F at hK hfs hfl ⊢
      have y0 : wr.cell? (ad.add k) = some (.int .u8 s) := (hK.out.below.cell (World.block_lt_of_cell? w _ x0)).trans x0
      have X0 := Aside0.mk x0
      have kw : Aside0 (wrap64 ((k : Int) + 1) = ((k + 1 : Nat) : Int)) := ⟨w1_ (by have := HN.out; omega)⟩
      clear x0 hF
      by_cases hs : s = 0
      · subst hs
        have HK := hK
        go_wp2_with fail
        exact ⟨⟨k + 1, vq, hlt, by rw [hfs.out, if_pos rfl], by rw [kw.out], ⟨by rw [hfs.out, if_pos rfl]; exact hK.out⟩⟩, by rw [kw.out]; exact meas_ hlt⟩
      · have hs1 : 1 ≤ s := by omega
        have hfw : Aside0 (wrap64 ((F.length : Int) + 1) = ((F.length + 1 : Nat) : Int)) := ⟨w1_ (by have := HN.out; have := hfl.out; omega)⟩
        have hc : wrap64 (1000 + (k : Int)) % 4294967296 = 1000 + k := by
          have := HN.out
          rw [w1000_ (Nat.le_trans (Nat.le_of_lt hlt) HN.out)]
          clear hfs hfl kw hfw
          omega
        go_wp2_with fail
        rw [hfw.out]
        obtain ⟨hR5, hb5⟩ := allocs1 wr (Obj.cells #[Value.int IntKind.u32 (1000 + (k : Int))] 36)
        generalize wr.alloc (Obj.cells #[Value.int IntKind.u32 (1000 + (k : Int))] 36) = w6 at hR5 hb5 ⊢
        have HK6 := Aside0.mk (hK.out.after hb5)
        clear hb5 hc y0
        generalize wr.heap.size = g5 at hR5 ⊢
        refine (commit_ok w w6 g 1000000000 0 s vq F (some ⟨g5, 0, none⟩) 1 [1000 + (k : Int)] HK6.out (by decide) hs1 (by have := hfl.out; have := HN.out; omega) (by simp) (lit_u32 [1000 + (k : Int)] hR5 rfl (by simp)) (Nat.le_refl _)).mono ?_
        rintro e w7 ⟨rfl, vq7, hK7, _⟩
        have HK7 := Aside0.mk hK7
        clear hK7 hR5 HK6 hK
        have he := Aside0.mk (hfs.out.trans (if_neg hs))
        go_wp2_with fail
        exact ⟨⟨k + 1, vq7, hlt, by rw [he.out, List.length_append]; rfl, by rw [kw.out], ⟨by rw [he.out]; exact HK7.out⟩⟩, by rw [kw.out]; exact meas_ hlt⟩
    · obtain rfl : k = l0.length := by omega
      rw [List.take_length] at hK ⊢
      have hql := Aside0.mk (Nat.le_trans (fqs_len l0 0) HN.out)
      obtain ⟨Aq, cq, eq⟩ := Kd.N_slice hK.out.own
      subst eq
      obtain ⟨q, hqq⟩ : ∃ q, q = fqs l0 0 := ⟨_, rfl⟩
      have hq' := Aside0.mk hqq
      rw [← hqq] at hK hql ⊢
      clear hqq
      go_wp2_with fail
      refine (pending_ok wr g 1000000000 Aq q.length cq hK.out.cells.1.1 hK.out.cells.1.2 hK.out.cells.2.2.1 hK.out.cells.2.2.2 (by decide)).mono ?_
      rintro e w' ⟨rfl, ⟨nd2, rfl⟩⟩
      have HK := Aside0.mk (hK.out.drewN nd2)
      clear hK
      generalize wr.drewN nd2 = wb at HK ⊢
      obtain ⟨t1, t2⟩ := tick_a a1 h0 h1
      have ht := Aside0.mk t2
      have ew1 : wrap64 (a1 * 1000000000) = a1 * 1000000000 := by unfold wrap64; omega
      have ew2 : wrap64 (1000000000 + a1 * 1000000000) = 1000000000 + a1 * 1000000000 := by unfold wrap64; omega
      clear t1 t2
      go_wp2_with fail
      refine (tick_full w wb g 1000000000 0 (1000000000 + a1 * 1000000000) _ q HK.out (by decide) (by have := hql.out; omega) (fun x hx => by rw [hq'.out] at hx; rw [fqs_cb _ _ x hx]; decide) (by have := ht.out; omega)).mono ?_
      rintro e wc ⟨vc, rfl, hRc, hKc, _⟩
      have HK2 := Aside0.mk hKc
      clear hKc HK ew1 ew2
      obtain ⟨Ac, cc, ec⟩ := Kd.R_slice hRc
      subst ec
      obtain ⟨_, _, hCc⟩ := Kd.R_reads' hRc
      have hcb : Aside0 (∀ x ∈ q, x.f1.length = 1) := ⟨fun x hx => by rw [hq'.out] at hx; exact fqs_cb _ _ x hx⟩
      have hdl := Aside0.mk (dl_get (nextOf 1000000000 0) 1000000000 q hcb.out q.length (Nat.le_refl _)).1
      have hdr := Aside0.mk (dl_rd (nextOf 1000000000 0) 1000000000 q hcb.out)
      generalize dlAll (nextOf 1000000000 0) 1000000000 q q.length = L at hCc hRc hdl hdr ⊢
      have HC := Aside0.mk hCc
      clear hRc hCc
      have hd := hdl.out
      rw [hdl.out] at HC ⊢
      clear hd
      have ew1 : wrap64 (2 * (q.length : Int)) = ((2 * q.length : Nat) : Int) := by have := hql.out; unfold wrap64; omega
      have hMM : Aside0 (0 ≤ mx 0 (clampOf (1000000000 + a1 * 1000000000)) ∧ mx 0 (clampOf (1000000000 + a1 * 1000000000)) ≤ 256000000000) := ⟨by rw [(tick_a a1 h0 h1).1]; unfold mx; omega⟩
      generalize mx 0 (clampOf (1000000000 + a1 * 1000000000)) = M at HK2 hMM ⊢
      go_wp2_with fail
      refine (pending_ok wc g 1000000000 none 0 0 HK2.out.cells.1.1 HK2.out.cells.1.2 HK2.out.cells.2.2.1 HK2.out.cells.2.2.2 (by decide)).mono ?_
      rintro e w' ⟨rfl, ⟨nd3, rfl⟩⟩
      replace HK2 := Aside0.mk (HK2.out.drewN nd3)
      replace HC := Aside0.mk (Kd.C_below HC.out (pw_below_drewN (Below.refl _ _) nd3))
      generalize wc.drewN nd3 = wd at HK2 HC ⊢
      clear ew1
      go_wp2_with fail
      obtain ⟨N2, hN2⟩ : ∃ n, n = 2 * q.length := ⟨_, rfl⟩
      have HN2 := Aside0.mk hN2
      rw [← hN2] at HC ⊢
      clear hN2 hdl
      go_loop [10, 11] (fun v10 v11 => ∃ k : Nat, k ≤ l0.length ∧ v10 = .int .i64 ((2 * (fqs (l0.take k) 0).length : Nat) : Int) ∧ v11 = .int .i64 k) (fun _ v => l0.length - (intOf v).toNat)
      case atStart => exact ⟨0, Nat.zero_le _, rfl, rfl⟩
      case round =>
        obtain ⟨k, hk, rfl, rfl⟩ := hrel
        by_cases hlt : k < l0.length
        · have hlt' : (k : Int) < (l0.length : Int) := by omega
          have hfs := Aside0.mk (fqs_step l0 k hlt)
          have hat := Aside0.mk (fqs_at l0 k hlt)
          obtain ⟨ad, e1, x0⟩ := at_u8 HR.out.1 (k : Int) (by omega) (by omega)
          subst e1
          rw [Int.toNat_natCast] at x0
          have hb := HL.out (l0.getD k 0) (by rw [List.getD_eq_getElem?_getD, List.getElem?_eq_getElem hlt]; exact List.getElem_mem hlt)
          generalize l0.getD k 0 = s at x0 hb hfs hat
          obtain ⟨hb0, hb1⟩ := hb
          rw [← hq'.out] at hat
          generalize hF : fqs (l0.take k) 0 = F at hfs hat ⊢
          have y0 : wd.cell? (ad.add k) = some (.int .u8 s) := (HK2.out.below.cell (World.block_lt_of_cell? w _ x0)).trans x0
          have X0 := Aside0.mk x0
          have kw : Aside0 (wrap64 ((k : Int) + 1) = ((k + 1 : Nat) : Int)) := ⟨w1_ (by have := HN.out; omega)⟩
          clear x0 hF
          by_cases hs : s = 0
          · subst hs
            go_wp2_with fail
            go_round
            case rel => exact ⟨k + 1, hlt, by rw [hfs.out, if_pos rfl], by rw [kw.out]⟩
            case measure => rw [kw.out]; exact meas_ hlt
          · have hat2 := Aside0.mk (hat.out hs)
            have he := Aside0.mk (hfs.out.trans (if_neg hs))
            clear hat hfs
            have kw2 : wrap64 ((k : Int) + 1) = ((k + 1 + 0 : Nat) : Int) := kw.out
            obtain ⟨a, ha⟩ : ∃ a, a = 2 * F.length := ⟨_, rfl⟩
            have HA := Aside0.mk ha
            rw [← ha]
            clear ha
            go_wp2_with fail
            go_loop [13, 14] (fun v13 v14 => ∃ d : Nat, d ≤ l0.length - (k + 1) ∧ v14 = .int .i64 ((k + 1 + d : Nat) : Int) ∧ v13 = .bool (((l0.drop (k + 1)).take d).any fun y => y == s)) (fun _ v => l0.length - (intOf v).toNat)
            case atStart => exact ⟨0, Nat.zero_le _, rfl, rfl⟩
            case round =>
              obtain ⟨d, hd, rfl, rfl⟩ := hrel
              clear kw2
              by_cases hdl2 : k + 1 + d < l0.length
              · have hst : ((l0.drop (k + 1)).take (d + 1)).any (fun y => y == s) = (((l0.drop (k + 1)).take d).any (fun y => y == s) || (l0.getD (k + 1 + d) 0 == s)) := by
                  rw [List.take_add_one, List.getElem?_drop, List.getElem?_eq_getElem hdl2, List.getD_eq_getElem?_getD, List.getElem?_eq_getElem hdl2, List.any_append]
                  simp
                have HST := Aside0.mk hst
                clear hst
                generalize ((l0.drop (k + 1)).take d).any (fun y => y == s) = b at HST ⊢
                obtain ⟨m, hm⟩ : ∃ m, m = k + 1 + d := ⟨_, rfl⟩
                have HM := Aside0.mk hm
                rw [← hm] at hdl2 HST ⊢
                clear hm
                have hlm : (m : Int) < (l0.length : Int) := by omega
                obtain ⟨ad', e2, x2⟩ := at_u8 HR.out.1 (m : Int) (by omega) (by omega)
                cases e2
                rw [Int.toNat_natCast] at x2
                have hb' := HL.out (l0.getD m 0) (by rw [List.getD_eq_getElem?_getD, List.getElem?_eq_getElem hdl2]; exact List.getElem_mem hdl2)
                generalize l0.getD m 0 = t at x2 hb' HST
                obtain ⟨hc0, hc1⟩ := hb'
                have y2 : wd.cell? (ad.add m) = some (.int .u8 t) := (HK2.out.below.cell (World.block_lt_of_cell? w _ x2)).trans x2
                have mw : Aside0 (wrap64 ((m : Int) + 1) = ((m + 1 : Nat) : Int)) := ⟨w1_ (by have := HN.out; omega)⟩
                clear x2
                cases b with
                | true =>
                  rw [Bool.true_or] at HST
                  go_wp2_with fail
                  go_round
                  case rel => exact ⟨d + 1, by have := HM.out; omega, by rw [mw.out, HM.out]; rfl, by rw [HST.out]⟩
                  case measure => rw [mw.out]; exact meas_ hdl2
                | false =>
                  rw [Bool.false_or] at HST
                  go_wp2_with fail
                  go_round
                  case rel => exact ⟨d + 1, by have := HM.out; omega, by rw [mw.out, HM.out]; rfl, by rw [HST.out]⟩
                  case measure => rw [mw.out]; exact meas_ hdl2
              · obtain rfl : d = l0.length - (k + 1) := by omega
                have e3 : k + 1 + (l0.length - (k + 1)) = l0.length := by omega
                rw [e3, List.take_of_length_le (by rw [List.length_drop]; exact Nat.le_refl _)]
                have hsp := hat2.out.2.1
                rw [← hsp]
                clear hsp e3 hd hdl2
                obtain ⟨dr1, dr2⟩ := hdr.out F.length hat2.out.2.2 s (1000 + (k : Int)) hat2.out.1
                have hF2 := hat2.out.2.2
                have hql2 := hql.out
                rw [← HA.out] at dr1
                rw [← HA.out] at dr2
                have hxa : (a : Int) < (N2 : Int) := by have := HA.out; have := HN2.out; omega
                have hxb : ((a + 1 : Nat) : Int) < (N2 : Int) := by have := HA.out; have := HN2.out; omega
                have hal : a ≤ 240 := by have := HA.out; omega
                have aw : wrap64 ((a : Int) + 1) = ((a + 1 : Nat) : Int) := w1_ (Nat.le_trans hal (by decide))
                have aw2 : Aside0 (wrap64 ((a : Int) + 2) = ((a + 2 : Nat) : Int)) := ⟨w2_ hal⟩
                clear hal
                have cw : wrap64 (1000 + (k : Int)) = 1000 + (k : Int) := w1000_ (Nat.le_trans (Nat.le_of_lt hlt) HN.out)
                clear hF2 hql2
                obtain ⟨aL, e4, z0, z1, z2, z3, z4, z5, z6, z7, z8⟩ := at_T42 HC.out (a : Int) (by omega) hxa
                subst e4
                obtain ⟨aL', e5, u0, u1, u2, u3, u4, u5, u6, u7, u8⟩ := at_T42 HC.out ((a + 1 : Nat) : Int) (by omega) hxb
                cases e5
                rw [dr1, Int.toNat_natCast] at z0 z1 z2 z3 z4 z5 z6 z7 z8
                rw [dr2, Int.toNat_natCast] at u0 u1 u2 u3 u4 u5 u6 u7 u8
                clear z0 z3 z4 z5 z7 z8 u0 u3 u4 u5 u6 u7 u8 dr1 dr2
                simp only [cw] at z6
                generalize sup q F.length = sb at u1 u2 hat2 ⊢
                cases sb with
                | true =>
                  rw [if_pos rfl] at u1 u2
                  go_wp2_with fail
                  exact ⟨⟨k + 1, hlt, by rw [aw2.out, he.out, List.length_append, HA.out]; rfl, by rw [kw.out]⟩, by rw [kw.out]; exact meas_ hlt⟩
                | false =>
                  rw [if_neg Bool.false_ne_true] at u1 u2
                  go_wp2_with fail
                  exact ⟨⟨k + 1, hlt, by rw [aw2.out, he.out, List.length_append, HA.out]; rfl, by rw [kw.out]⟩, by rw [kw.out]; exact meas_ hlt⟩
        · obtain rfl : k = l0.length := by omega
          go_wp2_with fail
          refine (tick_full w wd g 1000000000 M 1125899906842624 _ [] HK2.out (by decide) (by decide) (by simp) (next_small M hMM.out)).mono ?_
          rintro e we ⟨ve, rfl, hRe, hKe, _⟩
          have HK3 := Aside0.mk hKe
          obtain ⟨Ae, ce, ee⟩ := Kd.R_slice hRe
          rw [show (dlAll (nextOf 1000000000 M) 1000000000 [] ([] : List S78).length).length = 0 from rfl] at ee
          subst ee
          clear hRe hKe
          go_wp2_with fail
          refine (example30 we).mono ?_
          rintro e w9 ⟨rfl, hb9⟩
          go_wp2_with fail
          go_ret
          exact ⟨rfl, below_step HK3.out.below hb9⟩
def compositorlaw30_PresentFeedback.f (l0 : List Int) (a1 : Int) : Option Bool := if (∀ x ∈ l0, 0 ≤ x ∧ x ≤ 255) ∧ 0 ≤ a1 ∧ a1 ≤ 255 then some true else none
set_option maxHeartbeats 8000000 in
set_option maxRecDepth 100000 in
theorem compositorlaw30_PresentFeedback.calls (A0 : Option Addr) (c0 : Nat) (l0 : List Int) (a1 : Int) (w : World) (hr0 : Kd.C (Kd.int .u8) w A0 l0.length l0) (hc0 : l0.length ≤ c0) (h : compositorlaw30_PresentFeedback.f l0 a1 = some true) :
    Calls Try.prog 4 #[.slice A0 l0.length c0, .int .u8 a1] w fun e w' => e = .returned (.bool true) ∧ Below w.heap.size w w' := by
  unfold compositorlaw30_PresentFeedback.f at h
  by_cases hg : (∀ x ∈ l0, 0 ≤ x ∧ x ≤ 255) ∧ 0 ≤ a1 ∧ a1 ≤ 255
  · by_cases hn : l0.length ≤ 60
    · exact feedback_ok A0 c0 l0 a1 w hr0 hc0 hn hg.1 hg.2.1 hg.2.2
    · have q1 : decide (60 < l0.length) = true := decide_eq_true (by omega)
      have q2 : decide (60 < (l0.length : Int)) = true := decide_eq_true (by omega)
      have hu24 := Try.underlying24
      clear hg hn h hr0 hc0
      go_enter Try.func4, Try.ntmps4
      go_wp2_with fail
      refine (compositorlaw30_slow.calls _ _ _ _ _ _ _ _ w rfl).mono ?_
      rintro e w1 ⟨rfl, hb1⟩
      go_wp2_with fail
      refine (new_ok _ _ _ _ _ _ _ _ _ w1 ex_check ex_int).mono ?_
      rintro e w2 ⟨g, rfl, _, _, hb2⟩
      have HB := Aside0.mk (below_step hb1 hb2)
      clear hb1 hb2
      go_wp2_with fail
      refine (example30 w2).mono ?_
      rintro e w9 ⟨rfl, hb9⟩
      go_wp2_with fail
      go_ret
      exact ⟨rfl, below_step HB.out hb9⟩
  · rw [if_neg hg] at h
    cases h
end
end Go.Proofs.Ytmkhphkkpdiliaa.All
end
section
namespace Go.Proofs.Ytmkhphkkpdiliaa.Pure
open Go.RowKit Go.Proofs.YtmkhphkkpdiliaaW.PrintWords Go.Proofs.YtmkhphkkpdiliaaW.PrintMore Go.Proofs.Ytmkhphkkpdiliaa.All
set_option linter.unusedVariables false
set_option linter.unusedSimpArgs false
theorem u8_rng {x : Int} (ok : (Lit.int .u8 x).wf = true) : 0 ≤ x ∧ x ≤ 255 := by
  simpa [Lit.wf, IntKind.min, IntKind.max, IntKind.signed, IntKind.bits] using ok
theorem PresentFeedback (x0 : List Int) (x1 : Int) (ok0 : x0.length * 1 ≤ 140737488351232 ∧ x0.length ≤ 9223372036854775807 ∧ ∀ y33 ∈ x0, (Lit.int .u8 y33).wf = true) (ok1 : (Lit.int .u8 x1).wf = true) :
    compositorlaw30_PresentFeedback.f x0 x1 = some true := by
  unfold compositorlaw30_PresentFeedback.f
  rw [if_pos]
  exact ⟨fun x hx => u8_rng (ok0.2.2 x hx), u8_rng ok1⟩
end Go.Proofs.Ytmkhphkkpdiliaa.Pure
end
section
namespace Go.Proofs.YtmkhphkkpdiliaaOpens
open Go.ChangeShapes Go.WideShapes Go.RowKit Go.Proofs.YtmkhphkkpdiliaaW.PrintWords
section
variable {H : Type} {enc : TypeId × Value → H} {P : Program} {W : World}
def Opens {α : Type} (enc : TypeId × Value → H) (P : Program) (W : World) (t : TypeId) (d : Kd α) (ok : α → Prop) : Prop :=
  ∀ fuel cs y, DataW.trod enc P W 0 (fun _ => true) true fuel t cs = some y → (∀ n ∈ y.1.weights P t, n ≤ reachBytes) → ∃ x, d.K W x cs ∧ ok x
theorem opens_int {t : TypeId} {k : IntKind} (ht : P.underlying t = some (.int k)) : Opens enc P W t (Kd.int k) (fun x => (Lit.int k x).wf = true) := by
  intro fuel cs y h _
  obtain ⟨n, rfl, _, hw⟩ := DataW.trod_int ht h
  exact ⟨n, rfl, hw⟩
theorem weightsAll_mem {e : TypeId} : ∀ {l : List (DataW H)} {d : DataW H}, d ∈ l → ∀ n ∈ d.weights P e, n ∈ DataW.weightsAll P e l
  | d0 :: r, d, hd, n, hn => by
    simp only [DataW.weightsAll, List.mem_append]
    rcases List.mem_cons.1 hd with rfl | hd
    · exact .inl hn
    · exact .inr (weightsAll_mem hd n hn)
theorem choose_list {α : Type} (n : Nat) (R : Nat → α → Prop) (h : ∀ i, i < n → ∃ x, R i x) : ∃ l : List α, l.length = n ∧ ∀ i x, l[i]? = some x → R i x := by
  induction n with
  | zero => exact ⟨[], rfl, fun i x hx => by simp at hx⟩
  | succ n ih =>
    obtain ⟨l, hl, hr⟩ := ih (fun i hi => h i (by omega))
    obtain ⟨x, hx⟩ := h n (by omega)
    refine ⟨l ++ [x], by simp [hl], fun i y hy => ?_⟩
    rcases Nat.lt_or_ge i l.length with hi | hi
    · rw [List.getElem?_append_left hi] at hy
      exact hr i y hy
    · rw [List.getElem?_append_right hi] at hy
      obtain ⟨hi2, rfl⟩ : i - l.length = 0 ∧ x = y := by
        rcases Nat.eq_zero_or_pos (i - l.length) with h0 | h0
        · rw [h0] at hy; simp at hy; exact ⟨h0, hy⟩
        · rw [List.getElem?_eq_none (by simp; omega)] at hy; cases hy
      have : i = n := by omega
      subst this
      exact hx
theorem opens_slice {α : Type} {t e : TypeId} {d : Kd α} {ok : α → Prop} {B : Nat} (ht : P.underlying t = some (.slice e)) (hc : P.cellsOf e = d.sz) (hB : P.bytesOf e = B) (he : Opens enc P W e d ok) :
    Opens enc P W t (Kd.slice e d) (fun l => l.length * B ≤ 140737488351232 ∧ l.length ≤ 9223372036854775807 ∧ ∀ x ∈ l, ok x) := by
  intro fuel cs y h hz
  rcases DataW.trod_slice ht h with ⟨rfl, _⟩ | ⟨a, len, cap, elems, rest, n, _, rfl, rfl, _, hl, hm, hlen, hel, _, _⟩
  · exact ⟨[], ⟨none, 0, rfl, by simp, rfl, by simp, fun h0 => absurd h0 (by simp)⟩, by simp, by simp, by simp⟩
  · have hw : ∀ n ∈ (((elems.map (·.1)).length + (rest.map (·.1)).length) * P.bytesOf e) :: (DataW.weightsAll P e (elems.map (·.1)) ++ DataW.weightsAll P e (rest.map (·.1))), n ≤ reachBytes := by
      intro m hm'
      refine hz m ?_
      simp only [DataW.weights, ht]
      exact hm'
    obtain ⟨l, hll, hlr⟩ := choose_list (α := α) len (fun i x => ok x ∧ ∃ c, c.length = d.sz ∧ d.K W x c ∧ ∀ j u, c[j]? = some u → W.cell? (a.add (i * d.sz + j)) = some u) (by
      intro i hi
      have h1 := hel i hi
      rw [List.getElem?_eq_getElem (by omega)] at h1
      obtain ⟨c, hcs, htr⟩ := Option.bind_eq_some_iff.1 h1
      have hmem : (elems[i]'(by omega)).1 ∈ elems.map (·.1) := List.mem_map.2 ⟨_, List.getElem_mem _, rfl⟩
      obtain ⟨x, hK, hok⟩ := he n c _ htr (fun m hm' => hw m (by
        refine List.mem_cons_of_mem _ (List.mem_append_left _ ?_)
        exact weightsAll_mem hmem m hm'))
      refine ⟨x, hok, c, d.K_len hK, hK, fun j u hu => ?_⟩
      rw [hc] at hcs
      unfold World.cells? at hcs
      split at hcs
      · have hj : j < d.sz := by
          have := (List.getElem?_eq_some_iff.1 hu).1
          rw [d.K_len hK] at this
          exact this
        have h2 := mapM_some_get hcs j j (by simp [hj])
        rw [hu] at h2
        rw [← h2]
        congr 1
        have : ∀ (a : Addr) (p q : Nat), (a.add p).add q = a.add (p + q) := by
          intro a p q
          unfold Addr.add
          split
          · split <;> simp_all
          · split <;> simp_all [Nat.add_assoc]
        exact (this a _ _).symm
      · cases hcs)
    refine ⟨l, ⟨some a, cap, by rw [hll], by omega, rfl, by unfold maxLen at hm; omega, fun _ => ⟨a, rfl, fun j p hp => ?_⟩⟩, ?_, by unfold maxLen at hm; omega, fun x hx => ?_⟩
    · obtain ⟨_, c, h1, h2, h3⟩ := hlr j p hp
      exact ⟨c, h1, h2, h3⟩
    · have := hw _ List.mem_cons_self
      rw [hB] at this
      simp only [List.length_map, hlen] at this
      rw [hll]
      unfold reachBytes at this
      exact Nat.le_trans (Nat.mul_le_mul_right _ (Nat.le_add_right _ _)) this
    · obtain ⟨i, hi, rfl⟩ := List.getElem_of_mem hx
      exact (hlr i _ (List.getElem?_eq_getElem hi)).1
theorem opens_arg {α : Type} {ts : List TypeId} {ds : List (DataW H)} {j : Nat} {t : TypeId} {v : Value} {dt : DataW H} {ps : List MemPlace} {d : Kd α} {ok : α → Prop} (h : Opens enc P W t d ok)
    (hsz : (DataW.weightsEach P ts ds).all (· ≤ reachBytes) = true) (ht : ts[j]? = some t) (hd : ds[j]? = some dt) (hr : DataW.Trod enc P W 0 (fun _ => true) true t v dt ps) : ∃ x, d.K W x v.cells.toList ∧ ok x := by
  obtain ⟨fuel, hf⟩ := hr
  exact h fuel _ _ hf (fun n hn => by simpa using List.all_eq_true.1 hsz n (DataW.weights_mem_each ht hd n hn))
end
theorem slice_of {a A : Option Addr} {len cap n c : Nat} (h : (Value.slice a len cap).cells.toList = [.slice A n c]) : A = a ∧ len = n ∧ c = cap := by
  simp [Value.cells] at h
  exact ⟨h.1.symm, h.2.1, h.2.2.symm⟩
theorem int_of {k : IntKind} {s x : Int} {W : World} (h : (Kd.int k).K W x (Value.int k s).cells.toList) : x = s := by
  have h' : (Value.int k s).cells.toList = [.int k x] := h
  simpa [Value.cells, eq_comm] using h'
end Go.Proofs.YtmkhphkkpdiliaaOpens
end
