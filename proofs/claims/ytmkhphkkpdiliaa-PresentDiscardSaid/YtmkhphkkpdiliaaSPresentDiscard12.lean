-- The texts behind this claim's law, put together by a program of this session (shake.py): what no text uses is left out. Its words are print.sh's.
import Derived.Test.YtmkhphkkpdiliaaProg
import Derived.Below
import Derived.Deep.Draws
import Derived.Deep.AppendLies
import Derived.Maps.AppendAt
import Derived.OwnWalk
import Derived.Laws.BytesArg
import Derived.Laws.MakeOwn
import Derived.Laws.OwnMore
import Derived.Deep.OwnRows
import Derived.Tactics
import Derived.Lib.ConvBytes
import Derived.Laws.Slices
import Derived.WalkKit
import Derived.KernelRfl
import Derived.RowKit3
import Derived.Deep.LoopGhost
import Derived.Deep.QuietTactic
import Derived.BigQuiet
import Derived.WideLaws
import Derived.Deep.DeepCutAuto
import Derived.Deep.CutBlock
import Derived.Deep.RegionHeld3
import Derived.Laws.Rows
import Derived.Lib.AppendStr
import Derived.ArgAppend
import Derived.Laws.IdiomCopy
import Derived.OrdersHeld
import Derived.Laws.BitsLemmas
import Derived.RowKit
import Derived.WalkMore
import Derived.Laws.StructEq
import Derived.SizedLaws
import Derived.ChangeSlices
import Derived.OpenShut
import Derived.Test.YtmkhphkkpdiliaaSPresentDiscard11
section
namespace Go.Proofs.Ytmkhphkkpdiliaa.All
open Go.RowKit Go.Proofs.YtmkhphkkpdiliaaW.PrintWords Go.Proofs.YtmkhphkkpdiliaaW.PrintLast Go.Proofs.YtmkhphkkpdiliaaW.PrintMore
attribute [local go_sem] max2_int min2_int max_two min_two max_three min_three max_four min_four
set_option linter.unusedVariables false
set_option linter.unusedSimpArgs false
def errW : Option Int → Value
  | none => .nilIface
  | some c => .iface 0 (.int .i64 c)
theorem errW_none : errW none = .nilIface := rfl
theorem errW_some (c : Int) : errW (some c) = .iface 0 (.int .i64 c) := rfl
theorem info36 : (Try.prog.info? 36).map (fun i => (i.zero, i.size, i.bytes)) = some (some (.int .u32 0), 1, 4) := by kernel_rfl
theorem info42 : (Try.prog.info? 42).map (fun i => (i.zero, i.size, i.bytes)) = some (some (.agg #[(.int .i64 0), (.int .i64 0), (.int .i64 0), (.int .i64 0), (.int .i64 0), (.int .i64 0), (.int .i64 0), (.int .i64 0), (.int .u32 0)]), 9, 72) := by kernel_rfl
structure S55 where
  f0 : Int
  f1 : Int
  f2 : (List Int)
structure S78 where
  f0 : Int
  f1 : (List Int)
def z78 : S78 := ⟨(0 : Int), ([] : List Int)⟩
def k78 : Kd S78 := Kd.iso (Kd.pair (Kd.int .i64) (Kd.slice 36 (Kd.int .u32))) (fun x : S78 => (x.f0, x.f1))
theorem k78_open {w : World} {x : S78} {cs : List Value} (h : k78.K w x cs) : ∃ A1 c1, cs = [.int .i64 x.f0, .slice A1 x.f1.length c1] ∧ x.f1.length ≤ c1 ∧ (Kd.int .u32).C w A1 x.f1.length x.f1 := by
  obtain ⟨_, _, rfl, rfl, ⟨A1, c1, rfl, l1, g1⟩⟩ := h
  exact ⟨A1, c1, rfl, l1, g1⟩
theorem k78_mk (w : World) (x : S78) {A1 : Option Addr} {c1 : Nat} (l1 : x.f1.length ≤ c1) (g1 : (Kd.int .u32).C w A1 x.f1.length x.f1) : k78.K w x [.int .i64 x.f0, .slice A1 x.f1.length c1] := ⟨[.int .i64 x.f0], [.slice A1 x.f1.length c1], rfl, rfl, ⟨A1, c1, rfl, l1, g1⟩⟩
theorem k78_openF {W : World} {ok : Nat → Prop} {x : S78} {cs : List Value} (h : Kd.FK k78 W ok x cs) : ∃ A1 c1, cs = [.int .i64 x.f0, .slice A1 x.f1.length c1] ∧ x.f1.length ≤ c1 ∧ Kd.F (Kd.int .u32) W ok A1 x.f1.length x.f1 := by
  obtain ⟨A1, c1, rfl, l1, _⟩ := k78_open (Kd.FK_now h)
  exact ⟨A1, c1, rfl, l1, (fun W' hW => by obtain ⟨A1_, c1_, he, l1_, g1_⟩ := k78_open (h W' hW); injection (Option.some.inj (show some (Value.slice A1 x.f1.length c1) = some (Value.slice A1_ x.f1.length c1_) from congrArg (fun l => l[1]?) he)) with ha_ _ _; rw [ha_]; exact g1_)⟩
theorem k78_mkF (W : World) (ok : Nat → Prop) (x : S78) {A1 : Option Addr} {c1 : Nat} (l1 : x.f1.length ≤ c1) (g1 : Kd.F (Kd.int .u32) W ok A1 x.f1.length x.f1) : Kd.FK k78 W ok x [.int .i64 x.f0, .slice A1 x.f1.length c1] := fun W2 hW => k78_mk W2 x l1 (g1 W2 hW)
def rd_T78 (xs : List S78) (i : Int) : S78 := xs.getD i.toNat z78
theorem at_T78 {w : World} {A : Option Addr} {n : Nat} {xs : List S78} (h : Kd.C k78 w A n xs) (i : Int) (h0 : 0 ≤ i) (h1 : i < n) : ∃ ad A1 c1, A = some ad ∧ w.cell? (ad.add (i.toNat * 2)) = some (.int .i64 (rd_T78 xs i).f0) ∧ w.cell? ⟨(ad.add (i.toNat * 2)).block, (ad.add (i.toNat * 2)).off + 1, none⟩ = some (.slice A1 (rd_T78 xs i).f1.length c1) ∧ (rd_T78 xs i).f1.length ≤ c1 ∧ (Kd.int .u32).C w A1 (rd_T78 xs i).f1.length (rd_T78 xs i).f1 := by
  obtain ⟨ad, c, e, _, hK, hc0⟩ := Kd.C_get h z78 i h0 h1
  have hc : ∀ j u, c[j]? = some u → w.cell? (ad.add (i.toNat * 2 + j)) = some u := hc0
  obtain ⟨A1, c1, rfl, l1, g1⟩ := k78_open hK
  exact ⟨ad, A1, c1, e, hc 0 _ rfl, by rw [← add_field _ _ 1 (by omega)]; exact hc 1 _ rfl, l1, g1⟩
structure S42 where
  f0 : Int
  f1 : Int
  f2 : Int
  f3 : Int
  f4 : Int
  f5 : Int
  f6 : Int
  f7 : Int
  f8 : Int
def z42 : S42 := ⟨(0 : Int), (0 : Int), (0 : Int), (0 : Int), (0 : Int), (0 : Int), (0 : Int), (0 : Int), (0 : Int)⟩
def k42 : Kd S42 := Kd.iso (Kd.pair (Kd.int .i64) (Kd.pair (Kd.int .i64) (Kd.pair (Kd.int .i64) (Kd.pair (Kd.int .i64) (Kd.pair (Kd.int .i64) (Kd.pair (Kd.int .i64) (Kd.pair (Kd.int .i64) (Kd.pair (Kd.int .i64) (Kd.int .u32))))))))) (fun x : S42 => (x.f0, x.f1, x.f2, x.f3, x.f4, x.f5, x.f6, x.f7, x.f8))
theorem k42_open {w : World} {x : S42} {cs : List Value} (h : k42.K w x cs) : cs = [.int .i64 x.f0, .int .i64 x.f1, .int .i64 x.f2, .int .i64 x.f3, .int .i64 x.f4, .int .i64 x.f5, .int .i64 x.f6, .int .i64 x.f7, .int .u32 x.f8] := by
  obtain ⟨_, _, rfl, rfl, ⟨_, _, rfl, rfl, ⟨_, _, rfl, rfl, ⟨_, _, rfl, rfl, ⟨_, _, rfl, rfl, ⟨_, _, rfl, rfl, ⟨_, _, rfl, rfl, ⟨_, _, rfl, rfl, rfl⟩⟩⟩⟩⟩⟩⟩⟩ := h
  exact rfl
theorem k42_mkM (w : World) (base : Nat) (ok : Nat → Prop) (x : S42)  : k42.M w base ok x [.int .i64 x.f0, .int .i64 x.f1, .int .i64 x.f2, .int .i64 x.f3, .int .i64 x.f4, .int .i64 x.f5, .int .i64 x.f6, .int .i64 x.f7, .int .u32 x.f8] := ⟨[.int .i64 x.f0], [.int .i64 x.f1, .int .i64 x.f2, .int .i64 x.f3, .int .i64 x.f4, .int .i64 x.f5, .int .i64 x.f6, .int .i64 x.f7, .int .u32 x.f8], rfl, rfl, ⟨[.int .i64 x.f1], [.int .i64 x.f2, .int .i64 x.f3, .int .i64 x.f4, .int .i64 x.f5, .int .i64 x.f6, .int .i64 x.f7, .int .u32 x.f8], rfl, rfl, ⟨[.int .i64 x.f2], [.int .i64 x.f3, .int .i64 x.f4, .int .i64 x.f5, .int .i64 x.f6, .int .i64 x.f7, .int .u32 x.f8], rfl, rfl, ⟨[.int .i64 x.f3], [.int .i64 x.f4, .int .i64 x.f5, .int .i64 x.f6, .int .i64 x.f7, .int .u32 x.f8], rfl, rfl, ⟨[.int .i64 x.f4], [.int .i64 x.f5, .int .i64 x.f6, .int .i64 x.f7, .int .u32 x.f8], rfl, rfl, ⟨[.int .i64 x.f5], [.int .i64 x.f6, .int .i64 x.f7, .int .u32 x.f8], rfl, rfl, ⟨[.int .i64 x.f6], [.int .i64 x.f7, .int .u32 x.f8], rfl, rfl, ⟨[.int .i64 x.f7], [.int .u32 x.f8], rfl, rfl, rfl⟩⟩⟩⟩⟩⟩⟩⟩
def rd_T42 (xs : List S42) (i : Int) : S42 := xs.getD i.toNat z42
theorem at_T42 {w : World} {A : Option Addr} {n : Nat} {xs : List S42} (h : Kd.C k42 w A n xs) (i : Int) (h0 : 0 ≤ i) (h1 : i < n) : ∃ ad , A = some ad ∧ w.cell? (ad.add (i.toNat * 9)) = some (.int .i64 (rd_T42 xs i).f0) ∧ w.cell? ⟨(ad.add (i.toNat * 9)).block, (ad.add (i.toNat * 9)).off + 1, none⟩ = some (.int .i64 (rd_T42 xs i).f1) ∧ w.cell? ⟨(ad.add (i.toNat * 9)).block, (ad.add (i.toNat * 9)).off + 2, none⟩ = some (.int .i64 (rd_T42 xs i).f2) ∧ w.cell? ⟨(ad.add (i.toNat * 9)).block, (ad.add (i.toNat * 9)).off + 3, none⟩ = some (.int .i64 (rd_T42 xs i).f3) ∧ w.cell? ⟨(ad.add (i.toNat * 9)).block, (ad.add (i.toNat * 9)).off + 4, none⟩ = some (.int .i64 (rd_T42 xs i).f4) ∧ w.cell? ⟨(ad.add (i.toNat * 9)).block, (ad.add (i.toNat * 9)).off + 5, none⟩ = some (.int .i64 (rd_T42 xs i).f5) ∧ w.cell? ⟨(ad.add (i.toNat * 9)).block, (ad.add (i.toNat * 9)).off + 6, none⟩ = some (.int .i64 (rd_T42 xs i).f6) ∧ w.cell? ⟨(ad.add (i.toNat * 9)).block, (ad.add (i.toNat * 9)).off + 7, none⟩ = some (.int .i64 (rd_T42 xs i).f7) ∧ w.cell? ⟨(ad.add (i.toNat * 9)).block, (ad.add (i.toNat * 9)).off + 8, none⟩ = some (.int .u32 (rd_T42 xs i).f8) := by
  obtain ⟨ad, c, e, _, hK, hc0⟩ := Kd.C_get h z42 i h0 h1
  have hc : ∀ j u, c[j]? = some u → w.cell? (ad.add (i.toNat * 9 + j)) = some u := hc0
  obtain rfl := k42_open hK
  exact ⟨ad, e, hc 0 _ rfl, by rw [← add_field _ _ 1 (by omega)]; exact hc 1 _ rfl, by rw [← add_field _ _ 2 (by omega)]; exact hc 2 _ rfl, by rw [← add_field _ _ 3 (by omega)]; exact hc 3 _ rfl, by rw [← add_field _ _ 4 (by omega)]; exact hc 4 _ rfl, by rw [← add_field _ _ 5 (by omega)]; exact hc 5 _ rfl, by rw [← add_field _ _ 6 (by omega)]; exact hc 6 _ rfl, by rw [← add_field _ _ 7 (by omega)]; exact hc 7 _ rfl, by rw [← add_field _ _ 8 (by omega)]; exact hc 8 _ rfl⟩
end Go.Proofs.Ytmkhphkkpdiliaa.All
end
section
namespace Go.Proofs.Ytmkhphkkpdiliaa.All
open Go.RowKit Go.Proofs.YtmkhphkkpdiliaaW.PrintWords Go.Proofs.YtmkhphkkpdiliaaW.PrintLast Go.Proofs.YtmkhphkkpdiliaaW.PrintMore
attribute [local go_sem] max2_int min2_int max_two min_two max_three min_three max_four min_four
set_option linter.unusedVariables false
set_option linter.unusedSimpArgs false
def compositorlaw30_slow.f  : Option (ByteArray × Int × Int × Int × Int × Int × Int × Int) := some ((⟨#[111]⟩ : ByteArray), 1, 1, 1000, 1, 0, 0, 0)
set_option maxHeartbeats 8000000 in
set_option maxRecDepth 100000 in
theorem compositorlaw30_slow.calls  (r1 : ByteArray) (r2 : Int) (r3 : Int) (r4 : Int) (r5 : Int) (r6 : Int) (r7 : Int) (r8 : Int) (w : World) (h : compositorlaw30_slow.f  = some (r1, r2, r3, r4, r5, r6, r7, r8)) :
    Calls Try.prog 15 #[] w fun e w' => e = .returned (.agg #[.string r1, .int .i64 r2, .int .i64 r3, .int .i64 r4, .int .i64 r5, .int .i64 r6, .int .i64 r7, .int .i64 r8]) ∧ Below w.heap.size w w' := by
  have hu23 := Try.underlying23
  have HB := Aside0.mk (Below.refl w.heap.size w)
  have H : (some ((⟨#[111]⟩ : ByteArray), 1, 1, 1000, 1, 0, 0, 0)) = some (r1, r2, r3, r4, r5, r6, r7, r8) := h
  clear h
  simp only [Option.some.injEq, Prod.mk.injEq] at H
  obtain ⟨rfl, rfl, rfl, rfl, rfl, rfl, rfl, rfl⟩ := H
  go_enter Try.func15, Try.ntmps15
  go_wp2_with (first | ((with_reducible refine gate_dst (N := 0) rfl ?_); refine box_event ?hg (N := 0) ?hd (cs := #[.string (⟨#[]⟩ : ByteArray), .int .i64 0, .int .i64 0, .int .i64 0, .int .i64 0, .int .i64 0, .int .i64 0, .int .i64 0]) (t := 23) ?hr ?_; (case hd => rfl); (case hg => rfl); (case hr => first | (go_simp; done) | (go_simp; rfl)); intro gb125 hg w1 hbox hb; have n0_ := Aside0.mk (below_step (by repeat (first | (with_reducible first | exact HB.out | apply below_alloc | apply pw_below_drewN | apply below_drew1) | exact HB.out)) hb); have n1_ := Aside0.mk (hbox); have n2_ := Aside0.mk ((by rw [hg]; exact (below_size (by repeat (first | (with_reducible first | exact HB.out | apply below_alloc | apply pw_below_drewN | apply below_drew1) | exact HB.out))) : w.heap.size ≤ gb125)); have n3_ := Aside0.mk ((by rw [hg]; exact (below_size (by repeat (first | (with_reducible first | exact HB.out | apply below_alloc | apply pw_below_drewN | apply below_drew1) | exact HB.out))) : w.heap.size ≤ gb125)); clear HB; have HB := n0_; have BK125 := n1_; have GW125 := n2_; have GE125 := n3_; clear n0_ n1_ n2_ n3_; clear hb hbox hg; have hcz2_0 : w1.cell? ⟨gb125, 0, none⟩ = some (.string (⟨#[]⟩ : ByteArray)) := (blk_cell BK125.out 0).trans rfl; have hcz2_1 : w1.cell? ⟨gb125, 1, none⟩ = some (.int .i64 0) := (blk_cell BK125.out 1).trans rfl; have hcz2_2 : w1.cell? ⟨gb125, 2, none⟩ = some (.int .i64 0) := (blk_cell BK125.out 2).trans rfl; have hcz2_3 : w1.cell? ⟨gb125, 3, none⟩ = some (.int .i64 0) := (blk_cell BK125.out 3).trans rfl; have hcz2_4 : w1.cell? ⟨gb125, 4, none⟩ = some (.int .i64 0) := (blk_cell BK125.out 4).trans rfl; have hcz2_5 : w1.cell? ⟨gb125, 5, none⟩ = some (.int .i64 0) := (blk_cell BK125.out 5).trans rfl; have hcz2_6 : w1.cell? ⟨gb125, 6, none⟩ = some (.int .i64 0) := (blk_cell BK125.out 6).trans rfl; have hcz2_7 : w1.cell? ⟨gb125, 7, none⟩ = some (.int .i64 0) := (blk_cell BK125.out 7).trans rfl; have hfz2_0 := blk_frozen BK125.out 0; have hfz2_1 := blk_frozen BK125.out 1; have hfz2_2 := blk_frozen BK125.out 2; have hfz2_3 := blk_frozen BK125.out 3; have hfz2_4 := blk_frozen BK125.out 4; have hfz2_5 := blk_frozen BK125.out 5; have hfz2_6 := blk_frozen BK125.out 6; have hfz2_7 := blk_frozen BK125.out 7))
  refine bodyPost_ret (results_cell_row rfl _ _ gb125 23 #[.string (⟨#[111]⟩ : ByteArray), .int .i64 1, .int .i64 1, .int .i64 1000, .int .i64 1, .int .i64 0, .int .i64 0, .int .i64 0] (0, 0) _ rfl (by (with_reducible repeat (first | refine blk_drewN ?_ _ | refine blk_drew ?_ | refine blk_alloc ?_ _)); refine blk_put (cs := #[.string (⟨#[111]⟩ : ByteArray), .int .i64 1, .int .i64 1, .int .i64 1000, .int .i64 1, .int .i64 0, .int .i64 0, .int .i64 0]) ?_ 7 _ rfl; (with_reducible repeat (first | refine blk_drewN ?_ _ | refine blk_drew ?_ | refine blk_alloc ?_ _)); refine blk_put (cs := #[.string (⟨#[111]⟩ : ByteArray), .int .i64 1, .int .i64 1, .int .i64 1000, .int .i64 1, .int .i64 0, .int .i64 0, .int .i64 0]) ?_ 6 _ rfl; (with_reducible repeat (first | refine blk_drewN ?_ _ | refine blk_drew ?_ | refine blk_alloc ?_ _)); refine blk_put (cs := #[.string (⟨#[111]⟩ : ByteArray), .int .i64 1, .int .i64 1, .int .i64 1000, .int .i64 1, .int .i64 0, .int .i64 0, .int .i64 0]) ?_ 5 _ rfl; (with_reducible repeat (first | refine blk_drewN ?_ _ | refine blk_drew ?_ | refine blk_alloc ?_ _)); refine blk_put (cs := #[.string (⟨#[111]⟩ : ByteArray), .int .i64 1, .int .i64 1, .int .i64 1000, .int .i64 0, .int .i64 0, .int .i64 0, .int .i64 0]) ?_ 4 _ rfl; (with_reducible repeat (first | refine blk_drewN ?_ _ | refine blk_drew ?_ | refine blk_alloc ?_ _)); refine blk_put (cs := #[.string (⟨#[111]⟩ : ByteArray), .int .i64 1, .int .i64 1, .int .i64 0, .int .i64 0, .int .i64 0, .int .i64 0, .int .i64 0]) ?_ 3 _ rfl; (with_reducible repeat (first | refine blk_drewN ?_ _ | refine blk_drew ?_ | refine blk_alloc ?_ _)); refine blk_put (cs := #[.string (⟨#[111]⟩ : ByteArray), .int .i64 1, .int .i64 0, .int .i64 0, .int .i64 0, .int .i64 0, .int .i64 0, .int .i64 0]) ?_ 2 _ rfl; (with_reducible repeat (first | refine blk_drewN ?_ _ | refine blk_drew ?_ | refine blk_alloc ?_ _)); refine blk_put (cs := #[.string (⟨#[111]⟩ : ByteArray), .int .i64 0, .int .i64 0, .int .i64 0, .int .i64 0, .int .i64 0, .int .i64 0, .int .i64 0]) ?_ 1 _ rfl; (with_reducible repeat (first | refine blk_drewN ?_ _ | refine blk_drew ?_ | refine blk_alloc ?_ _)); refine blk_put (cs := #[.string (⟨#[]⟩ : ByteArray), .int .i64 0, .int .i64 0, .int .i64 0, .int .i64 0, .int .i64 0, .int .i64 0, .int .i64 0]) ?_ 0 _ rfl; (with_reducible repeat (first | refine blk_drewN ?_ _ | refine blk_drew ?_ | refine blk_alloc ?_ _)); exact BK125.out) Try.underlying23 rfl (by kernel_rfl)) rfl ?_
  exact ⟨by first | rfl | (simp [errW_none, errW_some] <;> rfl) | (simp [*, errW_none, errW_some] <;> rfl), by repeat (first | (with_reducible first | exact HB.out | apply below_alloc | apply pw_below_drewN | apply below_drew1 | refine below_set ?_ GE125.out) | exact HB.out)⟩
end Go.Proofs.Ytmkhphkkpdiliaa.All
end
section
namespace Go.Proofs.Ytmkhphkkpdiliaa.All
open Go.RowKit Go.Proofs.YtmkhphkkpdiliaaW.PrintWords Go.Proofs.YtmkhphkkpdiliaaW.PrintLast Go.Proofs.YtmkhphkkpdiliaaW.PrintMore
attribute [local go_sem] max2_int min2_int max_two min_two max_three min_three max_four min_four
set_option linter.unusedVariables false
set_option linter.unusedSimpArgs false
def transform_Valid.f (a0 : Int) : Option (Bool) := if a0 ≥ 0 then (some (decide (a0 < 8))) else (some false)
set_option maxHeartbeats 8000000 in
set_option maxRecDepth 100000 in
theorem transform_Valid.calls (a0 : Int) (r : Bool) (w : World) (h : transform_Valid.f a0 = some r) :
    Calls Try.prog 44 #[.int .i64 a0] w fun e w' => e = .returned (.bool r) ∧ Drawn0 w w' := by
  have H : (if a0 ≥ 0 then (some (decide (a0 < 8))) else (some false)) = some r := h
  clear h
  by_cases c2 : a0 ≥ 0
  · rw [if_pos c2] at H
    have c2b0 : decide (0 ≤ a0) = true := decide_eq_true c2
    clear c2
    obtain rfl := Option.some.inj H
    go_enter Try.func44, Try.ntmps44
    go_wp2
    go_ret
    exact ⟨by first | rfl | (simp; done) | (simp [*]; done), by repeat (first | exact Drawn0.refl _ | apply Drawn0.step)⟩
  · rw [if_neg c2] at H
    have c2b0 : decide (0 ≤ a0) = false := decide_eq_false c2
    clear c2
    obtain rfl := Option.some.inj H
    go_enter Try.func44, Try.ntmps44
    go_wp2
    go_ret
    exact ⟨by first | rfl | (simp; done) | (simp [*]; done), by repeat (first | exact Drawn0.refl _ | apply Drawn0.step)⟩
def rect_valid.f (a0 : Int) : Option (Bool) := if a0 ≥ (-16384) then (some (decide (a0 ≤ 16384))) else (some false)
set_option maxHeartbeats 8000000 in
set_option maxRecDepth 100000 in
theorem rect_valid.calls (a0 : Int) (r : Bool) (w : World) (h : rect_valid.f a0 = some r) :
    Calls Try.prog 48 #[.int .i64 a0] w fun e w' => e = .returned (.bool r) ∧ Drawn0 w w' := by
  have H : (if a0 ≥ (-16384) then (some (decide (a0 ≤ 16384))) else (some false)) = some r := h
  clear h
  by_cases c2 : a0 ≥ (-16384)
  · rw [if_pos c2] at H
    have c2b0 : decide ((-16384) ≤ a0) = true := decide_eq_true c2
    clear c2
    obtain rfl := Option.some.inj H
    go_enter Try.func48, Try.ntmps48
    go_wp2
    go_ret
    exact ⟨by first | rfl | (simp; done) | (simp [*]; done), by repeat (first | exact Drawn0.refl _ | apply Drawn0.step)⟩
  · rw [if_neg c2] at H
    have c2b0 : decide ((-16384) ≤ a0) = false := decide_eq_false c2
    clear c2
    obtain rfl := Option.some.inj H
    go_enter Try.func48, Try.ntmps48
    go_wp2
    go_ret
    exact ⟨by first | rfl | (simp; done) | (simp [*]; done), by repeat (first | exact Drawn0.refl _ | apply Drawn0.step)⟩
def rect_Valid.f (a0_0 : Int) (a0_1 : Int) (a0_2 : Int) (a0_3 : Int) : Option (Bool) := (rect_valid.f a0_0).bind fun t102 => (if t102 = true then ((rect_valid.f a0_1).bind fun t103 => (if t103 = true then ((rect_valid.f a0_2).bind fun t104 => (if t104 = true then ((rect_valid.f a0_3).bind fun t105 => (some t105)) else (some false))) else (some false))) else (some false))
set_option maxHeartbeats 8000000 in
set_option maxRecDepth 100000 in
theorem rect_Valid.calls (a0_0 : Int) (a0_1 : Int) (a0_2 : Int) (a0_3 : Int) (r : Bool) (w : World) (h : rect_Valid.f a0_0 a0_1 a0_2 a0_3 = some r) :
    Calls Try.prog 45 #[.agg #[.int .i64 a0_0, .int .i64 a0_1, .int .i64 a0_2, .int .i64 a0_3]] w fun e w' => e = .returned (.bool r) ∧ Below w.heap.size w w' := by
  have hu82 := Try.underlying82
  have HB := Aside0.mk (Below.refl w.heap.size w)
  have H : ((rect_valid.f a0_0).bind fun t102 => (if t102 = true then ((rect_valid.f a0_1).bind fun t103 => (if t103 = true then ((rect_valid.f a0_2).bind fun t104 => (if t104 = true then ((rect_valid.f a0_3).bind fun t105 => (some t105)) else (some false))) else (some false))) else (some false))) = some r := h
  clear h
  replace H := Option.bind_eq_some_iff.mp H
  obtain ⟨t102, A20, H⟩ := H
  replace H : (if t102 = true then ((rect_valid.f a0_1).bind fun t103 => (if t103 = true then ((rect_valid.f a0_2).bind fun t104 => (if t104 = true then ((rect_valid.f a0_3).bind fun t105 => (some t105)) else (some false))) else (some false))) else (some false)) = some r := H
  have A2 := Aside0.mk A20
  clear A20
  by_cases c3 : t102 = true
  · subst c3
    have H1 : ((rect_valid.f a0_1).bind fun t103 => (if t103 = true then ((rect_valid.f a0_2).bind fun t104 => (if t104 = true then ((rect_valid.f a0_3).bind fun t105 => (some t105)) else (some false))) else (some false))) = some r := by rw [if_pos rfl] at H; exact H
    clear H
    have H := H1
    clear H1
    replace H := Option.bind_eq_some_iff.mp H
    obtain ⟨t103, A40, H⟩ := H
    replace H : (if t103 = true then ((rect_valid.f a0_2).bind fun t104 => (if t104 = true then ((rect_valid.f a0_3).bind fun t105 => (some t105)) else (some false))) else (some false)) = some r := H
    have A4 := Aside0.mk A40
    clear A40
    by_cases c5 : t103 = true
    · subst c5
      have H1 : ((rect_valid.f a0_2).bind fun t104 => (if t104 = true then ((rect_valid.f a0_3).bind fun t105 => (some t105)) else (some false))) = some r := by rw [if_pos rfl] at H; exact H
      clear H
      have H := H1
      clear H1
      replace H := Option.bind_eq_some_iff.mp H
      obtain ⟨t104, A60, H⟩ := H
      replace H : (if t104 = true then ((rect_valid.f a0_3).bind fun t105 => (some t105)) else (some false)) = some r := H
      have A6 := Aside0.mk A60
      clear A60
      by_cases c7 : t104 = true
      · subst c7
        have H1 : ((rect_valid.f a0_3).bind fun t105 => (some t105)) = some r := by rw [if_pos rfl] at H; exact H
        clear H
        have H := H1
        clear H1
        replace H := Option.bind_eq_some_iff.mp H
        obtain ⟨t105, A80, H⟩ := H
        replace H : (some t105) = some r := H
        have A8 := Aside0.mk A80
        clear A80
        obtain rfl := Option.some.inj H
        go_enter Try.func45, Try.ntmps45
        go_wp2_with (first | ((with_reducible refine gate_dst (N := 1) rfl ?_); refine box_event ?hg (N := 1) ?hd (cs := #[.int .i64 a0_0, .int .i64 a0_1, .int .i64 a0_2, .int .i64 a0_3]) (t := 82) ?hr ?_; (case hd => rfl); (case hg => rfl); (case hr => first | (go_simp; done) | (go_simp; rfl)); intro gb101 hg w9 hbox hb; have n0_ := Aside0.mk (below_step (by repeat (first | (with_reducible first | exact HB.out | apply below_alloc | apply pw_below_drewN | apply below_drew1) | exact HB.out)) hb); have n1_ := Aside0.mk (hbox); have n2_ := Aside0.mk ((by rw [hg]; exact (below_size (by repeat (first | (with_reducible first | exact HB.out | apply below_alloc | apply pw_below_drewN | apply below_drew1) | exact HB.out))) : w.heap.size ≤ gb101)); have n3_ := Aside0.mk ((by rw [hg]; exact (below_size (by repeat (first | (with_reducible first | exact HB.out | apply below_alloc | apply pw_below_drewN | apply below_drew1) | exact HB.out))) : w.heap.size ≤ gb101)); clear HB; have HB := n0_; have BK101 := n1_; have GW101 := n2_; have GE101 := n3_; clear n0_ n1_ n2_ n3_; clear hb hbox hg; have hcz10_0 : w9.cell? ⟨gb101, 0, none⟩ = some (.int .i64 a0_0) := (blk_cell BK101.out 0).trans rfl; have hcz10_1 : w9.cell? ⟨gb101, 1, none⟩ = some (.int .i64 a0_1) := (blk_cell BK101.out 1).trans rfl; have hcz10_2 : w9.cell? ⟨gb101, 2, none⟩ = some (.int .i64 a0_2) := (blk_cell BK101.out 2).trans rfl; have hcz10_3 : w9.cell? ⟨gb101, 3, none⟩ = some (.int .i64 a0_3) := (blk_cell BK101.out 3).trans rfl; have hfz10_0 := blk_frozen BK101.out 0; have hfz10_1 := blk_frozen BK101.out 1; have hfz10_2 := blk_frozen BK101.out 2; have hfz10_3 := blk_frozen BK101.out 3) | ((with_reducible refine gate_callee (f := 48) rfl ?_); refine goesL_ (some 5) rfl rfl Try.func48 (by kernel_rfl) rfl #[.int .i64 a0_0] rfl (by (try simp only [List.map_toArray, List.map_cons, List.map_nil]); first | done | rfl | (simp only [List.length_drop, List.length_take]; rfl)) ?_; (with_reducible refine (rect_valid.calls a0_0 true _ A2.out).mono ?_); rintro e w' ⟨rfl, ⟨nd, rfl⟩⟩; refine ⟨_, rfl, ?_⟩) | (go_at_call 48; (with_reducible refine (rect_valid.calls a0_1 true _ A4.out).mono ?_); rintro e w' ⟨rfl, ⟨nd, rfl⟩⟩) | (go_at_call 48; (with_reducible refine (rect_valid.calls a0_2 true _ A6.out).mono ?_); rintro e w' ⟨rfl, ⟨nd, rfl⟩⟩) | (go_at_call 48; (with_reducible refine (rect_valid.calls a0_3 t105 _ A8.out).mono ?_); rintro e w' ⟨rfl, ⟨nd, rfl⟩⟩))
        go_ret
        exact ⟨by first | rfl | (simp [errW_none, errW_some] <;> rfl) | (simp [*, errW_none, errW_some] <;> rfl), by repeat (first | (with_reducible first | exact HB.out | apply below_alloc | apply pw_below_drewN | apply below_drew1 | refine below_set ?_ GE101.out) | exact HB.out)⟩
      · replace c7 := Bool.eq_false_iff.mpr c7
        subst c7
        have H1 : (some false) = some r := by rw [if_neg (show ¬ (false = true) by decide)] at H; exact H
        clear H
        have H := H1
        clear H1
        obtain rfl := Option.some.inj H
        go_enter Try.func45, Try.ntmps45
        go_wp2_with (first | ((with_reducible refine gate_dst (N := 1) rfl ?_); refine box_event ?hg (N := 1) ?hd (cs := #[.int .i64 a0_0, .int .i64 a0_1, .int .i64 a0_2, .int .i64 a0_3]) (t := 82) ?hr ?_; (case hd => rfl); (case hg => rfl); (case hr => first | (go_simp; done) | (go_simp; rfl)); intro gb101 hg w11 hbox hb; have n0_ := Aside0.mk (below_step (by repeat (first | (with_reducible first | exact HB.out | apply below_alloc | apply pw_below_drewN | apply below_drew1) | exact HB.out)) hb); have n1_ := Aside0.mk (hbox); have n2_ := Aside0.mk ((by rw [hg]; exact (below_size (by repeat (first | (with_reducible first | exact HB.out | apply below_alloc | apply pw_below_drewN | apply below_drew1) | exact HB.out))) : w.heap.size ≤ gb101)); have n3_ := Aside0.mk ((by rw [hg]; exact (below_size (by repeat (first | (with_reducible first | exact HB.out | apply below_alloc | apply pw_below_drewN | apply below_drew1) | exact HB.out))) : w.heap.size ≤ gb101)); clear HB; have HB := n0_; have BK101 := n1_; have GW101 := n2_; have GE101 := n3_; clear n0_ n1_ n2_ n3_; clear hb hbox hg; have hcz12_0 : w11.cell? ⟨gb101, 0, none⟩ = some (.int .i64 a0_0) := (blk_cell BK101.out 0).trans rfl; have hcz12_1 : w11.cell? ⟨gb101, 1, none⟩ = some (.int .i64 a0_1) := (blk_cell BK101.out 1).trans rfl; have hcz12_2 : w11.cell? ⟨gb101, 2, none⟩ = some (.int .i64 a0_2) := (blk_cell BK101.out 2).trans rfl; have hcz12_3 : w11.cell? ⟨gb101, 3, none⟩ = some (.int .i64 a0_3) := (blk_cell BK101.out 3).trans rfl; have hfz12_0 := blk_frozen BK101.out 0; have hfz12_1 := blk_frozen BK101.out 1; have hfz12_2 := blk_frozen BK101.out 2; have hfz12_3 := blk_frozen BK101.out 3) | ((with_reducible refine gate_callee (f := 48) rfl ?_); refine goesL_ (some 5) rfl rfl Try.func48 (by kernel_rfl) rfl #[.int .i64 a0_0] rfl (by (try simp only [List.map_toArray, List.map_cons, List.map_nil]); first | done | rfl | (simp only [List.length_drop, List.length_take]; rfl)) ?_; (with_reducible refine (rect_valid.calls a0_0 true _ A2.out).mono ?_); rintro e w' ⟨rfl, ⟨nd, rfl⟩⟩; refine ⟨_, rfl, ?_⟩) | (go_at_call 48; (with_reducible refine (rect_valid.calls a0_1 true _ A4.out).mono ?_); rintro e w' ⟨rfl, ⟨nd, rfl⟩⟩) | (go_at_call 48; (with_reducible refine (rect_valid.calls a0_2 false _ A6.out).mono ?_); rintro e w' ⟨rfl, ⟨nd, rfl⟩⟩))
        go_ret
        exact ⟨by first | rfl | (simp [errW_none, errW_some] <;> rfl) | (simp [*, errW_none, errW_some] <;> rfl), by repeat (first | (with_reducible first | exact HB.out | apply below_alloc | apply pw_below_drewN | apply below_drew1 | refine below_set ?_ GE101.out) | exact HB.out)⟩
    · replace c5 := Bool.eq_false_iff.mpr c5
      subst c5
      have H1 : (some false) = some r := by rw [if_neg (show ¬ (false = true) by decide)] at H; exact H
      clear H
      have H := H1
      clear H1
      obtain rfl := Option.some.inj H
      go_enter Try.func45, Try.ntmps45
      go_wp2_with (first | ((with_reducible refine gate_dst (N := 1) rfl ?_); refine box_event ?hg (N := 1) ?hd (cs := #[.int .i64 a0_0, .int .i64 a0_1, .int .i64 a0_2, .int .i64 a0_3]) (t := 82) ?hr ?_; (case hd => rfl); (case hg => rfl); (case hr => first | (go_simp; done) | (go_simp; rfl)); intro gb101 hg w13 hbox hb; have n0_ := Aside0.mk (below_step (by repeat (first | (with_reducible first | exact HB.out | apply below_alloc | apply pw_below_drewN | apply below_drew1) | exact HB.out)) hb); have n1_ := Aside0.mk (hbox); have n2_ := Aside0.mk ((by rw [hg]; exact (below_size (by repeat (first | (with_reducible first | exact HB.out | apply below_alloc | apply pw_below_drewN | apply below_drew1) | exact HB.out))) : w.heap.size ≤ gb101)); have n3_ := Aside0.mk ((by rw [hg]; exact (below_size (by repeat (first | (with_reducible first | exact HB.out | apply below_alloc | apply pw_below_drewN | apply below_drew1) | exact HB.out))) : w.heap.size ≤ gb101)); clear HB; have HB := n0_; have BK101 := n1_; have GW101 := n2_; have GE101 := n3_; clear n0_ n1_ n2_ n3_; clear hb hbox hg; have hcz14_0 : w13.cell? ⟨gb101, 0, none⟩ = some (.int .i64 a0_0) := (blk_cell BK101.out 0).trans rfl; have hcz14_1 : w13.cell? ⟨gb101, 1, none⟩ = some (.int .i64 a0_1) := (blk_cell BK101.out 1).trans rfl; have hcz14_2 : w13.cell? ⟨gb101, 2, none⟩ = some (.int .i64 a0_2) := (blk_cell BK101.out 2).trans rfl; have hcz14_3 : w13.cell? ⟨gb101, 3, none⟩ = some (.int .i64 a0_3) := (blk_cell BK101.out 3).trans rfl; have hfz14_0 := blk_frozen BK101.out 0; have hfz14_1 := blk_frozen BK101.out 1; have hfz14_2 := blk_frozen BK101.out 2; have hfz14_3 := blk_frozen BK101.out 3) | ((with_reducible refine gate_callee (f := 48) rfl ?_); refine goesL_ (some 5) rfl rfl Try.func48 (by kernel_rfl) rfl #[.int .i64 a0_0] rfl (by (try simp only [List.map_toArray, List.map_cons, List.map_nil]); first | done | rfl | (simp only [List.length_drop, List.length_take]; rfl)) ?_; (with_reducible refine (rect_valid.calls a0_0 true _ A2.out).mono ?_); rintro e w' ⟨rfl, ⟨nd, rfl⟩⟩; refine ⟨_, rfl, ?_⟩) | (go_at_call 48; (with_reducible refine (rect_valid.calls a0_1 false _ A4.out).mono ?_); rintro e w' ⟨rfl, ⟨nd, rfl⟩⟩))
      go_ret
      exact ⟨by first | rfl | (simp [errW_none, errW_some] <;> rfl) | (simp [*, errW_none, errW_some] <;> rfl), by repeat (first | (with_reducible first | exact HB.out | apply below_alloc | apply pw_below_drewN | apply below_drew1 | refine below_set ?_ GE101.out) | exact HB.out)⟩
  · replace c3 := Bool.eq_false_iff.mpr c3
    subst c3
    have H1 : (some false) = some r := by rw [if_neg (show ¬ (false = true) by decide)] at H; exact H
    clear H
    have H := H1
    clear H1
    obtain rfl := Option.some.inj H
    go_enter Try.func45, Try.ntmps45
    go_wp2_with (first | ((with_reducible refine gate_dst (N := 1) rfl ?_); refine box_event ?hg (N := 1) ?hd (cs := #[.int .i64 a0_0, .int .i64 a0_1, .int .i64 a0_2, .int .i64 a0_3]) (t := 82) ?hr ?_; (case hd => rfl); (case hg => rfl); (case hr => first | (go_simp; done) | (go_simp; rfl)); intro gb101 hg w15 hbox hb; have n0_ := Aside0.mk (below_step (by repeat (first | (with_reducible first | exact HB.out | apply below_alloc | apply pw_below_drewN | apply below_drew1) | exact HB.out)) hb); have n1_ := Aside0.mk (hbox); have n2_ := Aside0.mk ((by rw [hg]; exact (below_size (by repeat (first | (with_reducible first | exact HB.out | apply below_alloc | apply pw_below_drewN | apply below_drew1) | exact HB.out))) : w.heap.size ≤ gb101)); have n3_ := Aside0.mk ((by rw [hg]; exact (below_size (by repeat (first | (with_reducible first | exact HB.out | apply below_alloc | apply pw_below_drewN | apply below_drew1) | exact HB.out))) : w.heap.size ≤ gb101)); clear HB; have HB := n0_; have BK101 := n1_; have GW101 := n2_; have GE101 := n3_; clear n0_ n1_ n2_ n3_; clear hb hbox hg; have hcz16_0 : w15.cell? ⟨gb101, 0, none⟩ = some (.int .i64 a0_0) := (blk_cell BK101.out 0).trans rfl; have hcz16_1 : w15.cell? ⟨gb101, 1, none⟩ = some (.int .i64 a0_1) := (blk_cell BK101.out 1).trans rfl; have hcz16_2 : w15.cell? ⟨gb101, 2, none⟩ = some (.int .i64 a0_2) := (blk_cell BK101.out 2).trans rfl; have hcz16_3 : w15.cell? ⟨gb101, 3, none⟩ = some (.int .i64 a0_3) := (blk_cell BK101.out 3).trans rfl; have hfz16_0 := blk_frozen BK101.out 0; have hfz16_1 := blk_frozen BK101.out 1; have hfz16_2 := blk_frozen BK101.out 2; have hfz16_3 := blk_frozen BK101.out 3) | ((with_reducible refine gate_callee (f := 48) rfl ?_); refine goesL_ (some 5) rfl rfl Try.func48 (by kernel_rfl) rfl #[.int .i64 a0_0] rfl (by (try simp only [List.map_toArray, List.map_cons, List.map_nil]); first | done | rfl | (simp only [List.length_drop, List.length_take]; rfl)) ?_; (with_reducible refine (rect_valid.calls a0_0 false _ A2.out).mono ?_); rintro e w' ⟨rfl, ⟨nd, rfl⟩⟩; refine ⟨_, rfl, ?_⟩))
    go_ret
    exact ⟨by first | rfl | (simp [errW_none, errW_some] <;> rfl) | (simp [*, errW_none, errW_some] <;> rfl), by repeat (first | (with_reducible first | exact HB.out | apply below_alloc | apply pw_below_drewN | apply below_drew1 | refine below_set ?_ GE101.out) | exact HB.out)⟩
end Go.Proofs.Ytmkhphkkpdiliaa.All
end
section
namespace Go.Proofs.Ytmkhphkkpdiliaa.All
open Go.RowKit Go.Proofs.YtmkhphkkpdiliaaW.PrintWords Go.Proofs.YtmkhphkkpdiliaaW.PrintLast Go.Proofs.YtmkhphkkpdiliaaW.PrintMore
attribute [local go_sem] max2_int min2_int max_two min_two max_three min_three max_four min_four
set_option linter.unusedVariables false
set_option linter.unusedSimpArgs false
def transform_normal.f (a0 : Int) : Option (Int) := (transform_Valid.f a0).bind fun t106 => (if t106 = true then (some a0) else (some 0))
set_option maxHeartbeats 8000000 in
set_option maxRecDepth 100000 in
theorem transform_normal.calls (a0 : Int) (r : Int) (w : World) (h : transform_normal.f a0 = some r) :
    Calls Try.prog 51 #[.int .i64 a0] w fun e w' => e = .returned (.int .i64 r) ∧ Drawn0 w w' := by
  have H : ((transform_Valid.f a0).bind fun t106 => (if t106 = true then (some a0) else (some 0))) = some r := h
  clear h
  replace H := Option.bind_eq_some_iff.mp H
  obtain ⟨t106, A20, H⟩ := H
  replace H : (if t106 = true then (some a0) else (some 0)) = some r := H
  have A2 := Aside0.mk A20
  clear A20
  by_cases c3 : t106 = true
  · subst c3
    have H1 : (some a0) = some r := by rw [if_pos rfl] at H; exact H
    clear H
    have H := H1
    clear H1
    obtain rfl := Option.some.inj H
    go_enter Try.func51, Try.ntmps51
    go_wp2_with (first | ((with_reducible refine gate_callee (f := 44) rfl ?_); refine goesL_ (some 4) rfl rfl Try.func44 (by kernel_rfl) rfl #[.int .i64 a0] rfl (by (try simp only [List.map_toArray, List.map_cons, List.map_nil]); first | done | rfl | (simp only [List.length_drop, List.length_take]; rfl)) ?_; (with_reducible refine (transform_Valid.calls a0 true _ A2.out).mono ?_); rintro e w' ⟨rfl, ⟨nd, rfl⟩⟩; refine ⟨_, rfl, ?_⟩))
    go_ret
    exact ⟨by first | rfl | (simp; done) | (simp [*]; done), by repeat (first | exact Drawn0.refl _ | apply Drawn0.step)⟩
  · replace c3 := Bool.eq_false_iff.mpr c3
    subst c3
    have H1 : (some 0) = some r := by rw [if_neg (show ¬ (false = true) by decide)] at H; exact H
    clear H
    have H := H1
    clear H1
    obtain rfl := Option.some.inj H
    go_enter Try.func51, Try.ntmps51
    go_wp2_with (first | ((with_reducible refine gate_callee (f := 44) rfl ?_); refine goesL_ (some 4) rfl rfl Try.func44 (by kernel_rfl) rfl #[.int .i64 a0] rfl (by (try simp only [List.map_toArray, List.map_cons, List.map_nil]); first | done | rfl | (simp only [List.length_drop, List.length_take]; rfl)) ?_; (with_reducible refine (transform_Valid.calls a0 false _ A2.out).mono ?_); rintro e w' ⟨rfl, ⟨nd, rfl⟩⟩; refine ⟨_, rfl, ?_⟩))
    go_ret
    exact ⟨by first | rfl | (simp; done) | (simp [*]; done), by repeat (first | exact Drawn0.refl _ | apply Drawn0.step)⟩
def transform_Size.f (a0 : Int) (a1 : Int) (a2 : Int) : Option (Int × Int) := (transform_normal.f a0).bind fun t107 => (if (Int.tmod t107 2) = 1 then (some (a2, a1)) else (some (a1, a2)))
set_option maxHeartbeats 8000000 in
set_option maxRecDepth 100000 in
theorem transform_Size.calls (a0 : Int) (a1 : Int) (a2 : Int) (r1 : Int) (r2 : Int) (w : World) (h : transform_Size.f a0 a1 a2 = some (r1, r2)) :
    Calls Try.prog 49 #[.int .i64 a0, .int .i64 a1, .int .i64 a2] w fun e w' => e = .returned (.tuple #[.int .i64 r1, .int .i64 r2]) ∧ Drawn0 w w' := by
  have H : ((transform_normal.f a0).bind fun t107 => (if (Int.tmod t107 2) = 1 then (some (a2, a1)) else (some (a1, a2)))) = some (r1, r2) := h
  clear h
  replace H := Option.bind_eq_some_iff.mp H
  obtain ⟨t107, A40, H⟩ := H
  replace H : (if (Int.tmod t107 2) = 1 then (some (a2, a1)) else (some (a1, a2))) = some (r1, r2) := H
  have A4 := Aside0.mk A40
  clear A40
  by_cases c5 : (Int.tmod t107 2) = 1
  · rw [if_pos c5] at H
    have c5b0 : ((Int.tmod t107 2) == 1) = true := beq_iff_eq.mpr c5
    have c5b1 : ((Int.tmod t107 2) != 1) = false := bne_eq_false_iff_eq.mpr c5
    clear c5
    simp only [Option.some.injEq, Prod.mk.injEq] at H
    obtain ⟨rfl, rfl⟩ := H
    go_enter Try.func49, Try.ntmps49
    go_wp2_with (first | ((with_reducible refine gate_callee (f := 51) rfl ?_); refine goesL_ (some 9) rfl rfl Try.func51 (by kernel_rfl) rfl #[.int .i64 a0] rfl (by (try simp only [List.map_toArray, List.map_cons, List.map_nil]); first | done | rfl | (simp only [List.length_drop, List.length_take]; rfl)) ?_; (with_reducible refine (transform_normal.calls a0 t107 _ A4.out).mono ?_); rintro e w' ⟨rfl, ⟨nd, rfl⟩⟩; refine ⟨_, rfl, ?_⟩))
    go_ret2
    exact ⟨by first | rfl | (simp; done) | (simp [*]; done), by repeat (first | exact Drawn0.refl _ | apply Drawn0.step)⟩
  · rw [if_neg c5] at H
    have c5b0 : ((Int.tmod t107 2) == 1) = false := beq_eq_false_iff_ne.mpr c5
    have c5b1 : ((Int.tmod t107 2) != 1) = true := bne_iff_ne.mpr c5
    simp only [Option.some.injEq, Prod.mk.injEq] at H
    obtain ⟨rfl, rfl⟩ := H
    go_enter Try.func49, Try.ntmps49
    go_wp2_with (first | ((with_reducible refine gate_callee (f := 51) rfl ?_); refine goesL_ (some 9) rfl rfl Try.func51 (by kernel_rfl) rfl #[.int .i64 a0] rfl (by (try simp only [List.map_toArray, List.map_cons, List.map_nil]); first | done | rfl | (simp only [List.length_drop, List.length_take]; rfl)) ?_; (with_reducible refine (transform_normal.calls a0 t107 _ A4.out).mono ?_); rintro e w' ⟨rfl, ⟨nd, rfl⟩⟩; refine ⟨_, rfl, ?_⟩))
    go_ret2
    exact ⟨by first | rfl | (simp; done) | (simp [*]; done), by repeat (first | exact Drawn0.refl _ | apply Drawn0.step)⟩
end Go.Proofs.Ytmkhphkkpdiliaa.All
end
section
namespace Go.Proofs.Ytmkhphkkpdiliaa.All
open Go.Proofs.YtmkhphkkpdiliaaSq
open Go.RowKit Go.Proofs.YtmkhphkkpdiliaaW.PrintWords Go.Proofs.YtmkhphkkpdiliaaW.PrintLast Go.Proofs.YtmkhphkkpdiliaaW.PrintMore
attribute [local go_sem] max2_int min2_int max_two min_two max_three min_three max_four min_four
set_option linter.unusedVariables false
set_option linter.unusedSimpArgs false
abbrev zq46.q0 : Array Bool := #[false, false, false, false, false, false, false, false, false, false, false, false, false, false, false, false, false, false, false, false]
abbrev zq46.q1 : Array Bool := #[true, false, false, false, false, false, false, false, false, false, false, false, false, false, false, false, false, false, false, false]
abbrev zq46.q2 : Array Bool := #[true, false, true, false, false, false, false, false, false, false, false, false, false, false, false, false, false, false, false, false]
abbrev zq46.q3 : Array Bool := #[true, false, true, false, true, false, false, false, false, false, false, false, false, false, false, false, false, false, false, false]
abbrev zq46.q4 : Array Bool := #[true, false, true, false, true, false, true, false, false, false, false, false, false, false, false, false, false, false, false, false]
abbrev zq46.q5 : Array Bool := #[true, false, true, false, true, false, true, true, false, false, false, false, false, false, false, false, false, false, false, false]
abbrev zq46.q6 : Array Bool := #[true, false, true, false, true, false, true, true, false, false, false, true, false, false, false, false, false, false, false, false]
abbrev zq46.q7 : Array Bool := #[true, false, true, false, true, false, true, true, false, false, false, true, false, true, false, false, false, false, false, false]
abbrev zq46.q8 : Array Bool := #[true, false, true, false, true, false, true, true, false, false, false, true, false, true, true, false, false, false, false, false]
abbrev zq46.q9 : Array Bool := #[true, true, true, false, true, false, true, true, false, false, false, true, false, true, true, false, false, false, false, false]
abbrev zq46.q10 : Array Bool := #[true, true, true, true, true, false, true, true, false, false, false, true, false, true, true, false, false, false, false, false]
abbrev zq46.q11 : Array Bool := #[true, true, true, true, true, true, true, true, false, false, false, true, false, true, true, false, false, false, false, false]
abbrev zq46.q12 : Array Bool := #[true, true, true, true, true, true, true, true, true, false, false, true, false, true, true, false, false, false, false, false]
abbrev zq46.q13 : Array Bool := #[true, true, true, true, true, true, true, true, true, true, false, true, false, true, true, false, false, false, false, false]
abbrev zq46.q14 : Array Bool := #[true, true, true, true, true, true, true, true, true, true, true, true, false, true, true, false, false, false, false, false]
abbrev zq46.q15 : Array Bool := #[true, true, true, true, true, true, true, true, true, true, true, true, true, true, true, false, false, false, false, false]
abbrev zq46.q16 : Array Bool := #[true, true, true, true, true, true, true, true, true, true, true, true, true, true, true, true, false, false, false, false]
abbrev zq46.q17 : Array Bool := #[true, true, true, true, true, true, true, true, true, true, true, true, true, true, true, true, true, false, false, false]
abbrev zq46.q18 : Array Bool := #[true, true, true, true, true, true, true, true, true, true, true, true, true, true, true, true, true, true, false, false]
abbrev zq46.q19 : Array Bool := #[true, true, true, true, true, true, true, true, true, true, true, true, true, true, true, true, true, true, true, false]
abbrev zq46.q20 : Array Bool := #[true, true, true, true, true, true, true, true, true, true, true, true, true, true, true, true, true, true, true, true]
def output_logical.f (a0_0 : ByteArray) (a0_1 : Int) (a0_2 : Int) (a0_3 : Int) (a0_4 : Int) (a0_5 : Int) (a0_6 : Int) (a0_7 : Int) : Option (Int × Int × Int × Int) := (transform_Size.f a0_5 a0_1 a0_2).bind fun bt110 => (if a0_4 = 0 then (none) else (some (a0_6, a0_7, wrap64 (a0_6 + (wrap64 (Int.tdiv bt110.1 a0_4))), wrap64 (a0_7 + (wrap64 (Int.tdiv bt110.2 a0_4))))))
def output_logical.T2 : Bool × List (List Nat × List Nat) := (true, [([], []), ([0], [0]), ([], []), ([2], [2]), ([], []), ([4], [4]), ([], []), ([], []), ([7], [7]), ([6, 8], [6, 8]), ([5, 9], [5, 9]), ([], []), ([11], [11]), ([], []), ([], []), ([14], [14]), ([13, 15], [13, 15]), ([12, 16], [12, 16]), ([1, 3, 10, 17], [1, 3, 10, 17]), ([18, 0, 1, 2, 3, 4, 5, 6, 7, 8, 9, 10, 11, 12, 13, 14, 15, 16, 17, 18], [18])])
def output_logical.B2 : List Nat := [0, 1, 0, 4, 0, 16, 0, 0, 128, 448, 1008, 0, 2048, 0, 0, 16384, 57344, 129024, 262143, 524287]
theorem output_logical.tab2 : rtab .any (opsOf Try.f46 2) = output_logical.T2 := by kernel_rfl
theorem output_logical.bits2 : waitsOk output_logical.T2.2 output_logical.B2 = true := by kernel_rfl
set_option maxHeartbeats 8000000 in
set_option maxRecDepth 100000 in
theorem output_logical.calls (a0_0 : ByteArray) (a0_1 : Int) (a0_2 : Int) (a0_3 : Int) (a0_4 : Int) (a0_5 : Int) (a0_6 : Int) (a0_7 : Int) (r1 : Int) (r2 : Int) (r3 : Int) (r4 : Int) (w : World) (h : output_logical.f a0_0 a0_1 a0_2 a0_3 a0_4 a0_5 a0_6 a0_7 = some (r1, r2, r3, r4)) :
    Calls Try.prog 46 #[.agg #[.string a0_0, .int .i64 a0_1, .int .i64 a0_2, .int .i64 a0_3, .int .i64 a0_4, .int .i64 a0_5, .int .i64 a0_6, .int .i64 a0_7]] w fun e w' => e = .returned (.agg #[.int .i64 r1, .int .i64 r2, .int .i64 r3, .int .i64 r4]) ∧ Below w.heap.size w w' := by
  have hu23 := Try.underlying23
  have hu82 := Try.underlying82
  have HB := Aside0.mk (Below.refl w.heap.size w)
  have H : ((transform_Size.f a0_5 a0_1 a0_2).bind fun bt110 => (if a0_4 = 0 then (none) else (some (a0_6, a0_7, wrap64 (a0_6 + (wrap64 (Int.tdiv bt110.1 a0_4))), wrap64 (a0_7 + (wrap64 (Int.tdiv bt110.2 a0_4))))))) = some (r1, r2, r3, r4) := h
  clear h
  replace H := Option.bind_eq_some_iff.mp H
  obtain ⟨⟨t110, t111⟩, A20, H⟩ := H
  replace H : (if a0_4 = 0 then (none) else (some (a0_6, a0_7, wrap64 (a0_6 + (wrap64 (Int.tdiv t110 a0_4))), wrap64 (a0_7 + (wrap64 (Int.tdiv t111 a0_4)))))) = some (r1, r2, r3, r4) := H
  have A2 := Aside0.mk A20
  clear A20
  by_cases c3 : a0_4 = 0
  · rw [if_pos c3] at H
    exact absurd H (by simp)
  · rw [if_neg c3] at H
    have c3b0 : (a0_4 == 0) = false := beq_eq_false_iff_ne.mpr c3
    have c3b1 : (a0_4 != 0) = true := bne_iff_ne.mpr c3
    simp only [Option.some.injEq, Prod.mk.injEq] at H
    obtain ⟨rfl, rfl, rfl, rfl⟩ := H
    go_enter Try.func46, Try.ntmps46
    try go_wp2_with (first | ((with_reducible refine gate_dst (N := 1) rfl ?_); refine box_event ?hg (N := 1) ?hd (cs := #[.string a0_0, .int .i64 a0_1, .int .i64 a0_2, .int .i64 a0_3, .int .i64 a0_4, .int .i64 a0_5, .int .i64 a0_6, .int .i64 a0_7]) (t := 23) ?hr ?_; (case hd => rfl); (case hg => rfl); (case hr => first | (go_simp; done) | (go_simp; rfl)); intro gb108 hg w4 hbox hb; have n0_ := Aside0.mk (below_step (by repeat (first | (with_reducible first | exact HB.out | apply below_alloc | apply pw_below_drewN | apply below_drew1) | exact HB.out)) hb); have n1_ := Aside0.mk (hbox); have n2_ := Aside0.mk ((by rw [hg]; exact (below_size (by repeat (first | (with_reducible first | exact HB.out | apply below_alloc | apply pw_below_drewN | apply below_drew1) | exact HB.out))) : w.heap.size ≤ gb108)); have n3_ := Aside0.mk ((by rw [hg]; exact (below_size (by repeat (first | (with_reducible first | exact HB.out | apply below_alloc | apply pw_below_drewN | apply below_drew1) | exact HB.out))) : w.heap.size ≤ gb108)); clear HB; have HB := n0_; have BK108 := n1_; have GW108 := n2_; have GE108 := n3_; clear n0_ n1_ n2_ n3_; clear hb hbox hg) | ((with_reducible refine gate_dst (N := 2) rfl ?_); refine box_event ?hg (N := 2) ?hd (cs := #[.int .i64 0, .int .i64 0, .int .i64 0, .int .i64 0]) (t := 82) ?hr ?_; (case hd => rfl); (case hg => rfl); (case hr => first | (go_simp; done) | (go_simp; rfl)); intro gb109 hg w5 hbox hb; have n0_ := Aside0.mk (blk_below (g := gb108) (o := .cells #[.string a0_0, .int .i64 a0_1, .int .i64 a0_2, .int .i64 a0_3, .int .i64 a0_4, .int .i64 a0_5, .int .i64 a0_6, .int .i64 a0_7] 23 (0, 0)) (by (with_reducible repeat (first | refine blk_drewN ?_ _ | refine blk_drew ?_ | refine blk_alloc ?_ _)); exact BK108.out) hb); have n1_ := Aside0.mk (below_step (by repeat (first | (with_reducible first | exact HB.out | apply below_alloc | apply pw_below_drewN | apply below_drew1 | refine below_set ?_ GE108.out) | exact HB.out)) hb); have n2_ := Aside0.mk (hbox); have n3_ := Aside0.mk ((by rw [hg]; exact (below_size (by repeat (first | (with_reducible first | exact HB.out | apply below_alloc | apply pw_below_drewN | apply below_drew1 | refine below_set ?_ GE108.out) | exact HB.out))) : w.heap.size ≤ gb109)); have n4_ := Aside0.mk ((by rw [hg]; exact (below_size (by repeat (first | (with_reducible first | exact HB.out | apply below_alloc | apply pw_below_drewN | apply below_drew1 | refine below_set ?_ GE108.out) | exact HB.out))) : w.heap.size ≤ gb109)); have n5_ := Aside0.mk ((by rw [hg]; exact Nat.ne_of_lt (blk_lt (g := gb108) (o := .cells #[.string a0_0, .int .i64 a0_1, .int .i64 a0_2, .int .i64 a0_3, .int .i64 a0_4, .int .i64 a0_5, .int .i64 a0_6, .int .i64 a0_7] 23 (0, 0)) (by (with_reducible repeat (first | refine blk_drewN ?_ _ | refine blk_drew ?_ | refine blk_alloc ?_ _)); exact BK108.out)) : gb108 ≠ gb109)); have n6_ := Aside0.mk ((by rw [hg]; exact Nat.ne_of_gt (blk_lt (g := gb108) (o := .cells #[.string a0_0, .int .i64 a0_1, .int .i64 a0_2, .int .i64 a0_3, .int .i64 a0_4, .int .i64 a0_5, .int .i64 a0_6, .int .i64 a0_7] 23 (0, 0)) (by (with_reducible repeat (first | refine blk_drewN ?_ _ | refine blk_drew ?_ | refine blk_alloc ?_ _)); exact BK108.out)) : gb109 ≠ gb108)); clear BK108; clear HB; have BK108 := n0_; have HB := n1_; have BK109 := n2_; have GW109 := n3_; have GE109 := n4_; have NB108_109 := n5_; have NB109_108 := n6_; clear n0_ n1_ n2_ n3_ n4_ n5_ n6_; clear hb hbox hg; have hnb6 := NB108_109.out; have hnc6 := NB109_108.out; have hcz7_0 : w5.cell? ⟨gb108, 0, none⟩ = some (.string a0_0) := (blk_cell BK108.out 0).trans rfl; have hcz7_1 : w5.cell? ⟨gb108, 1, none⟩ = some (.int .i64 a0_1) := (blk_cell BK108.out 1).trans rfl; have hcz7_2 : w5.cell? ⟨gb108, 2, none⟩ = some (.int .i64 a0_2) := (blk_cell BK108.out 2).trans rfl; have hcz7_3 : w5.cell? ⟨gb108, 3, none⟩ = some (.int .i64 a0_3) := (blk_cell BK108.out 3).trans rfl; have hcz7_4 : w5.cell? ⟨gb108, 4, none⟩ = some (.int .i64 a0_4) := (blk_cell BK108.out 4).trans rfl; have hcz7_5 : w5.cell? ⟨gb108, 5, none⟩ = some (.int .i64 a0_5) := (blk_cell BK108.out 5).trans rfl; have hcz7_6 : w5.cell? ⟨gb108, 6, none⟩ = some (.int .i64 a0_6) := (blk_cell BK108.out 6).trans rfl; have hcz7_7 : w5.cell? ⟨gb108, 7, none⟩ = some (.int .i64 a0_7) := (blk_cell BK108.out 7).trans rfl; have hfz7_0 := blk_frozen BK108.out 0; have hfz7_1 := blk_frozen BK108.out 1; have hfz7_2 := blk_frozen BK108.out 2; have hfz7_3 := blk_frozen BK108.out 3; have hfz7_4 := blk_frozen BK108.out 4; have hfz7_5 := blk_frozen BK108.out 5; have hfz7_6 := blk_frozen BK108.out 6; have hfz7_7 := blk_frozen BK108.out 7) | ((with_reducible refine gate_callee (f := 49) rfl ?_); refine goesL_ (some 12) rfl rfl Try.func49 (by kernel_rfl) rfl #[.int .i64 a0_5, .int .i64 a0_1, .int .i64 a0_2] rfl (by (try simp only [List.map_toArray, List.map_cons, List.map_nil]); first | done | rfl | (simp only [List.length_drop, List.length_take]; rfl)) ?_; (with_reducible refine (transform_Size.calls a0_5 a0_1 a0_2 t110 t111 _ A2.out).mono ?_); rintro e w' ⟨rfl, ⟨nd, rfl⟩⟩; refine ⟨_, rfl, ?_⟩; (try (rw [drewN_self w5]; generalize hq_ : World.drewN w5 _ = w5; have n0_ : Aside0 (w5.heap[gb108]? = some (.cells #[.string a0_0, .int .i64 a0_1, .int .i64 a0_2, .int .i64 a0_3, .int .i64 a0_4, .int .i64 a0_5, .int .i64 a0_6, .int .i64 a0_7] 23 (0, 0))) := ⟨by rw [← hq_]; exact (by (with_reducible repeat (first | refine blk_drewN ?_ _ | refine blk_drew ?_ | refine blk_alloc ?_ _)); exact BK108.out)⟩; have n1_ : Aside0 (w5.heap[gb109]? = some (.cells #[.int .i64 0, .int .i64 0, .int .i64 0, .int .i64 0] 82 (0, 0))) := ⟨by rw [← hq_]; exact (by (with_reducible repeat (first | refine blk_drewN ?_ _ | refine blk_drew ?_ | refine blk_alloc ?_ _)); exact BK109.out)⟩; have n2_ : Aside0 (Below w.heap.size w w5) := ⟨by rw [← hq_]; exact (by repeat (first | (with_reducible first | exact HB.out | apply below_alloc | apply pw_below_drewN | apply below_drew1 | refine below_set ?_ GE108.out | refine below_set ?_ GE109.out) | exact HB.out))⟩; clear BK108 BK109 HB hq_; have BK108 := n0_; have BK109 := n1_; have HB := n2_; clear n0_ n1_ n2_; have hcy0_0 : w5.cell? ⟨gb108, 0, none⟩ = some (.string a0_0) := (blk_cell BK108.out 0).trans rfl; have hfy0_0 := blk_frozen BK108.out 0; have hcy0_1 : w5.cell? ⟨gb108, 1, none⟩ = some (.int .i64 a0_1) := (blk_cell BK108.out 1).trans rfl; have hfy0_1 := blk_frozen BK108.out 1; have hcy0_2 : w5.cell? ⟨gb108, 2, none⟩ = some (.int .i64 a0_2) := (blk_cell BK108.out 2).trans rfl; have hfy0_2 := blk_frozen BK108.out 2; have hcy0_3 : w5.cell? ⟨gb108, 3, none⟩ = some (.int .i64 a0_3) := (blk_cell BK108.out 3).trans rfl; have hfy0_3 := blk_frozen BK108.out 3; have hcy0_4 : w5.cell? ⟨gb108, 4, none⟩ = some (.int .i64 a0_4) := (blk_cell BK108.out 4).trans rfl; have hfy0_4 := blk_frozen BK108.out 4; have hcy0_5 : w5.cell? ⟨gb108, 5, none⟩ = some (.int .i64 a0_5) := (blk_cell BK108.out 5).trans rfl; have hfy0_5 := blk_frozen BK108.out 5; have hcy0_6 : w5.cell? ⟨gb108, 6, none⟩ = some (.int .i64 a0_6) := (blk_cell BK108.out 6).trans rfl; have hfy0_6 := blk_frozen BK108.out 6; have hcy0_7 : w5.cell? ⟨gb108, 7, none⟩ = some (.int .i64 a0_7) := (blk_cell BK108.out 7).trans rfl; have hfy0_7 := blk_frozen BK108.out 7; have hcy1_0 : w5.cell? ⟨gb109, 0, none⟩ = some (.int .i64 0) := (blk_cell BK109.out 0).trans rfl; have hfy1_0 := blk_frozen BK109.out 0; have hcy1_1 : w5.cell? ⟨gb109, 1, none⟩ = some (.int .i64 0) := (blk_cell BK109.out 1).trans rfl; have hfy1_1 := blk_frozen BK109.out 1; have hcy1_2 : w5.cell? ⟨gb109, 2, none⟩ = some (.int .i64 0) := (blk_cell BK109.out 2).trans rfl; have hfy1_2 := blk_frozen BK109.out 2; have hcy1_3 : w5.cell? ⟨gb109, 3, none⟩ = some (.int .i64 0) := (blk_cell BK109.out 3).trans rfl; have hfy1_3 := blk_frozen BK109.out 3))))
    have n0_ := Aside0.mk (blk_drew BK108.out)
    have n1_ := Aside0.mk (blk_drew BK109.out)
    have n2_ := Aside0.mk (below_drew1 HB.out)
    clear BK108
    clear BK109
    clear HB
    have BK108 := n0_
    have BK109 := n1_
    have HB := n2_
    clear n0_ n1_ n2_
    refine start_ (n := 20) (S := fun w' => w'.cell? ⟨gb108, 0, none⟩ = some (.string a0_0) ∧ w'.cell? ⟨gb108, 1, none⟩ = some (.int .i64 a0_1) ∧ w'.cell? ⟨gb108, 2, none⟩ = some (.int .i64 a0_2) ∧ w'.cell? ⟨gb108, 3, none⟩ = some (.int .i64 a0_3) ∧ w'.cell? ⟨gb108, 4, none⟩ = some (.int .i64 a0_4) ∧ w'.cell? ⟨gb108, 5, none⟩ = some (.int .i64 a0_5) ∧ w'.cell? ⟨gb108, 6, none⟩ = some (.int .i64 a0_6) ∧ w'.cell? ⟨gb108, 7, none⟩ = some (.int .i64 a0_7)) (ds := []) zq46.q0 (by kernel_rfl) rfl rfl ⟨(blk_cell BK108.out 0).trans rfl, (blk_cell BK108.out 1).trans rfl, (blk_cell BK108.out 2).trans rfl, (blk_cell BK108.out 3).trans rfl, (blk_cell BK108.out 4).trans rfl, (blk_cell BK108.out 5).trans rfl, (blk_cell BK108.out 6).trans rfl, (blk_cell BK108.out 7).trans rfl⟩ (fun hHeld => ?_); refine with_tabW output_logical.tab2 output_logical.bits2 (fun HT_ HW_ => ?_)
    generalize w5.drew = w8 at BK108 BK109 HB hHeld ⊢
    refine pure_ (i := 0) (N := some 15) (v := ?_) (a' := ?_) zq46.q1 rfl rfl (any_of HT_.out (by kernel_rfl)) (fun _ _ _ h => h) (Or.inl ⟨by rfl, ?_⟩) ?_ ?_
    rotate_left
    · intro w'
      go_simp
      with_reducible rfl
    rotate_left
    · simp only [Act.put, List.setIfInBounds_toArray, List.set_cons_zero, List.set_cons_succ, i64_w, i32_w]
      rfl
    refine pure_ (i := 2) (N := some 17) (v := ?_) (a' := ?_) zq46.q2 rfl rfl (any_of HT_.out (by kernel_rfl)) (fun _ _ _ h => h) (Or.inl ⟨by rfl, ?_⟩) ?_ ?_
    rotate_left
    · intro w'
      go_simp
      with_reducible rfl
    rotate_left
    · simp only [Act.put, List.setIfInBounds_toArray, List.set_cons_zero, List.set_cons_succ, i64_w, i32_w]
      rfl
    refine pure_ (i := 4) (N := some 19) (v := ?_) (a' := ?_) zq46.q3 rfl rfl (any_of HT_.out (by kernel_rfl)) (fun _ _ _ h => h) (Or.inl ⟨by rfl, ?_⟩) ?_ ?_
    rotate_left
    · intro w'
      go_simp
      with_reducible rfl
    rotate_left
    · simp only [Act.put, List.setIfInBounds_toArray, List.set_cons_zero, List.set_cons_succ, i64_w, i32_w]
      rfl
    refine pure_ (i := 6) (N := some 21) (v := ?_) (a' := ?_) zq46.q4 rfl rfl (any_of HT_.out (by kernel_rfl)) (fun _ _ _ h => h) (Or.inl ⟨by rfl, ?_⟩) ?_ ?_
    rotate_left
    · intro w'
      go_simp
      with_reducible rfl
    rotate_left
    · simp only [Act.put, List.setIfInBounds_toArray, List.set_cons_zero, List.set_cons_succ, i64_w, i32_w]
      rfl
    refine pure_ (i := 7) (N := some 22) (v := ?_) (a' := ?_) zq46.q5 rfl rfl (any_of HT_.out (by kernel_rfl)) (fun _ _ _ h => h) (Or.inl ⟨by rfl, ?_⟩) ?_ ?_
    rotate_left
    · intro w'
      go_simp
      with_reducible rfl
    rotate_left
    · simp only [Act.put, List.setIfInBounds_toArray, List.set_cons_zero, List.set_cons_succ, i64_w, i32_w]
      rfl
    refine pure_ (i := 11) (N := some 26) (v := ?_) (a' := ?_) zq46.q6 rfl rfl (any_of HT_.out (by kernel_rfl)) (fun _ _ _ h => h) (Or.inl ⟨by rfl, ?_⟩) ?_ ?_
    rotate_left
    · intro w'
      go_simp
      with_reducible rfl
    rotate_left
    · simp only [Act.put, List.setIfInBounds_toArray, List.set_cons_zero, List.set_cons_succ, i64_w, i32_w]
      rfl
    refine pure_ (i := 13) (N := some 28) (v := ?_) (a' := ?_) zq46.q7 rfl rfl (any_of HT_.out (by kernel_rfl)) (fun _ _ _ h => h) (Or.inl ⟨by rfl, ?_⟩) ?_ ?_
    rotate_left
    · intro w'
      go_simp
      with_reducible rfl
    rotate_left
    · simp only [Act.put, List.setIfInBounds_toArray, List.set_cons_zero, List.set_cons_succ, i64_w, i32_w]
      rfl
    refine pure_ (i := 14) (N := some 29) (v := ?_) (a' := ?_) zq46.q8 rfl rfl (any_of HT_.out (by kernel_rfl)) (fun _ _ _ h => h) (Or.inl ⟨by rfl, ?_⟩) ?_ ?_
    rotate_left
    · intro w'
      go_simp
      with_reducible rfl
    rotate_left
    · simp only [Act.put, List.setIfInBounds_toArray, List.set_cons_zero, List.set_cons_succ, i64_w, i32_w]
      rfl
    refine take_ (i := 1) (N := some 16) (v := ?_) (a' := ?_) zq46.q9 rfl rfl (take_ofW HT_.out HW_.out (by kernel_rfl)) (fun _ _ _ h => h) (Or.inl ⟨by rfl, ?_⟩) hHeld ?_ ?_
    rotate_left
    · rintro w' ⟨s0, s1, s2, s3, s4, s5, s6, s7⟩
      go_simp
      with_reducible rfl
    rotate_left
    · simp only [Act.put, List.setIfInBounds_toArray, List.set_cons_zero, List.set_cons_succ, i64_w, i32_w]
      rfl
    refine take_ (i := 3) (N := some 18) (v := ?_) (a' := ?_) zq46.q10 rfl rfl (take_ofW HT_.out HW_.out (by kernel_rfl)) (fun _ _ _ h => h) (Or.inl ⟨by rfl, ?_⟩) hHeld ?_ ?_
    rotate_left
    · rintro w' ⟨s0, s1, s2, s3, s4, s5, s6, s7⟩
      go_simp
      with_reducible rfl
    rotate_left
    · simp only [Act.put, List.setIfInBounds_toArray, List.set_cons_zero, List.set_cons_succ, i64_w, i32_w]
      rfl
    refine take_ (i := 5) (N := some 20) (v := ?_) (a' := ?_) zq46.q11 rfl rfl (take_ofW HT_.out HW_.out (by kernel_rfl)) (fun _ _ _ h => h) (Or.inl ⟨by rfl, ?_⟩) hHeld ?_ ?_
    rotate_left
    · rintro w' ⟨s0, s1, s2, s3, s4, s5, s6, s7⟩
      go_simp
      with_reducible rfl
    rotate_left
    · simp only [Act.put, List.setIfInBounds_toArray, List.set_cons_zero, List.set_cons_succ, i64_w, i32_w]
      rfl
    refine take_ (i := 8) (N := some 23) (v := ?_) (a' := ?_) zq46.q12 rfl rfl (take_ofW HT_.out HW_.out (by kernel_rfl)) (fun _ _ _ h => h) (Or.inl ⟨by rfl, ?_⟩) hHeld ?_ ?_
    rotate_left
    · rintro w' ⟨s0, s1, s2, s3, s4, s5, s6, s7⟩
      go_simp
      with_reducible rfl
    rotate_left
    · simp only [Act.put, List.setIfInBounds_toArray, List.set_cons_zero, List.set_cons_succ, i64_w, i32_w]
      rfl
    refine pure_ (i := 9) (N := some 24) (v := ?_) (a' := ?_) zq46.q13 rfl rfl (any_of HT_.out (by kernel_rfl)) (fun _ _ _ h => h) (Or.inl ⟨by rfl, ?_⟩) ?_ ?_
    rotate_left
    · intro w'
      go_simp
      with_reducible rfl
    rotate_left
    · simp only [Act.put, List.setIfInBounds_toArray, List.set_cons_zero, List.set_cons_succ, i64_w, i32_w]
      rfl
    refine pure_ (i := 10) (N := some 25) (v := ?_) (a' := ?_) zq46.q14 rfl rfl (any_of HT_.out (by kernel_rfl)) (fun _ _ _ h => h) (Or.inl ⟨by rfl, ?_⟩) ?_ ?_
    rotate_left
    · intro w'
      go_simp
      with_reducible rfl
    rotate_left
    · simp only [Act.put, List.setIfInBounds_toArray, List.set_cons_zero, List.set_cons_succ, i64_w, i32_w]
      rfl
    refine take_ (i := 12) (N := some 27) (v := ?_) (a' := ?_) zq46.q15 rfl rfl (take_ofW HT_.out HW_.out (by kernel_rfl)) (fun _ _ _ h => h) (Or.inl ⟨by rfl, ?_⟩) hHeld ?_ ?_
    rotate_left
    · rintro w' ⟨s0, s1, s2, s3, s4, s5, s6, s7⟩
      go_simp
      with_reducible rfl
    rotate_left
    · simp only [Act.put, List.setIfInBounds_toArray, List.set_cons_zero, List.set_cons_succ, i64_w, i32_w]
      rfl
    refine take_ (i := 15) (N := some 30) (v := ?_) (a' := ?_) zq46.q16 rfl rfl (take_ofW HT_.out HW_.out (by kernel_rfl)) (fun _ _ _ h => h) (Or.inl ⟨by rfl, ?_⟩) hHeld ?_ ?_
    rotate_left
    · rintro w' ⟨s0, s1, s2, s3, s4, s5, s6, s7⟩
      go_simp
      with_reducible rfl
    rotate_left
    · simp only [Act.put, List.setIfInBounds_toArray, List.set_cons_zero, List.set_cons_succ, i64_w, i32_w]
      rfl
    refine pure_ (i := 16) (N := some 31) (v := ?_) (a' := ?_) zq46.q17 rfl rfl (any_of HT_.out (by kernel_rfl)) (fun _ _ _ h => h) (Or.inl ⟨by rfl, ?_⟩) ?_ ?_
    rotate_left
    · intro w'
      go_simp
      with_reducible rfl
    rotate_left
    · simp only [Act.put, List.setIfInBounds_toArray, List.set_cons_zero, List.set_cons_succ, i64_w, i32_w]
      rfl
    refine pure_ (i := 17) (N := some 32) (v := ?_) (a' := ?_) zq46.q18 rfl rfl (any_of HT_.out (by kernel_rfl)) (fun _ _ _ h => h) (Or.inl ⟨by rfl, ?_⟩) ?_ ?_
    rotate_left
    · intro w'
      go_simp
      with_reducible rfl
    rotate_left
    · simp only [Act.put, List.setIfInBounds_toArray, List.set_cons_zero, List.set_cons_succ, i64_w, i32_w]
      rfl
    refine pure_ (i := 18) (N := some 33) (v := ?_) (a' := ?_) zq46.q19 rfl rfl (any_of HT_.out (by kernel_rfl)) (fun _ _ _ h => h) (Or.inl ⟨by rfl, ?_⟩) ?_ ?_
    rotate_left
    · intro w'
      go_simp
      with_reducible rfl
    rotate_left
    · simp only [Act.put, List.setIfInBounds_toArray, List.set_cons_zero, List.set_cons_succ, i64_w, i32_w]
      rfl
    refine one_ (i := 19) (N := none) zq46.q20 rfl rfl (one_of HT_.out (by kernel_rfl)) (by decide) (fun K hK => ?_)
    have hs9 : w8.cell? ⟨gb109, 0, none⟩ = some (.int .i64 0) := (blk_cell BK109.out 0).trans rfl
    have hfs9 := blk_frozen BK109.out 0
    have hns9_0 := NB108_109.out
    have hms9_0 := NB109_108.out
    have hs10 : w8.cell? ⟨gb109, 1, none⟩ = some (.int .i64 0) := (blk_cell BK109.out 1).trans rfl
    have hfs10 := blk_frozen BK109.out 1
    have hns10_0 := NB108_109.out
    have hms10_0 := NB109_108.out
    have hs11 : w8.cell? ⟨gb109, 2, none⟩ = some (.int .i64 0) := (blk_cell BK109.out 2).trans rfl
    have hfs11 := blk_frozen BK109.out 2
    have hns11_0 := NB108_109.out
    have hms11_0 := NB109_108.out
    have hs12 : w8.cell? ⟨gb109, 3, none⟩ = some (.int .i64 0) := (blk_cell BK109.out 3).trans rfl
    have hfs12 := blk_frozen BK109.out 3
    have hns12_0 := NB108_109.out
    have hms12_0 := NB109_108.out
    refine skip_ (w1 := ?_) (by rfl) rfl ?_ ?_
    rotate_left
    · go_simp
      rfl
    refine hK.out _ _ ⟨((cell_far (p := ⟨gb109, _, none⟩) NB108_109.out _).trans (((cell_far (p := ⟨gb109, _, none⟩) NB108_109.out _).trans (((cell_far (p := ⟨gb109, _, none⟩) NB108_109.out _).trans (((cell_far (p := ⟨gb109, _, none⟩) NB108_109.out _).trans (hHeld.1)))))))), ((cell_far (p := ⟨gb109, _, none⟩) NB108_109.out _).trans (((cell_far (p := ⟨gb109, _, none⟩) NB108_109.out _).trans (((cell_far (p := ⟨gb109, _, none⟩) NB108_109.out _).trans (((cell_far (p := ⟨gb109, _, none⟩) NB108_109.out _).trans (hHeld.2.1)))))))), ((cell_far (p := ⟨gb109, _, none⟩) NB108_109.out _).trans (((cell_far (p := ⟨gb109, _, none⟩) NB108_109.out _).trans (((cell_far (p := ⟨gb109, _, none⟩) NB108_109.out _).trans (((cell_far (p := ⟨gb109, _, none⟩) NB108_109.out _).trans (hHeld.2.2.1)))))))), ((cell_far (p := ⟨gb109, _, none⟩) NB108_109.out _).trans (((cell_far (p := ⟨gb109, _, none⟩) NB108_109.out _).trans (((cell_far (p := ⟨gb109, _, none⟩) NB108_109.out _).trans (((cell_far (p := ⟨gb109, _, none⟩) NB108_109.out _).trans (hHeld.2.2.2.1)))))))), ((cell_far (p := ⟨gb109, _, none⟩) NB108_109.out _).trans (((cell_far (p := ⟨gb109, _, none⟩) NB108_109.out _).trans (((cell_far (p := ⟨gb109, _, none⟩) NB108_109.out _).trans (((cell_far (p := ⟨gb109, _, none⟩) NB108_109.out _).trans (hHeld.2.2.2.2.1)))))))), ((cell_far (p := ⟨gb109, _, none⟩) NB108_109.out _).trans (((cell_far (p := ⟨gb109, _, none⟩) NB108_109.out _).trans (((cell_far (p := ⟨gb109, _, none⟩) NB108_109.out _).trans (((cell_far (p := ⟨gb109, _, none⟩) NB108_109.out _).trans (hHeld.2.2.2.2.2.1)))))))), ((cell_far (p := ⟨gb109, _, none⟩) NB108_109.out _).trans (((cell_far (p := ⟨gb109, _, none⟩) NB108_109.out _).trans (((cell_far (p := ⟨gb109, _, none⟩) NB108_109.out _).trans (((cell_far (p := ⟨gb109, _, none⟩) NB108_109.out _).trans (hHeld.2.2.2.2.2.2.1)))))))), ((cell_far (p := ⟨gb109, _, none⟩) NB108_109.out _).trans (((cell_far (p := ⟨gb109, _, none⟩) NB108_109.out _).trans (((cell_far (p := ⟨gb109, _, none⟩) NB108_109.out _).trans (((cell_far (p := ⟨gb109, _, none⟩) NB108_109.out _).trans (hHeld.2.2.2.2.2.2.2))))))))⟩ (fun hHeld => ?_)
    clear hK K
    refine done_ (done_of HT_.out (by kernel_rfl)) ?_
    try go_wp2
    refine bodyPost_ret (results_cell_row rfl _ _ gb109 82 #[.int .i64 a0_6, .int .i64 a0_7, .int .i64 (wrap64 (a0_6 + (wrap64 (Int.tdiv t110 a0_4)))), .int .i64 (wrap64 (a0_7 + (wrap64 (Int.tdiv t111 a0_4))))] (0, 0) _ rfl (by (with_reducible repeat (first | refine blk_drewN ?_ _ | refine blk_drew ?_ | refine blk_alloc ?_ _)); refine blk_put (cs := #[.int .i64 a0_6, .int .i64 a0_7, .int .i64 (wrap64 (a0_6 + (wrap64 (Int.tdiv t110 a0_4)))), .int .i64 0]) ?_ 3 _ rfl; (with_reducible repeat (first | refine blk_drewN ?_ _ | refine blk_drew ?_ | refine blk_alloc ?_ _)); refine blk_put (cs := #[.int .i64 a0_6, .int .i64 a0_7, .int .i64 0, .int .i64 0]) ?_ 2 _ rfl; (with_reducible repeat (first | refine blk_drewN ?_ _ | refine blk_drew ?_ | refine blk_alloc ?_ _)); refine blk_put (cs := #[.int .i64 a0_6, .int .i64 0, .int .i64 0, .int .i64 0]) ?_ 1 _ rfl; (with_reducible repeat (first | refine blk_drewN ?_ _ | refine blk_drew ?_ | refine blk_alloc ?_ _)); refine blk_put (cs := #[.int .i64 0, .int .i64 0, .int .i64 0, .int .i64 0]) ?_ 0 _ rfl; (with_reducible repeat (first | refine blk_drewN ?_ _ | refine blk_drew ?_ | refine blk_alloc ?_ _)); exact BK109.out) Try.underlying82 rfl (by kernel_rfl)) rfl ?_
    exact ⟨by first | rfl | (simp [errW_none, errW_some] <;> rfl) | (simp [*, errW_none, errW_some] <;> rfl), by repeat (first | (with_reducible first | exact HB.out | apply below_alloc | apply pw_below_drewN | apply below_drew1 | refine below_set ?_ GE108.out | refine below_set ?_ GE109.out) | exact HB.out)⟩
end Go.Proofs.Ytmkhphkkpdiliaa.All
end
section
namespace Go.Proofs.Ytmkhphkkpdiliaa.All
open Go.RowKit Go.Proofs.YtmkhphkkpdiliaaW.PrintWords Go.Proofs.YtmkhphkkpdiliaaW.PrintLast Go.Proofs.YtmkhphkkpdiliaaW.PrintMore
attribute [local go_sem] max2_int min2_int max_two min_two max_three min_three max_four min_four
set_option linter.unusedVariables false
set_option linter.unusedSimpArgs false
section
open Go.Proofs.YtmkhphkkpdiliaaHand Go.Proofs.YtmkhphkkpdiliaaSq
def output_Check.sz (n sc : Int) : Option Bool := if n ≥ 1 then (if n ≤ 256 then (if sc = 0 then none else some (Int.tmod n sc == 0)) else some false) else some false
def output_Check.pl (n : Int) : Option Bool := if n ≥ -16384 then some (decide (n ≤ 16384)) else some false
theorem output_Check.sizes (n : Int) (r : Bool) (gB : Nat) (w : World) (a0_0 : ByteArray) (a0_1 a0_2 a0_3 a0_4 a0_5 a0_6 a0_7 : Int) (hB : w.heap[gB]? = some (.cells #[.string a0_0, .int .i64 a0_1, .int .i64 a0_2, .int .i64 a0_3, .int .i64 a0_4, .int .i64 a0_5, .int .i64 a0_6, .int .i64 a0_7] 23 (0, 0))) (hsc : 1 ≤ a0_4) (h : output_Check.sz n a0_4 = some r) : Calls Try.prog 42 #[.int .i64 n, .pointer (some ⟨gB, 0, none⟩)] w fun e w' => e = .returned (.bool r) ∧ ∃ nd, w' = w.drewN nd := by
  have hu23 := Try.underlying23
  have h4c : w.cell? ⟨gB, 4, none⟩ = some (.int .i64 a0_4) := (blk_cell hB 4).trans rfl
  have h4f := blk_frozen hB 4
  unfold output_Check.sz at h
  by_cases h1 : n ≥ 1
  · rw [if_pos h1] at h
    by_cases h2 : n ≤ 256
    · rw [if_pos h2, if_neg (by omega)] at h
      obtain rfl := Option.some.inj h
      have d1 : decide (1 ≤ n) = true := decide_eq_true h1
      have d2 : decide (n ≤ 256) = true := decide_eq_true h2
      have d3 : ¬ a0_4 = 0 := by omega
      go_enter Try.func42, Try.ntmps42
      go_wp2_with fail
      go_ret
      exact ⟨by first | rfl | (rw [Int.tmod_eq_emod_of_nonneg (by omega)]; rfl), 0, rfl⟩
    · rw [if_neg h2] at h
      obtain rfl := Option.some.inj h
      have d1 : decide (1 ≤ n) = true := decide_eq_true h1
      have d2 : decide (n ≤ 256) = false := decide_eq_false h2
      go_enter Try.func42, Try.ntmps42
      go_wp2_with fail
      go_ret
      exact ⟨rfl, 0, rfl⟩
  · rw [if_neg h1] at h
    obtain rfl := Option.some.inj h
    have d1 : decide (1 ≤ n) = false := decide_eq_false h1
    go_enter Try.func42, Try.ntmps42
    go_wp2_with fail
    go_ret
    exact ⟨rfl, 0, rfl⟩
theorem output_Check.place (n : Int) (r : Bool) (w : World) (h : output_Check.pl n = some r) : Calls Try.prog 43 #[.int .i64 n] w fun e w' => e = .returned (.bool r) ∧ ∃ nd, w' = w.drewN nd := by
  unfold output_Check.pl at h
  by_cases h1 : n ≥ -16384
  · rw [if_pos h1] at h
    obtain rfl := Option.some.inj h
    have d1 : decide (-16384 ≤ n) = true := decide_eq_true h1
    go_enter Try.func43, Try.ntmps43
    go_wp2_with fail
    go_ret
    exact ⟨rfl, 0, rfl⟩
  · rw [if_neg h1] at h
    obtain rfl := Option.some.inj h
    have d1 : decide (-16384 ≤ n) = false := decide_eq_false h1
    go_enter Try.func43, Try.ntmps43
    go_wp2_with fail
    go_ret
    exact ⟨rfl, 0, rfl⟩
theorem toL_nil {s : ByteArray} (h : s.size = 0) : s.toList = [] := by
  rw [ByteArray.toList_eq]
  refine List.length_eq_zero_iff.mp ?_
  rw [Array.length_toList]
  exact h
theorem toL_size {s : ByteArray} (h : s.toList = []) : s.size = 0 := by
  rw [ByteArray.toList_eq] at h
  have := congrArg List.length h
  rw [Array.length_toList] at this
  exact this
theorem le_of_c {a : Int} (h : ¬ a < 1) : 1 ≤ a := by omega
def output_Check.f (a0_0 : ByteArray) (a0_1 a0_2 a0_3 a0_4 a0_5 a0_6 a0_7 : Int) : Option Int := if (a0_0.size : Int) = 0 then some 2 else if (a0_0.size : Int) > 32 then some 2 else (transform_Valid.f a0_5).bind fun v => if v = true then (if a0_4 < 1 then some 2 else if a0_4 > 4 then some 2 else (output_Check.sz a0_1 a0_4).bind fun s1 => if s1 = true then (output_Check.sz a0_2 a0_4).bind fun s2 => if s2 = true then (if a0_3 < 1000 then some 6 else if a0_3 > 240000 then some 6 else (output_Check.pl a0_6).bind fun p1 => if p1 = true then (output_Check.pl a0_7).bind fun p2 => if p2 = true then (output_logical.f a0_0 a0_1 a0_2 a0_3 a0_4 a0_5 a0_6 a0_7).bind fun q => (rect_Valid.f q.1 q.2.1 q.2.2.1 q.2.2.2).bind fun b => if b = true then some 0 else some 6 else some 6 else some 6) else some 6 else some 6) else some 2
set_option maxHeartbeats 8000000 in
set_option maxRecDepth 100000 in
theorem output_Check.calls (a0_0 : ByteArray) (a0_1 a0_2 a0_3 a0_4 a0_5 a0_6 a0_7 : Int) (r : Int) (w : World) (h : output_Check.f a0_0 a0_1 a0_2 a0_3 a0_4 a0_5 a0_6 a0_7 = some r) :
    Calls Try.prog 31 #[.agg #[.string a0_0, .int .i64 a0_1, .int .i64 a0_2, .int .i64 a0_3, .int .i64 a0_4, .int .i64 a0_5, .int .i64 a0_6, .int .i64 a0_7]] w fun e w' => e = .returned (.int .i64 r) ∧ Below w.heap.size w w' := by
  have hu23 := Try.underlying23
  have HB := Aside0.mk (Below.refl w.heap.size w)
  unfold output_Check.f at h
  by_cases c0 : (a0_0.size : Int) = 0
  · rw [if_pos c0] at h
    have q0 : a0_0.toList = [] := toL_nil (by omega)
    have q1 : a0_0.toList.isEmpty = true := by rw [q0]; rfl
    obtain rfl := Option.some.inj h
    go_enter Try.func31, Try.ntmps31
    go_wp2_with (first | ((with_reducible refine gate_dst (N := 1) rfl ?_); refine box_event ?hg (N := 1) ?hd (cs := #[.string a0_0, .int .i64 a0_1, .int .i64 a0_2, .int .i64 a0_3, .int .i64 a0_4, .int .i64 a0_5, .int .i64 a0_6, .int .i64 a0_7]) (t := 23) ?hr ?_; (case hd => rfl); (case hg => rfl); (case hr => first | (go_simp; done) | (go_simp; rfl)); intro gB hg w9 hbox hb; have n0_ := Aside0.mk (below_step (by repeat (first | (with_reducible first | exact HB.out | apply below_alloc | apply pw_below_drewN | apply below_drew1) | exact HB.out)) hb); clear HB; have HB := n0_; clear n0_; have BK := Aside0.mk hbox; clear hb hbox hg; have hcz_0 : w9.cell? ⟨gB, 0, none⟩ = some (.string a0_0) := (blk_cell BK.out 0).trans rfl; have hfz_0 := blk_frozen BK.out 0; have hcz_1 : w9.cell? ⟨gB, 1, none⟩ = some (.int .i64 a0_1) := (blk_cell BK.out 1).trans rfl; have hfz_1 := blk_frozen BK.out 1; have hcz_2 : w9.cell? ⟨gB, 2, none⟩ = some (.int .i64 a0_2) := (blk_cell BK.out 2).trans rfl; have hfz_2 := blk_frozen BK.out 2; have hcz_3 : w9.cell? ⟨gB, 3, none⟩ = some (.int .i64 a0_3) := (blk_cell BK.out 3).trans rfl; have hfz_3 := blk_frozen BK.out 3; have hcz_4 : w9.cell? ⟨gB, 4, none⟩ = some (.int .i64 a0_4) := (blk_cell BK.out 4).trans rfl; have hfz_4 := blk_frozen BK.out 4; have hcz_5 : w9.cell? ⟨gB, 5, none⟩ = some (.int .i64 a0_5) := (blk_cell BK.out 5).trans rfl; have hfz_5 := blk_frozen BK.out 5; have hcz_6 : w9.cell? ⟨gB, 6, none⟩ = some (.int .i64 a0_6) := (blk_cell BK.out 6).trans rfl; have hfz_6 := blk_frozen BK.out 6; have hcz_7 : w9.cell? ⟨gB, 7, none⟩ = some (.int .i64 a0_7) := (blk_cell BK.out 7).trans rfl; have hfz_7 := blk_frozen BK.out 7) | (go_at_call 44; (with_reducible refine (transform_Valid.calls a0_5 _ _ A5.out).mono ?_); rintro e w' ⟨rfl, ⟨nd, rfl⟩⟩) | (go_at_call 42; (with_reducible refine (output_Check.sizes a0_1 _ gB _ a0_0 a0_1 a0_2 a0_3 a0_4 a0_5 a0_6 a0_7 ?hbk hsc.out A1.out).mono ?_); (case hbk => ((with_reducible repeat (first | refine blk_drewN ?_ _ | refine blk_drew ?_ | refine blk_alloc ?_ _)); exact BK.out)); rintro e w' ⟨rfl, ⟨nd, rfl⟩⟩) | (go_at_call 42; (with_reducible refine (output_Check.sizes a0_2 _ gB _ a0_0 a0_1 a0_2 a0_3 a0_4 a0_5 a0_6 a0_7 ?hbk hsc.out A2.out).mono ?_); (case hbk => ((with_reducible repeat (first | refine blk_drewN ?_ _ | refine blk_drew ?_ | refine blk_alloc ?_ _)); exact BK.out)); rintro e w' ⟨rfl, ⟨nd, rfl⟩⟩) | (go_at_call 43; (with_reducible refine (output_Check.place a0_6 _ _ A6.out).mono ?_); rintro e w' ⟨rfl, ⟨nd, rfl⟩⟩) | (go_at_call 43; (with_reducible refine (output_Check.place a0_7 _ _ A7.out).mono ?_); rintro e w' ⟨rfl, ⟨nd, rfl⟩⟩) | (go_at_call 46; (with_reducible refine (output_logical.calls a0_0 a0_1 a0_2 a0_3 a0_4 a0_5 a0_6 a0_7 _ _ _ _ _ AL.out).mono ?_); rintro e w10 ⟨rfl, hb⟩; have n0_ := Aside0.mk (below_step (by repeat (first | (with_reducible first | exact HB.out | apply below_alloc | apply pw_below_drewN | apply below_drew1) | exact HB.out)) hb); clear HB; have HB := n0_; clear n0_ hb) | (go_at_call 45; (with_reducible refine (rect_Valid.calls _ _ _ _ _ _ AR.out).mono ?_); rintro e w11 ⟨rfl, hb⟩; have n0_ := Aside0.mk (below_step (by repeat (first | (with_reducible first | exact HB.out | apply below_alloc | apply pw_below_drewN | apply below_drew1) | exact HB.out)) hb); clear HB; have HB := n0_; clear n0_ hb))
    go_ret
    exact ⟨rfl, (by repeat (first | (with_reducible first | exact HB.out | apply below_alloc | apply pw_below_drewN | apply below_drew1) | exact HB.out))⟩
  · rw [if_neg c0] at h
    have q0 : ¬ a0_0.toList = [] := fun e => c0 (by rw [toL_size e]; rfl)
    have q1 : a0_0.toList.isEmpty = false := by rw [Bool.eq_false_iff]; simpa using q0
    by_cases c1 : (a0_0.size : Int) > 32
    · rw [if_pos c1] at h
      have d1 : decide (32 < (a0_0.size : Int)) = true := decide_eq_true c1
      have d1' : decide (32 < a0_0.size) = true := decide_eq_true (by omega)
      obtain rfl := Option.some.inj h
      go_enter Try.func31, Try.ntmps31
      go_wp2_with (first | ((with_reducible refine gate_dst (N := 1) rfl ?_); refine box_event ?hg (N := 1) ?hd (cs := #[.string a0_0, .int .i64 a0_1, .int .i64 a0_2, .int .i64 a0_3, .int .i64 a0_4, .int .i64 a0_5, .int .i64 a0_6, .int .i64 a0_7]) (t := 23) ?hr ?_; (case hd => rfl); (case hg => rfl); (case hr => first | (go_simp; done) | (go_simp; rfl)); intro gB hg w9 hbox hb; have n0_ := Aside0.mk (below_step (by repeat (first | (with_reducible first | exact HB.out | apply below_alloc | apply pw_below_drewN | apply below_drew1) | exact HB.out)) hb); clear HB; have HB := n0_; clear n0_; have BK := Aside0.mk hbox; clear hb hbox hg; have hcz_0 : w9.cell? ⟨gB, 0, none⟩ = some (.string a0_0) := (blk_cell BK.out 0).trans rfl; have hfz_0 := blk_frozen BK.out 0; have hcz_1 : w9.cell? ⟨gB, 1, none⟩ = some (.int .i64 a0_1) := (blk_cell BK.out 1).trans rfl; have hfz_1 := blk_frozen BK.out 1; have hcz_2 : w9.cell? ⟨gB, 2, none⟩ = some (.int .i64 a0_2) := (blk_cell BK.out 2).trans rfl; have hfz_2 := blk_frozen BK.out 2; have hcz_3 : w9.cell? ⟨gB, 3, none⟩ = some (.int .i64 a0_3) := (blk_cell BK.out 3).trans rfl; have hfz_3 := blk_frozen BK.out 3; have hcz_4 : w9.cell? ⟨gB, 4, none⟩ = some (.int .i64 a0_4) := (blk_cell BK.out 4).trans rfl; have hfz_4 := blk_frozen BK.out 4; have hcz_5 : w9.cell? ⟨gB, 5, none⟩ = some (.int .i64 a0_5) := (blk_cell BK.out 5).trans rfl; have hfz_5 := blk_frozen BK.out 5; have hcz_6 : w9.cell? ⟨gB, 6, none⟩ = some (.int .i64 a0_6) := (blk_cell BK.out 6).trans rfl; have hfz_6 := blk_frozen BK.out 6; have hcz_7 : w9.cell? ⟨gB, 7, none⟩ = some (.int .i64 a0_7) := (blk_cell BK.out 7).trans rfl; have hfz_7 := blk_frozen BK.out 7) | (go_at_call 44; (with_reducible refine (transform_Valid.calls a0_5 _ _ A5.out).mono ?_); rintro e w' ⟨rfl, ⟨nd, rfl⟩⟩) | (go_at_call 42; (with_reducible refine (output_Check.sizes a0_1 _ gB _ a0_0 a0_1 a0_2 a0_3 a0_4 a0_5 a0_6 a0_7 ?hbk hsc.out A1.out).mono ?_); (case hbk => ((with_reducible repeat (first | refine blk_drewN ?_ _ | refine blk_drew ?_ | refine blk_alloc ?_ _)); exact BK.out)); rintro e w' ⟨rfl, ⟨nd, rfl⟩⟩) | (go_at_call 42; (with_reducible refine (output_Check.sizes a0_2 _ gB _ a0_0 a0_1 a0_2 a0_3 a0_4 a0_5 a0_6 a0_7 ?hbk hsc.out A2.out).mono ?_); (case hbk => ((with_reducible repeat (first | refine blk_drewN ?_ _ | refine blk_drew ?_ | refine blk_alloc ?_ _)); exact BK.out)); rintro e w' ⟨rfl, ⟨nd, rfl⟩⟩) | (go_at_call 43; (with_reducible refine (output_Check.place a0_6 _ _ A6.out).mono ?_); rintro e w' ⟨rfl, ⟨nd, rfl⟩⟩) | (go_at_call 43; (with_reducible refine (output_Check.place a0_7 _ _ A7.out).mono ?_); rintro e w' ⟨rfl, ⟨nd, rfl⟩⟩) | (go_at_call 46; (with_reducible refine (output_logical.calls a0_0 a0_1 a0_2 a0_3 a0_4 a0_5 a0_6 a0_7 _ _ _ _ _ AL.out).mono ?_); rintro e w10 ⟨rfl, hb⟩; have n0_ := Aside0.mk (below_step (by repeat (first | (with_reducible first | exact HB.out | apply below_alloc | apply pw_below_drewN | apply below_drew1) | exact HB.out)) hb); clear HB; have HB := n0_; clear n0_ hb) | (go_at_call 45; (with_reducible refine (rect_Valid.calls _ _ _ _ _ _ AR.out).mono ?_); rintro e w11 ⟨rfl, hb⟩; have n0_ := Aside0.mk (below_step (by repeat (first | (with_reducible first | exact HB.out | apply below_alloc | apply pw_below_drewN | apply below_drew1) | exact HB.out)) hb); clear HB; have HB := n0_; clear n0_ hb))
      go_ret
      exact ⟨rfl, (by repeat (first | (with_reducible first | exact HB.out | apply below_alloc | apply pw_below_drewN | apply below_drew1) | exact HB.out))⟩
    · rw [if_neg c1] at h
      have d1 : decide (32 < (a0_0.size : Int)) = false := decide_eq_false c1
      have d1' : decide (32 < a0_0.size) = false := decide_eq_false (by omega)
      replace h := Option.bind_eq_some_iff.mp h
      obtain ⟨v, A50, h⟩ := h
      have A5 := Aside0.mk A50
      clear A50
      try dsimp only at h
      rcases Bool.eq_false_or_eq_true v with e_ | e_ <;> subst e_
      rotate_left
      · rw [if_neg Bool.false_ne_true] at h
        obtain rfl := Option.some.inj h
        go_enter Try.func31, Try.ntmps31
        go_wp2_with (first | ((with_reducible refine gate_dst (N := 1) rfl ?_); refine box_event ?hg (N := 1) ?hd (cs := #[.string a0_0, .int .i64 a0_1, .int .i64 a0_2, .int .i64 a0_3, .int .i64 a0_4, .int .i64 a0_5, .int .i64 a0_6, .int .i64 a0_7]) (t := 23) ?hr ?_; (case hd => rfl); (case hg => rfl); (case hr => first | (go_simp; done) | (go_simp; rfl)); intro gB hg w9 hbox hb; have n0_ := Aside0.mk (below_step (by repeat (first | (with_reducible first | exact HB.out | apply below_alloc | apply pw_below_drewN | apply below_drew1) | exact HB.out)) hb); clear HB; have HB := n0_; clear n0_; have BK := Aside0.mk hbox; clear hb hbox hg; have hcz_0 : w9.cell? ⟨gB, 0, none⟩ = some (.string a0_0) := (blk_cell BK.out 0).trans rfl; have hfz_0 := blk_frozen BK.out 0; have hcz_1 : w9.cell? ⟨gB, 1, none⟩ = some (.int .i64 a0_1) := (blk_cell BK.out 1).trans rfl; have hfz_1 := blk_frozen BK.out 1; have hcz_2 : w9.cell? ⟨gB, 2, none⟩ = some (.int .i64 a0_2) := (blk_cell BK.out 2).trans rfl; have hfz_2 := blk_frozen BK.out 2; have hcz_3 : w9.cell? ⟨gB, 3, none⟩ = some (.int .i64 a0_3) := (blk_cell BK.out 3).trans rfl; have hfz_3 := blk_frozen BK.out 3; have hcz_4 : w9.cell? ⟨gB, 4, none⟩ = some (.int .i64 a0_4) := (blk_cell BK.out 4).trans rfl; have hfz_4 := blk_frozen BK.out 4; have hcz_5 : w9.cell? ⟨gB, 5, none⟩ = some (.int .i64 a0_5) := (blk_cell BK.out 5).trans rfl; have hfz_5 := blk_frozen BK.out 5; have hcz_6 : w9.cell? ⟨gB, 6, none⟩ = some (.int .i64 a0_6) := (blk_cell BK.out 6).trans rfl; have hfz_6 := blk_frozen BK.out 6; have hcz_7 : w9.cell? ⟨gB, 7, none⟩ = some (.int .i64 a0_7) := (blk_cell BK.out 7).trans rfl; have hfz_7 := blk_frozen BK.out 7) | (go_at_call 44; (with_reducible refine (transform_Valid.calls a0_5 _ _ A5.out).mono ?_); rintro e w' ⟨rfl, ⟨nd, rfl⟩⟩) | (go_at_call 42; (with_reducible refine (output_Check.sizes a0_1 _ gB _ a0_0 a0_1 a0_2 a0_3 a0_4 a0_5 a0_6 a0_7 ?hbk hsc.out A1.out).mono ?_); (case hbk => ((with_reducible repeat (first | refine blk_drewN ?_ _ | refine blk_drew ?_ | refine blk_alloc ?_ _)); exact BK.out)); rintro e w' ⟨rfl, ⟨nd, rfl⟩⟩) | (go_at_call 42; (with_reducible refine (output_Check.sizes a0_2 _ gB _ a0_0 a0_1 a0_2 a0_3 a0_4 a0_5 a0_6 a0_7 ?hbk hsc.out A2.out).mono ?_); (case hbk => ((with_reducible repeat (first | refine blk_drewN ?_ _ | refine blk_drew ?_ | refine blk_alloc ?_ _)); exact BK.out)); rintro e w' ⟨rfl, ⟨nd, rfl⟩⟩) | (go_at_call 43; (with_reducible refine (output_Check.place a0_6 _ _ A6.out).mono ?_); rintro e w' ⟨rfl, ⟨nd, rfl⟩⟩) | (go_at_call 43; (with_reducible refine (output_Check.place a0_7 _ _ A7.out).mono ?_); rintro e w' ⟨rfl, ⟨nd, rfl⟩⟩) | (go_at_call 46; (with_reducible refine (output_logical.calls a0_0 a0_1 a0_2 a0_3 a0_4 a0_5 a0_6 a0_7 _ _ _ _ _ AL.out).mono ?_); rintro e w10 ⟨rfl, hb⟩; have n0_ := Aside0.mk (below_step (by repeat (first | (with_reducible first | exact HB.out | apply below_alloc | apply pw_below_drewN | apply below_drew1) | exact HB.out)) hb); clear HB; have HB := n0_; clear n0_ hb) | (go_at_call 45; (with_reducible refine (rect_Valid.calls _ _ _ _ _ _ AR.out).mono ?_); rintro e w11 ⟨rfl, hb⟩; have n0_ := Aside0.mk (below_step (by repeat (first | (with_reducible first | exact HB.out | apply below_alloc | apply pw_below_drewN | apply below_drew1) | exact HB.out)) hb); clear HB; have HB := n0_; clear n0_ hb))
        go_ret
        exact ⟨rfl, (by repeat (first | (with_reducible first | exact HB.out | apply below_alloc | apply pw_below_drewN | apply below_drew1) | exact HB.out))⟩
      rw [if_pos rfl] at h
      by_cases c2 : a0_4 < 1
      · rw [if_pos c2] at h
        have d2 : decide (a0_4 < 1) = true := decide_eq_true c2
        obtain rfl := Option.some.inj h
        go_enter Try.func31, Try.ntmps31
        go_wp2_with (first | ((with_reducible refine gate_dst (N := 1) rfl ?_); refine box_event ?hg (N := 1) ?hd (cs := #[.string a0_0, .int .i64 a0_1, .int .i64 a0_2, .int .i64 a0_3, .int .i64 a0_4, .int .i64 a0_5, .int .i64 a0_6, .int .i64 a0_7]) (t := 23) ?hr ?_; (case hd => rfl); (case hg => rfl); (case hr => first | (go_simp; done) | (go_simp; rfl)); intro gB hg w9 hbox hb; have n0_ := Aside0.mk (below_step (by repeat (first | (with_reducible first | exact HB.out | apply below_alloc | apply pw_below_drewN | apply below_drew1) | exact HB.out)) hb); clear HB; have HB := n0_; clear n0_; have BK := Aside0.mk hbox; clear hb hbox hg; have hcz_0 : w9.cell? ⟨gB, 0, none⟩ = some (.string a0_0) := (blk_cell BK.out 0).trans rfl; have hfz_0 := blk_frozen BK.out 0; have hcz_1 : w9.cell? ⟨gB, 1, none⟩ = some (.int .i64 a0_1) := (blk_cell BK.out 1).trans rfl; have hfz_1 := blk_frozen BK.out 1; have hcz_2 : w9.cell? ⟨gB, 2, none⟩ = some (.int .i64 a0_2) := (blk_cell BK.out 2).trans rfl; have hfz_2 := blk_frozen BK.out 2; have hcz_3 : w9.cell? ⟨gB, 3, none⟩ = some (.int .i64 a0_3) := (blk_cell BK.out 3).trans rfl; have hfz_3 := blk_frozen BK.out 3; have hcz_4 : w9.cell? ⟨gB, 4, none⟩ = some (.int .i64 a0_4) := (blk_cell BK.out 4).trans rfl; have hfz_4 := blk_frozen BK.out 4; have hcz_5 : w9.cell? ⟨gB, 5, none⟩ = some (.int .i64 a0_5) := (blk_cell BK.out 5).trans rfl; have hfz_5 := blk_frozen BK.out 5; have hcz_6 : w9.cell? ⟨gB, 6, none⟩ = some (.int .i64 a0_6) := (blk_cell BK.out 6).trans rfl; have hfz_6 := blk_frozen BK.out 6; have hcz_7 : w9.cell? ⟨gB, 7, none⟩ = some (.int .i64 a0_7) := (blk_cell BK.out 7).trans rfl; have hfz_7 := blk_frozen BK.out 7) | (go_at_call 44; (with_reducible refine (transform_Valid.calls a0_5 _ _ A5.out).mono ?_); rintro e w' ⟨rfl, ⟨nd, rfl⟩⟩) | (go_at_call 42; (with_reducible refine (output_Check.sizes a0_1 _ gB _ a0_0 a0_1 a0_2 a0_3 a0_4 a0_5 a0_6 a0_7 ?hbk hsc.out A1.out).mono ?_); (case hbk => ((with_reducible repeat (first | refine blk_drewN ?_ _ | refine blk_drew ?_ | refine blk_alloc ?_ _)); exact BK.out)); rintro e w' ⟨rfl, ⟨nd, rfl⟩⟩) | (go_at_call 42; (with_reducible refine (output_Check.sizes a0_2 _ gB _ a0_0 a0_1 a0_2 a0_3 a0_4 a0_5 a0_6 a0_7 ?hbk hsc.out A2.out).mono ?_); (case hbk => ((with_reducible repeat (first | refine blk_drewN ?_ _ | refine blk_drew ?_ | refine blk_alloc ?_ _)); exact BK.out)); rintro e w' ⟨rfl, ⟨nd, rfl⟩⟩) | (go_at_call 43; (with_reducible refine (output_Check.place a0_6 _ _ A6.out).mono ?_); rintro e w' ⟨rfl, ⟨nd, rfl⟩⟩) | (go_at_call 43; (with_reducible refine (output_Check.place a0_7 _ _ A7.out).mono ?_); rintro e w' ⟨rfl, ⟨nd, rfl⟩⟩) | (go_at_call 46; (with_reducible refine (output_logical.calls a0_0 a0_1 a0_2 a0_3 a0_4 a0_5 a0_6 a0_7 _ _ _ _ _ AL.out).mono ?_); rintro e w10 ⟨rfl, hb⟩; have n0_ := Aside0.mk (below_step (by repeat (first | (with_reducible first | exact HB.out | apply below_alloc | apply pw_below_drewN | apply below_drew1) | exact HB.out)) hb); clear HB; have HB := n0_; clear n0_ hb) | (go_at_call 45; (with_reducible refine (rect_Valid.calls _ _ _ _ _ _ AR.out).mono ?_); rintro e w11 ⟨rfl, hb⟩; have n0_ := Aside0.mk (below_step (by repeat (first | (with_reducible first | exact HB.out | apply below_alloc | apply pw_below_drewN | apply below_drew1) | exact HB.out)) hb); clear HB; have HB := n0_; clear n0_ hb))
        go_ret
        exact ⟨rfl, (by repeat (first | (with_reducible first | exact HB.out | apply below_alloc | apply pw_below_drewN | apply below_drew1) | exact HB.out))⟩
      · rw [if_neg c2] at h
        have d2 : decide (a0_4 < 1) = false := decide_eq_false c2
        have hsc := Aside0.mk (le_of_c c2)
        by_cases c3 : a0_4 > 4
        · rw [if_pos c3] at h
          have d3 : decide (4 < a0_4) = true := decide_eq_true c3
          obtain rfl := Option.some.inj h
          go_enter Try.func31, Try.ntmps31
          go_wp2_with (first | ((with_reducible refine gate_dst (N := 1) rfl ?_); refine box_event ?hg (N := 1) ?hd (cs := #[.string a0_0, .int .i64 a0_1, .int .i64 a0_2, .int .i64 a0_3, .int .i64 a0_4, .int .i64 a0_5, .int .i64 a0_6, .int .i64 a0_7]) (t := 23) ?hr ?_; (case hd => rfl); (case hg => rfl); (case hr => first | (go_simp; done) | (go_simp; rfl)); intro gB hg w9 hbox hb; have n0_ := Aside0.mk (below_step (by repeat (first | (with_reducible first | exact HB.out | apply below_alloc | apply pw_below_drewN | apply below_drew1) | exact HB.out)) hb); clear HB; have HB := n0_; clear n0_; have BK := Aside0.mk hbox; clear hb hbox hg; have hcz_0 : w9.cell? ⟨gB, 0, none⟩ = some (.string a0_0) := (blk_cell BK.out 0).trans rfl; have hfz_0 := blk_frozen BK.out 0; have hcz_1 : w9.cell? ⟨gB, 1, none⟩ = some (.int .i64 a0_1) := (blk_cell BK.out 1).trans rfl; have hfz_1 := blk_frozen BK.out 1; have hcz_2 : w9.cell? ⟨gB, 2, none⟩ = some (.int .i64 a0_2) := (blk_cell BK.out 2).trans rfl; have hfz_2 := blk_frozen BK.out 2; have hcz_3 : w9.cell? ⟨gB, 3, none⟩ = some (.int .i64 a0_3) := (blk_cell BK.out 3).trans rfl; have hfz_3 := blk_frozen BK.out 3; have hcz_4 : w9.cell? ⟨gB, 4, none⟩ = some (.int .i64 a0_4) := (blk_cell BK.out 4).trans rfl; have hfz_4 := blk_frozen BK.out 4; have hcz_5 : w9.cell? ⟨gB, 5, none⟩ = some (.int .i64 a0_5) := (blk_cell BK.out 5).trans rfl; have hfz_5 := blk_frozen BK.out 5; have hcz_6 : w9.cell? ⟨gB, 6, none⟩ = some (.int .i64 a0_6) := (blk_cell BK.out 6).trans rfl; have hfz_6 := blk_frozen BK.out 6; have hcz_7 : w9.cell? ⟨gB, 7, none⟩ = some (.int .i64 a0_7) := (blk_cell BK.out 7).trans rfl; have hfz_7 := blk_frozen BK.out 7) | (go_at_call 44; (with_reducible refine (transform_Valid.calls a0_5 _ _ A5.out).mono ?_); rintro e w' ⟨rfl, ⟨nd, rfl⟩⟩) | (go_at_call 42; (with_reducible refine (output_Check.sizes a0_1 _ gB _ a0_0 a0_1 a0_2 a0_3 a0_4 a0_5 a0_6 a0_7 ?hbk hsc.out A1.out).mono ?_); (case hbk => ((with_reducible repeat (first | refine blk_drewN ?_ _ | refine blk_drew ?_ | refine blk_alloc ?_ _)); exact BK.out)); rintro e w' ⟨rfl, ⟨nd, rfl⟩⟩) | (go_at_call 42; (with_reducible refine (output_Check.sizes a0_2 _ gB _ a0_0 a0_1 a0_2 a0_3 a0_4 a0_5 a0_6 a0_7 ?hbk hsc.out A2.out).mono ?_); (case hbk => ((with_reducible repeat (first | refine blk_drewN ?_ _ | refine blk_drew ?_ | refine blk_alloc ?_ _)); exact BK.out)); rintro e w' ⟨rfl, ⟨nd, rfl⟩⟩) | (go_at_call 43; (with_reducible refine (output_Check.place a0_6 _ _ A6.out).mono ?_); rintro e w' ⟨rfl, ⟨nd, rfl⟩⟩) | (go_at_call 43; (with_reducible refine (output_Check.place a0_7 _ _ A7.out).mono ?_); rintro e w' ⟨rfl, ⟨nd, rfl⟩⟩) | (go_at_call 46; (with_reducible refine (output_logical.calls a0_0 a0_1 a0_2 a0_3 a0_4 a0_5 a0_6 a0_7 _ _ _ _ _ AL.out).mono ?_); rintro e w10 ⟨rfl, hb⟩; have n0_ := Aside0.mk (below_step (by repeat (first | (with_reducible first | exact HB.out | apply below_alloc | apply pw_below_drewN | apply below_drew1) | exact HB.out)) hb); clear HB; have HB := n0_; clear n0_ hb) | (go_at_call 45; (with_reducible refine (rect_Valid.calls _ _ _ _ _ _ AR.out).mono ?_); rintro e w11 ⟨rfl, hb⟩; have n0_ := Aside0.mk (below_step (by repeat (first | (with_reducible first | exact HB.out | apply below_alloc | apply pw_below_drewN | apply below_drew1) | exact HB.out)) hb); clear HB; have HB := n0_; clear n0_ hb))
          go_ret
          exact ⟨rfl, (by repeat (first | (with_reducible first | exact HB.out | apply below_alloc | apply pw_below_drewN | apply below_drew1) | exact HB.out))⟩
        · rw [if_neg c3] at h
          have d3 : decide (4 < a0_4) = false := decide_eq_false c3
          replace h := Option.bind_eq_some_iff.mp h
          obtain ⟨s1, A10, h⟩ := h
          have A1 := Aside0.mk A10
          clear A10
          try dsimp only at h
          rcases Bool.eq_false_or_eq_true s1 with e_ | e_ <;> subst e_
          rotate_left
          · rw [if_neg Bool.false_ne_true] at h
            obtain rfl := Option.some.inj h
            go_enter Try.func31, Try.ntmps31
            go_wp2_with (first | ((with_reducible refine gate_dst (N := 1) rfl ?_); refine box_event ?hg (N := 1) ?hd (cs := #[.string a0_0, .int .i64 a0_1, .int .i64 a0_2, .int .i64 a0_3, .int .i64 a0_4, .int .i64 a0_5, .int .i64 a0_6, .int .i64 a0_7]) (t := 23) ?hr ?_; (case hd => rfl); (case hg => rfl); (case hr => first | (go_simp; done) | (go_simp; rfl)); intro gB hg w9 hbox hb; have n0_ := Aside0.mk (below_step (by repeat (first | (with_reducible first | exact HB.out | apply below_alloc | apply pw_below_drewN | apply below_drew1) | exact HB.out)) hb); clear HB; have HB := n0_; clear n0_; have BK := Aside0.mk hbox; clear hb hbox hg; have hcz_0 : w9.cell? ⟨gB, 0, none⟩ = some (.string a0_0) := (blk_cell BK.out 0).trans rfl; have hfz_0 := blk_frozen BK.out 0; have hcz_1 : w9.cell? ⟨gB, 1, none⟩ = some (.int .i64 a0_1) := (blk_cell BK.out 1).trans rfl; have hfz_1 := blk_frozen BK.out 1; have hcz_2 : w9.cell? ⟨gB, 2, none⟩ = some (.int .i64 a0_2) := (blk_cell BK.out 2).trans rfl; have hfz_2 := blk_frozen BK.out 2; have hcz_3 : w9.cell? ⟨gB, 3, none⟩ = some (.int .i64 a0_3) := (blk_cell BK.out 3).trans rfl; have hfz_3 := blk_frozen BK.out 3; have hcz_4 : w9.cell? ⟨gB, 4, none⟩ = some (.int .i64 a0_4) := (blk_cell BK.out 4).trans rfl; have hfz_4 := blk_frozen BK.out 4; have hcz_5 : w9.cell? ⟨gB, 5, none⟩ = some (.int .i64 a0_5) := (blk_cell BK.out 5).trans rfl; have hfz_5 := blk_frozen BK.out 5; have hcz_6 : w9.cell? ⟨gB, 6, none⟩ = some (.int .i64 a0_6) := (blk_cell BK.out 6).trans rfl; have hfz_6 := blk_frozen BK.out 6; have hcz_7 : w9.cell? ⟨gB, 7, none⟩ = some (.int .i64 a0_7) := (blk_cell BK.out 7).trans rfl; have hfz_7 := blk_frozen BK.out 7) | (go_at_call 44; (with_reducible refine (transform_Valid.calls a0_5 _ _ A5.out).mono ?_); rintro e w' ⟨rfl, ⟨nd, rfl⟩⟩) | (go_at_call 42; (with_reducible refine (output_Check.sizes a0_1 _ gB _ a0_0 a0_1 a0_2 a0_3 a0_4 a0_5 a0_6 a0_7 ?hbk hsc.out A1.out).mono ?_); (case hbk => ((with_reducible repeat (first | refine blk_drewN ?_ _ | refine blk_drew ?_ | refine blk_alloc ?_ _)); exact BK.out)); rintro e w' ⟨rfl, ⟨nd, rfl⟩⟩) | (go_at_call 42; (with_reducible refine (output_Check.sizes a0_2 _ gB _ a0_0 a0_1 a0_2 a0_3 a0_4 a0_5 a0_6 a0_7 ?hbk hsc.out A2.out).mono ?_); (case hbk => ((with_reducible repeat (first | refine blk_drewN ?_ _ | refine blk_drew ?_ | refine blk_alloc ?_ _)); exact BK.out)); rintro e w' ⟨rfl, ⟨nd, rfl⟩⟩) | (go_at_call 43; (with_reducible refine (output_Check.place a0_6 _ _ A6.out).mono ?_); rintro e w' ⟨rfl, ⟨nd, rfl⟩⟩) | (go_at_call 43; (with_reducible refine (output_Check.place a0_7 _ _ A7.out).mono ?_); rintro e w' ⟨rfl, ⟨nd, rfl⟩⟩) | (go_at_call 46; (with_reducible refine (output_logical.calls a0_0 a0_1 a0_2 a0_3 a0_4 a0_5 a0_6 a0_7 _ _ _ _ _ AL.out).mono ?_); rintro e w10 ⟨rfl, hb⟩; have n0_ := Aside0.mk (below_step (by repeat (first | (with_reducible first | exact HB.out | apply below_alloc | apply pw_below_drewN | apply below_drew1) | exact HB.out)) hb); clear HB; have HB := n0_; clear n0_ hb) | (go_at_call 45; (with_reducible refine (rect_Valid.calls _ _ _ _ _ _ AR.out).mono ?_); rintro e w11 ⟨rfl, hb⟩; have n0_ := Aside0.mk (below_step (by repeat (first | (with_reducible first | exact HB.out | apply below_alloc | apply pw_below_drewN | apply below_drew1) | exact HB.out)) hb); clear HB; have HB := n0_; clear n0_ hb))
            go_ret
            exact ⟨rfl, (by repeat (first | (with_reducible first | exact HB.out | apply below_alloc | apply pw_below_drewN | apply below_drew1) | exact HB.out))⟩
          rw [if_pos rfl] at h
          replace h := Option.bind_eq_some_iff.mp h
          obtain ⟨s2, A20, h⟩ := h
          have A2 := Aside0.mk A20
          clear A20
          try dsimp only at h
          rcases Bool.eq_false_or_eq_true s2 with e_ | e_ <;> subst e_
          rotate_left
          · rw [if_neg Bool.false_ne_true] at h
            obtain rfl := Option.some.inj h
            go_enter Try.func31, Try.ntmps31
            go_wp2_with (first | ((with_reducible refine gate_dst (N := 1) rfl ?_); refine box_event ?hg (N := 1) ?hd (cs := #[.string a0_0, .int .i64 a0_1, .int .i64 a0_2, .int .i64 a0_3, .int .i64 a0_4, .int .i64 a0_5, .int .i64 a0_6, .int .i64 a0_7]) (t := 23) ?hr ?_; (case hd => rfl); (case hg => rfl); (case hr => first | (go_simp; done) | (go_simp; rfl)); intro gB hg w9 hbox hb; have n0_ := Aside0.mk (below_step (by repeat (first | (with_reducible first | exact HB.out | apply below_alloc | apply pw_below_drewN | apply below_drew1) | exact HB.out)) hb); clear HB; have HB := n0_; clear n0_; have BK := Aside0.mk hbox; clear hb hbox hg; have hcz_0 : w9.cell? ⟨gB, 0, none⟩ = some (.string a0_0) := (blk_cell BK.out 0).trans rfl; have hfz_0 := blk_frozen BK.out 0; have hcz_1 : w9.cell? ⟨gB, 1, none⟩ = some (.int .i64 a0_1) := (blk_cell BK.out 1).trans rfl; have hfz_1 := blk_frozen BK.out 1; have hcz_2 : w9.cell? ⟨gB, 2, none⟩ = some (.int .i64 a0_2) := (blk_cell BK.out 2).trans rfl; have hfz_2 := blk_frozen BK.out 2; have hcz_3 : w9.cell? ⟨gB, 3, none⟩ = some (.int .i64 a0_3) := (blk_cell BK.out 3).trans rfl; have hfz_3 := blk_frozen BK.out 3; have hcz_4 : w9.cell? ⟨gB, 4, none⟩ = some (.int .i64 a0_4) := (blk_cell BK.out 4).trans rfl; have hfz_4 := blk_frozen BK.out 4; have hcz_5 : w9.cell? ⟨gB, 5, none⟩ = some (.int .i64 a0_5) := (blk_cell BK.out 5).trans rfl; have hfz_5 := blk_frozen BK.out 5; have hcz_6 : w9.cell? ⟨gB, 6, none⟩ = some (.int .i64 a0_6) := (blk_cell BK.out 6).trans rfl; have hfz_6 := blk_frozen BK.out 6; have hcz_7 : w9.cell? ⟨gB, 7, none⟩ = some (.int .i64 a0_7) := (blk_cell BK.out 7).trans rfl; have hfz_7 := blk_frozen BK.out 7) | (go_at_call 44; (with_reducible refine (transform_Valid.calls a0_5 _ _ A5.out).mono ?_); rintro e w' ⟨rfl, ⟨nd, rfl⟩⟩) | (go_at_call 42; (with_reducible refine (output_Check.sizes a0_1 _ gB _ a0_0 a0_1 a0_2 a0_3 a0_4 a0_5 a0_6 a0_7 ?hbk hsc.out A1.out).mono ?_); (case hbk => ((with_reducible repeat (first | refine blk_drewN ?_ _ | refine blk_drew ?_ | refine blk_alloc ?_ _)); exact BK.out)); rintro e w' ⟨rfl, ⟨nd, rfl⟩⟩) | (go_at_call 42; (with_reducible refine (output_Check.sizes a0_2 _ gB _ a0_0 a0_1 a0_2 a0_3 a0_4 a0_5 a0_6 a0_7 ?hbk hsc.out A2.out).mono ?_); (case hbk => ((with_reducible repeat (first | refine blk_drewN ?_ _ | refine blk_drew ?_ | refine blk_alloc ?_ _)); exact BK.out)); rintro e w' ⟨rfl, ⟨nd, rfl⟩⟩) | (go_at_call 43; (with_reducible refine (output_Check.place a0_6 _ _ A6.out).mono ?_); rintro e w' ⟨rfl, ⟨nd, rfl⟩⟩) | (go_at_call 43; (with_reducible refine (output_Check.place a0_7 _ _ A7.out).mono ?_); rintro e w' ⟨rfl, ⟨nd, rfl⟩⟩) | (go_at_call 46; (with_reducible refine (output_logical.calls a0_0 a0_1 a0_2 a0_3 a0_4 a0_5 a0_6 a0_7 _ _ _ _ _ AL.out).mono ?_); rintro e w10 ⟨rfl, hb⟩; have n0_ := Aside0.mk (below_step (by repeat (first | (with_reducible first | exact HB.out | apply below_alloc | apply pw_below_drewN | apply below_drew1) | exact HB.out)) hb); clear HB; have HB := n0_; clear n0_ hb) | (go_at_call 45; (with_reducible refine (rect_Valid.calls _ _ _ _ _ _ AR.out).mono ?_); rintro e w11 ⟨rfl, hb⟩; have n0_ := Aside0.mk (below_step (by repeat (first | (with_reducible first | exact HB.out | apply below_alloc | apply pw_below_drewN | apply below_drew1) | exact HB.out)) hb); clear HB; have HB := n0_; clear n0_ hb))
            go_ret
            exact ⟨rfl, (by repeat (first | (with_reducible first | exact HB.out | apply below_alloc | apply pw_below_drewN | apply below_drew1) | exact HB.out))⟩
          rw [if_pos rfl] at h
          by_cases c4 : a0_3 < 1000
          · rw [if_pos c4] at h
            have d4 : decide (a0_3 < 1000) = true := decide_eq_true c4
            obtain rfl := Option.some.inj h
            go_enter Try.func31, Try.ntmps31
            go_wp2_with (first | ((with_reducible refine gate_dst (N := 1) rfl ?_); refine box_event ?hg (N := 1) ?hd (cs := #[.string a0_0, .int .i64 a0_1, .int .i64 a0_2, .int .i64 a0_3, .int .i64 a0_4, .int .i64 a0_5, .int .i64 a0_6, .int .i64 a0_7]) (t := 23) ?hr ?_; (case hd => rfl); (case hg => rfl); (case hr => first | (go_simp; done) | (go_simp; rfl)); intro gB hg w9 hbox hb; have n0_ := Aside0.mk (below_step (by repeat (first | (with_reducible first | exact HB.out | apply below_alloc | apply pw_below_drewN | apply below_drew1) | exact HB.out)) hb); clear HB; have HB := n0_; clear n0_; have BK := Aside0.mk hbox; clear hb hbox hg; have hcz_0 : w9.cell? ⟨gB, 0, none⟩ = some (.string a0_0) := (blk_cell BK.out 0).trans rfl; have hfz_0 := blk_frozen BK.out 0; have hcz_1 : w9.cell? ⟨gB, 1, none⟩ = some (.int .i64 a0_1) := (blk_cell BK.out 1).trans rfl; have hfz_1 := blk_frozen BK.out 1; have hcz_2 : w9.cell? ⟨gB, 2, none⟩ = some (.int .i64 a0_2) := (blk_cell BK.out 2).trans rfl; have hfz_2 := blk_frozen BK.out 2; have hcz_3 : w9.cell? ⟨gB, 3, none⟩ = some (.int .i64 a0_3) := (blk_cell BK.out 3).trans rfl; have hfz_3 := blk_frozen BK.out 3; have hcz_4 : w9.cell? ⟨gB, 4, none⟩ = some (.int .i64 a0_4) := (blk_cell BK.out 4).trans rfl; have hfz_4 := blk_frozen BK.out 4; have hcz_5 : w9.cell? ⟨gB, 5, none⟩ = some (.int .i64 a0_5) := (blk_cell BK.out 5).trans rfl; have hfz_5 := blk_frozen BK.out 5; have hcz_6 : w9.cell? ⟨gB, 6, none⟩ = some (.int .i64 a0_6) := (blk_cell BK.out 6).trans rfl; have hfz_6 := blk_frozen BK.out 6; have hcz_7 : w9.cell? ⟨gB, 7, none⟩ = some (.int .i64 a0_7) := (blk_cell BK.out 7).trans rfl; have hfz_7 := blk_frozen BK.out 7) | (go_at_call 44; (with_reducible refine (transform_Valid.calls a0_5 _ _ A5.out).mono ?_); rintro e w' ⟨rfl, ⟨nd, rfl⟩⟩) | (go_at_call 42; (with_reducible refine (output_Check.sizes a0_1 _ gB _ a0_0 a0_1 a0_2 a0_3 a0_4 a0_5 a0_6 a0_7 ?hbk hsc.out A1.out).mono ?_); (case hbk => ((with_reducible repeat (first | refine blk_drewN ?_ _ | refine blk_drew ?_ | refine blk_alloc ?_ _)); exact BK.out)); rintro e w' ⟨rfl, ⟨nd, rfl⟩⟩) | (go_at_call 42; (with_reducible refine (output_Check.sizes a0_2 _ gB _ a0_0 a0_1 a0_2 a0_3 a0_4 a0_5 a0_6 a0_7 ?hbk hsc.out A2.out).mono ?_); (case hbk => ((with_reducible repeat (first | refine blk_drewN ?_ _ | refine blk_drew ?_ | refine blk_alloc ?_ _)); exact BK.out)); rintro e w' ⟨rfl, ⟨nd, rfl⟩⟩) | (go_at_call 43; (with_reducible refine (output_Check.place a0_6 _ _ A6.out).mono ?_); rintro e w' ⟨rfl, ⟨nd, rfl⟩⟩) | (go_at_call 43; (with_reducible refine (output_Check.place a0_7 _ _ A7.out).mono ?_); rintro e w' ⟨rfl, ⟨nd, rfl⟩⟩) | (go_at_call 46; (with_reducible refine (output_logical.calls a0_0 a0_1 a0_2 a0_3 a0_4 a0_5 a0_6 a0_7 _ _ _ _ _ AL.out).mono ?_); rintro e w10 ⟨rfl, hb⟩; have n0_ := Aside0.mk (below_step (by repeat (first | (with_reducible first | exact HB.out | apply below_alloc | apply pw_below_drewN | apply below_drew1) | exact HB.out)) hb); clear HB; have HB := n0_; clear n0_ hb) | (go_at_call 45; (with_reducible refine (rect_Valid.calls _ _ _ _ _ _ AR.out).mono ?_); rintro e w11 ⟨rfl, hb⟩; have n0_ := Aside0.mk (below_step (by repeat (first | (with_reducible first | exact HB.out | apply below_alloc | apply pw_below_drewN | apply below_drew1) | exact HB.out)) hb); clear HB; have HB := n0_; clear n0_ hb))
            go_ret
            exact ⟨rfl, (by repeat (first | (with_reducible first | exact HB.out | apply below_alloc | apply pw_below_drewN | apply below_drew1) | exact HB.out))⟩
          · rw [if_neg c4] at h
            have d4 : decide (a0_3 < 1000) = false := decide_eq_false c4
            by_cases c5 : a0_3 > 240000
            · rw [if_pos c5] at h
              have d5 : decide (240000 < a0_3) = true := decide_eq_true c5
              obtain rfl := Option.some.inj h
              go_enter Try.func31, Try.ntmps31
              go_wp2_with (first | ((with_reducible refine gate_dst (N := 1) rfl ?_); refine box_event ?hg (N := 1) ?hd (cs := #[.string a0_0, .int .i64 a0_1, .int .i64 a0_2, .int .i64 a0_3, .int .i64 a0_4, .int .i64 a0_5, .int .i64 a0_6, .int .i64 a0_7]) (t := 23) ?hr ?_; (case hd => rfl); (case hg => rfl); (case hr => first | (go_simp; done) | (go_simp; rfl)); intro gB hg w9 hbox hb; have n0_ := Aside0.mk (below_step (by repeat (first | (with_reducible first | exact HB.out | apply below_alloc | apply pw_below_drewN | apply below_drew1) | exact HB.out)) hb); clear HB; have HB := n0_; clear n0_; have BK := Aside0.mk hbox; clear hb hbox hg; have hcz_0 : w9.cell? ⟨gB, 0, none⟩ = some (.string a0_0) := (blk_cell BK.out 0).trans rfl; have hfz_0 := blk_frozen BK.out 0; have hcz_1 : w9.cell? ⟨gB, 1, none⟩ = some (.int .i64 a0_1) := (blk_cell BK.out 1).trans rfl; have hfz_1 := blk_frozen BK.out 1; have hcz_2 : w9.cell? ⟨gB, 2, none⟩ = some (.int .i64 a0_2) := (blk_cell BK.out 2).trans rfl; have hfz_2 := blk_frozen BK.out 2; have hcz_3 : w9.cell? ⟨gB, 3, none⟩ = some (.int .i64 a0_3) := (blk_cell BK.out 3).trans rfl; have hfz_3 := blk_frozen BK.out 3; have hcz_4 : w9.cell? ⟨gB, 4, none⟩ = some (.int .i64 a0_4) := (blk_cell BK.out 4).trans rfl; have hfz_4 := blk_frozen BK.out 4; have hcz_5 : w9.cell? ⟨gB, 5, none⟩ = some (.int .i64 a0_5) := (blk_cell BK.out 5).trans rfl; have hfz_5 := blk_frozen BK.out 5; have hcz_6 : w9.cell? ⟨gB, 6, none⟩ = some (.int .i64 a0_6) := (blk_cell BK.out 6).trans rfl; have hfz_6 := blk_frozen BK.out 6; have hcz_7 : w9.cell? ⟨gB, 7, none⟩ = some (.int .i64 a0_7) := (blk_cell BK.out 7).trans rfl; have hfz_7 := blk_frozen BK.out 7) | (go_at_call 44; (with_reducible refine (transform_Valid.calls a0_5 _ _ A5.out).mono ?_); rintro e w' ⟨rfl, ⟨nd, rfl⟩⟩) | (go_at_call 42; (with_reducible refine (output_Check.sizes a0_1 _ gB _ a0_0 a0_1 a0_2 a0_3 a0_4 a0_5 a0_6 a0_7 ?hbk hsc.out A1.out).mono ?_); (case hbk => ((with_reducible repeat (first | refine blk_drewN ?_ _ | refine blk_drew ?_ | refine blk_alloc ?_ _)); exact BK.out)); rintro e w' ⟨rfl, ⟨nd, rfl⟩⟩) | (go_at_call 42; (with_reducible refine (output_Check.sizes a0_2 _ gB _ a0_0 a0_1 a0_2 a0_3 a0_4 a0_5 a0_6 a0_7 ?hbk hsc.out A2.out).mono ?_); (case hbk => ((with_reducible repeat (first | refine blk_drewN ?_ _ | refine blk_drew ?_ | refine blk_alloc ?_ _)); exact BK.out)); rintro e w' ⟨rfl, ⟨nd, rfl⟩⟩) | (go_at_call 43; (with_reducible refine (output_Check.place a0_6 _ _ A6.out).mono ?_); rintro e w' ⟨rfl, ⟨nd, rfl⟩⟩) | (go_at_call 43; (with_reducible refine (output_Check.place a0_7 _ _ A7.out).mono ?_); rintro e w' ⟨rfl, ⟨nd, rfl⟩⟩) | (go_at_call 46; (with_reducible refine (output_logical.calls a0_0 a0_1 a0_2 a0_3 a0_4 a0_5 a0_6 a0_7 _ _ _ _ _ AL.out).mono ?_); rintro e w10 ⟨rfl, hb⟩; have n0_ := Aside0.mk (below_step (by repeat (first | (with_reducible first | exact HB.out | apply below_alloc | apply pw_below_drewN | apply below_drew1) | exact HB.out)) hb); clear HB; have HB := n0_; clear n0_ hb) | (go_at_call 45; (with_reducible refine (rect_Valid.calls _ _ _ _ _ _ AR.out).mono ?_); rintro e w11 ⟨rfl, hb⟩; have n0_ := Aside0.mk (below_step (by repeat (first | (with_reducible first | exact HB.out | apply below_alloc | apply pw_below_drewN | apply below_drew1) | exact HB.out)) hb); clear HB; have HB := n0_; clear n0_ hb))
              go_ret
              exact ⟨rfl, (by repeat (first | (with_reducible first | exact HB.out | apply below_alloc | apply pw_below_drewN | apply below_drew1) | exact HB.out))⟩
            · rw [if_neg c5] at h
              have d5 : decide (240000 < a0_3) = false := decide_eq_false c5
              replace h := Option.bind_eq_some_iff.mp h
              obtain ⟨p1, A60, h⟩ := h
              have A6 := Aside0.mk A60
              clear A60
              try dsimp only at h
              rcases Bool.eq_false_or_eq_true p1 with e_ | e_ <;> subst e_
              rotate_left
              · rw [if_neg Bool.false_ne_true] at h
                obtain rfl := Option.some.inj h
                go_enter Try.func31, Try.ntmps31
                go_wp2_with (first | ((with_reducible refine gate_dst (N := 1) rfl ?_); refine box_event ?hg (N := 1) ?hd (cs := #[.string a0_0, .int .i64 a0_1, .int .i64 a0_2, .int .i64 a0_3, .int .i64 a0_4, .int .i64 a0_5, .int .i64 a0_6, .int .i64 a0_7]) (t := 23) ?hr ?_; (case hd => rfl); (case hg => rfl); (case hr => first | (go_simp; done) | (go_simp; rfl)); intro gB hg w9 hbox hb; have n0_ := Aside0.mk (below_step (by repeat (first | (with_reducible first | exact HB.out | apply below_alloc | apply pw_below_drewN | apply below_drew1) | exact HB.out)) hb); clear HB; have HB := n0_; clear n0_; have BK := Aside0.mk hbox; clear hb hbox hg; have hcz_0 : w9.cell? ⟨gB, 0, none⟩ = some (.string a0_0) := (blk_cell BK.out 0).trans rfl; have hfz_0 := blk_frozen BK.out 0; have hcz_1 : w9.cell? ⟨gB, 1, none⟩ = some (.int .i64 a0_1) := (blk_cell BK.out 1).trans rfl; have hfz_1 := blk_frozen BK.out 1; have hcz_2 : w9.cell? ⟨gB, 2, none⟩ = some (.int .i64 a0_2) := (blk_cell BK.out 2).trans rfl; have hfz_2 := blk_frozen BK.out 2; have hcz_3 : w9.cell? ⟨gB, 3, none⟩ = some (.int .i64 a0_3) := (blk_cell BK.out 3).trans rfl; have hfz_3 := blk_frozen BK.out 3; have hcz_4 : w9.cell? ⟨gB, 4, none⟩ = some (.int .i64 a0_4) := (blk_cell BK.out 4).trans rfl; have hfz_4 := blk_frozen BK.out 4; have hcz_5 : w9.cell? ⟨gB, 5, none⟩ = some (.int .i64 a0_5) := (blk_cell BK.out 5).trans rfl; have hfz_5 := blk_frozen BK.out 5; have hcz_6 : w9.cell? ⟨gB, 6, none⟩ = some (.int .i64 a0_6) := (blk_cell BK.out 6).trans rfl; have hfz_6 := blk_frozen BK.out 6; have hcz_7 : w9.cell? ⟨gB, 7, none⟩ = some (.int .i64 a0_7) := (blk_cell BK.out 7).trans rfl; have hfz_7 := blk_frozen BK.out 7) | (go_at_call 44; (with_reducible refine (transform_Valid.calls a0_5 _ _ A5.out).mono ?_); rintro e w' ⟨rfl, ⟨nd, rfl⟩⟩) | (go_at_call 42; (with_reducible refine (output_Check.sizes a0_1 _ gB _ a0_0 a0_1 a0_2 a0_3 a0_4 a0_5 a0_6 a0_7 ?hbk hsc.out A1.out).mono ?_); (case hbk => ((with_reducible repeat (first | refine blk_drewN ?_ _ | refine blk_drew ?_ | refine blk_alloc ?_ _)); exact BK.out)); rintro e w' ⟨rfl, ⟨nd, rfl⟩⟩) | (go_at_call 42; (with_reducible refine (output_Check.sizes a0_2 _ gB _ a0_0 a0_1 a0_2 a0_3 a0_4 a0_5 a0_6 a0_7 ?hbk hsc.out A2.out).mono ?_); (case hbk => ((with_reducible repeat (first | refine blk_drewN ?_ _ | refine blk_drew ?_ | refine blk_alloc ?_ _)); exact BK.out)); rintro e w' ⟨rfl, ⟨nd, rfl⟩⟩) | (go_at_call 43; (with_reducible refine (output_Check.place a0_6 _ _ A6.out).mono ?_); rintro e w' ⟨rfl, ⟨nd, rfl⟩⟩) | (go_at_call 43; (with_reducible refine (output_Check.place a0_7 _ _ A7.out).mono ?_); rintro e w' ⟨rfl, ⟨nd, rfl⟩⟩) | (go_at_call 46; (with_reducible refine (output_logical.calls a0_0 a0_1 a0_2 a0_3 a0_4 a0_5 a0_6 a0_7 _ _ _ _ _ AL.out).mono ?_); rintro e w10 ⟨rfl, hb⟩; have n0_ := Aside0.mk (below_step (by repeat (first | (with_reducible first | exact HB.out | apply below_alloc | apply pw_below_drewN | apply below_drew1) | exact HB.out)) hb); clear HB; have HB := n0_; clear n0_ hb) | (go_at_call 45; (with_reducible refine (rect_Valid.calls _ _ _ _ _ _ AR.out).mono ?_); rintro e w11 ⟨rfl, hb⟩; have n0_ := Aside0.mk (below_step (by repeat (first | (with_reducible first | exact HB.out | apply below_alloc | apply pw_below_drewN | apply below_drew1) | exact HB.out)) hb); clear HB; have HB := n0_; clear n0_ hb))
                go_ret
                exact ⟨rfl, (by repeat (first | (with_reducible first | exact HB.out | apply below_alloc | apply pw_below_drewN | apply below_drew1) | exact HB.out))⟩
              rw [if_pos rfl] at h
              replace h := Option.bind_eq_some_iff.mp h
              obtain ⟨p2, A70, h⟩ := h
              have A7 := Aside0.mk A70
              clear A70
              try dsimp only at h
              rcases Bool.eq_false_or_eq_true p2 with e_ | e_ <;> subst e_
              rotate_left
              · rw [if_neg Bool.false_ne_true] at h
                obtain rfl := Option.some.inj h
                go_enter Try.func31, Try.ntmps31
                go_wp2_with (first | ((with_reducible refine gate_dst (N := 1) rfl ?_); refine box_event ?hg (N := 1) ?hd (cs := #[.string a0_0, .int .i64 a0_1, .int .i64 a0_2, .int .i64 a0_3, .int .i64 a0_4, .int .i64 a0_5, .int .i64 a0_6, .int .i64 a0_7]) (t := 23) ?hr ?_; (case hd => rfl); (case hg => rfl); (case hr => first | (go_simp; done) | (go_simp; rfl)); intro gB hg w9 hbox hb; have n0_ := Aside0.mk (below_step (by repeat (first | (with_reducible first | exact HB.out | apply below_alloc | apply pw_below_drewN | apply below_drew1) | exact HB.out)) hb); clear HB; have HB := n0_; clear n0_; have BK := Aside0.mk hbox; clear hb hbox hg; have hcz_0 : w9.cell? ⟨gB, 0, none⟩ = some (.string a0_0) := (blk_cell BK.out 0).trans rfl; have hfz_0 := blk_frozen BK.out 0; have hcz_1 : w9.cell? ⟨gB, 1, none⟩ = some (.int .i64 a0_1) := (blk_cell BK.out 1).trans rfl; have hfz_1 := blk_frozen BK.out 1; have hcz_2 : w9.cell? ⟨gB, 2, none⟩ = some (.int .i64 a0_2) := (blk_cell BK.out 2).trans rfl; have hfz_2 := blk_frozen BK.out 2; have hcz_3 : w9.cell? ⟨gB, 3, none⟩ = some (.int .i64 a0_3) := (blk_cell BK.out 3).trans rfl; have hfz_3 := blk_frozen BK.out 3; have hcz_4 : w9.cell? ⟨gB, 4, none⟩ = some (.int .i64 a0_4) := (blk_cell BK.out 4).trans rfl; have hfz_4 := blk_frozen BK.out 4; have hcz_5 : w9.cell? ⟨gB, 5, none⟩ = some (.int .i64 a0_5) := (blk_cell BK.out 5).trans rfl; have hfz_5 := blk_frozen BK.out 5; have hcz_6 : w9.cell? ⟨gB, 6, none⟩ = some (.int .i64 a0_6) := (blk_cell BK.out 6).trans rfl; have hfz_6 := blk_frozen BK.out 6; have hcz_7 : w9.cell? ⟨gB, 7, none⟩ = some (.int .i64 a0_7) := (blk_cell BK.out 7).trans rfl; have hfz_7 := blk_frozen BK.out 7) | (go_at_call 44; (with_reducible refine (transform_Valid.calls a0_5 _ _ A5.out).mono ?_); rintro e w' ⟨rfl, ⟨nd, rfl⟩⟩) | (go_at_call 42; (with_reducible refine (output_Check.sizes a0_1 _ gB _ a0_0 a0_1 a0_2 a0_3 a0_4 a0_5 a0_6 a0_7 ?hbk hsc.out A1.out).mono ?_); (case hbk => ((with_reducible repeat (first | refine blk_drewN ?_ _ | refine blk_drew ?_ | refine blk_alloc ?_ _)); exact BK.out)); rintro e w' ⟨rfl, ⟨nd, rfl⟩⟩) | (go_at_call 42; (with_reducible refine (output_Check.sizes a0_2 _ gB _ a0_0 a0_1 a0_2 a0_3 a0_4 a0_5 a0_6 a0_7 ?hbk hsc.out A2.out).mono ?_); (case hbk => ((with_reducible repeat (first | refine blk_drewN ?_ _ | refine blk_drew ?_ | refine blk_alloc ?_ _)); exact BK.out)); rintro e w' ⟨rfl, ⟨nd, rfl⟩⟩) | (go_at_call 43; (with_reducible refine (output_Check.place a0_6 _ _ A6.out).mono ?_); rintro e w' ⟨rfl, ⟨nd, rfl⟩⟩) | (go_at_call 43; (with_reducible refine (output_Check.place a0_7 _ _ A7.out).mono ?_); rintro e w' ⟨rfl, ⟨nd, rfl⟩⟩) | (go_at_call 46; (with_reducible refine (output_logical.calls a0_0 a0_1 a0_2 a0_3 a0_4 a0_5 a0_6 a0_7 _ _ _ _ _ AL.out).mono ?_); rintro e w10 ⟨rfl, hb⟩; have n0_ := Aside0.mk (below_step (by repeat (first | (with_reducible first | exact HB.out | apply below_alloc | apply pw_below_drewN | apply below_drew1) | exact HB.out)) hb); clear HB; have HB := n0_; clear n0_ hb) | (go_at_call 45; (with_reducible refine (rect_Valid.calls _ _ _ _ _ _ AR.out).mono ?_); rintro e w11 ⟨rfl, hb⟩; have n0_ := Aside0.mk (below_step (by repeat (first | (with_reducible first | exact HB.out | apply below_alloc | apply pw_below_drewN | apply below_drew1) | exact HB.out)) hb); clear HB; have HB := n0_; clear n0_ hb))
                go_ret
                exact ⟨rfl, (by repeat (first | (with_reducible first | exact HB.out | apply below_alloc | apply pw_below_drewN | apply below_drew1) | exact HB.out))⟩
              rw [if_pos rfl] at h
              replace h := Option.bind_eq_some_iff.mp h
              obtain ⟨⟨q1_, q2_, q3_, q4_⟩, AL0, h⟩ := h
              have AL := Aside0.mk AL0
              clear AL0
              dsimp only at h
              replace h := Option.bind_eq_some_iff.mp h
              obtain ⟨b, AR0, h⟩ := h
              have AR := Aside0.mk AR0
              clear AR0
              try dsimp only at h
              rcases Bool.eq_false_or_eq_true b with e_ | e_ <;> subst e_
              rotate_left
              · rw [if_neg Bool.false_ne_true] at h
                obtain rfl := Option.some.inj h
                go_enter Try.func31, Try.ntmps31
                go_wp2_with (first | ((with_reducible refine gate_dst (N := 1) rfl ?_); refine box_event ?hg (N := 1) ?hd (cs := #[.string a0_0, .int .i64 a0_1, .int .i64 a0_2, .int .i64 a0_3, .int .i64 a0_4, .int .i64 a0_5, .int .i64 a0_6, .int .i64 a0_7]) (t := 23) ?hr ?_; (case hd => rfl); (case hg => rfl); (case hr => first | (go_simp; done) | (go_simp; rfl)); intro gB hg w9 hbox hb; have n0_ := Aside0.mk (below_step (by repeat (first | (with_reducible first | exact HB.out | apply below_alloc | apply pw_below_drewN | apply below_drew1) | exact HB.out)) hb); clear HB; have HB := n0_; clear n0_; have BK := Aside0.mk hbox; clear hb hbox hg; have hcz_0 : w9.cell? ⟨gB, 0, none⟩ = some (.string a0_0) := (blk_cell BK.out 0).trans rfl; have hfz_0 := blk_frozen BK.out 0; have hcz_1 : w9.cell? ⟨gB, 1, none⟩ = some (.int .i64 a0_1) := (blk_cell BK.out 1).trans rfl; have hfz_1 := blk_frozen BK.out 1; have hcz_2 : w9.cell? ⟨gB, 2, none⟩ = some (.int .i64 a0_2) := (blk_cell BK.out 2).trans rfl; have hfz_2 := blk_frozen BK.out 2; have hcz_3 : w9.cell? ⟨gB, 3, none⟩ = some (.int .i64 a0_3) := (blk_cell BK.out 3).trans rfl; have hfz_3 := blk_frozen BK.out 3; have hcz_4 : w9.cell? ⟨gB, 4, none⟩ = some (.int .i64 a0_4) := (blk_cell BK.out 4).trans rfl; have hfz_4 := blk_frozen BK.out 4; have hcz_5 : w9.cell? ⟨gB, 5, none⟩ = some (.int .i64 a0_5) := (blk_cell BK.out 5).trans rfl; have hfz_5 := blk_frozen BK.out 5; have hcz_6 : w9.cell? ⟨gB, 6, none⟩ = some (.int .i64 a0_6) := (blk_cell BK.out 6).trans rfl; have hfz_6 := blk_frozen BK.out 6; have hcz_7 : w9.cell? ⟨gB, 7, none⟩ = some (.int .i64 a0_7) := (blk_cell BK.out 7).trans rfl; have hfz_7 := blk_frozen BK.out 7) | (go_at_call 44; (with_reducible refine (transform_Valid.calls a0_5 _ _ A5.out).mono ?_); rintro e w' ⟨rfl, ⟨nd, rfl⟩⟩) | (go_at_call 42; (with_reducible refine (output_Check.sizes a0_1 _ gB _ a0_0 a0_1 a0_2 a0_3 a0_4 a0_5 a0_6 a0_7 ?hbk hsc.out A1.out).mono ?_); (case hbk => ((with_reducible repeat (first | refine blk_drewN ?_ _ | refine blk_drew ?_ | refine blk_alloc ?_ _)); exact BK.out)); rintro e w' ⟨rfl, ⟨nd, rfl⟩⟩) | (go_at_call 42; (with_reducible refine (output_Check.sizes a0_2 _ gB _ a0_0 a0_1 a0_2 a0_3 a0_4 a0_5 a0_6 a0_7 ?hbk hsc.out A2.out).mono ?_); (case hbk => ((with_reducible repeat (first | refine blk_drewN ?_ _ | refine blk_drew ?_ | refine blk_alloc ?_ _)); exact BK.out)); rintro e w' ⟨rfl, ⟨nd, rfl⟩⟩) | (go_at_call 43; (with_reducible refine (output_Check.place a0_6 _ _ A6.out).mono ?_); rintro e w' ⟨rfl, ⟨nd, rfl⟩⟩) | (go_at_call 43; (with_reducible refine (output_Check.place a0_7 _ _ A7.out).mono ?_); rintro e w' ⟨rfl, ⟨nd, rfl⟩⟩) | (go_at_call 46; (with_reducible refine (output_logical.calls a0_0 a0_1 a0_2 a0_3 a0_4 a0_5 a0_6 a0_7 _ _ _ _ _ AL.out).mono ?_); rintro e w10 ⟨rfl, hb⟩; have n0_ := Aside0.mk (below_step (by repeat (first | (with_reducible first | exact HB.out | apply below_alloc | apply pw_below_drewN | apply below_drew1) | exact HB.out)) hb); clear HB; have HB := n0_; clear n0_ hb) | (go_at_call 45; (with_reducible refine (rect_Valid.calls _ _ _ _ _ _ AR.out).mono ?_); rintro e w11 ⟨rfl, hb⟩; have n0_ := Aside0.mk (below_step (by repeat (first | (with_reducible first | exact HB.out | apply below_alloc | apply pw_below_drewN | apply below_drew1) | exact HB.out)) hb); clear HB; have HB := n0_; clear n0_ hb))
                go_ret
                exact ⟨rfl, (by repeat (first | (with_reducible first | exact HB.out | apply below_alloc | apply pw_below_drewN | apply below_drew1) | exact HB.out))⟩
              rw [if_pos rfl] at h
              obtain rfl := Option.some.inj h
              go_enter Try.func31, Try.ntmps31
              go_wp2_with (first | ((with_reducible refine gate_dst (N := 1) rfl ?_); refine box_event ?hg (N := 1) ?hd (cs := #[.string a0_0, .int .i64 a0_1, .int .i64 a0_2, .int .i64 a0_3, .int .i64 a0_4, .int .i64 a0_5, .int .i64 a0_6, .int .i64 a0_7]) (t := 23) ?hr ?_; (case hd => rfl); (case hg => rfl); (case hr => first | (go_simp; done) | (go_simp; rfl)); intro gB hg w9 hbox hb; have n0_ := Aside0.mk (below_step (by repeat (first | (with_reducible first | exact HB.out | apply below_alloc | apply pw_below_drewN | apply below_drew1) | exact HB.out)) hb); clear HB; have HB := n0_; clear n0_; have BK := Aside0.mk hbox; clear hb hbox hg; have hcz_0 : w9.cell? ⟨gB, 0, none⟩ = some (.string a0_0) := (blk_cell BK.out 0).trans rfl; have hfz_0 := blk_frozen BK.out 0; have hcz_1 : w9.cell? ⟨gB, 1, none⟩ = some (.int .i64 a0_1) := (blk_cell BK.out 1).trans rfl; have hfz_1 := blk_frozen BK.out 1; have hcz_2 : w9.cell? ⟨gB, 2, none⟩ = some (.int .i64 a0_2) := (blk_cell BK.out 2).trans rfl; have hfz_2 := blk_frozen BK.out 2; have hcz_3 : w9.cell? ⟨gB, 3, none⟩ = some (.int .i64 a0_3) := (blk_cell BK.out 3).trans rfl; have hfz_3 := blk_frozen BK.out 3; have hcz_4 : w9.cell? ⟨gB, 4, none⟩ = some (.int .i64 a0_4) := (blk_cell BK.out 4).trans rfl; have hfz_4 := blk_frozen BK.out 4; have hcz_5 : w9.cell? ⟨gB, 5, none⟩ = some (.int .i64 a0_5) := (blk_cell BK.out 5).trans rfl; have hfz_5 := blk_frozen BK.out 5; have hcz_6 : w9.cell? ⟨gB, 6, none⟩ = some (.int .i64 a0_6) := (blk_cell BK.out 6).trans rfl; have hfz_6 := blk_frozen BK.out 6; have hcz_7 : w9.cell? ⟨gB, 7, none⟩ = some (.int .i64 a0_7) := (blk_cell BK.out 7).trans rfl; have hfz_7 := blk_frozen BK.out 7) | (go_at_call 44; (with_reducible refine (transform_Valid.calls a0_5 _ _ A5.out).mono ?_); rintro e w' ⟨rfl, ⟨nd, rfl⟩⟩) | (go_at_call 42; (with_reducible refine (output_Check.sizes a0_1 _ gB _ a0_0 a0_1 a0_2 a0_3 a0_4 a0_5 a0_6 a0_7 ?hbk hsc.out A1.out).mono ?_); (case hbk => ((with_reducible repeat (first | refine blk_drewN ?_ _ | refine blk_drew ?_ | refine blk_alloc ?_ _)); exact BK.out)); rintro e w' ⟨rfl, ⟨nd, rfl⟩⟩) | (go_at_call 42; (with_reducible refine (output_Check.sizes a0_2 _ gB _ a0_0 a0_1 a0_2 a0_3 a0_4 a0_5 a0_6 a0_7 ?hbk hsc.out A2.out).mono ?_); (case hbk => ((with_reducible repeat (first | refine blk_drewN ?_ _ | refine blk_drew ?_ | refine blk_alloc ?_ _)); exact BK.out)); rintro e w' ⟨rfl, ⟨nd, rfl⟩⟩) | (go_at_call 43; (with_reducible refine (output_Check.place a0_6 _ _ A6.out).mono ?_); rintro e w' ⟨rfl, ⟨nd, rfl⟩⟩) | (go_at_call 43; (with_reducible refine (output_Check.place a0_7 _ _ A7.out).mono ?_); rintro e w' ⟨rfl, ⟨nd, rfl⟩⟩) | (go_at_call 46; (with_reducible refine (output_logical.calls a0_0 a0_1 a0_2 a0_3 a0_4 a0_5 a0_6 a0_7 _ _ _ _ _ AL.out).mono ?_); rintro e w10 ⟨rfl, hb⟩; have n0_ := Aside0.mk (below_step (by repeat (first | (with_reducible first | exact HB.out | apply below_alloc | apply pw_below_drewN | apply below_drew1) | exact HB.out)) hb); clear HB; have HB := n0_; clear n0_ hb) | (go_at_call 45; (with_reducible refine (rect_Valid.calls _ _ _ _ _ _ AR.out).mono ?_); rintro e w11 ⟨rfl, hb⟩; have n0_ := Aside0.mk (below_step (by repeat (first | (with_reducible first | exact HB.out | apply below_alloc | apply pw_below_drewN | apply below_drew1) | exact HB.out)) hb); clear HB; have HB := n0_; clear n0_ hb))
              go_ret
              exact ⟨rfl, (by repeat (first | (with_reducible first | exact HB.out | apply below_alloc | apply pw_below_drewN | apply below_drew1) | exact HB.out))⟩
end
end Go.Proofs.Ytmkhphkkpdiliaa.All
end
section
namespace Go.Proofs.Ytmkhphkkpdiliaa.All
open Go.RowKit Go.Proofs.YtmkhphkkpdiliaaW.PrintWords Go.Proofs.YtmkhphkkpdiliaaW.PrintLast Go.Proofs.YtmkhphkkpdiliaaW.PrintMore
attribute [local go_sem] max2_int min2_int max_two min_two max_three min_three max_four min_four
set_option linter.unusedVariables false
set_option linter.unusedSimpArgs false
def output_Interval.f (a0_0 : ByteArray) (a0_1 : Int) (a0_2 : Int) (a0_3 : Int) (a0_4 : Int) (a0_5 : Int) (a0_6 : Int) (a0_7 : Int) : Option (Int) := (output_Check.f a0_0 a0_1 a0_2 a0_3 a0_4 a0_5 a0_6 a0_7).bind fun t113 => (if t113 = 0 then (if (wrap64 (2 * a0_3)) = 0 then (none) else (some (wrap64 (Int.tdiv (wrap64 (2000000000000 + a0_3)) (wrap64 (2 * a0_3)))))) else (some 0))
set_option maxHeartbeats 8000000 in
set_option maxRecDepth 100000 in
theorem output_Interval.calls (a0_0 : ByteArray) (a0_1 : Int) (a0_2 : Int) (a0_3 : Int) (a0_4 : Int) (a0_5 : Int) (a0_6 : Int) (a0_7 : Int) (r : Int) (w : World) (h : output_Interval.f a0_0 a0_1 a0_2 a0_3 a0_4 a0_5 a0_6 a0_7 = some r) :
    Calls Try.prog 32 #[.agg #[.string a0_0, .int .i64 a0_1, .int .i64 a0_2, .int .i64 a0_3, .int .i64 a0_4, .int .i64 a0_5, .int .i64 a0_6, .int .i64 a0_7]] w fun e w' => e = .returned (.int .i64 r) ∧ Below w.heap.size w w' := by
  have hu23 := Try.underlying23
  have HB := Aside0.mk (Below.refl w.heap.size w)
  have H : ((output_Check.f a0_0 a0_1 a0_2 a0_3 a0_4 a0_5 a0_6 a0_7).bind fun t113 => (if t113 = 0 then (if (wrap64 (2 * a0_3)) = 0 then (none) else (some (wrap64 (Int.tdiv (wrap64 (2000000000000 + a0_3)) (wrap64 (2 * a0_3)))))) else (some 0))) = some r := h
  clear h
  replace H := Option.bind_eq_some_iff.mp H
  obtain ⟨t113, A20, H⟩ := H
  replace H : (if t113 = 0 then (if (wrap64 (2 * a0_3)) = 0 then (none) else (some (wrap64 (Int.tdiv (wrap64 (2000000000000 + a0_3)) (wrap64 (2 * a0_3)))))) else (some 0)) = some r := H
  have A2 := Aside0.mk A20
  clear A20
  by_cases c3 : t113 = 0
  · rw [if_pos c3] at H
    have c3b0 : (t113 == 0) = true := beq_iff_eq.mpr c3
    have c3b1 : (t113 != 0) = false := bne_eq_false_iff_eq.mpr c3
    clear c3
    by_cases c4 : (wrap64 (2 * a0_3)) = 0
    · rw [if_pos c4] at H
      exact absurd H (by simp)
    · rw [if_neg c4] at H
      have c4b0 : ((wrap64 (2 * a0_3)) == 0) = false := beq_eq_false_iff_ne.mpr c4
      have c4b1 : ((wrap64 (2 * a0_3)) != 0) = true := bne_iff_ne.mpr c4
      obtain rfl := Option.some.inj H
      go_enter Try.func32, Try.ntmps32
      go_wp2_with (first | ((with_reducible refine gate_dst (N := 1) rfl ?_); refine box_event ?hg (N := 1) ?hd (cs := #[.string a0_0, .int .i64 a0_1, .int .i64 a0_2, .int .i64 a0_3, .int .i64 a0_4, .int .i64 a0_5, .int .i64 a0_6, .int .i64 a0_7]) (t := 23) ?hr ?_; (case hd => rfl); (case hg => rfl); (case hr => first | (go_simp; done) | (go_simp; rfl)); intro gb112 hg w5 hbox hb; have n0_ := Aside0.mk (below_step (by repeat (first | (with_reducible first | exact HB.out | apply below_alloc | apply pw_below_drewN | apply below_drew1) | exact HB.out)) hb); have n1_ := Aside0.mk (hbox); have n2_ := Aside0.mk ((by rw [hg]; exact (below_size (by repeat (first | (with_reducible first | exact HB.out | apply below_alloc | apply pw_below_drewN | apply below_drew1) | exact HB.out))) : w.heap.size ≤ gb112)); have n3_ := Aside0.mk ((by rw [hg]; exact (below_size (by repeat (first | (with_reducible first | exact HB.out | apply below_alloc | apply pw_below_drewN | apply below_drew1) | exact HB.out))) : w.heap.size ≤ gb112)); clear HB; have HB := n0_; have BK112 := n1_; have GW112 := n2_; have GE112 := n3_; clear n0_ n1_ n2_ n3_; clear hb hbox hg; have hcz6_0 : w5.cell? ⟨gb112, 0, none⟩ = some (.string a0_0) := (blk_cell BK112.out 0).trans rfl; have hcz6_1 : w5.cell? ⟨gb112, 1, none⟩ = some (.int .i64 a0_1) := (blk_cell BK112.out 1).trans rfl; have hcz6_2 : w5.cell? ⟨gb112, 2, none⟩ = some (.int .i64 a0_2) := (blk_cell BK112.out 2).trans rfl; have hcz6_3 : w5.cell? ⟨gb112, 3, none⟩ = some (.int .i64 a0_3) := (blk_cell BK112.out 3).trans rfl; have hcz6_4 : w5.cell? ⟨gb112, 4, none⟩ = some (.int .i64 a0_4) := (blk_cell BK112.out 4).trans rfl; have hcz6_5 : w5.cell? ⟨gb112, 5, none⟩ = some (.int .i64 a0_5) := (blk_cell BK112.out 5).trans rfl; have hcz6_6 : w5.cell? ⟨gb112, 6, none⟩ = some (.int .i64 a0_6) := (blk_cell BK112.out 6).trans rfl; have hcz6_7 : w5.cell? ⟨gb112, 7, none⟩ = some (.int .i64 a0_7) := (blk_cell BK112.out 7).trans rfl; have hfz6_0 := blk_frozen BK112.out 0; have hfz6_1 := blk_frozen BK112.out 1; have hfz6_2 := blk_frozen BK112.out 2; have hfz6_3 := blk_frozen BK112.out 3; have hfz6_4 := blk_frozen BK112.out 4; have hfz6_5 := blk_frozen BK112.out 5; have hfz6_6 := blk_frozen BK112.out 6; have hfz6_7 := blk_frozen BK112.out 7) | ((with_reducible refine gate_callee (f := 31) rfl ?_); refine goesL_ (some 4) rfl rfl Try.func31 (by kernel_rfl) rfl #[.agg #[.string a0_0, .int .i64 a0_1, .int .i64 a0_2, .int .i64 a0_3, .int .i64 a0_4, .int .i64 a0_5, .int .i64 a0_6, .int .i64 a0_7]] rfl (by (try simp only [List.map_toArray, List.map_cons, List.map_nil]); first | done | rfl | (simp only [List.length_drop, List.length_take]; rfl)) ?_; (with_reducible refine (output_Check.calls a0_0 a0_1 a0_2 a0_3 a0_4 a0_5 a0_6 a0_7 t113 _ A2.out).mono ?_); rintro e w7 ⟨rfl, hb⟩; refine ⟨_, rfl, ?_⟩; have n0_ := Aside0.mk (blk_below (g := gb112) (o := .cells #[.string a0_0, .int .i64 a0_1, .int .i64 a0_2, .int .i64 a0_3, .int .i64 a0_4, .int .i64 a0_5, .int .i64 a0_6, .int .i64 a0_7] 23 (0, 0)) (by (with_reducible repeat (first | refine blk_drewN ?_ _ | refine blk_drew ?_ | refine blk_alloc ?_ _)); exact BK112.out) hb); have n1_ := Aside0.mk (below_step (by repeat (first | (with_reducible first | exact HB.out | apply below_alloc | apply pw_below_drewN | apply below_drew1 | refine below_set ?_ GE112.out) | exact HB.out)) hb); clear BK112; clear HB; have BK112 := n0_; have HB := n1_; clear n0_ n1_; (try clear hb); (try clear hb2); (try clear hk); (try clear hi); have hcz8_0 : w7.cell? ⟨gb112, 0, none⟩ = some (.string a0_0) := (blk_cell BK112.out 0).trans rfl; have hcz8_1 : w7.cell? ⟨gb112, 1, none⟩ = some (.int .i64 a0_1) := (blk_cell BK112.out 1).trans rfl; have hcz8_2 : w7.cell? ⟨gb112, 2, none⟩ = some (.int .i64 a0_2) := (blk_cell BK112.out 2).trans rfl; have hcz8_3 : w7.cell? ⟨gb112, 3, none⟩ = some (.int .i64 a0_3) := (blk_cell BK112.out 3).trans rfl; have hcz8_4 : w7.cell? ⟨gb112, 4, none⟩ = some (.int .i64 a0_4) := (blk_cell BK112.out 4).trans rfl; have hcz8_5 : w7.cell? ⟨gb112, 5, none⟩ = some (.int .i64 a0_5) := (blk_cell BK112.out 5).trans rfl; have hcz8_6 : w7.cell? ⟨gb112, 6, none⟩ = some (.int .i64 a0_6) := (blk_cell BK112.out 6).trans rfl; have hcz8_7 : w7.cell? ⟨gb112, 7, none⟩ = some (.int .i64 a0_7) := (blk_cell BK112.out 7).trans rfl; have hfz8_0 := blk_frozen BK112.out 0; have hfz8_1 := blk_frozen BK112.out 1; have hfz8_2 := blk_frozen BK112.out 2; have hfz8_3 := blk_frozen BK112.out 3; have hfz8_4 := blk_frozen BK112.out 4; have hfz8_5 := blk_frozen BK112.out 5; have hfz8_6 := blk_frozen BK112.out 6; have hfz8_7 := blk_frozen BK112.out 7))
      go_ret
      exact ⟨by first | rfl | (simp [errW_none, errW_some] <;> rfl) | (simp [*, errW_none, errW_some] <;> rfl), by repeat (first | (with_reducible first | exact HB.out | apply below_alloc | apply pw_below_drewN | apply below_drew1 | refine below_set ?_ GE112.out) | exact HB.out)⟩
  · rw [if_neg c3] at H
    have c3b0 : (t113 == 0) = false := beq_eq_false_iff_ne.mpr c3
    have c3b1 : (t113 != 0) = true := bne_iff_ne.mpr c3
    obtain rfl := Option.some.inj H
    go_enter Try.func32, Try.ntmps32
    go_wp2_with (first | ((with_reducible refine gate_dst (N := 1) rfl ?_); refine box_event ?hg (N := 1) ?hd (cs := #[.string a0_0, .int .i64 a0_1, .int .i64 a0_2, .int .i64 a0_3, .int .i64 a0_4, .int .i64 a0_5, .int .i64 a0_6, .int .i64 a0_7]) (t := 23) ?hr ?_; (case hd => rfl); (case hg => rfl); (case hr => first | (go_simp; done) | (go_simp; rfl)); intro gb112 hg w9 hbox hb; have n0_ := Aside0.mk (below_step (by repeat (first | (with_reducible first | exact HB.out | apply below_alloc | apply pw_below_drewN | apply below_drew1) | exact HB.out)) hb); have n1_ := Aside0.mk (hbox); have n2_ := Aside0.mk ((by rw [hg]; exact (below_size (by repeat (first | (with_reducible first | exact HB.out | apply below_alloc | apply pw_below_drewN | apply below_drew1) | exact HB.out))) : w.heap.size ≤ gb112)); have n3_ := Aside0.mk ((by rw [hg]; exact (below_size (by repeat (first | (with_reducible first | exact HB.out | apply below_alloc | apply pw_below_drewN | apply below_drew1) | exact HB.out))) : w.heap.size ≤ gb112)); clear HB; have HB := n0_; have BK112 := n1_; have GW112 := n2_; have GE112 := n3_; clear n0_ n1_ n2_ n3_; clear hb hbox hg; have hcz10_0 : w9.cell? ⟨gb112, 0, none⟩ = some (.string a0_0) := (blk_cell BK112.out 0).trans rfl; have hcz10_1 : w9.cell? ⟨gb112, 1, none⟩ = some (.int .i64 a0_1) := (blk_cell BK112.out 1).trans rfl; have hcz10_2 : w9.cell? ⟨gb112, 2, none⟩ = some (.int .i64 a0_2) := (blk_cell BK112.out 2).trans rfl; have hcz10_3 : w9.cell? ⟨gb112, 3, none⟩ = some (.int .i64 a0_3) := (blk_cell BK112.out 3).trans rfl; have hcz10_4 : w9.cell? ⟨gb112, 4, none⟩ = some (.int .i64 a0_4) := (blk_cell BK112.out 4).trans rfl; have hcz10_5 : w9.cell? ⟨gb112, 5, none⟩ = some (.int .i64 a0_5) := (blk_cell BK112.out 5).trans rfl; have hcz10_6 : w9.cell? ⟨gb112, 6, none⟩ = some (.int .i64 a0_6) := (blk_cell BK112.out 6).trans rfl; have hcz10_7 : w9.cell? ⟨gb112, 7, none⟩ = some (.int .i64 a0_7) := (blk_cell BK112.out 7).trans rfl; have hfz10_0 := blk_frozen BK112.out 0; have hfz10_1 := blk_frozen BK112.out 1; have hfz10_2 := blk_frozen BK112.out 2; have hfz10_3 := blk_frozen BK112.out 3; have hfz10_4 := blk_frozen BK112.out 4; have hfz10_5 := blk_frozen BK112.out 5; have hfz10_6 := blk_frozen BK112.out 6; have hfz10_7 := blk_frozen BK112.out 7) | ((with_reducible refine gate_callee (f := 31) rfl ?_); refine goesL_ (some 4) rfl rfl Try.func31 (by kernel_rfl) rfl #[.agg #[.string a0_0, .int .i64 a0_1, .int .i64 a0_2, .int .i64 a0_3, .int .i64 a0_4, .int .i64 a0_5, .int .i64 a0_6, .int .i64 a0_7]] rfl (by (try simp only [List.map_toArray, List.map_cons, List.map_nil]); first | done | rfl | (simp only [List.length_drop, List.length_take]; rfl)) ?_; (with_reducible refine (output_Check.calls a0_0 a0_1 a0_2 a0_3 a0_4 a0_5 a0_6 a0_7 t113 _ A2.out).mono ?_); rintro e w11 ⟨rfl, hb⟩; refine ⟨_, rfl, ?_⟩; have n0_ := Aside0.mk (blk_below (g := gb112) (o := .cells #[.string a0_0, .int .i64 a0_1, .int .i64 a0_2, .int .i64 a0_3, .int .i64 a0_4, .int .i64 a0_5, .int .i64 a0_6, .int .i64 a0_7] 23 (0, 0)) (by (with_reducible repeat (first | refine blk_drewN ?_ _ | refine blk_drew ?_ | refine blk_alloc ?_ _)); exact BK112.out) hb); have n1_ := Aside0.mk (below_step (by repeat (first | (with_reducible first | exact HB.out | apply below_alloc | apply pw_below_drewN | apply below_drew1 | refine below_set ?_ GE112.out) | exact HB.out)) hb); clear BK112; clear HB; have BK112 := n0_; have HB := n1_; clear n0_ n1_; (try clear hb); (try clear hb2); (try clear hk); (try clear hi)))
    go_ret
    exact ⟨by first | rfl | (simp [errW_none, errW_some] <;> rfl) | (simp [*, errW_none, errW_some] <;> rfl), by repeat (first | (with_reducible first | exact HB.out | apply below_alloc | apply pw_below_drewN | apply below_drew1 | refine below_set ?_ GE112.out) | exact HB.out)⟩
end Go.Proofs.Ytmkhphkkpdiliaa.All
end
section
namespace Go.Proofs.Ytmkhphkkpdiliaa.All
open Go.Proofs.YtmkhphkkpdiliaaSq
open Go.RowKit Go.Proofs.YtmkhphkkpdiliaaW.PrintWords Go.Proofs.YtmkhphkkpdiliaaW.PrintLast Go.Proofs.YtmkhphkkpdiliaaW.PrintMore
attribute [local go_sem] max2_int min2_int max_two min_two max_three min_three max_four min_four
set_option linter.unusedVariables false
set_option linter.unusedSimpArgs false
section
open Go.Proofs.YtmkhphkkpdiliaaHand Go.Proofs.YtmkhphkkpdiliaaSq
theorem usable_ok (w : World) (g : Nat) (iv : Int) (h0 : w.cell? ⟨g, 0, none⟩ = some (.int .i64 iv)) (hf : w.frozen? ⟨g, 0, none⟩ = false) (hiv : 1 ≤ iv) : Calls Try.prog 36 #[.pointer (some ⟨g, 0, none⟩)] w fun e w' => e = .returned (.bool true) ∧ ∃ nd, w' = w.drewN nd := by
  have hu69 := Try.underlying69
  have d0 : decide (0 < iv) = true := decide_eq_true (by omega)
  go_enter Try.func36, Try.ntmps36
  go_wp2_with fail
  go_ret
  exact ⟨rfl, 0, rfl⟩
theorem clamp_ok (w : World) (a0 : Int) : Calls Try.prog 37 #[.int .i64 a0] w fun e w' => e = .returned (.int .i64 (mn (mx a0 0) 4611686018427387904)) ∧ ∃ nd, w' = w.drewN nd := by
  obtain ⟨ji2, hji2⟩ : ∃ j_ : Int, (mx a0 0) = j_ := ⟨_, rfl⟩
  have hji2_ : (if a0 < 0 then 0 else a0) = ji2 := hji2
  obtain ⟨ji3, hji3⟩ : ∃ j_ : Int, (mn (ji2) 4611686018427387904) = j_ := ⟨_, rfl⟩
  have hji3_ : (if 4611686018427387904 < (ji2) then 4611686018427387904 else (ji2)) = ji3 := hji3
  rw [hji2, hji3]
  go_enter Try.func37, Try.ntmps37
  go_wp2
  go_ret
  exact ⟨rfl, 0, rfl⟩
def nextOf (iv now : Int) : Int := wrap64 ((wrap64 ((wrap64 (Int.tdiv (mn (mx now 0) 4611686018427387904) iv)) + 1)) * iv)
theorem next_ok (w : World) (g : Nat) (iv now : Int) (h0 : w.cell? ⟨g, 0, none⟩ = some (.int .i64 iv)) (hf : w.frozen? ⟨g, 0, none⟩ = false) (hiv : 1 ≤ iv) : Calls Try.prog 13 #[.pointer (some ⟨g, 0, none⟩), .int .i64 now] w fun e w' => e = .returned (.int .i64 (nextOf iv now)) ∧ ∃ nd, w' = w.drewN nd := by
  have hu69 := Try.underlying69
  have hi0 : ¬ iv = 0 := by omega
  have hh := Aside0.mk h0
  have hhf := Aside0.mk hf
  have hiv' := Aside0.mk hiv
  go_enter Try.func13, Try.ntmps13
  go_wp2_with (first | (go_at_call 36; (with_reducible refine (usable_ok _ g iv (by exact hh.out) (by exact hhf.out) hiv'.out).mono ?_); rintro e w' ⟨rfl, ⟨nd, rfl⟩⟩) | (go_at_call 37; (with_reducible refine (clamp_ok _ now).mono ?_); rintro e w' ⟨rfl, ⟨nd, rfl⟩⟩))
  have hh1 : (w.drewN nd).drew.cell? ⟨g, 0, none⟩ = some (.int .i64 iv) := hh.out
  have hh2 : (w.drewN nd).drew.frozen? ⟨g, 0, none⟩ = false := hhf.out
  go_region_held3 (fun w' => w'.cell? ⟨g, 0, none⟩ = some (.int .i64 iv)) (exact hh.out) (first | (go_at_call 37; (with_reducible refine (clamp_ok _ now).mono ?_); rintro e w' ⟨rfl, ⟨nd2, rfl⟩⟩))
  go_wp2
  go_ret
  exact ⟨by simp only [nextOf, i64_w]; rfl, _, rfl⟩
theorem sequence_ok (w : World) (g : Nat) (iv now : Int) (h0 : w.cell? ⟨g, 0, none⟩ = some (.int .i64 iv)) (hf : w.frozen? ⟨g, 0, none⟩ = false) (h1 : w.cell? ⟨g, 1, none⟩ = some (.int .i64 now)) (hf1 : w.frozen? ⟨g, 1, none⟩ = false) (hiv : 1 ≤ iv) : Calls Try.prog 19 #[.pointer (some ⟨g, 0, none⟩)] w fun e w' => e = .returned (.int .i64 (wrap64 (Int.tdiv now iv))) ∧ ∃ nd, w' = w.drewN nd := by
  have hu69 := Try.underlying69
  have hi0 : ¬ iv = 0 := by omega
  have hh := Aside0.mk h0
  have hhf := Aside0.mk hf
  have hg := Aside0.mk h1
  have hgf := Aside0.mk hf1
  have hiv' := Aside0.mk hiv
  go_enter Try.func19, Try.ntmps19
  go_wp2_with (first | (go_at_call 36; (with_reducible refine (usable_ok _ g iv (by exact hh.out) (by exact hhf.out) hiv'.out).mono ?_); rintro e w' ⟨rfl, ⟨nd, rfl⟩⟩))
  have hh1 : (w.drewN nd).drew.cell? ⟨g, 0, none⟩ = some (.int .i64 iv) := hh.out
  have hh2 : (w.drewN nd).drew.frozen? ⟨g, 0, none⟩ = false := hhf.out
  have hh3 : (w.drewN nd).drew.cell? ⟨g, 1, none⟩ = some (.int .i64 now) := hg.out
  have hh4 : (w.drewN nd).drew.frozen? ⟨g, 1, none⟩ = false := hgf.out
  go_region_held3 (fun w' => w'.cell? ⟨g, 0, none⟩ = some (.int .i64 iv) ∧ w'.cell? ⟨g, 1, none⟩ = some (.int .i64 now)) (exact ⟨hh.out, hg.out⟩) (fail)
  go_wp2
  go_ret
  exact ⟨by simp only [i64_w]; rfl, nd + 1, rfl⟩
theorem pending_ok (w : World) (g : Nat) (iv : Int) (A : Option Addr) (n c : Nat) (h0 : w.cell? ⟨g, 0, none⟩ = some (.int .i64 iv)) (hf : w.frozen? ⟨g, 0, none⟩ = false) (h1 : w.cell? ⟨g, 2, none⟩ = some (.slice A n c)) (hf1 : w.frozen? ⟨g, 2, none⟩ = false) (hiv : 1 ≤ iv) : Calls Try.prog 17 #[.pointer (some ⟨g, 0, none⟩)] w fun e w' => e = .returned (.int .i64 n) ∧ ∃ nd, w' = w.drewN nd := by
  have hu69 := Try.underlying69
  have hh := Aside0.mk h0
  have hhf := Aside0.mk hf
  have hg := Aside0.mk h1
  have hgf := Aside0.mk hf1
  have hiv' := Aside0.mk hiv
  go_enter Try.func17, Try.ntmps17
  go_wp2_with (first | (go_at_call 36; (with_reducible refine (usable_ok _ g iv (by exact hh.out) (by exact hhf.out) hiv'.out).mono ?_); rintro e w' ⟨rfl, ⟨nd, rfl⟩⟩))
  go_ret
  exact ⟨rfl, _, rfl⟩
set_option maxHeartbeats 8000000 in
set_option maxRecDepth 100000 in
theorem new_ok (a0_0 : ByteArray) (a0_1 a0_2 a0_3 a0_4 a0_5 a0_6 a0_7 : Int) (iv : Int) (w : World) (h : output_Check.f a0_0 a0_1 a0_2 a0_3 a0_4 a0_5 a0_6 a0_7 = some 0) (hi : output_Interval.f a0_0 a0_1 a0_2 a0_3 a0_4 a0_5 a0_6 a0_7 = some iv) :
    Calls Try.prog 10 #[.agg #[.string a0_0, .int .i64 a0_1, .int .i64 a0_2, .int .i64 a0_3, .int .i64 a0_4, .int .i64 a0_5, .int .i64 a0_6, .int .i64 a0_7]] w fun e w' => ∃ g, e = .returned (.tuple #[.pointer (some ⟨g, 0, none⟩), .int .i64 0]) ∧ w'.heap[g]? = some (.cells #[.int .i64 iv, .int .i64 0, .slice none 0 0] 69 (0, 0)) ∧ w.heap.size ≤ g ∧ Below w.heap.size w w' := by
  have hu23 := Try.underlying23
  have hu69 := Try.underlying69
  have HB := Aside0.mk (Below.refl w.heap.size w)
  have hC := Aside0.mk h
  have hI := Aside0.mk hi
  clear h hi
  go_enter Try.func10, Try.ntmps10
  go_wp2_with (first | ((with_reducible refine gate_dst (N := 1) rfl ?_); refine box_event ?hg (N := 1) ?hd (cs := #[.string a0_0, .int .i64 a0_1, .int .i64 a0_2, .int .i64 a0_3, .int .i64 a0_4, .int .i64 a0_5, .int .i64 a0_6, .int .i64 a0_7]) (t := 23) ?hr ?_; (case hd => rfl); (case hg => rfl); (case hr => first | (go_simp; done) | (go_simp; rfl)); intro gB hg w9 hbox hb; have n0_ := Aside0.mk (below_step (by repeat (first | (with_reducible first | exact HB.out | apply below_alloc | apply pw_below_drewN | apply below_drew1) | exact HB.out)) hb); clear HB; have HB := n0_; clear n0_; have BK := Aside0.mk hbox; clear hb hbox hg; have hcz_0 : w9.cell? ⟨gB, 0, none⟩ = some (.string a0_0) := (blk_cell BK.out 0).trans rfl; have fcz_0 := blk_frozen BK.out 0; have hcz_1 : w9.cell? ⟨gB, 1, none⟩ = some (.int .i64 a0_1) := (blk_cell BK.out 1).trans rfl; have fcz_1 := blk_frozen BK.out 1; have hcz_2 : w9.cell? ⟨gB, 2, none⟩ = some (.int .i64 a0_2) := (blk_cell BK.out 2).trans rfl; have fcz_2 := blk_frozen BK.out 2; have hcz_3 : w9.cell? ⟨gB, 3, none⟩ = some (.int .i64 a0_3) := (blk_cell BK.out 3).trans rfl; have fcz_3 := blk_frozen BK.out 3; have hcz_4 : w9.cell? ⟨gB, 4, none⟩ = some (.int .i64 a0_4) := (blk_cell BK.out 4).trans rfl; have fcz_4 := blk_frozen BK.out 4; have hcz_5 : w9.cell? ⟨gB, 5, none⟩ = some (.int .i64 a0_5) := (blk_cell BK.out 5).trans rfl; have fcz_5 := blk_frozen BK.out 5; have hcz_6 : w9.cell? ⟨gB, 6, none⟩ = some (.int .i64 a0_6) := (blk_cell BK.out 6).trans rfl; have fcz_6 := blk_frozen BK.out 6; have hcz_7 : w9.cell? ⟨gB, 7, none⟩ = some (.int .i64 a0_7) := (blk_cell BK.out 7).trans rfl; have fcz_7 := blk_frozen BK.out 7) | (go_at_call 31; (with_reducible refine (output_Check.calls a0_0 a0_1 a0_2 a0_3 a0_4 a0_5 a0_6 a0_7 _ _ hC.out).mono ?_); rintro e w10 ⟨rfl, hb⟩; have n0_ := Aside0.mk (below_step (by repeat (first | (with_reducible first | exact HB.out | apply below_alloc | apply pw_below_drewN | apply below_drew1) | exact HB.out)) hb); have n1_ := Aside0.mk (blk_below (g := gB) (o := .cells #[.string a0_0, .int .i64 a0_1, .int .i64 a0_2, .int .i64 a0_3, .int .i64 a0_4, .int .i64 a0_5, .int .i64 a0_6, .int .i64 a0_7] 23 (0, 0)) (by ((with_reducible repeat (first | refine blk_drewN ?_ _ | refine blk_drew ?_ | refine blk_alloc ?_ _)); exact BK.out)) hb); clear HB BK; have HB := n0_; have BK := n1_; clear n0_ n1_ hb; have hca_0 : w10.cell? ⟨gB, 0, none⟩ = some (.string a0_0) := (blk_cell BK.out 0).trans rfl; have fca_0 := blk_frozen BK.out 0; have hca_1 : w10.cell? ⟨gB, 1, none⟩ = some (.int .i64 a0_1) := (blk_cell BK.out 1).trans rfl; have fca_1 := blk_frozen BK.out 1; have hca_2 : w10.cell? ⟨gB, 2, none⟩ = some (.int .i64 a0_2) := (blk_cell BK.out 2).trans rfl; have fca_2 := blk_frozen BK.out 2; have hca_3 : w10.cell? ⟨gB, 3, none⟩ = some (.int .i64 a0_3) := (blk_cell BK.out 3).trans rfl; have fca_3 := blk_frozen BK.out 3; have hca_4 : w10.cell? ⟨gB, 4, none⟩ = some (.int .i64 a0_4) := (blk_cell BK.out 4).trans rfl; have fca_4 := blk_frozen BK.out 4; have hca_5 : w10.cell? ⟨gB, 5, none⟩ = some (.int .i64 a0_5) := (blk_cell BK.out 5).trans rfl; have fca_5 := blk_frozen BK.out 5; have hca_6 : w10.cell? ⟨gB, 6, none⟩ = some (.int .i64 a0_6) := (blk_cell BK.out 6).trans rfl; have fca_6 := blk_frozen BK.out 6; have hca_7 : w10.cell? ⟨gB, 7, none⟩ = some (.int .i64 a0_7) := (blk_cell BK.out 7).trans rfl; have fca_7 := blk_frozen BK.out 7) | (go_at_call 32; (with_reducible refine (output_Interval.calls a0_0 a0_1 a0_2 a0_3 a0_4 a0_5 a0_6 a0_7 _ _ hI.out).mono ?_); rintro e w11 ⟨rfl, hb⟩; have n0_ := Aside0.mk (below_step (by repeat (first | (with_reducible first | exact HB.out | apply below_alloc | apply pw_below_drewN | apply below_drew1) | exact HB.out)) hb); clear HB; have HB := n0_; clear n0_ hb) | ((with_reducible refine gate_dst (N := 13) rfl ?_); refine box_event ?hg (N := 13) ?hd (cs := #[.int .i64 iv, .int .i64 0, .slice none 0 0]) (t := 69) ?hr ?_; (case hd => rfl); (case hg => rfl); (case hr => first | (go_simp; done) | (go_simp; rfl)); intro gC hg w12 hbox hb; have n1_ := Aside0.mk ((by rw [hg]; exact (below_size (by repeat (first | (with_reducible first | exact HB.out | apply below_alloc | apply pw_below_drewN | apply below_drew1) | exact HB.out))) : w.heap.size ≤ gC)); have n0_ := Aside0.mk (below_step (by repeat (first | (with_reducible first | exact HB.out | apply below_alloc | apply pw_below_drewN | apply below_drew1) | exact HB.out)) hb); clear HB; have HB := n0_; clear n0_; have CK := Aside0.mk hbox; clear hb hbox hg))
  go_ret2
  exact ⟨gC, rfl, CK.out, n1_.out, HB.out⟩
theorem info75 : (Try.prog.info? 75).map (fun i => (i.zero, i.size, i.bytes)) = some (some (.agg #[(.int .i64 0), (.slice none 0 0)]), 2, 32) := by kernel_rfl
structure Clk (w0 w : World) (g : Nat) (iv now : Int) (vq : Value) (q : List S78) : Prop where
  blk : w.heap[g]? = some (.cells #[.int .i64 iv, .int .i64 now, vq] 69 (0, 0))
  low : w0.heap.size ≤ g
  own : Kd.N k78 75 w w0.heap.size (fun k => w0.heap.size ≤ k ∧ k ≠ g) vq q
  below : Below w0.heap.size w0 w
def Stp (w w' : World) (g : Nat) (vq vq' : Value) : Prop := Kept w w' (fun k => k = g ∨ some k = vq.ownBlock) ∧ (vq'.ownBlock = vq.ownBlock ∨ vq'.ownBlock = none ∨ ∃ b, vq'.ownBlock = some b ∧ w.heap.size ≤ b)
theorem Clk.cells {w0 w : World} {g : Nat} {iv now : Int} {vq : Value} {q : List S78} (h : Clk w0 w g iv now vq q) : (w.cell? ⟨g, 0, none⟩ = some (.int .i64 iv) ∧ w.frozen? ⟨g, 0, none⟩ = false) ∧ (w.cell? ⟨g, 1, none⟩ = some (.int .i64 now) ∧ w.frozen? ⟨g, 1, none⟩ = false) ∧ (w.cell? ⟨g, 2, none⟩ = some vq ∧ w.frozen? ⟨g, 2, none⟩ = false) :=
  ⟨⟨(blk_cell h.blk 0).trans rfl, blk_frozen h.blk 0⟩, ⟨(blk_cell h.blk 1).trans rfl, blk_frozen h.blk 1⟩, (blk_cell h.blk 2).trans rfl, blk_frozen h.blk 2⟩
theorem Clk.drewN {w0 w : World} {g : Nat} {iv now : Int} {vq : Value} {q : List S78} (h : Clk w0 w g iv now vq q) (n : Nat) : Clk w0 (w.drewN n) g iv now vq q := ⟨blk_drewN h.blk n, h.low, Kd.N_drewN h.own n, pw_below_drewN h.below n⟩
theorem Clk.drew {w0 w : World} {g : Nat} {iv now : Int} {vq : Value} {q : List S78} (h : Clk w0 w g iv now vq q) : Clk w0 w.drew g iv now vq q := ⟨blk_drew h.blk, h.low, Kd.N_drew h.own, below_drew1 h.below⟩
theorem below_thru {w0 w w1 : World} (h : Below w0.heap.size w0 w) (hb : Below w.heap.size w w1) : Below w0.heap.size w0 w1 := below_step h hb
theorem Clk.after {w0 w w1 : World} {g : Nat} {iv now : Int} {vq : Value} {q : List S78} (h : Clk w0 w g iv now vq q) (hb : Below w.heap.size w w1) : Clk w0 w1 g iv now vq q := ⟨blk_below h.blk hb, h.low, Kd.N_below h.own hb, below_thru h.below hb⟩
set_option maxHeartbeats 8000000 in
set_option maxRecDepth 100000 in
theorem commit_ok (w0 w : World) (g : Nat) (iv now s : Int) (vq : Value) (q : List S78) (A2 : Option Addr) (c2 : Nat) (l2 : List Int) (hK : Clk w0 w g iv now vq q) (hiv : 1 ≤ iv) (hs : 1 ≤ s) (hq : q.length < 256) (hl : l2.length ≤ 256) (hr2 : Kd.C (Kd.int .u32) w A2 l2.length l2) (hc2 : l2.length ≤ c2) :
    Calls Try.prog 16 #[.pointer (some ⟨g, 0, none⟩), .int .i64 s, .slice A2 l2.length c2] w fun e w' => e = .returned (.int .i64 0) ∧ ∃ vq', Clk w0 w' g iv now vq' (q ++ [⟨s, l2⟩]) ∧ Stp w w' g vq vq' := by
  have hu69 := Try.underlying69
  obtain ⟨Aq, cq, rfl⟩ := Kd.N_slice hK.own
  have hh := Aside0.mk hK.cells
  have c2_ := hh.out.2.2.1
  have f2_ := hh.out.2.2.2
  have HK := Aside0.mk hK
  have HR2 := Aside0.mk (And.intro hr2 hc2)
  have hiv' := Aside0.mk hiv
  have HQ := Aside0.mk (And.intro hq hl)
  have d0 : decide (s < 1) = false := decide_eq_false (by omega)
  have d1 : decide (256 ≤ q.length) = false := decide_eq_false (by omega)
  have d2 : decide (256 ≤ (q.length : Int)) = false := decide_eq_false (by omega)
  have d3 : decide (256 < l2.length) = false := decide_eq_false (by omega)
  have d4 : decide (256 < (l2.length : Int)) = false := decide_eq_false (by omega)
  clear hK hs hq hl hr2 hc2
  go_enter Try.func16, Try.ntmps16
  go_wp2_with (first | (go_at_call 36; (with_reducible refine (usable_ok _ g iv (by exact hh.out.1.1) (by exact hh.out.1.2) hiv'.out).mono ?_); rintro e w' ⟨rfl, ⟨nd, rfl⟩⟩))
  clear c2_ f2_
  obtain ⟨W, hW⟩ : ∃ W, W = (w.drewN nd).drew := ⟨_, rfl⟩
  have hbW : Aside0 (Below w.heap.size w W) := ⟨by rw [hW]; exact below_drew1 (pw_below_drewN (Below.refl _ _) _)⟩
  have HKW : Aside0 (Clk w0 W g iv now (.slice Aq q.length cq) q) := ⟨by rw [hW]; exact (HK.out.drewN nd).drew⟩
  refine start_ (n := 14) (S := fun w' => w'.cell? ⟨g, 2, none⟩ = some (.slice Aq q.length cq) ∧ w'.frozen? ⟨g, 2, none⟩ = false) (ds := [13]) #[false, false, false, false, false, false, false, false, false, false, false, false, false, false] (by kernel_rfl) rfl rfl (by rw [← hW]; exact ⟨HKW.out.cells.2.2.1, HKW.out.cells.2.2.2⟩) (fun hHeld => ?_)
  rw [← hW] at hHeld ⊢
  have HT_ : Aside0 (rtab .any (opsOf Try.f16 7) = rtab .any (opsOf Try.f16 7)) := ⟨rfl⟩
  refine pv_ 0 26 #[true, false, false, false, false, false, false, false, false, false, false, false, false, false] HT_ ?_
  refine pv_ 1 27 #[true, true, false, false, false, false, false, false, false, false, false, false, false, false] HT_ ?_
  refine pv_ 2 28 #[true, true, true, false, false, false, false, false, false, false, false, false, false, false] HT_ ?_
  refine pv_ 3 29 #[true, true, true, true, false, false, false, false, false, false, false, false, false, false] HT_ ?_
  refine pv_ 5 31 #[true, true, true, true, false, true, false, false, false, false, false, false, false, false] HT_ ?_
  refine pv_ 6 32 #[true, true, true, true, false, true, true, false, false, false, false, false, false, false] HT_ ?_
  refine take_ (i := 4) (N := some 30) (v := ?_) (a' := ?_) #[true, true, true, true, true, true, true, false, false, false, false, false, false, false] rfl rfl (take_of HT_.out (by kernel_rfl)) (fun _ _ _ h => h) (Or.inl ⟨by rfl, ?_⟩) hHeld ?_ ?_
  rotate_left
  · rintro w' ⟨s0, s1⟩
    go_simp
    with_reducible rfl
  rotate_left
  · simp only [Act.put, List.setIfInBounds_toArray, List.set_cons_zero, List.set_cons_succ, i64_w, i32_w]
    rfl
  refine one_ (i := 7) (N := some 33) #[true, true, true, true, true, true, true, true, false, false, false, false, false, false] rfl rfl (one_of HT_.out (by kernel_rfl)) (by decide) (fun K hK => ?_)
  refine Kd.R_append_rows_step (Kd.int .u32) (w0 := w) w.heap.size (by rfl) (.const (.slice none 0 0)) (.tmp 32) 37 36 (.int .u32 0) 4 rfl Try.underlying37 info36 rfl (by decide) (by omega) (.slice none 0 0) [] l2 A2 l2.length c2 (fun k => w.heap.size ≤ k) (fun _ => False) rfl rfl (Kd.R_nil _ _ _ _ _) (Kd.C_below HR2.out.1 hbW.out) (fun x cs h => h) (fun _ h => h.elim) (fun k hk => Nat.le_trans hbW.out.size hk) hbW.out hbW.out.size (by have := HQ.out.2; rw [List.length_nil]; omega) ?_
  rw [List.nil_append]
  intro v1 w1 hv1 hb1 _ hat1
  obtain ⟨A1, c1, e1⟩ := Kd.R_slice hv1
  subst e1
  have HV1 := Aside0.mk hv1
  have HB1 := Aside0.mk hb1
  have HK1 := Aside0.mk (HK.out.after hb1)
  clear hv1 hb1 hat1
  refine hK.out _ _ ⟨HK1.out.cells.2.2.1, HK1.out.cells.2.2.2⟩ (fun hHeld => ?_)
  clear hK K
  refine norm_ (a' := ?_) ?_ ?_
  rotate_left
  · show Act.put _ (some 33) _ = _
    simp only [Act.put, List.setIfInBounds_toArray, List.set_cons_zero, List.set_cons_succ, i64_w, i32_w]
    rfl
  refine pv_ 8 34 #[true, true, true, true, true, true, true, true, true, false, false, false, false, false] HT_ ?_
  refine one_ (i := 9) (N := some 35) #[true, true, true, true, true, true, true, true, true, true, false, false, false, false] rfl rfl (one_of HT_.out (by kernel_rfl)) (by decide) (fun K hK => ?_)
  refine event_step (by rfl) (v := .slice (some ⟨w1.heap.size, 0, none⟩) 1 1) (w1 := w1.alloc (.cells #[.int .i64 s, .slice A1 l2.length c1] 75 (0, 0))) ?hr ?_
  case hr => first | (go_simp; done) | (go_simp; rfl)
  refine hK.out _ _ ⟨(HK1.out.after (below_alloc (Below.refl _ _) _)).cells.2.2.1, (HK1.out.after (below_alloc (Below.refl _ _) _)).cells.2.2.2⟩ (fun hHeld => ?_)
  clear hK K
  refine norm_ (a' := ?_) ?_ ?_
  rotate_left
  · show Act.put _ (some 35) _ = _
    simp only [Act.put, List.setIfInBounds_toArray, List.set_cons_zero, List.set_cons_succ, i64_w, i32_w]
    rfl
  refine one_ (i := 10) (N := some 36) #[true, true, true, true, true, true, true, true, true, true, true, false, false, false] rfl rfl (one_of HT_.out (by kernel_rfl)) (by decide) (fun K hK => ?_)
  refine Kd.N_append_step k78 (w0 := w0) w0.heap.size (by rfl) (.tmp 30) (.tmp 35) 67 75 (.agg #[(.int .i64 0), (.slice none 0 0)]) 32 rfl Try.underlying67 info75 rfl (by decide) (by omega) (.slice Aq q.length cq) q (⟨s, l2⟩ : S78) [.int .i64 s, .slice A1 l2.length c1] (fun k => w0.heap.size ≤ k ∧ k ≠ g) (fun k => w.heap.size ≤ k) rfl rfl (k78_mkF _ _ (⟨s, l2⟩ : S78) (Kd.R_reads' HV1.out).2.1 (Kd.R_F HV1.out)) ?hokp ?hfr HK1.out.own HK1.out.below HK1.out.below.size (by have := HQ.out.1; omega) ?_
  case hokp =>
    intro k hk
    refine ⟨⟨Nat.le_trans HK.out.below.size hk, fun e => ?_⟩, fun e => ?_⟩
    · have := blk_lt HK.out.blk
      omega
    · have := Kd.N_lt HK.out.own k e.symm
      omega
  case hfr =>
    intro k hk
    refine ⟨Nat.le_trans HK1.out.below.size hk, fun e => ?_⟩
    have := blk_lt HK1.out.blk
    omega
  intro v3 w3 hv3 hb3 hg3 hat3
  have hgn : some g ≠ (Value.slice Aq q.length cq).ownBlock := fun e => (HK.out.own.1 g e.symm).2 rfl
  have HK3 : Aside0 (Clk w0 w3 g iv now (.slice Aq q.length cq) q → True) := ⟨fun _ => trivial⟩
  have BK3 := Aside0.mk (blk_grown HK1.out.blk hg3 hgn)
  have HV3 := Aside0.mk hv3
  have HB3 := Aside0.mk hb3
  have KP3 : Aside0 (Kept w w3 (fun k => k = g ∨ some k = (Value.slice Aq q.length cq).ownBlock)) := ⟨Kept.of_grown hg3 (Kept.of_below HB1.out _) (fun k hk => Or.inl (Or.inr hk.symm))⟩
  have HAT : Aside0 (v3.ownBlock = (Value.slice Aq q.length cq).ownBlock ∨ ∃ b, v3.ownBlock = some b ∧ w.heap.size ≤ b) := ⟨hat3.elim Or.inl (fun ⟨b, h1, h2⟩ => Or.inr ⟨b, h1, Nat.le_trans HB1.out.size h2⟩)⟩
  clear hv3 hb3 hg3 hat3 hgn HK3
  refine hK.out _ _ ⟨(blk_cell BK3.out 2).trans rfl, blk_frozen BK3.out 2⟩ (fun hHeld => ?_)
  clear hK K
  refine norm_ (a' := ?_) ?_ ?_
  rotate_left
  · show Act.put _ (some 36) _ = _
    simp only [Act.put, List.setIfInBounds_toArray, List.set_cons_zero, List.set_cons_succ, i64_w, i32_w]
    rfl
  refine pv_ 11 37 #[true, true, true, true, true, true, true, true, true, true, true, true, false, false] HT_ ?_
  refine pv_ 12 38 #[true, true, true, true, true, true, true, true, true, true, true, true, true, false] HT_ ?_
  refine last_ (i := 13) (N := none) #[true, true, true, true, true, true, true, true, true, true, true, true, true, true] rfl rfl (one_of HT_.out (by kernel_rfl)) (by decide) (fun K hK => ?_)
  have cs2 : w3.cell? ⟨g, 2, none⟩ = some (.slice Aq q.length cq) := (blk_cell BK3.out 2).trans rfl
  have fs2 := blk_frozen BK3.out 2
  obtain ⟨A3, c3, e3⟩ := Kd.N_slice HV3.out
  subst e3
  have HV4 := HV3.out
  simp only [List.length_append, List.length_cons, List.length_nil, Nat.zero_add] at HV4
  have HV5 := Aside0.mk HV4
  clear HV4 HV3
  simp only [List.length_append, List.length_cons, List.length_nil, Nat.zero_add] at HAT
  refine skip_ (w1 := ?_) (by rfl) rfl ?_ ?_
  rotate_left
  · go_simp
    rfl
  refine hK.out _ _ ?_
  clear hK K
  refine done_ (done_of HT_.out (by kernel_rfl)) ?_
  go_wp2
  go_ret
  refine ⟨rfl, _, ⟨blk_put (cs := #[.int .i64 iv, .int .i64 now, .slice Aq q.length cq]) BK3.out 2 _ rfl, HK.out.low, Kd.N_far (p := ⟨g, 2, none⟩) HV5.out (fun _ hk => hk.2) _, below_set HB3.out HK.out.low⟩, Kept.setCell KP3.out (Or.inl (Or.inl rfl)) _, ?_⟩
  exact HAT.out.elim Or.inl (fun h => Or.inr (Or.inr h))
theorem addr_add (a : Addr) (m n : Nat) : (a.add m).add n = a.add (m + n) := by
  unfold Addr.add
  by_cases hm : m = 0 <;> by_cases hn : n = 0 <;> simp [hm, hn, Nat.add_assoc]
theorem w1_ {k : Nat} (h : k ≤ 256) : wrap64 ((k : Int) + 1) = ((k + 1 : Nat) : Int) := by unfold wrap64; omega
def sup (q : List S78) (i : Nat) : Bool := (q.drop (i + 1)).any fun x => x.f0 == (rd_T78 q (i : Int)).f0
theorem sup_step (q : List S78) (i j : Nat) (hj : i + 1 + j < q.length) : (q.drop (i + 1 + j)).any (fun x => x.f0 == (rd_T78 q (i : Int)).f0) = ((rd_T78 q ((i + 1 + j : Nat) : Int)).f0 == (rd_T78 q (i : Int)).f0 || (q.drop (i + 1 + (j + 1))).any fun x => x.f0 == (rd_T78 q (i : Int)).f0) := by
  rw [List.drop_eq_getElem_cons hj, List.any_cons]
  have e : rd_T78 q ((i + 1 + j : Nat) : Int) = q[i + 1 + j] := by
    unfold rd_T78
    rw [Int.toNat_natCast, List.getD_eq_getElem?_getD, List.getElem?_eq_getElem hj]
    rfl
  rw [e]
  rfl
set_option maxHeartbeats 8000000 in
theorem superseded_ok (w0 w : World) (g : Nat) (iv now : Int) (vq : Value) (q : List S78) (i : Nat) (hK : Clk w0 w g iv now vq q) (hi : i < q.length) (hq : q.length ≤ 256) : Calls Try.prog 39 #[.pointer (some ⟨g, 0, none⟩), .int .i64 i] w fun e w' => e = .returned (.bool (sup q i)) ∧ Below w.heap.size w w' := by
  have hu69 := Try.underlying69
  have hu67 := Try.underlying67
  have hu75 := Try.underlying75
  obtain ⟨Aq, cq, rfl⟩ := Kd.N_slice hK.own
  obtain ⟨_, hcq, hC⟩ := Kd.N_reads' hK.own
  have hh := Aside0.mk hK.cells
  have c2_ := hh.out.2.2.1
  have f2_ := hh.out.2.2.2
  have HK := Aside0.mk hK
  have HC := Aside0.mk hC
  obtain ⟨ad, A1, c1, e0, x0, x1, _⟩ := at_T78 hC (i : Int) (by omega) (by omega)
  subst e0
  simp only [Int.toNat_natCast] at x0 x1
  have hX := Aside0.mk x0
  have hI := Aside0.mk (And.intro hi (And.intro hq hcq))
  have ew : wrap64 ((i : Int) + 1) = ((i + 1 : Nat) : Int) := by unfold wrap64; omega
  clear hK hC x0 x1 hi hq
  have hle : i + 1 ≤ q.length := hI.out.1
  by_cases hcap : cq = i + 1
  · have hz : q.length = i + 1 := by have := hI.out.1; have := hI.out.2.2; omega
    have hf : Aside0 (sup q i = false) := ⟨by unfold sup; rw [← hz, List.drop_length]; rfl⟩
    subst hcap
    go_enter Try.func39, Try.ntmps39
    go_wp2
    go_step3
    go_wp2
    go_step3
    go_wp2
    clear c2_ f2_
    go_loopw [5, 16] (fun v5 v w' => v5 = .bool false ∧ v = .int .i64 0 ∧ Aside0 (Below w.heap.size w w')) (fun _ v _ => 0)
    case atStart => exact ⟨rfl, rfl, ⟨Below.refl _ _⟩⟩
    case round =>
      obtain ⟨rfl, rfl, hb⟩ := hrel
      go_wp2
      rw [Exit.noGoto_ret]
      go_ret
      exact ⟨by rw [hf.out]; rfl, hb.out⟩
  · go_enter Try.func39, Try.ntmps39
    go_wp2
    go_step3
    go_wp2
    go_step3
    go_wp2
    clear c2_ f2_
    go_loopw [5, 16] (fun v5 v w' => ∃ k : Nat, k ≤ q.length - (i + 1) ∧ v5 = .bool false ∧ v = .int .i64 k ∧ Aside0 (sup q i = (q.drop (i + 1 + k)).any fun x => x.f0 == (rd_T78 q (i : Int)).f0) ∧ Aside0 (Below w.heap.size w w')) (fun _ v _ => q.length - (intOf v).toNat)
    case atStart => exact ⟨0, Nat.zero_le _, rfl, rfl, ⟨rfl⟩, ⟨Below.refl _ _⟩⟩
    case round =>
      obtain ⟨k, hk, rfl, rfl, he, hb⟩ := hrel
      by_cases hlt : k < q.length - (i + 1)
      · obtain ⟨ad', A1, c1, e0, x0, x1, _⟩ := at_T78 HC.out ((i + 1 + k : Nat) : Int) (by omega) (by omega)
        cases e0
        simp only [Int.toNat_natCast] at x0 x1
        replace x0 := (hb.out.cell (World.block_lt_of_cell? w _ x0)).trans x0
        replace x1 := (hb.out.cell (World.block_lt_of_cell? w _ x1)).trans x1
        have ea : (ad.add ((i + 1) * 2)).add (k * 2) = ad.add ((i + 1 + k) * 2) := by rw [addr_add, Nat.add_mul (i + 1) k 2]
        have hlt' : (k : Int) < ((q.length - (i + 1) : Nat) : Int) := by omega
        have hs := sup_step q i k (by omega)
        rw [hs] at he
        clear hs
        have ew2 : Aside0 (wrap64 ((k : Int) + 1) = ((k + 1 : Nat) : Int)) := ⟨w1_ (Nat.le_trans (Nat.le_of_lt hlt) (Nat.le_trans (Nat.sub_le _ _) hI.out.2.1))⟩
        generalize rd_T78 q ((i + 1 + k : Nat) : Int) = x at x0 x1 he
        go_wp2_with fail
        obtain ⟨hR0, hb0⟩ := allocs1 wr (Obj.cells #[Value.int IntKind.i64 x.f0, Value.slice A1 x.f1.length c1] 75)
        generalize hgz : wr.heap.size = gz at *
        generalize wr.alloc (Obj.cells #[Value.int IntKind.i64 x.f0, Value.slice A1 x.f1.length c1] 75) = W at hR0 hb0 ⊢
        have hbW : Aside0 (Below w.heap.size w W) := ⟨below_step hb.out (by rw [← hgz] at hb0; exact hb0)⟩
        have HW := Aside0.mk (HK.out.after hbW.out)
        have hXW : Aside0 (W.cell? (ad.add (i * 2)) = some (.int .i64 (rd_T78 q (i : Int)).f0)) := ⟨(hbW.out.cell (World.block_lt_of_cell? w _ hX.out)).trans hX.out⟩
        have hRW := Aside0.mk hR0
        have y0 : W.drew.cell? ⟨gz, 0, none⟩ = some (.int .i64 x.f0) := (blk_cell hR0 0).trans rfl
        have y1 : W.drew.cell? ⟨g, 2, none⟩ = some (.slice (some ad) q.length cq) := HW.out.cells.2.2.1
        have y2 : W.drew.cell? (ad.add (i * 2)) = some (.int .i64 (rd_T78 q (i : Int)).f0) := hXW.out
        have hiq : (i : Int) < (q.length : Int) := by have := hI.out.1; omega
        clear hb0 hR0 x0 x1 hgz
        go_region_held3 (fun w' => w'.cell? ⟨gz, 0, none⟩ = some (.int .i64 x.f0) ∧ w'.cell? ⟨g, 2, none⟩ = some (.slice (some ad) q.length cq) ∧ w'.cell? (ad.add (i * 2)) = some (.int .i64 (rd_T78 q (i : Int)).f0)) (exact ⟨(blk_cell hRW.out 0).trans rfl, HW.out.cells.2.2.1, hXW.out⟩) (fail)
        have hbD : Aside0 (Below w.heap.size w W.drew) := ⟨below_drew1 hbW.out⟩
        clear y0 y1 y2 HW hXW hRW hb hbW
        by_cases hk2 : (x.f0 == (rd_T78 q (i : Int)).f0) = true
        · rw [hk2] at he ⊢
          rw [Bool.true_or] at he
          go_wp2
          rw [Exit.noGoto_ret]
          go_ret
          exact ⟨by rw [he.out]; rfl, hbD.out⟩
        · replace hk2 := Bool.eq_false_iff.mpr hk2
          rw [hk2] at he ⊢
          rw [Bool.false_or] at he
          go_wp2
          go_roundw
          case rel => exact ⟨k + 1, by omega, rfl, by simp only [ew2.out], he, hbD⟩
          case measure =>
            clear he hbD
            rw [ew2.out]
            simp only [intOf, Int.toNat_natCast]
            omega
      · obtain rfl : k = q.length - (i + 1) := by omega
        have hf : Aside0 (sup q i = false) := ⟨by rw [he.out, show i + 1 + (q.length - (i + 1)) = q.length by omega, List.drop_length]; rfl⟩
        go_wp2
        rw [Exit.noGoto_ret]
        go_ret
        exact ⟨by rw [hf.out]; rfl, hb.out⟩
structure Out (u w : World) (go : Nat) (vo : Value) (l : List S42) : Prop where
  blk : w.heap[go]? = some (.cells #[vo] 39 (0, 0))
  low : u.heap.size ≤ go
  own : Kd.R k42 42 w u.heap.size (fun k => u.heap.size ≤ k ∧ k ≠ go) vo l
  below : Below u.heap.size u w
theorem Out.drewN {u w : World} {go : Nat} {vo : Value} {l : List S42} (h : Out u w go vo l) (n : Nat) : Out u (w.drewN n) go vo l := ⟨blk_drewN h.blk n, h.low, Kd.R_drewN h.own n, pw_below_drewN h.below n⟩
theorem Out.drew {u w : World} {go : Nat} {vo : Value} {l : List S42} (h : Out u w go vo l) : Out u w.drew go vo l := ⟨blk_drew h.blk, h.low, Kd.R_drew h.own, below_drew1 h.below⟩
theorem Out.after {u w w1 : World} {go : Nat} {vo : Value} {l : List S42} (h : Out u w go vo l) (hb : Below w.heap.size w w1) : Out u w1 go vo l := ⟨blk_below h.blk hb, h.low, Kd.R_below h.own hb, below_step h.below hb⟩
theorem report_ok (u w : World) (go : Nat) (vo : Value) (l : List S42) (s kd tm cd : Int) (hO : Out u w go vo l) (hl : l.length ≤ 1000000) : Calls Try.prog 38 #[.int .i64 s, .int .i64 kd, .int .i64 tm, .int .i64 cd, .pointer (some ⟨go, 0, none⟩)] w fun e w' => e = .returned (.tuple #[]) ∧ (∀ (k : Nat) (cs : Array Value), w.heap[k]? = some (Obj.cells cs 75 (0, 0)) → w'.heap[k]? = some (Obj.cells cs 75 (0, 0))) ∧ ∃ vo', Out u w' go vo' (l ++ [⟨0, s, kd, tm, 0, 0, cd, 0, 0⟩]) := by
  obtain ⟨Ao, co, rfl⟩ := Kd.R_slice hO.own
  have HO := Aside0.mk hO
  have HL := Aside0.mk hl
  have hc0 : w.cell? ⟨go, 0, none⟩ = some (.slice Ao l.length co) := (blk_cell hO.blk 0).trans rfl
  have hf0 := blk_frozen hO.blk 0
  clear hO hl
  go_enter Try.func38, Try.ntmps38
  go_wp2_with (first | ((with_reducible refine gate_builtin (b := .append) (xs := #[.tmp 9, .tmp 15]) rfl ?_); at_builtin; refine Kd.R_append k42 (w0 := u) u.heap.size rfl (.tmp 9) (.tmp 15) 39 42 (.agg #[(.int .i64 0), (.int .i64 0), (.int .i64 0), (.int .i64 0), (.int .i64 0), (.int .i64 0), (.int .i64 0), (.int .i64 0), (.int .u32 0)]) 72 rfl Try.underlying39 info42 rfl (by decide) (by omega) (.slice Ao l.length co) l (⟨0, s, kd, tm, 0, 0, cd, 0, 0⟩ : S42) [.int .i64 0, .int .i64 s, .int .i64 kd, .int .i64 tm, .int .i64 0, .int .i64 0, .int .i64 cd, .int .i64 0, .int .u32 0] (fun k => u.heap.size ≤ k ∧ k ≠ go) (fun _ => False) rfl rfl ?aP (fun _ hk => hk.elim) ?aF ?aO ?aB ?aS ?aL ?_; (case aP => exact k42_mkM _ _ _ (⟨0, s, kd, tm, 0, 0, cd, 0, 0⟩ : S42)); (case aB => exact HO.out.below); (case aF => exact (fun k hk => ⟨Nat.le_trans HO.out.below.size hk, fun e => Nat.lt_irrefl _ (Nat.lt_of_lt_of_le (blk_lt HO.out.blk) (e ▸ hk))⟩)); (case aO => exact HO.out.own); (case aS => exact HO.out.below.size); (case aL => have := HL.out; omega); intro v1 w1 ho hb hg hat; have hv1 := Aside0.mk ho; have hB1 := Aside0.mk hb; have hbk := Aside0.mk (blk_grown HO.out.blk hg (fun e => (HO.out.own.1 go e.symm).2 rfl)); have hkp : Aside0 (∀ (k : Nat) (cs : Array Value), w.heap[k]? = some (Obj.cells cs 75 (0, 0)) → w1.heap[k]? = some (Obj.cells cs 75 (0, 0))) := ⟨fun k cs hk => blk_grown hk hg (Kd.R_ne HO.out.own hk (by decide))⟩; clear ho hb hg hat; have hc1 : w1.cell? ⟨go, 0, none⟩ = some (.slice Ao l.length co) := (blk_cell hbk.out 0).trans rfl; have hf1 := blk_frozen hbk.out 0; obtain ⟨A1, c1, e1⟩ := Kd.R_slice hv1.out; subst e1))
  have hv2 := hv1.out
  rw [List.length_append, List.length_singleton] at hv2
  exact bodyPost_end (results_none rfl _ _ _) rfl ⟨rfl, fun k cs hk => blk_far (hkp.out k cs hk) (fun e => by subst e; exact absurd (hk.symm.trans HO.out.blk) (by simp)) _, _, blk_put (cs := #[.slice Ao l.length co]) hbk.out 0 _ rfl, HO.out.low, Kd.R_far (p := ⟨go, 0, none⟩) hv2 (fun _ hk => hk.2) _, below_set hB1.out HO.out.low⟩
def clampOf (n : Int) : Int := mn (mx n 0) 4611686018427387904
def dlOf (b iv : Int) (q : List S78) (i : Nat) : List S42 :=
  (rd_T78 q (i : Int)).f1.map (fun n => (⟨0, (rd_T78 q (i : Int)).f0, 19, wrap64 (Int.tdiv b 1000000), 0, 0, wrap64 n, 0, 0⟩ : S42)) ++ [if sup q i = true then ⟨0, (rd_T78 q (i : Int)).f0, 23, 0, 0, 0, 0, 0, 0⟩ else ⟨0, (rd_T78 q (i : Int)).f0, 22, wrap64 (Int.tdiv b 1000), 0, 0, wrap64 (Int.tdiv b iv), 0, 0⟩]
def dlAll (b iv : Int) (q : List S78) (n : Nat) : List S42 := (List.range n).flatMap (dlOf b iv q)
set_option maxHeartbeats 8000000 in
set_option maxRecDepth 100000 in
theorem tick_early (w0 w : World) (g : Nat) (iv now n : Int) (vq : Value) (q : List S78) (hK : Clk w0 w g iv now vq q) (hiv : 1 ≤ iv) (hb : mx now (clampOf n) < nextOf iv now) :
    Calls Try.prog 18 #[.pointer (some ⟨g, 0, none⟩), .int .i64 n] w fun e w' => e = .returned (.slice none 0 0) ∧ Clk w0 w' g iv (mx now (clampOf n)) vq q ∧ Kept w w' (fun k => k = g) := by
  have hu69 := Try.underlying69
  have HK := Aside0.mk hK
  have hh := Aside0.mk hK.cells
  have c1_ := hh.out.2.1.1
  have f1_ := hh.out.2.1.2
  have hiv' := Aside0.mk hiv
  have hB := Aside0.mk hb
  clear hK hb
  obtain ⟨M, hM⟩ : ∃ M, mx now (clampOf n) = M := ⟨_, rfl⟩
  rw [hM] at hB ⊢
  have hM_ : (if now < clampOf n then clampOf n else now) = M := hM
  obtain ⟨C, hC⟩ : ∃ C, clampOf n = C := ⟨_, rfl⟩
  rw [hC] at hM_
  have hC' : mn (mx n 0) 4611686018427387904 = C := hC
  go_enter Try.func18, Try.ntmps18
  go_wp2_with (first | (go_at_call 36; (with_reducible refine (usable_ok _ g iv (by exact hh.out.1.1) (by exact hh.out.1.2) hiv'.out).mono ?_); rintro e w' ⟨rfl, ⟨nd, rfl⟩⟩) | (go_at_call 13; (with_reducible refine (next_ok _ g iv now ?hx ?hy hiv'.out).mono ?_); (case hx => exact hh.out.1.1); (case hy => exact hh.out.1.2); rintro e w' ⟨rfl, ⟨nd2, rfl⟩⟩))
  clear c1_ f1_
  obtain ⟨W, hW⟩ : ∃ W, W = (w.drewN (nd + nd2)).drew := ⟨_, rfl⟩
  have HKW : Aside0 (Clk w0 W g iv now vq q) := ⟨by rw [hW]; exact (HK.out.drewN _).drew⟩
  have KPW : Aside0 (Kept w W (fun k => k = g)) := ⟨by rw [hW]; exact Kept.drew (Kept.drewN (Kept.refl _ _) _)⟩
  refine start_ (n := 11) (S := fun w' => w'.cell? ⟨g, 1, none⟩ = some (.int .i64 now) ∧ w'.frozen? ⟨g, 1, none⟩ = false) (ds := [10]) #[false, false, false, false, false, false, false, false, false, false, false] (by kernel_rfl) rfl rfl (by rw [← hW]; exact ⟨HKW.out.cells.2.1.1, HKW.out.cells.2.1.2⟩) (fun hHeld => ?_)
  rw [← hW] at hHeld ⊢
  clear hW
  have HT_ : Aside0 (rtab .any (opsOf Try.f18 4) = rtab .any (opsOf Try.f18 4)) := ⟨rfl⟩
  refine pv_ 0 21 #[true, false, false, false, false, false, false, false, false, false, false] HT_ ?_
  refine pv_ 1 22 #[true, true, false, false, false, false, false, false, false, false, false] HT_ ?_
  refine pv_ 2 23 #[true, true, true, false, false, false, false, false, false, false, false] HT_ ?_
  refine pv_ 3 24 #[true, true, true, true, false, false, false, false, false, false, false] HT_ ?_
  refine pv_ 5 26 #[true, true, true, true, false, true, false, false, false, false, false] HT_ ?_
  refine take_ (i := 4) (N := some 25) (v := ?_) (a' := ?_) #[true, true, true, true, true, true, false, false, false, false, false] rfl rfl (take_of HT_.out (by kernel_rfl)) (fun _ _ _ h => h) (Or.inl ⟨by rfl, ?_⟩) hHeld ?_ ?_
  rotate_left
  · rintro w' ⟨s0, s1⟩
    go_simp
    with_reducible rfl
  rotate_left
  · simp only [Act.put, List.setIfInBounds_toArray, List.set_cons_zero, List.set_cons_succ, i64_w, i32_w]
    rfl
  refine one_ (i := 6) (N := some 27) #[true, true, true, true, true, true, true, false, false, false, false] rfl rfl (one_of HT_.out (by kernel_rfl)) (by decide) (fun K hK => ?_)
  refine goes_ Try.func37 (by kernel_rfl) rfl #[.int .i64 n] (by rfl) rfl rfl (by (try simp only [List.map_toArray, List.map_cons, List.map_nil]) <;> rfl) ?_
  refine (clamp_ok _ n).mono ?_
  rintro e w' ⟨rfl, ⟨nd3, rfl⟩⟩
  refine ⟨_, rfl, ?_⟩
  rw [hC']
  have HK3 := Aside0.mk (HKW.out.drewN nd3)
  refine hK.out _ _ ⟨HK3.out.cells.2.1.1, HK3.out.cells.2.1.2⟩ (fun hHeld => ?_)
  clear hK K
  refine norm_ (a' := ?_) ?_ ?_
  rotate_left
  · show Act.put _ (some 27) _ = _
    simp only [Act.put, List.setIfInBounds_toArray, List.set_cons_zero, List.set_cons_succ, i64_w, i32_w]
    rfl
  refine pv_ 7 28 #[true, true, true, true, true, true, true, true, false, false, false] HT_ ?_
  refine pv_ 8 29 #[true, true, true, true, true, true, true, true, true, false, false] HT_ ?_
  refine pv_ 9 30 #[true, true, true, true, true, true, true, true, true, true, false] HT_ ?_
  refine last_ (i := 10) (N := none) #[true, true, true, true, true, true, true, true, true, true, true] rfl rfl (one_of HT_.out (by kernel_rfl)) (by decide) (fun K hK => ?_)
  have cs1 : (W.drewN nd3).cell? ⟨g, 1, none⟩ = some (.int .i64 now) := HK3.out.cells.2.1.1
  have fs1 : (W.drewN nd3).frozen? ⟨g, 1, none⟩ = false := HK3.out.cells.2.1.2
  refine skip_ (w1 := ?_) (by rfl) rfl ?_ ?_
  rotate_left
  · go_simp
    rfl
  refine hK.out _ _ ?_
  clear hK K
  refine done_ (done_of HT_.out (by kernel_rfl)) ?_
  have HK4 : Aside0 (Clk w0 ((W.drewN nd3).setCell ⟨g, 1, none⟩ (.int .i64 M)) g iv M vq q) := ⟨⟨blk_put (cs := #[.int .i64 iv, .int .i64 now, vq]) HK3.out.blk 1 _ rfl, HK3.out.low, Kd.N_far (p := ⟨g, 1, none⟩) HK3.out.own (fun _ hk => hk.2) _, below_set HK3.out.below HK3.out.low⟩⟩
  have KP4 : Aside0 (Kept w ((W.drewN nd3).setCell ⟨g, 1, none⟩ (.int .i64 M)) (fun k => k = g)) := ⟨Kept.setCell (Kept.drewN KPW.out _) (Or.inl rfl) _⟩
  generalize (W.drewN nd3).setCell ⟨g, 1, none⟩ (.int .i64 M) = U at HK4 KP4 ⊢
  have u1 := HK4.out.cells.2.1.1
  have v1 := HK4.out.cells.2.1.2
  have dB : decide (M < nextOf iv now) = true := decide_eq_true hB.out
  clear cs1 fs1
  go_wp2
  go_ret
  exact ⟨rfl, HK4.out, KP4.out⟩
theorem meas_ {n k : Nat} (h : k < n) : n - (intOf (.int .i64 ((k + 1 : Nat) : Int))).toNat < n - (intOf (.int .i64 (k : Int))).toNat := by
  simp only [intOf, Int.toNat_natCast]
  omega
theorem lim_ {a b c d e : Nat} (h1 : a ≤ b * 257) (h2 : c ≤ 256) (h3 : d ≤ 256) (hb : b ≤ d) (he : e ≤ c) : a + e ≤ 1000000 := by
  have : b * 257 ≤ 256 * 257 := Nat.mul_le_mul_right _ (Nat.le_trans hb h3)
  omega
theorem at_u32 {w : World} {A : Option Addr} {n : Nat} {xs : List Int} (h : Kd.C (Kd.int .u32) w A n xs) (i : Int) (h0 : 0 ≤ i) (h1 : i < n) : ∃ ad, A = some ad ∧ w.cell? (ad.add i.toNat) = some (.int .u32 (xs.getD i.toNat 0)) := by
  obtain ⟨ad, c, e, _, hK, hc0⟩ := Kd.C_get h (0 : Int) i h0 h1
  have hc : ∀ j u, c[j]? = some u → w.cell? (ad.add (i.toNat * 1 + j)) = some u := hc0
  have hk : c = [.int .u32 (xs.getD i.toNat 0)] := hK
  subst hk
  exact ⟨ad, e, by have hq := hc 0 _ rfl; rwa [Nat.mul_one, Nat.add_zero] at hq⟩
theorem dl_len (b iv : Int) (q : List S78) (hq : ∀ x ∈ q, x.f1.length ≤ 256) : ∀ k, k ≤ q.length → (dlAll b iv q k).length ≤ k * 257 := by
  intro k
  induction k with
  | zero => intro _; simp [dlAll]
  | succ k ih =>
    intro hk
    have h1 := ih (by omega)
    have hm : rd_T78 q (k : Int) ∈ q := by
      unfold rd_T78
      rw [Int.toNat_natCast, List.getD_eq_getElem?_getD, List.getElem?_eq_getElem (show k < q.length by omega)]
      exact List.getElem_mem _
    have h2 := hq _ hm
    have h3 : (dlOf b iv q k).length = (rd_T78 q (k : Int)).f1.length + 1 := by
      unfold dlOf
      rw [List.length_append, List.length_map, List.length_singleton]
    unfold dlAll at h1 ⊢
    rw [List.range_succ, List.flatMap_append, List.length_append, List.flatMap_cons, List.flatMap_nil, List.append_nil, h3, Nat.succ_mul]
    omega
theorem dl_succ (b iv : Int) (q : List S78) (k : Nat) : dlAll b iv q (k + 1) = dlAll b iv q k ++ dlOf b iv q k := by
  unfold dlAll
  rw [List.range_succ, List.flatMap_append, List.flatMap_cons, List.flatMap_nil, List.append_nil]
set_option maxHeartbeats 8000000 in
set_option maxRecDepth 100000 in
theorem tick_full (w0 w : World) (g : Nat) (iv now n : Int) (vq : Value) (q : List S78) (hK : Clk w0 w g iv now vq q) (hiv : 1 ≤ iv) (hq : q.length ≤ 256) (hcb : ∀ x ∈ q, x.f1.length ≤ 256) (hb : ¬ mx now (clampOf n) < nextOf iv now) :
    Calls Try.prog 18 #[.pointer (some ⟨g, 0, none⟩), .int .i64 n] w fun e w' => ∃ v, e = .returned v ∧ Kd.R k42 42 w' w.heap.size (fun k => w.heap.size ≤ k) v (dlAll (nextOf iv now) iv q q.length) ∧ Clk w0 w' g iv (mx now (clampOf n)) (.slice none 0 0) [] ∧ Kept w w' (fun k => k = g) := by
  have hu69 := Try.underlying69
  have HK := Aside0.mk hK
  have hh := Aside0.mk hK.cells
  have c1_ := hh.out.2.1.1
  have f1_ := hh.out.2.1.2
  have hiv' := Aside0.mk hiv
  have hB := Aside0.mk hb
  have hQ := Aside0.mk (And.intro hq hcb)
  clear hK hb hq hcb
  obtain ⟨M, hM⟩ : ∃ M, mx now (clampOf n) = M := ⟨_, rfl⟩
  rw [hM] at hB ⊢
  have hM_ : (if now < clampOf n then clampOf n else now) = M := hM
  obtain ⟨C, hC⟩ : ∃ C, clampOf n = C := ⟨_, rfl⟩
  rw [hC] at hM_
  have hC' : mn (mx n 0) 4611686018427387904 = C := hC
  go_enter Try.func18, Try.ntmps18
  go_wp2_with (first | (go_at_call 36; (with_reducible refine (usable_ok _ g iv (by exact hh.out.1.1) (by exact hh.out.1.2) hiv'.out).mono ?_); rintro e w' ⟨rfl, ⟨nd, rfl⟩⟩) | (go_at_call 13; (with_reducible refine (next_ok _ g iv now ?hx ?hy hiv'.out).mono ?_); (case hx => exact hh.out.1.1); (case hy => exact hh.out.1.2); rintro e w' ⟨rfl, ⟨nd2, rfl⟩⟩))
  clear c1_ f1_
  obtain ⟨W, hW⟩ : ∃ W, W = (w.drewN (nd + nd2)).drew := ⟨_, rfl⟩
  have HKW : Aside0 (Clk w0 W g iv now vq q) := ⟨by rw [hW]; exact (HK.out.drewN _).drew⟩
  have KPW : Aside0 (Kept w W (fun k => k = g)) := ⟨by rw [hW]; exact Kept.drew (Kept.drewN (Kept.refl _ _) _)⟩
  refine start_ (n := 11) (S := fun w' => w'.cell? ⟨g, 1, none⟩ = some (.int .i64 now) ∧ w'.frozen? ⟨g, 1, none⟩ = false) (ds := [10]) #[false, false, false, false, false, false, false, false, false, false, false] (by kernel_rfl) rfl rfl (by rw [← hW]; exact ⟨HKW.out.cells.2.1.1, HKW.out.cells.2.1.2⟩) (fun hHeld => ?_)
  rw [← hW] at hHeld ⊢
  clear hW
  have HT_ : Aside0 (rtab .any (opsOf Try.f18 4) = rtab .any (opsOf Try.f18 4)) := ⟨rfl⟩
  refine pv_ 0 21 #[true, false, false, false, false, false, false, false, false, false, false] HT_ ?_
  refine pv_ 1 22 #[true, true, false, false, false, false, false, false, false, false, false] HT_ ?_
  refine pv_ 2 23 #[true, true, true, false, false, false, false, false, false, false, false] HT_ ?_
  refine pv_ 3 24 #[true, true, true, true, false, false, false, false, false, false, false] HT_ ?_
  refine pv_ 5 26 #[true, true, true, true, false, true, false, false, false, false, false] HT_ ?_
  refine take_ (i := 4) (N := some 25) (v := ?_) (a' := ?_) #[true, true, true, true, true, true, false, false, false, false, false] rfl rfl (take_of HT_.out (by kernel_rfl)) (fun _ _ _ h => h) (Or.inl ⟨by rfl, ?_⟩) hHeld ?_ ?_
  rotate_left
  · rintro w' ⟨s0, s1⟩
    go_simp
    with_reducible rfl
  rotate_left
  · simp only [Act.put, List.setIfInBounds_toArray, List.set_cons_zero, List.set_cons_succ, i64_w, i32_w]
    rfl
  refine one_ (i := 6) (N := some 27) #[true, true, true, true, true, true, true, false, false, false, false] rfl rfl (one_of HT_.out (by kernel_rfl)) (by decide) (fun K hK => ?_)
  refine goes_ Try.func37 (by kernel_rfl) rfl #[.int .i64 n] (by rfl) rfl rfl (by (try simp only [List.map_toArray, List.map_cons, List.map_nil]) <;> rfl) ?_
  refine (clamp_ok _ n).mono ?_
  rintro e w' ⟨rfl, ⟨nd3, rfl⟩⟩
  refine ⟨_, rfl, ?_⟩
  rw [hC']
  have HK3 := Aside0.mk (HKW.out.drewN nd3)
  refine hK.out _ _ ⟨HK3.out.cells.2.1.1, HK3.out.cells.2.1.2⟩ (fun hHeld => ?_)
  clear hK K
  refine norm_ (a' := ?_) ?_ ?_
  rotate_left
  · show Act.put _ (some 27) _ = _
    simp only [Act.put, List.setIfInBounds_toArray, List.set_cons_zero, List.set_cons_succ, i64_w, i32_w]
    rfl
  refine pv_ 7 28 #[true, true, true, true, true, true, true, true, false, false, false] HT_ ?_
  refine pv_ 8 29 #[true, true, true, true, true, true, true, true, true, false, false] HT_ ?_
  refine pv_ 9 30 #[true, true, true, true, true, true, true, true, true, true, false] HT_ ?_
  refine last_ (i := 10) (N := none) #[true, true, true, true, true, true, true, true, true, true, true] rfl rfl (one_of HT_.out (by kernel_rfl)) (by decide) (fun K hK => ?_)
  have cs1 : (W.drewN nd3).cell? ⟨g, 1, none⟩ = some (.int .i64 now) := HK3.out.cells.2.1.1
  have fs1 : (W.drewN nd3).frozen? ⟨g, 1, none⟩ = false := HK3.out.cells.2.1.2
  refine skip_ (w1 := ?_) (by rfl) rfl ?_ ?_
  rotate_left
  · go_simp
    rfl
  refine hK.out _ _ ?_
  clear hK K
  refine done_ (done_of HT_.out (by kernel_rfl)) ?_
  have HK4 : Aside0 (Clk w0 ((W.drewN nd3).setCell ⟨g, 1, none⟩ (.int .i64 M)) g iv M vq q) := ⟨⟨blk_put (cs := #[.int .i64 iv, .int .i64 now, vq]) HK3.out.blk 1 _ rfl, HK3.out.low, Kd.N_far (p := ⟨g, 1, none⟩) HK3.out.own (fun _ hk => hk.2) _, below_set HK3.out.below HK3.out.low⟩⟩
  have KP4 : Aside0 (Kept w ((W.drewN nd3).setCell ⟨g, 1, none⟩ (.int .i64 M)) (fun k => k = g)) := ⟨Kept.setCell (Kept.drewN KPW.out _) (Or.inl rfl) _⟩
  generalize (W.drewN nd3).setCell ⟨g, 1, none⟩ (.int .i64 M) = U at HK4 KP4 ⊢
  have u1 := HK4.out.cells.2.1.1
  have v1 := HK4.out.cells.2.1.2
  have dB : decide (M < nextOf iv now) = false := decide_eq_false (by have := hB.out; omega)
  clear cs1 fs1
  obtain ⟨Aq, cq, rfl⟩ := Kd.N_slice HK4.out.own
  have u2 := HK4.out.cells.2.2.1
  have v2 := HK4.out.cells.2.2.2
  generalize hbl : nextOf iv now = b at *
  go_wp2_with (first | ((with_reducible refine gate_dst (N := 6) rfl ?_); refine box_event ?hg (N := 6) ?hd (cs := #[.slice none 0 0]) (t := 39) ?hr ?_; (case hd => rfl); (case hg => rfl); (case hr => first | (go_simp; done) | (go_simp; rfl)); intro gO hgO V hbox hb; have HO : Aside0 (Out U V gO (.slice none 0 0) []) := ⟨⟨hbox, by rw [hgO]; exact Nat.le_refl _, Kd.R_nil _ _ _ _ _, hb⟩⟩; have u3 := (HK4.out.after hb).cells.2.2.1; have v3 := (HK4.out.after hb).cells.2.2.2; clear hbox hb hgO u1 v1 u2 v2))
  obtain ⟨_, hcq, hCu⟩ := Kd.N_reads' HK4.out.own
  have HCu := Aside0.mk (And.intro hcq hCu)
  clear u3 v3 hcq hCu
  go_loopw [43] (fun v w' => ∃ (k : Nat) (vo : Value), k ≤ q.length ∧ v = .int .i64 k ∧ Aside0 (Out U w' gO vo (dlAll b iv q k))) (fun v _ => q.length - (intOf v).toNat)
  case atStart => exact ⟨0, _, Nat.zero_le _, rfl, HO⟩
  case round =>
    obtain ⟨k, vo, hk, rfl, hO⟩ := hrel
    by_cases hlt : k < q.length
    · obtain ⟨ad, A1, c1, e0, x0, x1, l1, g1⟩ := at_T78 HCu.out.2 (k : Int) (by omega) (by omega)
      subst e0
      simp only [Int.toNat_natCast] at x0 x1
      replace x0 := (hO.out.below.cell (World.block_lt_of_cell? U _ x0)).trans x0
      replace x1 := (hO.out.below.cell (World.block_lt_of_cell? U _ x1)).trans x1
      have hX : Aside0 (rd_T78 q (k : Int) ∈ q) := ⟨by unfold rd_T78; rw [Int.toNat_natCast, List.getD_eq_getElem?_getD, List.getElem?_eq_getElem hlt]; exact List.getElem_mem hlt⟩
      obtain ⟨x, hx⟩ : ∃ x, x = rd_T78 q (k : Int) := ⟨_, rfl⟩
      rw [← hx] at x0 x1 l1 g1 hX
      have hx' := Aside0.mk hx
      have hG := Aside0.mk (And.intro l1 g1)
      have hlt' : (k : Int) < (q.length : Int) := by omega
      clear hx l1 g1
      go_wp2_with fail
      obtain ⟨hR0, hb0⟩ := allocs1 wr (Obj.cells #[Value.int IntKind.i64 x.f0, Value.slice A1 x.f1.length c1] 75)
      generalize hgz : wr.heap.size = gz at *
      generalize wr.alloc (Obj.cells #[Value.int IntKind.i64 x.f0, Value.slice A1 x.f1.length c1] 75) = W2 at hR0 hb0 ⊢
      have hO2 : Aside0 (Out U W2 gO vo (dlAll b iv q k)) := ⟨hO.out.after (by rw [← hgz] at hb0; exact hb0)⟩
      have hX2 := Aside0.mk hR0
      clear hb0 hR0 hgz x0 x1 hO
      go_loopw [51] (fun v w' => ∃ (j : Nat) (vo : Value), j ≤ x.f1.length ∧ v = .int .i64 j ∧ Aside0 (Out U w' gO vo (dlAll b iv q k ++ (x.f1.take j).map (fun n => (⟨0, x.f0, 19, wrap64 (Int.tdiv b 1000000), 0, 0, wrap64 n, 0, 0⟩ : S42)))) ∧ Aside0 (w'.heap[gz]? = some (Obj.cells #[Value.int IntKind.i64 x.f0, Value.slice A1 x.f1.length c1] 75 (0, 0)))) (fun v _ => x.f1.length - (intOf v).toNat)
      case atStart => exact ⟨0, vo, Nat.zero_le _, rfl, ⟨by rw [List.take_zero, List.map_nil, List.append_nil]; exact hO2.out⟩, hX2⟩
      case round =>
        obtain ⟨j, vo2, hj, rfl, hO3, hX3⟩ := hrel
        by_cases hjt : j < x.f1.length
        · obtain ⟨aq, e1, y0⟩ := at_u32 (Kd.C_below hG.out.2 hO3.out.below) (j : Int) (by omega) (by omega)
          rw [Int.toNat_natCast] at y0
          have z0 : wr.cell? ⟨gz, 0, none⟩ = some (.int .i64 x.f0) := (blk_cell hX3.out 0).trans rfl
          subst e1
          have hjt' : (j : Int) < (x.f1.length : Int) := by omega
          have hll : Aside0 ((dlAll b iv q k ++ (x.f1.take j).map (fun n => (⟨0, x.f0, 19, wrap64 (Int.tdiv b 1000000), 0, 0, wrap64 n, 0, 0⟩ : S42))).length ≤ 1000000) := ⟨by rw [List.length_append, List.length_map, List.length_take]; exact lim_ (dl_len b iv q hQ.out.2 k hk) (hQ.out.2 x hX.out) hQ.out.1 hk (Nat.min_le_right _ _)⟩
          obtain ⟨y, hy⟩ : ∃ y, y = x.f1.getD j 0 := ⟨_, rfl⟩
          rw [← hy] at y0
          have hy' := Aside0.mk hy
          clear hy
          go_wp2_with (first | (go_at_call 38; (with_reducible refine (report_ok U wr gO vo2 _ _ _ _ _ hO3.out hll.out).mono ?_); rintro e w3 ⟨rfl, hkp, vo3, ho3⟩))
          have hj2 : x.f1.take (j + 1) = x.f1.take j ++ [y] := by
            rw [List.take_add_one, List.getElem?_eq_getElem hjt, hy'.out, List.getD_eq_getElem?_getD, List.getElem?_eq_getElem hjt]
            rfl
          have hjw : wrap64 ((j : Int) + 1) = ((j + 1 : Nat) : Int) := w1_ (Nat.le_trans (Nat.le_of_lt hjt) (hQ.out.2 x hX.out))
          refine ⟨⟨j + 1, vo3, hjt, by rw [hjw], ⟨?_⟩, ⟨hkp _ _ hX3.out⟩⟩, ?_⟩
          · rw [hj2, List.map_append, ← List.append_assoc]
            exact ho3
          · rw [hjw]
            exact meas_ hjt
        · obtain rfl : j = x.f1.length := by omega
          have hOe : Aside0 (Out U wr gO vo2 (dlAll b iv q k ++ x.f1.map (fun n => (⟨0, x.f0, 19, wrap64 (Int.tdiv b 1000000), 0, 0, wrap64 n, 0, 0⟩ : S42)))) := ⟨by have h := hO3.out; rwa [List.take_length] at h⟩
          have hll : Aside0 ((dlAll b iv q k ++ x.f1.map (fun n => (⟨0, x.f0, 19, wrap64 (Int.tdiv b 1000000), 0, 0, wrap64 n, 0, 0⟩ : S42))).length ≤ 1000000) := ⟨by rw [List.length_append, List.length_map]; exact lim_ (dl_len b iv q hQ.out.2 k hk) (hQ.out.2 x hX.out) hQ.out.1 hk (Nat.le_refl _)⟩
          have HKr := Aside0.mk (HK4.out.after hOe.out.below)
          clear hO3
          by_cases hsp : sup q k = true
          · have hs' := Aside0.mk hsp
            go_wp2_with (first | (go_at_call 39; (with_reducible refine (superseded_ok w0 _ g iv M _ q k HKr.out hlt hQ.out.1).mono ?_); rintro e w3 ⟨rfl, hb3⟩; rw [hs'.out]; have hO4 := Aside0.mk (hOe.out.after hb3); have hX4 := Aside0.mk (blk_below hX3.out hb3); clear hb3; have z0 : w3.cell? ⟨gz, 0, none⟩ = some (.int .i64 x.f0) := (blk_cell hX4.out 0).trans rfl) | (go_at_call 38; (with_reducible refine (report_ok U _ gO vo2 _ _ _ _ _ hO4.out hll.out).mono ?_); rintro e w5 ⟨rfl, hkp, vo5, ho5⟩))
            have hkw : wrap64 ((k : Int) + 1) = ((k + 1 : Nat) : Int) := w1_ (Nat.le_trans (Nat.le_of_lt hlt) hQ.out.1)
            refine ⟨⟨k + 1, vo5, hlt, by rw [hkw], ⟨?_⟩⟩, ?_⟩
            · rw [dl_succ, dlOf, if_pos hs'.out, ← hx'.out, ← List.append_assoc]
              exact ho5
            · rw [hkw]
              exact meas_ hlt
          · replace hsp := Bool.eq_false_iff.mpr hsp
            have hs' := Aside0.mk hsp
            go_wp2_with (first | (go_at_call 39; (with_reducible refine (superseded_ok w0 _ g iv M _ q k HKr.out hlt hQ.out.1).mono ?_); rintro e w3 ⟨rfl, hb3⟩; rw [hs'.out]; have hO4 := Aside0.mk (hOe.out.after hb3); have hX4 := Aside0.mk (blk_below hX3.out hb3); clear hb3))
            have hO4d := Aside0.mk hO4.out.drew
            have hX4d : Aside0 (w3.drew.heap[gz]? = some (Obj.cells #[Value.int IntKind.i64 x.f0, Value.slice A1 x.f1.length c1] 75 (0, 0))) := ⟨blk_drew hX4.out⟩
            have y0 : w3.drew.cell? ⟨gz, 0, none⟩ = some (.int .i64 x.f0) := (blk_cell hX4d.out 0).trans rfl
            have y1 : w3.drew.cell? ⟨g, 0, none⟩ = some (.int .i64 iv) := (HK4.out.after hO4d.out.below).cells.1.1
            have y0s := Aside0.mk (And.intro y0 y1)
            have hiv0 : ¬ iv = 0 := by have := hiv'.out; omega
            go_region_held3 (fun w' => w'.cell? ⟨gz, 0, none⟩ = some (.int .i64 x.f0) ∧ w'.cell? ⟨g, 0, none⟩ = some (.int .i64 iv)) (first | exact y0s.out | exact z5.out) (first | (go_at_call 38; (with_reducible refine (report_ok U _ gO vo2 _ _ _ _ _ hO4d.out hll.out).mono ?_); rintro e w5 ⟨rfl, hkp, vo5, ho5⟩; have z5 : Aside0 (w5.cell? ⟨gz, 0, none⟩ = some (.int .i64 x.f0) ∧ w5.cell? ⟨g, 0, none⟩ = some (.int .i64 iv)) := ⟨⟨(blk_cell (hkp _ _ hX4d.out) 0).trans rfl, (HK4.out.after ho5.below).cells.1.1⟩⟩))
            go_wp2
            have hkw : wrap64 ((k : Int) + 1) = ((k + 1 : Nat) : Int) := w1_ (Nat.le_trans (Nat.le_of_lt hlt) hQ.out.1)
            refine ⟨⟨k + 1, vo5, hlt, by rw [hkw], ⟨?_⟩⟩, ?_⟩
            · rw [dl_succ, dlOf, if_neg (by rw [hs'.out]; decide), ← hx'.out, ← List.append_assoc]
              simp only [i64_w] at ho5
              exact ho5
            · rw [hkw]
              exact meas_ hlt
    · obtain rfl : k = q.length := by omega
      have HKr := Aside0.mk (HK4.out.after hO.out.below)
      have u5 := HKr.out.cells.2.2.1
      have v5 := HKr.out.cells.2.2.2
      have hgo : gO ≠ g := fun e => Nat.lt_irrefl _ (Nat.lt_of_lt_of_le (blk_lt HK4.out.blk) (e ▸ hO.out.low))
      have o5 : wr.cell? ⟨gO, 0, none⟩ = some vo := (blk_cell hO.out.blk 0).trans rfl
      have o6 : (wr.setCell ⟨g, 2, none⟩ (.slice none 0 0)).cell? ⟨gO, 0, none⟩ = some vo := (blk_cell (blk_far hO.out.blk (p := ⟨g, 2, none⟩) hgo (.slice none 0 0)) 0).trans rfl
      go_wp2
      go_ret
      have hlow : w.heap.size ≤ U.heap.size := KP4.out.1
      refine ⟨_, rfl, Kd.R_lower (Kd.R_mono (Kd.R_far (p := ⟨g, 2, none⟩) hO.out.own (fun j hj e => Nat.lt_irrefl g (Nat.lt_of_lt_of_le (blk_lt HK4.out.blk) (by have h := hj.1; rw [show j = g from e] at h; exact h))) _) (fun j hj => Nat.le_trans hlow hj.1)) hlow, ⟨blk_put (cs := #[.int .i64 iv, .int .i64 M, .slice Aq q.length cq]) HKr.out.blk 2 _ rfl, HK.out.low, Kd.N_nil _ _ _ _ _, below_set HKr.out.below HK.out.low⟩, Kept.setCell (Kept.below KP4.out hO.out.below) (Or.inl rfl) _⟩
theorem ex_check : output_Check.f (⟨#[111]⟩ : ByteArray) 1 1 1000 1 0 0 0 = some 0 := by kernel_rfl
theorem ex_int : output_Interval.f (⟨#[111]⟩ : ByteArray) 1 1 1000 1 0 0 0 = some 1000000000 := by kernel_rfl
theorem ex_e0 : mx 0 (clampOf 999999999) = 999999999 := by kernel_rfl
theorem ex_e1 : mx 999999999 (clampOf 2000000005) = 2000000005 := by kernel_rfl
theorem ex_e2 : mx 2000000005 (clampOf 3000000000) = 3000000000 := by kernel_rfl
theorem ex_n3 : nextOf 1000000000 2000000005 = 3000000000 := by kernel_rfl
theorem ex_d1 : dlAll (nextOf 1000000000 999999999) 1000000000 [⟨5, [7, 8]⟩] 1 = [⟨0, 5, 19, 1000, 0, 0, 7, 0, 0⟩, ⟨0, 5, 19, 1000, 0, 0, 8, 0, 0⟩, ⟨0, 5, 22, 1000000, 0, 0, 1, 0, 0⟩] := by kernel_rfl
theorem ex_d2 : dlAll (nextOf 1000000000 2000000005) 1000000000 [⟨5, []⟩, ⟨5, []⟩] 2 = [⟨0, 5, 23, 0, 0, 0, 0, 0, 0⟩, ⟨0, 5, 22, 3000000, 0, 0, 3, 0, 0⟩] := by kernel_rfl
theorem ex_n0 : nextOf 1000000000 0 = 1000000000 := by kernel_rfl
theorem ex_n1 : nextOf 1000000000 999999999 = 1000000000 := by kernel_rfl
theorem ex_n2 : nextOf 1000000000 1000000000 = 2000000000 := by kernel_rfl
theorem at42 {w : World} {A : Option Addr} {n : Nat} {xs : List S42} (h : Kd.C k42 w A n xs) (i k : Nat) (p0 p1 p2 p3 p4 p5 p6 p7 p8 : Int) (hx : xs[i]? = some ⟨p0, p1, p2, p3, p4, p5, p6, p7, p8⟩) (hk : i * 9 = k) (hk0 : k ≠ 0) : ∃ ad, A = some ad ∧ w.cell? ⟨ad.block, ad.off + k, none⟩ = some (.int .i64 p0) ∧ w.cell? ⟨ad.block, ad.off + k + 1, none⟩ = some (.int .i64 p1) ∧ w.cell? ⟨ad.block, ad.off + k + 2, none⟩ = some (.int .i64 p2) ∧ w.cell? ⟨ad.block, ad.off + k + 3, none⟩ = some (.int .i64 p3) ∧ w.cell? ⟨ad.block, ad.off + k + 4, none⟩ = some (.int .i64 p4) ∧ w.cell? ⟨ad.block, ad.off + k + 5, none⟩ = some (.int .i64 p5) ∧ w.cell? ⟨ad.block, ad.off + k + 6, none⟩ = some (.int .i64 p6) ∧ w.cell? ⟨ad.block, ad.off + k + 7, none⟩ = some (.int .i64 p7) ∧ w.cell? ⟨ad.block, ad.off + k + 8, none⟩ = some (.int .u32 p8) := by
  have hl := (List.getElem?_eq_some_iff.1 hx).1
  have hn := h.1
  obtain ⟨ad, e0, a0, a1, a2, a3, a4, a5, a6, a7, a8⟩ := at_T42 h (i : Int) (by omega) (by omega)
  have e : rd_T42 xs (i : Int) = ⟨p0, p1, p2, p3, p4, p5, p6, p7, p8⟩ := by
    unfold rd_T42
    rw [Int.toNat_natCast, List.getD_eq_getElem?_getD, hx]
    rfl
  rw [e, Int.toNat_natCast, hk] at a0 a1 a2 a3 a4 a5 a6 a7 a8
  have key : ad.add k = ⟨ad.block, ad.off + k, none⟩ := by unfold Addr.add; simp [hk0]
  rw [key] at a0 a1 a2 a3 a4 a5 a6 a7 a8
  exact ⟨ad, e0, a0, a1, a2, a3, a4, a5, a6, a7, a8⟩
theorem lit_u32 {w : World} {g : Nat} {cs : Array Value} (xs : List Int) (h : w.heap[g]? = some (.cells cs 36 (0, 0))) (hc : cs = (xs.map (Value.int .u32)).toArray) (hl : xs.length ≤ 1000000) : Kd.C (Kd.int .u32) w (some ⟨g, 0, none⟩) xs.length xs := by
  subst hc
  refine ⟨rfl, by omega, fun _ => ⟨_, rfl, fun j p hp => ⟨[.int .u32 p], rfl, rfl, fun i u hi => ?_⟩⟩⟩
  rcases i with _ | i
  · simp only [List.getElem?_cons_zero, Option.some.injEq] at hi
    subst hi
    rw [Addr.add_lit]
    refine (blk_cell h _).trans ?_
    simp only [Kd.int, Kd.scalar, Nat.zero_add, Nat.mul_one, Nat.add_zero, List.getElem?_toArray, List.getElem?_map, hp, Option.map_some]
  · simp at hi
set_option maxHeartbeats 8000000 in
set_option maxRecDepth 100000 in
theorem example30 (w : World) : Calls Try.prog 12 #[] w fun e w' => e = .returned (.bool true) ∧ Below w.heap.size w w' := by
  have hu24 := Try.underlying24
  have hu42 := Try.underlying42
  go_enter Try.func12, Try.ntmps12
  go_wp2_with fail
  refine (compositorlaw30_slow.calls _ _ _ _ _ _ _ _ w rfl).mono ?_
  rintro e w1 ⟨rfl, hb1⟩
  go_wp2_with fail
  refine (new_ok _ _ _ _ _ _ _ _ _ w1 ex_check ex_int).mono ?_
  rintro e w2 ⟨g, rfl, hblk, hlow, hb2⟩
  have HK := Aside0.mk (show Clk w w2 g 1000000000 0 (.slice none 0 0) [] from ⟨hblk, Nat.le_trans hb1.size hlow, Kd.N_nil _ _ _ _ _, below_step hb1 hb2⟩)
  clear hblk hlow hb2 hb1
  go_wp2_with fail
  refine (next_ok _ g _ _ HK.out.cells.1.1 HK.out.cells.1.2 (by decide)).mono ?_
  rintro e w' ⟨rfl, ⟨nd, rfl⟩⟩
  rw [ex_n0]
  replace HK := Aside0.mk (HK.out.drewN nd)
  generalize w2.drewN nd = w3 at HK ⊢
  go_wp2_with fail
  refine (next_ok _ g _ _ HK.out.cells.1.1 HK.out.cells.1.2 (by decide)).mono ?_
  rintro e w' ⟨rfl, ⟨nd1, rfl⟩⟩
  rw [ex_n1]
  replace HK := Aside0.mk (HK.out.drewN nd1)
  generalize w3.drewN nd1 = w4 at HK ⊢
  go_wp2_with fail
  refine (next_ok _ g _ _ HK.out.cells.1.1 HK.out.cells.1.2 (by decide)).mono ?_
  rintro e w' ⟨rfl, ⟨nd2, rfl⟩⟩
  rw [ex_n2]
  replace HK := Aside0.mk (HK.out.drewN nd2)
  generalize w4.drewN nd2 = w5 at HK ⊢
  go_wp2_with fail
  obtain ⟨hR5, hb5⟩ := allocs1 w5 (Obj.cells #[Value.int IntKind.u32 7, Value.int IntKind.u32 8] 36)
  generalize w5.alloc (Obj.cells #[Value.int IntKind.u32 7, Value.int IntKind.u32 8] 36) = w6 at hR5 hb5 ⊢
  have HK6 := Aside0.mk (HK.out.after hb5)
  clear hb5
  generalize w5.heap.size = g5 at hR5 ⊢
  refine (commit_ok w w6 g 1000000000 0 5 (.slice none 0 0) [] (some ⟨g5, 0, none⟩) 2 [7, 8] HK6.out (by decide) (by decide) (by decide) (by decide) (lit_u32 [7, 8] hR5 rfl (by decide)) (Nat.le_refl _)).mono ?_
  rintro e w7 ⟨rfl, vq7, hK7, _⟩
  replace HK := Aside0.mk hK7
  clear hK7 hR5 HK6
  go_wp2_with fail
  refine (tick_early w w7 g 1000000000 0 999999999 vq7 [⟨5, [7, 8]⟩] HK.out (by decide) (by rw [ex_e0, ex_n0]; decide)).mono ?_
  rintro e w8 ⟨rfl, hK8, _⟩
  rw [ex_e0] at hK8
  replace HK := Aside0.mk hK8
  clear hK8
  go_wp2_with fail
  refine (tick_full w w8 g 1000000000 999999999 2000000005 vq7 [⟨5, [7, 8]⟩] HK.out (by decide) (by decide) (by decide) (by rw [ex_e1, ex_n1]; decide)).mono ?_
  rintro e w9 ⟨v9, rfl, hR9, hK9, _⟩
  rw [ex_e1] at hK9
  rw [show [(⟨5, [7, 8]⟩ : S78)].length = 1 from rfl, ex_d1] at hR9
  replace HK := Aside0.mk hK9
  clear hK9
  obtain ⟨A9, c9, e9⟩ := Kd.R_slice hR9
  subst e9
  obtain ⟨ad, e0, a0, a1, a2, a3, a4, a5, a6, a7, a8⟩ := at42 (Kd.R_reads' hR9).2.2 1 9 _ _ _ _ _ _ _ _ _ rfl rfl (by decide)
  subst e0
  obtain ⟨ad', e0, b0, b1, b2, b3, b4, b5, b6, b7, b8⟩ := at42 (Kd.R_reads' hR9).2.2 2 18 _ _ _ _ _ _ _ _ _ rfl rfl (by decide)
  cases e0
  clear hR9
  have s1 := HK.out.cells.1.1
  go_wp2_with fail
  refine (sequence_ok w9 g 1000000000 2000000005 HK.out.cells.1.1 HK.out.cells.1.2 HK.out.cells.2.1.1 HK.out.cells.2.1.2 (by decide)).mono ?_
  rintro e w' ⟨rfl, ⟨nd9, rfl⟩⟩
  rw [show wrap64 (Int.tdiv 2000000005 1000000000) = 2 from by kernel_rfl]
  replace HK := Aside0.mk (HK.out.drewN nd9)
  generalize w9.drewN nd9 = wa at HK ⊢
  clear a0 a1 a2 a3 a4 a5 a6 a7 a8 b0 b1 b2 b3 b4 b5 b6 b7 b8 s1
  go_wp2_with fail
  refine (commit_ok w wa g 1000000000 2000000005 5 (.slice none 0 0) [] none 0 [] HK.out (by decide) (by decide) (by decide) (by decide) ⟨rfl, by decide, fun h => absurd h (Nat.lt_irrefl _)⟩ (Nat.le_refl _)).mono ?_
  rintro e wb ⟨rfl, vqb, hKb, _⟩
  replace HK := Aside0.mk hKb
  clear hKb
  go_wp2_with fail
  refine (commit_ok w wb g 1000000000 2000000005 5 vqb [⟨5, []⟩] none 0 [] HK.out (by decide) (by decide) (by decide) (by decide) ⟨rfl, by decide, fun h => absurd h (Nat.lt_irrefl _)⟩ (Nat.le_refl _)).mono ?_
  rintro e wc ⟨rfl, vqc, hKc, _⟩
  replace HK := Aside0.mk hKc
  clear hKc
  go_wp2_with fail
  refine (tick_full w wc g 1000000000 2000000005 3000000000 vqc [⟨5, []⟩, ⟨5, []⟩] HK.out (by decide) (by decide) (by decide) (by rw [ex_e2, ex_n3]; decide)).mono ?_
  rintro e wd ⟨vd, rfl, hRd, hKd, _⟩
  rw [show [(⟨5, []⟩ : S78), ⟨5, []⟩].length = 2 from rfl, ex_d2] at hRd
  replace HK := Aside0.mk hKd
  clear hKd
  obtain ⟨Ad, cd, ed⟩ := Kd.R_slice hRd
  subst ed
  obtain ⟨ad2, e0, a0, a1, a2, a3, a4, a5, a6, a7, a8⟩ := at_T42 (Kd.R_reads' hRd).2.2 0 (by decide) (by decide)
  subst e0
  obtain ⟨ad', e0, b0, b1, b2, b3, b4, b5, b6, b7, b8⟩ := at42 (Kd.R_reads' hRd).2.2 1 9 _ _ _ _ _ _ _ _ _ rfl rfl (by decide)
  cases e0
  clear hRd
  have a2' : wd.cell? ⟨ad2.block, ad2.off + 2, none⟩ = some (.int .i64 23) := a2
  clear a0 a1 a2 a3 a4 a5 a6 a7 a8
  go_wp2_with fail
  go_ret
  exact ⟨rfl, HK.out.below⟩
end
end Go.Proofs.Ytmkhphkkpdiliaa.All
end
section
namespace Go.Proofs.Ytmkhphkkpdiliaa.All
open Go.RowKit Go.Proofs.YtmkhphkkpdiliaaW.PrintWords Go.Proofs.YtmkhphkkpdiliaaW.PrintLast Go.Proofs.YtmkhphkkpdiliaaW.PrintMore
attribute [local go_sem] max2_int min2_int max_two min_two max_three min_three max_four min_four
set_option linter.unusedVariables false
set_option linter.unusedSimpArgs false
def compositorlaw30_numbers.l0 : Nat → List Int → List Int → Int → Option (Bool)
  | 0, _, _, _ => none
  | k + 1, x0, x1, x5 => if x5 < (x0.length : Int) then (if 0 ≤ x5 then (if x5 < (x1.length : Int) then (if (rd x0 x5) = (rd x1 x5) then (compositorlaw30_numbers.l0 k x0 x1 (wrap64 (x5 + 1))) else (some false)) else (none)) else (none)) else (some true)
def compositorlaw30_numbers.f (k : Nat) (l0 : List Int) (l1 : List Int) : Option (Bool) := if (l0.length : Int) = (l1.length : Int) then (compositorlaw30_numbers.l0 k l0 l1 0) else (some false)
set_option maxHeartbeats 8000000 in
set_option maxRecDepth 100000 in
theorem compositorlaw30_numbers.calls (k : Nat) (A0 : Option Addr) (c0 : Nat) (l0 : List Int) (A1 : Option Addr) (c1 : Nat) (l1 : List Int) (r : Bool) (w : World) (hr0 : Kd.C (Kd.int .u32) w A0 l0.length l0) (hc0 : l0.length ≤ c0) (hr1 : Kd.C (Kd.int .u32) w A1 l1.length l1) (hc1 : l1.length ≤ c1) (h : compositorlaw30_numbers.f k l0 l1 = some r) :
    Calls Try.prog 24 #[.slice A0 l0.length c0, .slice A1 l1.length c1] w fun e w' => e = .returned (.bool r) ∧ Drawn0 w w' := by
  have HR0 := Aside0.mk hr0
  have HC0 := Aside0.mk hc0
  clear hr0 hc0
  have HR1 := Aside0.mk hr1
  have HC1 := Aside0.mk hc1
  clear hr1 hc1
  have H : (if (l0.length : Int) = (l1.length : Int) then (compositorlaw30_numbers.l0 k l0 l1 0) else (some false)) = some r := h
  clear h
  by_cases c3 : (l0.length : Int) = (l1.length : Int)
  · rw [if_pos c3] at H
    have c3b0 : ((l0.length : Int) == (l1.length : Int)) = true := beq_iff_eq.mpr c3
    have c3b1 : ((l0.length : Int) != (l1.length : Int)) = false := bne_eq_false_iff_eq.mpr c3
    have c3b2 : (l0.length == l1.length) = true := by first | simpa using c3 | (simp at c3 ⊢; omega)
    clear c3
    have H' := Aside0.mk H
    clear H
    go_enter Try.func24, Try.ntmps24
    go_wp2
    repeat (go_quiet (fail); try go_wp2)
    go_loopg [5] k (fun kq v5 w' => ∃ (x5_1 : Int), v5 = .int .i64 x5_1 ∧ Aside0 (compositorlaw30_numbers.l0 kq l0 l1 x5_1 = some r) ∧ Aside0 (kq ≤ k) ∧ Drawn0 w w')
    case atStart => exact ⟨(0), (by first | rfl | (simp; done) | (simp [*]; done)), H', ⟨Nat.le_refl _⟩, by repeat (first | exact Drawn0.refl _ | apply Drawn0.step)⟩
    case round =>
      clear H'
      try clear c1
      try clear c2
      try clear p2
      try clear c3
      try clear c3b0
      try clear c3b1
      try clear c3b2
      obtain ⟨x5_1, rfl, HA, HK1, ⟨m1, rfl⟩⟩ := hrel
      cases gk with
      | zero => exact absurd HA.out (by simp [compositorlaw30_numbers.l0])
      | succ k1 =>
        have H := HA.out
        clear HA
        simp only [compositorlaw30_numbers.l0] at H
        by_cases c4 : x5_1 < (l0.length : Int)
        · rw [if_pos c4] at H
          have c4b0 : decide (x5_1 < (l0.length : Int)) = true := decide_eq_true c4
          clear c4
          by_cases c5 : 0 ≤ x5_1
          · rw [if_pos c5] at H
            have c5b0 : decide (0 ≤ x5_1) = true := decide_eq_true c5
            clear c5
            by_cases c6 : x5_1 < (l1.length : Int)
            · rw [if_pos c6] at H
              have c6b0 : decide (x5_1 < (l1.length : Int)) = true := decide_eq_true c6
              clear c6
              by_cases c7 : (rd l0 x5_1) = (rd l1 x5_1)
              · rw [if_pos c7] at H
                have c7b0 : ((rd l0 x5_1) == (rd l1 x5_1)) = true := beq_iff_eq.mpr c7
                have c7b1 : ((rd l0 x5_1) != (rd l1 x5_1)) = false := bne_eq_false_iff_eq.mpr c7
                clear c7
                have H' := Aside0.mk H
                clear H
                have p164 : 0 ≤ (x5_1 : Int) := of_decide_eq_true (by first | (with_reducible assumption) | assumption)
                have q164 : x5_1 < (l0.length : Int) := of_decide_eq_true (by first | (with_reducible assumption) | assumption)
                obtain ⟨ad164, e164, hx164_0⟩ := Kd.at_int HR0.out x5_1 p164 q164
                cases e164
                replace p164 := eq_true p164
                replace q164 := eq_true q164
                have p165 : 0 ≤ (x5_1 : Int) := of_decide_eq_true (by first | (with_reducible assumption) | assumption)
                have q165 : x5_1 < (l1.length : Int) := of_decide_eq_true (by first | (with_reducible assumption) | assumption)
                obtain ⟨ad165, e165, hx165_0⟩ := Kd.at_int HR1.out x5_1 p165 q165
                cases e165
                replace p165 := eq_true p165
                replace q165 := eq_true q165
                go_wp2
                repeat (go_quiet (fail); try go_wp2)
                go_roundg k1
                case measure => have := HK1.out; omega
                case rel => exact ⟨(wrap64 (x5_1 + 1)), (by first | rfl | (simp; done) | (simp [*]; done)), H', ⟨by have := HK1.out; omega⟩, by repeat (first | exact Drawn0.refl _ | apply Drawn0.step)⟩
              · rw [if_neg c7] at H
                have c7b0 : ((rd l0 x5_1) == (rd l1 x5_1)) = false := beq_eq_false_iff_ne.mpr c7
                have c7b1 : ((rd l0 x5_1) != (rd l1 x5_1)) = true := bne_iff_ne.mpr c7
                obtain rfl := Option.some.inj H
                have p164 : 0 ≤ (x5_1 : Int) := of_decide_eq_true (by first | (with_reducible assumption) | assumption)
                have q164 : x5_1 < (l0.length : Int) := of_decide_eq_true (by first | (with_reducible assumption) | assumption)
                obtain ⟨ad164, e164, hx164_0⟩ := Kd.at_int HR0.out x5_1 p164 q164
                cases e164
                replace p164 := eq_true p164
                replace q164 := eq_true q164
                have p165 : 0 ≤ (x5_1 : Int) := of_decide_eq_true (by first | (with_reducible assumption) | assumption)
                have q165 : x5_1 < (l1.length : Int) := of_decide_eq_true (by first | (with_reducible assumption) | assumption)
                obtain ⟨ad165, e165, hx165_0⟩ := Kd.at_int HR1.out x5_1 p165 q165
                cases e165
                replace p165 := eq_true p165
                replace q165 := eq_true q165
                go_wp2
                repeat (go_quiet (fail); try go_wp2)
                go_ret
                exact ⟨by first | rfl | (simp; done) | (simp [*]; done), by repeat (first | exact Drawn0.refl _ | apply Drawn0.step)⟩
            · rw [if_neg c6] at H
              exact absurd H (by simp)
          · rw [if_neg c5] at H
            exact absurd H (by simp)
        · rw [if_neg c4] at H
          have c4b0 : decide (x5_1 < (l0.length : Int)) = false := decide_eq_false c4
          clear c4
          obtain rfl := Option.some.inj H
          go_wp2
          repeat (go_quiet (fail); try go_wp2)
          go_ret
          exact ⟨by first | rfl | (simp; done) | (simp [*]; done), by repeat (first | exact Drawn0.refl _ | apply Drawn0.step)⟩
  · rw [if_neg c3] at H
    have c3b0 : ((l0.length : Int) == (l1.length : Int)) = false := beq_eq_false_iff_ne.mpr c3
    have c3b1 : ((l0.length : Int) != (l1.length : Int)) = true := bne_iff_ne.mpr c3
    have c3b2 : (l0.length == l1.length) = false := by first | simpa using c3 | (simp at c3 ⊢; omega)
    obtain rfl := Option.some.inj H
    go_enter Try.func24, Try.ntmps24
    go_wp2
    repeat (go_quiet (fail); try go_wp2)
    go_ret
    exact ⟨by first | rfl | (simp; done) | (simp [*]; done), by repeat (first | exact Drawn0.refl _ | apply Drawn0.step)⟩
end Go.Proofs.Ytmkhphkkpdiliaa.All
end
section
namespace Go.Proofs.Ytmkhphkkpdiliaa.All
open Go.Proofs.YtmkhphkkpdiliaaSq
open Go.RowKit Go.Proofs.YtmkhphkkpdiliaaW.PrintWords Go.Proofs.YtmkhphkkpdiliaaW.PrintLast Go.Proofs.YtmkhphkkpdiliaaW.PrintMore
attribute [local go_sem] max2_int min2_int max_two min_two max_three min_three max_four min_four
set_option linter.unusedVariables false
set_option linter.unusedSimpArgs false
section
open Go.Proofs.YtmkhphkkpdiliaaHand Go.Proofs.YtmkhphkkpdiliaaSq
set_option maxHeartbeats 8000000 in
set_option maxRecDepth 100000 in
theorem commit_okP (w0 w : World) (g : Nat) (iv now s : Int) (vq : Value) (q : List S78) (A2 : Option Addr) (c2 : Nat) (l2 : List Int) (P : Nat → Prop) (hK : Clk w0 w g iv now vq q) (hNP : Kd.N k78 75 w w0.heap.size (fun k => (w0.heap.size ≤ k ∧ k ≠ g) ∧ P k) vq q) (hP : ∀ k, w.heap.size ≤ k → P k) (hiv : 1 ≤ iv) (hs : 1 ≤ s) (hq : q.length < 256) (hl : l2.length ≤ 256) (hr2 : Kd.C (Kd.int .u32) w A2 l2.length l2) (hc2 : l2.length ≤ c2) :
    Calls Try.prog 16 #[.pointer (some ⟨g, 0, none⟩), .int .i64 s, .slice A2 l2.length c2] w fun e w' => e = .returned (.int .i64 0) ∧ ∃ vq', Clk w0 w' g iv now vq' (q ++ [⟨s, l2⟩]) ∧ Kd.N k78 75 w' w0.heap.size (fun k => (w0.heap.size ≤ k ∧ k ≠ g) ∧ P k) vq' (q ++ [⟨s, l2⟩]) ∧ Stp w w' g vq vq' := by
  have hu69 := Try.underlying69
  obtain ⟨Aq, cq, rfl⟩ := Kd.N_slice hK.own
  have hh := Aside0.mk hK.cells
  have c2_ := hh.out.2.2.1
  have f2_ := hh.out.2.2.2
  have HK := Aside0.mk hK
  have HNP := Aside0.mk (And.intro hNP hP)
  clear hNP hP
  have HR2 := Aside0.mk (And.intro hr2 hc2)
  have hiv' := Aside0.mk hiv
  have HQ := Aside0.mk (And.intro hq hl)
  have d0 : decide (s < 1) = false := decide_eq_false (by omega)
  have d1 : decide (256 ≤ q.length) = false := decide_eq_false (by omega)
  have d2 : decide (256 ≤ (q.length : Int)) = false := decide_eq_false (by omega)
  have d3 : decide (256 < l2.length) = false := decide_eq_false (by omega)
  have d4 : decide (256 < (l2.length : Int)) = false := decide_eq_false (by omega)
  clear hK hs hq hl hr2 hc2
  go_enter Try.func16, Try.ntmps16
  go_wp2_with (first | (go_at_call 36; (with_reducible refine (usable_ok _ g iv (by exact hh.out.1.1) (by exact hh.out.1.2) hiv'.out).mono ?_); rintro e w' ⟨rfl, ⟨nd, rfl⟩⟩))
  clear c2_ f2_
  obtain ⟨W, hW⟩ : ∃ W, W = (w.drewN nd).drew := ⟨_, rfl⟩
  have hbW : Aside0 (Below w.heap.size w W) := ⟨by rw [hW]; exact below_drew1 (pw_below_drewN (Below.refl _ _) _)⟩
  have HKW : Aside0 (Clk w0 W g iv now (.slice Aq q.length cq) q) := ⟨by rw [hW]; exact (HK.out.drewN nd).drew⟩
  refine start_ (n := 14) (S := fun w' => w'.cell? ⟨g, 2, none⟩ = some (.slice Aq q.length cq) ∧ w'.frozen? ⟨g, 2, none⟩ = false) (ds := [13]) #[false, false, false, false, false, false, false, false, false, false, false, false, false, false] (by kernel_rfl) rfl rfl (by rw [← hW]; exact ⟨HKW.out.cells.2.2.1, HKW.out.cells.2.2.2⟩) (fun hHeld => ?_)
  rw [← hW] at hHeld ⊢
  have HT_ : Aside0 (rtab .any (opsOf Try.f16 7) = rtab .any (opsOf Try.f16 7)) := ⟨rfl⟩
  refine pv_ 0 26 #[true, false, false, false, false, false, false, false, false, false, false, false, false, false] HT_ ?_
  refine pv_ 1 27 #[true, true, false, false, false, false, false, false, false, false, false, false, false, false] HT_ ?_
  refine pv_ 2 28 #[true, true, true, false, false, false, false, false, false, false, false, false, false, false] HT_ ?_
  refine pv_ 3 29 #[true, true, true, true, false, false, false, false, false, false, false, false, false, false] HT_ ?_
  refine pv_ 5 31 #[true, true, true, true, false, true, false, false, false, false, false, false, false, false] HT_ ?_
  refine pv_ 6 32 #[true, true, true, true, false, true, true, false, false, false, false, false, false, false] HT_ ?_
  refine take_ (i := 4) (N := some 30) (v := ?_) (a' := ?_) #[true, true, true, true, true, true, true, false, false, false, false, false, false, false] rfl rfl (take_of HT_.out (by kernel_rfl)) (fun _ _ _ h => h) (Or.inl ⟨by rfl, ?_⟩) hHeld ?_ ?_
  rotate_left
  · rintro w' ⟨s0, s1⟩
    go_simp
    with_reducible rfl
  rotate_left
  · simp only [Act.put, List.setIfInBounds_toArray, List.set_cons_zero, List.set_cons_succ, i64_w, i32_w]
    rfl
  refine one_ (i := 7) (N := some 33) #[true, true, true, true, true, true, true, true, false, false, false, false, false, false] rfl rfl (one_of HT_.out (by kernel_rfl)) (by decide) (fun K hK => ?_)
  refine Kd.R_append_rows_step (Kd.int .u32) (w0 := w) w.heap.size (by rfl) (.const (.slice none 0 0)) (.tmp 32) 37 36 (.int .u32 0) 4 rfl Try.underlying37 info36 rfl (by decide) (by omega) (.slice none 0 0) [] l2 A2 l2.length c2 (fun k => w.heap.size ≤ k) (fun _ => False) rfl rfl (Kd.R_nil _ _ _ _ _) (Kd.C_below HR2.out.1 hbW.out) (fun x cs h => h) (fun _ h => h.elim) (fun k hk => Nat.le_trans hbW.out.size hk) hbW.out hbW.out.size (by have := HQ.out.2; rw [List.length_nil]; omega) ?_
  rw [List.nil_append]
  intro v1 w1 hv1 hb1 _ hat1
  obtain ⟨A1, c1, e1⟩ := Kd.R_slice hv1
  subst e1
  have HV1 := Aside0.mk hv1
  have HB1 := Aside0.mk hb1
  have HK1 := Aside0.mk (HK.out.after hb1)
  clear hv1 hb1 hat1
  refine hK.out _ _ ⟨HK1.out.cells.2.2.1, HK1.out.cells.2.2.2⟩ (fun hHeld => ?_)
  clear hK K
  refine norm_ (a' := ?_) ?_ ?_
  rotate_left
  · show Act.put _ (some 33) _ = _
    simp only [Act.put, List.setIfInBounds_toArray, List.set_cons_zero, List.set_cons_succ, i64_w, i32_w]
    rfl
  refine pv_ 8 34 #[true, true, true, true, true, true, true, true, true, false, false, false, false, false] HT_ ?_
  refine one_ (i := 9) (N := some 35) #[true, true, true, true, true, true, true, true, true, true, false, false, false, false] rfl rfl (one_of HT_.out (by kernel_rfl)) (by decide) (fun K hK => ?_)
  refine event_step (by rfl) (v := .slice (some ⟨w1.heap.size, 0, none⟩) 1 1) (w1 := w1.alloc (.cells #[.int .i64 s, .slice A1 l2.length c1] 75 (0, 0))) ?hr ?_
  case hr => first | (go_simp; done) | (go_simp; rfl)
  refine hK.out _ _ ⟨(HK1.out.after (below_alloc (Below.refl _ _) _)).cells.2.2.1, (HK1.out.after (below_alloc (Below.refl _ _) _)).cells.2.2.2⟩ (fun hHeld => ?_)
  clear hK K
  refine norm_ (a' := ?_) ?_ ?_
  rotate_left
  · show Act.put _ (some 35) _ = _
    simp only [Act.put, List.setIfInBounds_toArray, List.set_cons_zero, List.set_cons_succ, i64_w, i32_w]
    rfl
  refine one_ (i := 10) (N := some 36) #[true, true, true, true, true, true, true, true, true, true, true, false, false, false] rfl rfl (one_of HT_.out (by kernel_rfl)) (by decide) (fun K hK => ?_)
  refine Kd.N_append_step k78 (w0 := w0) w0.heap.size (by rfl) (.tmp 30) (.tmp 35) 67 75 (.agg #[(.int .i64 0), (.slice none 0 0)]) 32 rfl Try.underlying67 info75 rfl (by decide) (by omega) (.slice Aq q.length cq) q (⟨s, l2⟩ : S78) [.int .i64 s, .slice A1 l2.length c1] (fun k => (w0.heap.size ≤ k ∧ k ≠ g) ∧ P k) (fun k => w.heap.size ≤ k) rfl rfl (k78_mkF _ _ (⟨s, l2⟩ : S78) (Kd.R_reads' HV1.out).2.1 (Kd.R_F HV1.out)) ?hokp ?hfr (Kd.N_below HNP.out.1 HB1.out) HK1.out.below HK1.out.below.size (by have := HQ.out.1; omega) ?_
  case hokp =>
    intro k hk
    refine ⟨⟨⟨Nat.le_trans HK.out.below.size hk, fun e => ?_⟩, HNP.out.2 k hk⟩, fun e => ?_⟩
    · have := blk_lt HK.out.blk
      omega
    · have := Kd.N_lt HK.out.own k e.symm
      omega
  case hfr =>
    intro k hk
    refine ⟨⟨Nat.le_trans HK1.out.below.size hk, fun e => ?_⟩, HNP.out.2 k (Nat.le_trans HB1.out.size hk)⟩
    have := blk_lt HK1.out.blk
    omega
  intro v3 w3 hv3 hb3 hg3 hat3
  have hgn : some g ≠ (Value.slice Aq q.length cq).ownBlock := fun e => (HK.out.own.1 g e.symm).2 rfl
  have HK3 : Aside0 (Clk w0 w3 g iv now (.slice Aq q.length cq) q → True) := ⟨fun _ => trivial⟩
  have BK3 := Aside0.mk (blk_grown HK1.out.blk hg3 hgn)
  have HV3 := Aside0.mk hv3
  have HB3 := Aside0.mk hb3
  have KP3 : Aside0 (Kept w w3 (fun k => k = g ∨ some k = (Value.slice Aq q.length cq).ownBlock)) := ⟨Kept.of_grown hg3 (Kept.of_below HB1.out _) (fun k hk => Or.inl (Or.inr hk.symm))⟩
  have HAT : Aside0 (v3.ownBlock = (Value.slice Aq q.length cq).ownBlock ∨ ∃ b, v3.ownBlock = some b ∧ w.heap.size ≤ b) := ⟨hat3.elim Or.inl (fun ⟨b, h1, h2⟩ => Or.inr ⟨b, h1, Nat.le_trans HB1.out.size h2⟩)⟩
  clear hv3 hb3 hg3 hat3 hgn HK3
  refine hK.out _ _ ⟨(blk_cell BK3.out 2).trans rfl, blk_frozen BK3.out 2⟩ (fun hHeld => ?_)
  clear hK K
  refine norm_ (a' := ?_) ?_ ?_
  rotate_left
  · show Act.put _ (some 36) _ = _
    simp only [Act.put, List.setIfInBounds_toArray, List.set_cons_zero, List.set_cons_succ, i64_w, i32_w]
    rfl
  refine pv_ 11 37 #[true, true, true, true, true, true, true, true, true, true, true, true, false, false] HT_ ?_
  refine pv_ 12 38 #[true, true, true, true, true, true, true, true, true, true, true, true, true, false] HT_ ?_
  refine last_ (i := 13) (N := none) #[true, true, true, true, true, true, true, true, true, true, true, true, true, true] rfl rfl (one_of HT_.out (by kernel_rfl)) (by decide) (fun K hK => ?_)
  have cs2 : w3.cell? ⟨g, 2, none⟩ = some (.slice Aq q.length cq) := (blk_cell BK3.out 2).trans rfl
  have fs2 := blk_frozen BK3.out 2
  obtain ⟨A3, c3, e3⟩ := Kd.N_slice HV3.out
  subst e3
  have HV4 := HV3.out
  simp only [List.length_append, List.length_cons, List.length_nil, Nat.zero_add] at HV4
  have HV5 := Aside0.mk HV4
  clear HV4 HV3
  simp only [List.length_append, List.length_cons, List.length_nil, Nat.zero_add] at HAT
  refine skip_ (w1 := ?_) (by rfl) rfl ?_ ?_
  rotate_left
  · go_simp
    rfl
  refine hK.out _ _ ?_
  clear hK K
  refine done_ (done_of HT_.out (by kernel_rfl)) ?_
  go_wp2
  go_ret
  refine ⟨rfl, _, ⟨blk_put (cs := #[.int .i64 iv, .int .i64 now, .slice Aq q.length cq]) BK3.out 2 _ rfl, HK.out.low, Kd.N_mono (Kd.N_far (p := ⟨g, 2, none⟩) HV5.out (fun _ hk => hk.1.2) _) (fun _ hk => hk.1), below_set HB3.out HK.out.low⟩, Kd.N_far (p := ⟨g, 2, none⟩) HV5.out (fun _ hk => hk.1.2) _, Kept.setCell KP3.out (Or.inl (Or.inl rfl)) _, ?_⟩
  exact HAT.out.elim Or.inl (fun h => Or.inr (Or.inr h))
theorem size_al (w : World) (o : Obj) : (w.alloc o).heap.size = w.heap.size + 1 := by simp
theorem elem78 {w : World} {base : Nat} {ok : Nat → Prop} {A : Option Addr} {cq : Nat} {xs : List S78} (h : Kd.N k78 75 w base ok (.slice A xs.length cq) xs) (k : Nat) (hk : k < xs.length) :
    ∃ ad A1 c1, A = some ad ∧ w.cell? (ad.add (k * 2)) = some (.int .i64 (rd_T78 xs (k : Int)).f0) ∧ w.cell? ⟨(ad.add (k * 2)).block, (ad.add (k * 2)).off + 1, none⟩ = some (.slice A1 (rd_T78 xs (k : Int)).f1.length c1) ∧ (rd_T78 xs (k : Int)).f1.length ≤ c1 ∧ Kd.F (Kd.int .u32) w (fun j => ok j ∧ j < w.heap.size) A1 (rd_T78 xs (k : Int)).f1.length (rd_T78 xs (k : Int)).f1 := by
  obtain ⟨ad, A0, c0, e0, x0, x1, l1, _⟩ := at_T78 (Kd.N_reads' h).2.2 (k : Int) (by omega) (by omega)
  subst e0
  simp only [Int.toNat_natCast] at x0 x1
  obtain ⟨g, rfl⟩ : ∃ g, ad = ⟨g, 0, none⟩ := by
    obtain ⟨_, rows, _, hR, _⟩ := h
    exact Kd.R_head hR
  obtain ⟨c, hcl, hF, hcc, _⟩ := Kd.N_elem h z78 (k : Int) (by omega) (by omega)
  have hx : xs.getD (k : Int).toNat z78 = rd_T78 xs (k : Int) := rfl
  rw [hx] at hF
  obtain ⟨A1, c1, rfl, l2, g2⟩ := k78_openF hF
  have h1 := hcc 1 _ rfl
  have e : ((⟨g, 0, none⟩ : Addr).add (k * 2)).off + 1 = (k : Int).toNat * 2 + 1 := by
    rw [Int.toNat_natCast, Addr.add_lit]
    show 0 + k * 2 + 1 = _
    omega
  have e' : ((⟨g, 0, none⟩ : Addr).add (k * 2)).block = g := by rw [Addr.add_lit]
  rw [e, e'] at x1
  have hs := x1.symm.trans h1
  injection hs with hs
  injection hs with ha _ hc
  subst ha; subst hc
  refine ⟨_, A0, c0, rfl, x0, ?_, l1, ?_⟩
  · rw [e, e']
    exact x1
  · exact Kd.F_bound (Kd.F_mono g2 (fun _ hk => hk.1))
def outOf (s : Int) (q : List S78) : List Int := q.flatMap fun x => if x.f0 = s then x.f1 else []
def restOf (s : Int) (q : List S78) : List S78 := q.flatMap fun x => if x.f0 = s then [] else [x]
theorem take78 (q : List S78) (k : Nat) (h : k < q.length) : q.take (k + 1) = q.take k ++ [rd_T78 q (k : Int)] := by
  unfold rd_T78
  rw [List.take_add_one, List.getElem?_eq_getElem h, Int.toNat_natCast, List.getD_eq_getElem?_getD, List.getElem?_eq_getElem h]
  rfl
theorem out_len (s : Int) (q : List S78) (hq : ∀ x ∈ q, x.f1.length ≤ 256) : ∀ k, k ≤ q.length → (outOf s (q.take k)).length ≤ 256 * k ∧ (restOf s (q.take k)).length ≤ k := by
  intro k
  induction k with
  | zero => intro _; simp [outOf, restOf]
  | succ k ih =>
    intro hk
    obtain ⟨h1, h2⟩ := ih (by omega)
    have hm : rd_T78 q (k : Int) ∈ q := by
      unfold rd_T78
      rw [Int.toNat_natCast, List.getD_eq_getElem?_getD, List.getElem?_eq_getElem (show k < q.length by omega)]
      exact List.getElem_mem _
    have h3 := hq _ hm
    rw [take78 q k (by omega)]
    unfold outOf restOf at *
    rw [List.flatMap_append, List.flatMap_append, List.length_append, List.length_append, List.flatMap_cons, List.flatMap_cons, List.flatMap_nil, List.flatMap_nil, List.append_nil, List.append_nil]
    generalize rd_T78 q (k : Int) = x at h3
    generalize (List.flatMap (fun x => if x.f0 = s then x.f1 else []) (q.take k)).length = u at h1 ⊢
    generalize (List.flatMap (fun x => if x.f0 = s then [] else [x]) (q.take k)).length = v at h2 ⊢
    split
    · exact ⟨by omega, by rw [List.length_nil]; omega⟩
    · exact ⟨by rw [List.length_nil]; omega, by rw [List.length_singleton]; omega⟩
set_option maxHeartbeats 8000000 in
set_option maxRecDepth 100000 in
theorem discard_ok (w0 w : World) (g : Nat) (iv now s : Int) (vq : Value) (q : List S78) (hK : Clk w0 w g iv now vq q) (hiv : 1 ≤ iv) (hq : q.length ≤ 256) (hcb : ∀ x ∈ q, x.f1.length ≤ 256) :
    Calls Try.prog 25 #[.pointer (some ⟨g, 0, none⟩), .int .i64 s] w fun e w' => ∃ v vq', e = .returned v ∧ Kd.R (Kd.int .u32) 36 w' w.heap.size (fun k => w.heap.size ≤ k) v (outOf s q) ∧ Clk w0 w' g iv now vq' (restOf s q) ∧ Kept w w' (fun k => k = g) := by
  have hu69 := Try.underlying69
  have hu67 := Try.underlying67
  have hu75 := Try.underlying75
  obtain ⟨Aq, cq, rfl⟩ := Kd.N_slice hK.own
  have hh := Aside0.mk hK.cells
  have c2_ := hh.out.2.2.1
  have f2_ := hh.out.2.2.2
  have HK := Aside0.mk hK
  have hiv' := Aside0.mk hiv
  have HQ := Aside0.mk (And.intro hq hcb)
  clear hK hq hcb hiv
  go_enter Try.func25, Try.ntmps25
  go_wp2_with (first | (go_at_call 36; (with_reducible refine (usable_ok _ g iv (by exact hh.out.1.1) (by exact hh.out.1.2) hiv'.out).mono ?_); rintro e w' ⟨rfl, ⟨nd, rfl⟩⟩))
  clear c2_ f2_
  go_loopw [5, 6, 17] (fun v5 v6 v17 w' => ∃ k : Nat, k ≤ q.length ∧ v17 = .int .i64 k ∧ Aside0 (Kd.R (Kd.int .u32) 36 w' w.heap.size (fun j => w.heap.size ≤ j) v5 (outOf s (q.take k))) ∧ Aside0 (Kd.N k78 75 w' w.heap.size (fun j => (w0.heap.size ≤ j ∧ j ≠ g) ∧ some j ≠ v5.ownBlock) v6 (restOf s (q.take k))) ∧ Aside0 (Below w.heap.size w w')) (fun _ _ v _ => q.length - (intOf v).toNat)
  case atStart => exact ⟨0, Nat.zero_le _, rfl, ⟨Kd.R_nil _ _ _ _ _⟩, ⟨Kd.N_nil _ _ _ _ _⟩, ⟨pw_below_drewN (Below.refl _ _) _⟩⟩
  case round =>
    obtain ⟨k, hk, rfl, hO, hN, hB⟩ := hrel
    by_cases hlt : k < q.length
    · obtain ⟨ad, A1, c1, e0, x0, x1, l1, g1⟩ := elem78 HK.out.own k hlt
      subst e0
      have hX : Aside0 (rd_T78 q (k : Int) ∈ q) := ⟨by unfold rd_T78; rw [Int.toNat_natCast, List.getD_eq_getElem?_getD, List.getElem?_eq_getElem hlt]; exact List.getElem_mem hlt⟩
      have htk := Aside0.mk (take78 q k hlt)
      have hol := Aside0.mk (out_len s q HQ.out.2 k (Nat.le_of_lt hlt))
      generalize rd_T78 q (k : Int) = x at x0 x1 l1 g1 hX htk
      replace x0 := (hB.out.cell (World.block_lt_of_cell? w _ x0)).trans x0
      replace x1 := (hB.out.cell (World.block_lt_of_cell? w _ x1)).trans x1
      have hG := Aside0.mk (And.intro l1 g1)
      have hlt' : (k : Int) < (q.length : Int) := by omega
      have kw : Aside0 (wrap64 ((k : Int) + 1) = ((k + 1 : Nat) : Int)) := ⟨w1_ (by have := HQ.out.1; omega)⟩
      clear l1 g1
      have hgw : Aside0 (g < w.heap.size) := ⟨blk_lt HK.out.blk⟩
      by_cases hs : x.f0 = s
      · have q1 : (x.f0 == s) = true := by rw [hs]; exact beq_self_eq_true _
        have q2 : decide (x.f0 = s) = true := decide_eq_true hs
        have hs' := Aside0.mk hs
        clear hs
        go_wp2_with (first | ((with_reducible refine gate_builtin (b := .append) (xs := #[.tmp 25, .tmp 27]) rfl ?_); at_builtin; refine Kd.R_append_rows (Kd.int .u32) (w0 := w) w.heap.size rfl (.tmp 25) (.tmp 27) 37 36 (.int .u32 0) 4 rfl Try.underlying37 info36 rfl (by decide) (by omega) u5 (outOf s (q.take k)) x.f1 A1 x.f1.length c1 (fun j => w.heap.size ≤ j) (fun _ => False) rfl rfl ?aO ?aR (fun _ _ h => h) (fun _ h => h.elim) ?aF ?aB ?aS ?aL ?_; (case aO => exact Kd.R_alloc hO.out _); (case aR => exact Kd.C_below (Kd.F_now hG.out.2) (below_alloc hB.out _)); (case aF => exact (fun j hj => Nat.le_trans (below_alloc hB.out _).size hj)); (case aB => exact below_alloc hB.out _); (case aS => exact (below_alloc hB.out _).size); (case aL => have h1 := hol.out.1; have h2 := HQ.out.2 x hX.out; have h3 := HQ.out.1; omega); intro v1 w1 ho hb hg hat; have ho' := Aside0.mk ho; have hb' := Aside0.mk hb; have hN' := Aside0.mk (Kd.N_afterv (Kd.N_alloc hN.out _) hg hat); clear ho hb hg hat))
        exact ⟨⟨k + 1, hlt, by rw [kw.out], ⟨by rw [htk.out, outOf, List.flatMap_append, List.flatMap_cons, List.flatMap_nil, List.append_nil, if_pos hs'.out]; exact ho'.out⟩, ⟨by rw [htk.out, restOf, List.flatMap_append, List.flatMap_cons, List.flatMap_nil, List.append_nil, if_pos hs'.out, List.append_nil]; exact hN'.out⟩, hb'⟩, by rw [kw.out]; exact meas_ hlt⟩
      · have q1 : (x.f0 == s) = false := beq_false_of_ne hs
        have q2 : decide (x.f0 = s) = false := decide_eq_false hs
        have hs' := Aside0.mk hs
        clear hs
        go_wp2_with (first | ((with_reducible refine gate_builtin (b := .append) (xs := #[.tmp 29, .tmp 31]) rfl ?_); at_builtin; refine Kd.N_append k78 (w0 := w) w.heap.size rfl (.tmp 29) (.tmp 31) 67 75 (.agg #[(.int .i64 0), (.slice none 0 0)]) 32 rfl Try.underlying67 info75 rfl (by decide) (by omega) u6 (restOf s (q.take k)) x [.int .i64 x.f0, .slice A1 x.f1.length c1] (fun j => (w0.heap.size ≤ j ∧ j ≠ g) ∧ some j ≠ u5.ownBlock) (fun j => (w0.heap.size ≤ j ∧ j ≠ g) ∧ j < w.heap.size) rfl (congrArg (fun n => Value.slice (some ⟨n, 0, none⟩) 1 1) (size_al wr _).symm) ?aP ?aK ?aF ?aO ?aB ?aS ?aL ?_; (case aP => exact k78_mkF _ _ x hG.out.1 (Kd.F_below hG.out.2 (below_alloc hB.out _))); (case aK => exact (fun j hj => ⟨⟨hj.1, fun e => Nat.lt_irrefl _ (Nat.lt_of_lt_of_le hj.2 (Kd.R_base hO.out j e.symm))⟩, fun e => Nat.lt_irrefl _ (Nat.lt_of_lt_of_le hj.2 (Kd.N_base hN.out j e.symm))⟩)); (case aF => exact (fun j hj => ⟨⟨Nat.le_trans HK.out.below.size (Nat.le_trans (below_alloc hB.out _).size hj), fun e => Nat.lt_irrefl _ (Nat.lt_of_lt_of_le hgw.out (Nat.le_trans (below_alloc hB.out _).size (e ▸ hj)))⟩, fun e => Nat.lt_irrefl _ (Nat.lt_of_lt_of_le (Kd.R_lt (Kd.R_alloc hO.out _) j e.symm) hj)⟩)); (case aO => exact Kd.N_alloc hN.out _); (case aB => exact below_alloc hB.out _); (case aS => exact (below_alloc hB.out _).size); (case aL => have h1 := hol.out.2; have h3 := HQ.out.1; omega); intro v1 w1 ho hb hg hat; have ho' := Aside0.mk ho; have hb' := Aside0.mk hb; have hO' := Aside0.mk (Kd.R_grown2 (Kd.R_alloc hO.out _) rfl hg (fun j hj => (hN.out.1 j hj).2)); clear ho hb hg hat))
        exact ⟨⟨k + 1, hlt, by rw [kw.out], ⟨by rw [htk.out, outOf, List.flatMap_append, List.flatMap_cons, List.flatMap_nil, List.append_nil, if_neg hs'.out, List.append_nil]; exact hO'.out⟩, ⟨by rw [htk.out, restOf, List.flatMap_append, List.flatMap_cons, List.flatMap_nil, List.append_nil, if_neg hs'.out]; exact ho'.out⟩, hb'⟩, by rw [kw.out]; exact meas_ hlt⟩
    · obtain rfl : k = q.length := by omega
      rw [List.take_length] at hO hN
      have HKr := Aside0.mk (HK.out.after hB.out)
      have z0 := HKr.out.cells.2.2.1
      have z1 := HKr.out.cells.2.2.2
      obtain ⟨A6, c6, e6⟩ := Kd.N_slice hN.out
      subst e6
      obtain ⟨A5, c5, e5⟩ := Kd.R_slice hO.out
      subst e5
      have hlow := HK.out.low
      have hgw : Aside0 (g < w.heap.size) := ⟨blk_lt HK.out.blk⟩
      go_wp2_with fail
      go_ret
      exact ⟨_, _, rfl, Kd.R_far (p := ⟨g, 2, none⟩) hO.out (fun j hj e => Nat.lt_irrefl _ (Nat.lt_of_lt_of_le hgw.out (by have h : w.heap.size ≤ j := hj; rw [show j = g from e] at h; exact h))) _, ⟨blk_put (cs := #[.int .i64 iv, .int .i64 now, .slice Aq q.length cq]) HKr.out.blk 2 _ rfl, HK.out.low, Kd.N_lower (Kd.N_far (p := ⟨g, 2, none⟩) (Kd.N_mono hN.out (fun j hj => hj.1)) (fun _ hj => hj.2) _) HK.out.below.size, below_set HKr.out.below HK.out.low⟩, Kept.setCell (S := fun k => k = g) (p := ⟨g, 2, none⟩) (Kept.of_below hB.out _) (Or.inl rfl) _⟩
end
end Go.Proofs.Ytmkhphkkpdiliaa.All
end
section
namespace Go.Proofs.Ytmkhphkkpdiliaa.All
open Go.RowKit Go.Proofs.YtmkhphkkpdiliaaW.PrintWords Go.Proofs.YtmkhphkkpdiliaaW.PrintLast Go.Proofs.YtmkhphkkpdiliaaW.PrintMore
attribute [local go_sem] max2_int min2_int max_two min_two max_three min_three max_four min_four
set_option linter.unusedVariables false
set_option linter.unusedSimpArgs false
section
open Go.Proofs.YtmkhphkkpdiliaaHand Go.Proofs.YtmkhphkkpdiliaaSq
def dqs : List Int → Nat → List S78
  | [], _ => []
  | x :: r, i => ⟨1 + x, [(i : Int)]⟩ :: dqs r (i + 1)
def wqs (g : Int) : List Int → Nat → List Int
  | [], _ => []
  | x :: r, i => if x = g then (i : Int) :: wqs g r (i + 1) else wqs g r (i + 1)
def kqs (g : Int) : List Int → Nat
  | [] => 0
  | x :: r => if x = g then kqs g r else kqs g r + 1
theorem dqs_app : ∀ (a b : List Int) (i : Nat), dqs (a ++ b) i = dqs a i ++ dqs b (i + a.length)
  | [], b, i => rfl
  | x :: r, b, i => by
    have ih := dqs_app r b (i + 1)
    rw [show i + 1 + r.length = i + (r.length + 1) by omega] at ih
    rw [List.cons_append, dqs, dqs, ih, List.length_cons]
    rfl
theorem wqs_app (g : Int) : ∀ (a b : List Int) (i : Nat), wqs g (a ++ b) i = wqs g a i ++ wqs g b (i + a.length)
  | [], b, i => rfl
  | x :: r, b, i => by
    have ih := wqs_app g r b (i + 1)
    rw [show i + 1 + r.length = i + (r.length + 1) by omega] at ih
    rw [List.cons_append, wqs, wqs, ih, List.length_cons]
    split <;> rfl
theorem kqs_app (g : Int) : ∀ (a b : List Int), kqs g (a ++ b) = kqs g a + kqs g b
  | [], b => (Nat.zero_add _).symm
  | x :: r, b => by
    have ih := kqs_app g r b
    rw [List.cons_append, kqs, kqs, ih]
    split <;> omega
theorem dqs_len : ∀ (l : List Int) (i : Nat), (dqs l i).length = l.length
  | [], _ => rfl
  | x :: r, i => by rw [dqs, List.length_cons, List.length_cons, dqs_len r]
theorem wqs_len (g : Int) : ∀ (l : List Int) (i : Nat), (wqs g l i).length ≤ l.length
  | [], _ => Nat.le_refl _
  | x :: r, i => by
    have ih := wqs_len g r (i + 1)
    rw [wqs]
    split <;> simp only [List.length_cons] <;> omega
theorem kqs_len (g : Int) : ∀ (l : List Int), kqs g l ≤ l.length
  | [] => Nat.le_refl _
  | x :: r => by
    have ih := kqs_len g r
    rw [kqs]
    split <;> simp only [List.length_cons] <;> omega
theorem dqs_cb : ∀ (l : List Int) (i : Nat), ∀ x ∈ dqs l i, x.f1.length = 1
  | [], _ => fun x h => absurd h (by simp [dqs])
  | y :: r, i => fun x h => by
    rw [dqs] at h
    rcases List.mem_cons.1 h with rfl | h
    · rfl
    · exact dqs_cb r (i + 1) x h
theorem dqs_out (g : Int) : ∀ (l : List Int) (i : Nat), outOf (1 + g) (dqs l i) = wqs g l i
  | [], _ => rfl
  | x :: r, i => by
    have ih := dqs_out g r (i + 1)
    unfold outOf at ih ⊢
    rw [dqs, wqs, List.flatMap_cons, ih]
    by_cases h : x = g
    · rw [if_pos h, if_pos (by rw [h])]
      rfl
    · rw [if_neg h, if_neg (by intro e; apply h; have e2 : 1 + x = 1 + g := e; omega)]
      rfl
theorem dqs_rest (g : Int) : ∀ (l : List Int) (i : Nat), (restOf (1 + g) (dqs l i)).length = kqs g l ∧ ∀ x ∈ restOf (1 + g) (dqs l i), x.f1.length = 1 ∧ x.f0 ≠ 1 + g
  | [], _ => ⟨rfl, fun x h => absurd h (by simp [dqs, restOf])⟩
  | x :: r, i => by
    obtain ⟨ih, ih2⟩ := dqs_rest g r (i + 1)
    unfold restOf at ih ih2 ⊢
    rw [dqs, kqs, List.flatMap_cons]
    by_cases h : x = g
    · rw [if_pos h, if_pos (by rw [h]), List.nil_append]
      exact ⟨ih, ih2⟩
    · have h2 : ¬ 1 + x = 1 + g := by omega
      rw [if_neg h, if_neg h2]
      refine ⟨by rw [List.length_append, ih, List.length_singleton]; omega, fun y hy => ?_⟩
      rcases List.mem_append.1 hy with hy | hy
      · rw [List.mem_singleton.1 hy]
        exact ⟨rfl, h2⟩
      · exact ih2 y hy
theorem take_snoc_i (l : List Int) (k : Nat) (h : k < l.length) : l.take (k + 1) = l.take k ++ [l.getD k 0] := by
  rw [List.take_add_one, List.getElem?_eq_getElem h, List.getD_eq_getElem?_getD, List.getElem?_eq_getElem h]
  rfl
theorem d_step (g : Int) (l : List Int) (k : Nat) (h : k < l.length) : dqs (l.take (k + 1)) 0 = dqs (l.take k) 0 ++ [⟨1 + l.getD k 0, [(k : Int)]⟩] ∧ wqs g (l.take (k + 1)) 0 = (if l.getD k 0 = g then wqs g (l.take k) 0 ++ [(k : Int)] else wqs g (l.take k) 0) ∧ kqs g (l.take (k + 1)) = (if l.getD k 0 = g then kqs g (l.take k) else kqs g (l.take k) + 1) := by
  have e := take_snoc_i l k h
  have hl : (l.take k).length = k := by rw [List.length_take, Nat.min_eq_left (Nat.le_of_lt h)]
  refine ⟨?_, ?_, ?_⟩
  · rw [e, dqs_app, hl, Nat.zero_add]
    rfl
  · rw [e, wqs_app, hl, Nat.zero_add, wqs, wqs]
    split
    · rfl
    · rw [List.append_nil]
  · rw [e, kqs_app, kqs, kqs]
    split <;> omega
theorem numbers_l0 (l : List Int) (hl : l.length ≤ 1000) : ∀ (d i : Nat), i + d = l.length → compositorlaw30_numbers.l0 (d + 1) l l (i : Int) = some true := by
  intro d
  induction d with
  | zero =>
    intro i hi
    rw [compositorlaw30_numbers.l0, if_neg (by omega)]
  | succ d ih =>
    intro i hi
    have w : wrap64 ((i : Int) + 1) = ((i + 1 : Nat) : Int) := by unfold wrap64; omega
    rw [compositorlaw30_numbers.l0, if_pos (by omega), if_pos (by omega), if_pos (by omega), if_pos rfl, w]
    exact ih (i + 1) (by omega)
theorem numbers_self (l : List Int) (hl : l.length ≤ 1000) : compositorlaw30_numbers.f (l.length + 1) l l = some true := by
  unfold compositorlaw30_numbers.f
  rw [if_pos rfl]
  exact numbers_l0 l hl l.length 0 (by omega)
theorem dl_f1 (b iv : Int) (q : List S78) (s : Int) (hq : ∀ x ∈ q, x.f0 ≠ s) : ∀ k, k ≤ q.length → ∀ y ∈ dlAll b iv q k, y.f1 ≠ s := by
  intro k
  induction k with
  | zero => intro _ y hy; exact absurd hy (by simp [dlAll])
  | succ k ih =>
    intro hk y hy
    rw [dl_succ] at hy
    have hm : rd_T78 q (k : Int) ∈ q := by
      unfold rd_T78
      rw [Int.toNat_natCast, List.getD_eq_getElem?_getD, List.getElem?_eq_getElem (show k < q.length by omega)]
      exact List.getElem_mem _
    rcases List.mem_append.1 hy with hy | hy
    · exact ih (by omega) y hy
    · unfold dlOf at hy
      rcases List.mem_append.1 hy with hy | hy
      · obtain ⟨n, _, rfl⟩ := List.mem_map.1 hy
        exact hq _ hm
      · rw [List.mem_singleton.1 hy]
        split <;> exact hq _ hm
theorem dl_len1 (b iv : Int) (q : List S78) (hq : ∀ x ∈ q, x.f1.length = 1) : ∀ n, n ≤ q.length → (dlAll b iv q n).length = 2 * n := by
  intro n
  induction n with
  | zero => intro _; rfl
  | succ n ih =>
    intro hn
    have hm : rd_T78 q (n : Int) ∈ q := by
      unfold rd_T78
      rw [Int.toNat_natCast, List.getD_eq_getElem?_getD, List.getElem?_eq_getElem (show n < q.length by omega)]
      exact List.getElem_mem _
    rw [dl_succ, List.length_append, ih (by omega)]
    unfold dlOf
    rw [List.length_append, List.length_map, hq _ hm, List.length_singleton]
    omega
theorem w120_ {k : Nat} (h : k ≤ 240) : wrap64 (2 * (k : Int)) = ((2 * k : Nat) : Int) := by unfold wrap64; omega
theorem wd1_ {k : Nat} (h : k ≤ 240) : wrap64 ((k : Int) + 1) = ((k + 1 : Nat) : Int) := by unfold wrap64; omega
theorem ex_l1 : ¬ mx 0 (clampOf 1000000000) < nextOf 1000000000 0 := by decide +kernel
theorem at_u8d {w : World} {A : Option Addr} {n : Nat} {xs : List Int} (h : Kd.C (Kd.int .u8) w A n xs) (i : Int) (h0 : 0 ≤ i) (h1 : i < n) : ∃ ad, A = some ad ∧ w.cell? (ad.add i.toNat) = some (.int .u8 (xs.getD i.toNat 0)) := by
  obtain ⟨ad, c, e, _, hK, hc0⟩ := Kd.C_get h (0 : Int) i h0 h1
  have hc : ∀ j u, c[j]? = some u → w.cell? (ad.add (i.toNat * 1 + j)) = some u := hc0
  have hk : c = [.int .u8 (xs.getD i.toNat 0)] := hK
  subst hk
  exact ⟨ad, e, by have hq := hc 0 _ rfl; rwa [Nat.mul_one, Nat.add_zero] at hq⟩
set_option maxHeartbeats 8000000 in
set_option maxRecDepth 100000 in
theorem discardlaw_ok (A0 : Option Addr) (c0 : Nat) (l0 : List Int) (a1 : Int) (w : World) (hr0 : Kd.C (Kd.int .u8) w A0 l0.length l0) (hc0 : l0.length ≤ c0) (hn : l0.length ≤ 60) (hl : ∀ x ∈ l0, 0 ≤ x ∧ x ≤ 255) (h0 : 0 ≤ a1) (h1 : a1 ≤ 255) :
    Calls Try.prog 8 #[.slice A0 l0.length c0, .int .u8 a1] w fun e w' => e = .returned (.bool true) ∧ Below w.heap.size w w' := by
  have hu24 := Try.underlying24
  have hu33 := Try.underlying33
  have hu39 := Try.underlying39
  have hu42 := Try.underlying42
  have HR := Aside0.mk (And.intro hr0 hc0)
  have HN := Aside0.mk hn
  have HL := Aside0.mk hl
  have q1 : decide (60 < l0.length) = false := decide_eq_false (by omega)
  have q2 : decide (60 < (l0.length : Int)) = false := decide_eq_false (by omega)
  clear hr0 hc0 hl hn
  go_enter Try.func8, Try.ntmps8
  go_wp2_with fail
  refine (compositorlaw30_slow.calls _ _ _ _ _ _ _ _ w rfl).mono ?_
  rintro e w1 ⟨rfl, hb1⟩
  go_wp2_with fail
  refine (new_ok _ _ _ _ _ _ _ _ _ w1 ex_check ex_int).mono ?_
  rintro e w2 ⟨g, rfl, hblk, hlow, hb2⟩
  have HK := Aside0.mk (show Clk w w2 g 1000000000 0 (.slice none 0 0) [] from ⟨hblk, Nat.le_trans hb1.size hlow, Kd.N_nil _ _ _ _ _, below_step hb1 hb2⟩)
  clear hblk hlow hb2 hb1
  go_wp2_with fail
  go_loopw [7, 8, 9] (fun v7 v8 v9 w' => ∃ (k : Nat) (vq : Value), k ≤ l0.length ∧ v8 = .int .i64 (kqs a1 (l0.take k) : Nat) ∧ v9 = .int .i64 k ∧ Aside0 (Clk w w' g 1000000000 0 vq (dqs (l0.take k) 0)) ∧ Aside0 (Kd.N k78 75 w' w.heap.size (fun j => (w.heap.size ≤ j ∧ j ≠ g) ∧ some j ≠ v7.ownBlock) vq (dqs (l0.take k) 0)) ∧ Aside0 (Kd.R (Kd.int .u32) 36 w' w.heap.size (fun j => w.heap.size ≤ j) v7 (wqs a1 (l0.take k) 0))) (fun _ _ v _ => l0.length - (intOf v).toNat)
  case atStart => exact ⟨0, _, Nat.zero_le _, rfl, rfl, HK, ⟨Kd.N_nil _ _ _ _ _⟩, ⟨Kd.R_nil _ _ _ _ _⟩⟩
  case round =>
    obtain ⟨k, vq, hk, rfl, rfl, hK, hNP, hO⟩ := hrel
    clear HK
    by_cases hlt : k < l0.length
    · have hlt' : (k : Int) < (l0.length : Int) := by omega
      have hds := Aside0.mk (d_step a1 l0 k hlt)
      have hfl : Aside0 ((dqs (l0.take k) 0).length = k ∧ (wqs a1 (l0.take k) 0).length ≤ k ∧ kqs a1 (l0.take k) ≤ k) := ⟨by
        have e : (l0.take k).length = k := by rw [List.length_take, Nat.min_eq_left hk]
        have h3 := wqs_len a1 (l0.take k) 0
        have h4 := kqs_len a1 (l0.take k)
        rw [e] at h3 h4
        exact ⟨by rw [dqs_len, e], h3, h4⟩⟩
      obtain ⟨ad, e1, x0⟩ := at_u8d HR.out.1 (k : Int) (by omega) (by omega)
      subst e1
      rw [Int.toNat_natCast] at x0
      have hb := HL.out (l0.getD k 0) (by rw [List.getD_eq_getElem?_getD, List.getElem?_eq_getElem hlt]; exact List.getElem_mem hlt)
      generalize l0.getD k 0 = s at x0 hb hds
      obtain ⟨hb0, hb1⟩ := hb
      generalize hF : dqs (l0.take k) 0 = F at hK hNP hds hfl ⊢
      generalize hG : wqs a1 (l0.take k) 0 = G at hO hds hfl ⊢
      generalize hH : kqs a1 (l0.take k) = H at hds hfl ⊢
      have y0 : wr.cell? (ad.add k) = some (.int .u8 s) := (hK.out.below.cell (World.block_lt_of_cell? w _ x0)).trans x0
      have X0 := Aside0.mk x0
      have kw : Aside0 (wrap64 ((k : Int) + 1) = ((k + 1 : Nat) : Int)) := ⟨w1_ (by have := HN.out; omega)⟩
      have hw : Aside0 (wrap64 ((H : Int) + 1) = ((H + 1 : Nat) : Int)) := ⟨w1_ (by have := HN.out; have := hfl.out; omega)⟩
      clear x0 hF hG hH
      have hc : (k : Int) % 4294967296 = k := by have := HN.out; clear kw hw hds hfl; omega
      go_wp2_with fail
      obtain ⟨hR5, hb5⟩ := allocs1 wr (Obj.cells #[Value.int IntKind.u32 (k : Int)] 36)
      generalize wr.alloc (Obj.cells #[Value.int IntKind.u32 (k : Int)] 36) = w6 at hR5 hb5 ⊢
      have HK6 := Aside0.mk (hK.out.after hb5)
      have HN6 := Aside0.mk (Kd.N_below hNP.out hb5)
      have HO6 := Aside0.mk (Kd.R_below hO.out hb5)
      clear hb5 y0 hK hNP hO
      generalize wr.heap.size = g5 at hR5 ⊢
      refine (commit_okP w w6 g 1000000000 0 (1 + s) vq F (some ⟨g5, 0, none⟩) 1 [(k : Int)] (fun j => some j ≠ u7.ownBlock) HK6.out HN6.out (fun j hj e => Nat.lt_irrefl _ (Nat.lt_of_lt_of_le (Kd.R_lt HO6.out j e.symm) hj)) (by decide) (by omega) (by have := hfl.out; have := HN.out; omega) (by simp) (lit_u32 [(k : Int)] hR5 rfl (by simp)) (Nat.le_refl _)).mono ?_
      rintro e w7 ⟨rfl, vq7, hK7, hN7, hS7⟩
      have HO7 : Aside0 (Kd.R (Kd.int .u32) 36 w7 w.heap.size (fun j => w.heap.size ≤ j) u7 G) := ⟨Kd.R_mono (Kd.R_kept (Kd.R_tight2 rfl HO6.out) hS7.1 (fun j hj e => e.elim (fun e => Kd.R_ne HO6.out HK6.out.blk (by decide) (by rw [← e]; exact hj.1)) (fun e => (HN6.out.1 j e.symm).2 hj.1))) (fun j hj => hj.2)⟩
      have HK7 := Aside0.mk hK7
      have HN7 := Aside0.mk hN7
      clear hK7 hN7 hS7 HK6 HN6 HO6 hR5
      have y7 : w7.cell? (ad.add k) = some (.int .u8 s) := (HK7.out.below.cell (World.block_lt_of_cell? w _ X0.out)).trans X0.out
      by_cases hs : s = a1
      · have r1 : (s == a1) = true := by rw [hs]; exact beq_self_eq_true _
        have r2 : decide (s = a1) = true := decide_eq_true hs
        have hs' := Aside0.mk hs
        clear hs
        go_wp2_with (first | ((with_reducible refine gate_builtin (b := .append) (xs := #[.tmp 51, .tmp 54]) rfl ?_); at_builtin; refine Kd.R_append (Kd.int .u32) (w0 := w) w.heap.size rfl (.tmp 51) (.tmp 54) 37 36 (.int .u32 0) 4 rfl Try.underlying37 info36 rfl (by decide) (by omega) u7 G (k : Int) [.int .u32 (k : Int)] (fun j => w.heap.size ≤ j) (fun _ => False) rfl rfl ?aP (fun _ hk => hk.elim) ?aF ?aO ?aB ?aS ?aL ?_; (case aP => exact rfl); (case aF => exact (fun j hj => Nat.le_trans HK7.out.below.size hj)); (case aO => exact HO7.out); (case aB => exact HK7.out.below); (case aS => exact HK7.out.below.size); (case aL => have := hfl.out; have := HN.out; omega); intro v1 w8 ho hb hg hat; have HO8 := Aside0.mk ho; have HN8 := Aside0.mk (Kd.N_afterv HN7.out hg hat); have HK8 : Aside0 (Clk w w8 g 1000000000 0 vq7 (F ++ [⟨1 + s, [(k : Int)]⟩])) := ⟨⟨blk_grown HK7.out.blk hg (Kd.R_ne HO7.out HK7.out.blk (by decide)), HK7.out.low, Kd.N_mono HN8.out (fun _ hk => hk.1), hb⟩⟩; clear ho hb hg hat HK7 HN7 HO7))
        exact ⟨⟨k + 1, vq7, hlt, by rw [hds.out.2.2, if_pos hs'.out], by first | rfl | rw [kw.out], ⟨by rw [hds.out.1]; exact HK8.out⟩, ⟨by rw [hds.out.1]; exact HN8.out⟩, ⟨by rw [hds.out.2.1, if_pos hs'.out]; exact HO8.out⟩⟩, by first | exact meas_ hlt | (rw [kw.out]; exact meas_ hlt)⟩
      · have r1 : (s == a1) = false := beq_false_of_ne hs
        have r2 : decide (s = a1) = false := decide_eq_false hs
        have hs' := Aside0.mk hs
        clear hs
        go_wp2_with fail
        exact ⟨⟨k + 1, vq7, hlt, by rw [hds.out.2.2, if_neg hs'.out, hw.out], by first | rfl | rw [kw.out], ⟨by rw [hds.out.1]; exact HK7.out⟩, ⟨by rw [hds.out.1]; exact HN7.out⟩, ⟨by rw [hds.out.2.1, if_neg hs'.out]; exact HO7.out⟩⟩, by first | exact meas_ hlt | (rw [kw.out]; exact meas_ hlt)⟩
    · obtain rfl : k = l0.length := by omega
      rw [List.take_length] at hK hNP hO ⊢
      have hql : Aside0 ((dqs l0 0).length ≤ 60 ∧ (wqs a1 l0 0).length ≤ 60 ∧ kqs a1 l0 ≤ 60) := ⟨⟨by rw [dqs_len]; exact HN.out, Nat.le_trans (wqs_len a1 l0 0) HN.out, Nat.le_trans (kqs_len a1 l0) HN.out⟩⟩
      have hcb : Aside0 (∀ x ∈ dqs l0 0, x.f1.length ≤ 256) := ⟨fun x hx => by rw [dqs_cb l0 0 x hx]; decide⟩
      have hout := Aside0.mk (dqs_out a1 l0 0)
      have hrest := Aside0.mk (dqs_rest a1 l0 0)
      generalize dqs l0 0 = F at hK hNP hql hcb hout hrest
      generalize wqs a1 l0 0 = G at hO hql hout
      generalize kqs a1 l0 = H at hql hrest ⊢
      go_wp2_with fail
      refine (discard_ok w wr g 1000000000 0 (1 + a1) vq F hK.out (by decide) (by have := hql.out; omega) hcb.out).mono ?_
      rintro e w3 ⟨v3, vq3, rfl, hR3, hK3, hS3⟩
      rw [hout.out] at hR3
      have HK3 := Aside0.mk hK3
      have HR3 := Aside0.mk hR3
      have HO3 : Aside0 (Kd.R (Kd.int .u32) 36 w3 w.heap.size (fun j => w.heap.size ≤ j) u7 G) := ⟨Kd.R_mono (Kd.R_kept (Kd.R_tight2 rfl hO.out) hS3 (fun j hj e => Kd.R_ne hO.out hK.out.blk (by decide) (by rw [← show j = g from e]; exact hj.1))) (fun j hj => hj.2)⟩
      clear hR3 hK3 hS3 hK hNP hO
      obtain ⟨A3, c3, e3⟩ := Kd.R_slice HR3.out
      subst e3
      obtain ⟨A7, c7, e7⟩ := Kd.R_slice HO3.out
      subst e7
      go_wp2_with fail
      refine (compositorlaw30_numbers.calls (G.length + 1) A3 c3 G A7 c7 G true w3 (Kd.R_reads' HR3.out).2.2 (Kd.R_reads' HR3.out).2.1 (Kd.R_reads' HO3.out).2.2 (Kd.R_reads' HO3.out).2.1 (numbers_self G (by have := hql.out; omega))).mono ?_
      rintro e w' ⟨rfl, hd⟩
      have HK4 := Aside0.mk (HK3.out.after hd.below)
      clear HK3 HR3 HO3 hd
      obtain ⟨Aq, cq, eq⟩ := Kd.N_slice HK4.out.own
      subst eq
      have hrl := hrest.out.1
      have hrr := Aside0.mk hrest.out.2
      generalize restOf (1 + a1) F = Q at HK4 hrl hrr hrest ⊢
      clear hrest
      subst hrl
      go_wp2_with fail
      refine (pending_ok w' g 1000000000 Aq Q.length cq HK4.out.cells.1.1 HK4.out.cells.1.2 HK4.out.cells.2.2.1 HK4.out.cells.2.2.2 (by decide)).mono ?_
      rintro e w9 ⟨rfl, ⟨nd2, rfl⟩⟩
      have HK := Aside0.mk (HK4.out.drewN nd2)
      clear HK4
      generalize w'.drewN nd2 = wb at HK ⊢
      go_wp2_with fail
      refine (tick_full w wb g 1000000000 0 1000000000 _ Q HK.out (by decide) (by have := hql.out; omega) (fun x hx => by rw [(hrr.out x hx).1]; decide) ex_l1).mono ?_
      rintro e wc ⟨vc, rfl, hRc, hKc, _⟩
      have HK2 := Aside0.mk hKc
      clear hKc HK
      have hdl := Aside0.mk (dl_len1 (nextOf 1000000000 0) 1000000000 Q (fun x hx => (hrr.out x hx).1) Q.length (Nat.le_refl _))
      have hdf := Aside0.mk (dl_f1 (nextOf 1000000000 0) 1000000000 Q (1 + a1) (fun x hx => (hrr.out x hx).2) Q.length (Nat.le_refl _))
      generalize dlAll (nextOf 1000000000 0) 1000000000 Q Q.length = L at hRc hdl hdf
      obtain ⟨Ac, cc, ec⟩ := Kd.R_slice hRc
      subst ec
      obtain ⟨_, _, hCc⟩ := Kd.R_reads' hRc
      have HC := Aside0.mk hCc
      clear hRc hCc
      go_wp2_with fail
      go_loop [11] (fun v11 => ∃ i : Nat, i ≤ L.length ∧ v11 = .int .i64 i) (fun v => L.length - (intOf v).toNat)
      case atStart => exact ⟨0, Nat.zero_le _, rfl⟩
      case round =>
        obtain ⟨i, hi, rfl⟩ := hrel
        by_cases hil : i < L.length
        · have hil' : (i : Int) < (L.length : Int) := by omega
          obtain ⟨aL, e4, z0, z1, z2, z3, z4, z5, z6, z7, z8⟩ := at_T42 HC.out (i : Int) (by omega) hil'
          subst e4
          rw [Int.toNat_natCast] at z1
          have hne : rd_T42 L (i : Int) ∈ L := by
            unfold rd_T42
            rw [Int.toNat_natCast, List.getD_eq_getElem?_getD, List.getElem?_eq_getElem hil]
            exact List.getElem_mem hil
          have hnf := hdf.out _ hne
          clear z0 z2 z3 z4 z5 z6 z7 z8 hne
          generalize (rd_T42 L (i : Int)).f1 = t at z1 hnf
          have r1 : (t == 1 + a1) = false := beq_false_of_ne hnf
          have r2 : decide (t = 1 + a1) = false := decide_eq_false hnf
          have hnf' := Aside0.mk hnf
          have iw : Aside0 (wrap64 ((i : Int) + 1) = ((i + 1 : Nat) : Int)) := ⟨wd1_ (by have := hdl.out; have := hql.out; omega)⟩
          clear hnf
          go_wp2_with fail
          go_round
          case rel => exact ⟨i + 1, hil, by rw [iw.out]⟩
          case measure => rw [iw.out]; exact meas_ hil
        · obtain rfl : i = L.length := by omega
          have hdl2 := hdl.out
          have hkw : wrap64 (2 * (Q.length : Int)) = ((2 * Q.length : Nat) : Int) := w120_ (by have := hql.out; omega)
          rw [← hdl2] at hkw
          clear hdl2
          go_wp2_with fail
          refine (example30 wc).mono ?_
          rintro e w9 ⟨rfl, hb9⟩
          go_wp2_with fail
          go_ret
          exact ⟨rfl, below_step HK2.out.below hb9⟩
def compositorlaw30_PresentDiscard.f (l0 : List Int) (a1 : Int) : Option Bool := if (∀ x ∈ l0, 0 ≤ x ∧ x ≤ 255) ∧ 0 ≤ a1 ∧ a1 ≤ 255 then some true else none
set_option maxHeartbeats 8000000 in
set_option maxRecDepth 100000 in
theorem compositorlaw30_PresentDiscard.calls (A0 : Option Addr) (c0 : Nat) (l0 : List Int) (a1 : Int) (w : World) (hr0 : Kd.C (Kd.int .u8) w A0 l0.length l0) (hc0 : l0.length ≤ c0) (h : compositorlaw30_PresentDiscard.f l0 a1 = some true) :
    Calls Try.prog 8 #[.slice A0 l0.length c0, .int .u8 a1] w fun e w' => e = .returned (.bool true) ∧ Below w.heap.size w w' := by
  unfold compositorlaw30_PresentDiscard.f at h
  by_cases hg : (∀ x ∈ l0, 0 ≤ x ∧ x ≤ 255) ∧ 0 ≤ a1 ∧ a1 ≤ 255
  · by_cases hn : l0.length ≤ 60
    · exact discardlaw_ok A0 c0 l0 a1 w hr0 hc0 hn hg.1 hg.2.1 hg.2.2
    · have q1 : decide (60 < l0.length) = true := decide_eq_true (by omega)
      have q2 : decide (60 < (l0.length : Int)) = true := decide_eq_true (by omega)
      have hu24 := Try.underlying24
      clear hg hn h hr0 hc0
      go_enter Try.func8, Try.ntmps8
      go_wp2_with fail
      refine (compositorlaw30_slow.calls _ _ _ _ _ _ _ _ w rfl).mono ?_
      rintro e w1 ⟨rfl, hb1⟩
      go_wp2_with fail
      refine (new_ok _ _ _ _ _ _ _ _ _ w1 ex_check ex_int).mono ?_
      rintro e w2 ⟨g, rfl, _, _, hb2⟩
      have HB := Aside0.mk (below_step hb1 hb2)
      clear hb1 hb2
      go_wp2_with fail
      refine (example30 w2).mono ?_
      rintro e w9 ⟨rfl, hb9⟩
      go_wp2_with fail
      go_ret
      exact ⟨rfl, below_step HB.out hb9⟩
  · rw [if_neg hg] at h
    cases h
end
end Go.Proofs.Ytmkhphkkpdiliaa.All
end
section
namespace Go.Proofs.Ytmkhphkkpdiliaa.Pure
open Go.RowKit Go.Proofs.YtmkhphkkpdiliaaW.PrintWords Go.Proofs.YtmkhphkkpdiliaaW.PrintMore Go.Proofs.Ytmkhphkkpdiliaa.All
set_option linter.unusedVariables false
set_option linter.unusedSimpArgs false
theorem u8_rng {x : Int} (ok : (Lit.int .u8 x).wf = true) : 0 ≤ x ∧ x ≤ 255 := by
  simpa [Lit.wf, IntKind.min, IntKind.max, IntKind.signed, IntKind.bits] using ok
theorem PresentDiscard (x0 : List Int) (x1 : Int) (ok0 : x0.length * 1 ≤ 140737488351232 ∧ x0.length ≤ 9223372036854775807 ∧ ∀ y33 ∈ x0, (Lit.int .u8 y33).wf = true) (ok1 : (Lit.int .u8 x1).wf = true) :
    compositorlaw30_PresentDiscard.f x0 x1 = some true := by
  unfold compositorlaw30_PresentDiscard.f
  rw [if_pos]
  exact ⟨fun x hx => u8_rng (ok0.2.2 x hx), u8_rng ok1⟩
end Go.Proofs.Ytmkhphkkpdiliaa.Pure
end
section
namespace Go.Proofs.YtmkhphkkpdiliaaOpens
open Go.ChangeShapes Go.WideShapes Go.RowKit Go.Proofs.YtmkhphkkpdiliaaW.PrintWords
section
variable {H : Type} {enc : TypeId × Value → H} {P : Program} {W : World}
def Opens {α : Type} (enc : TypeId × Value → H) (P : Program) (W : World) (t : TypeId) (d : Kd α) (ok : α → Prop) : Prop :=
  ∀ fuel cs y, DataW.trod enc P W 0 (fun _ => true) true fuel t cs = some y → (∀ n ∈ y.1.weights P t, n ≤ reachBytes) → ∃ x, d.K W x cs ∧ ok x
theorem opens_int {t : TypeId} {k : IntKind} (ht : P.underlying t = some (.int k)) : Opens enc P W t (Kd.int k) (fun x => (Lit.int k x).wf = true) := by
  intro fuel cs y h _
  obtain ⟨n, rfl, _, hw⟩ := DataW.trod_int ht h
  exact ⟨n, rfl, hw⟩
theorem weightsAll_mem {e : TypeId} : ∀ {l : List (DataW H)} {d : DataW H}, d ∈ l → ∀ n ∈ d.weights P e, n ∈ DataW.weightsAll P e l
  | d0 :: r, d, hd, n, hn => by
    simp only [DataW.weightsAll, List.mem_append]
    rcases List.mem_cons.1 hd with rfl | hd
    · exact .inl hn
    · exact .inr (weightsAll_mem hd n hn)
theorem choose_list {α : Type} (n : Nat) (R : Nat → α → Prop) (h : ∀ i, i < n → ∃ x, R i x) : ∃ l : List α, l.length = n ∧ ∀ i x, l[i]? = some x → R i x := by
  induction n with
  | zero => exact ⟨[], rfl, fun i x hx => by simp at hx⟩
  | succ n ih =>
    obtain ⟨l, hl, hr⟩ := ih (fun i hi => h i (by omega))
    obtain ⟨x, hx⟩ := h n (by omega)
    refine ⟨l ++ [x], by simp [hl], fun i y hy => ?_⟩
    rcases Nat.lt_or_ge i l.length with hi | hi
    · rw [List.getElem?_append_left hi] at hy
      exact hr i y hy
    · rw [List.getElem?_append_right hi] at hy
      obtain ⟨hi2, rfl⟩ : i - l.length = 0 ∧ x = y := by
        rcases Nat.eq_zero_or_pos (i - l.length) with h0 | h0
        · rw [h0] at hy; simp at hy; exact ⟨h0, hy⟩
        · rw [List.getElem?_eq_none (by simp; omega)] at hy; cases hy
      have : i = n := by omega
      subst this
      exact hx
theorem opens_slice {α : Type} {t e : TypeId} {d : Kd α} {ok : α → Prop} {B : Nat} (ht : P.underlying t = some (.slice e)) (hc : P.cellsOf e = d.sz) (hB : P.bytesOf e = B) (he : Opens enc P W e d ok) :
    Opens enc P W t (Kd.slice e d) (fun l => l.length * B ≤ 140737488351232 ∧ l.length ≤ 9223372036854775807 ∧ ∀ x ∈ l, ok x) := by
  intro fuel cs y h hz
  rcases DataW.trod_slice ht h with ⟨rfl, _⟩ | ⟨a, len, cap, elems, rest, n, _, rfl, rfl, _, hl, hm, hlen, hel, _, _⟩
  · exact ⟨[], ⟨none, 0, rfl, by simp, rfl, by simp, fun h0 => absurd h0 (by simp)⟩, by simp, by simp, by simp⟩
  · have hw : ∀ n ∈ (((elems.map (·.1)).length + (rest.map (·.1)).length) * P.bytesOf e) :: (DataW.weightsAll P e (elems.map (·.1)) ++ DataW.weightsAll P e (rest.map (·.1))), n ≤ reachBytes := by
      intro m hm'
      refine hz m ?_
      simp only [DataW.weights, ht]
      exact hm'
    obtain ⟨l, hll, hlr⟩ := choose_list (α := α) len (fun i x => ok x ∧ ∃ c, c.length = d.sz ∧ d.K W x c ∧ ∀ j u, c[j]? = some u → W.cell? (a.add (i * d.sz + j)) = some u) (by
      intro i hi
      have h1 := hel i hi
      rw [List.getElem?_eq_getElem (by omega)] at h1
      obtain ⟨c, hcs, htr⟩ := Option.bind_eq_some_iff.1 h1
      have hmem : (elems[i]'(by omega)).1 ∈ elems.map (·.1) := List.mem_map.2 ⟨_, List.getElem_mem _, rfl⟩
      obtain ⟨x, hK, hok⟩ := he n c _ htr (fun m hm' => hw m (by
        refine List.mem_cons_of_mem _ (List.mem_append_left _ ?_)
        exact weightsAll_mem hmem m hm'))
      refine ⟨x, hok, c, d.K_len hK, hK, fun j u hu => ?_⟩
      rw [hc] at hcs
      unfold World.cells? at hcs
      split at hcs
      · have hj : j < d.sz := by
          have := (List.getElem?_eq_some_iff.1 hu).1
          rw [d.K_len hK] at this
          exact this
        have h2 := mapM_some_get hcs j j (by simp [hj])
        rw [hu] at h2
        rw [← h2]
        congr 1
        have : ∀ (a : Addr) (p q : Nat), (a.add p).add q = a.add (p + q) := by
          intro a p q
          unfold Addr.add
          split
          · split <;> simp_all
          · split <;> simp_all [Nat.add_assoc]
        exact (this a _ _).symm
      · cases hcs)
    refine ⟨l, ⟨some a, cap, by rw [hll], by omega, rfl, by unfold maxLen at hm; omega, fun _ => ⟨a, rfl, fun j p hp => ?_⟩⟩, ?_, by unfold maxLen at hm; omega, fun x hx => ?_⟩
    · obtain ⟨_, c, h1, h2, h3⟩ := hlr j p hp
      exact ⟨c, h1, h2, h3⟩
    · have := hw _ List.mem_cons_self
      rw [hB] at this
      simp only [List.length_map, hlen] at this
      rw [hll]
      unfold reachBytes at this
      exact Nat.le_trans (Nat.mul_le_mul_right _ (Nat.le_add_right _ _)) this
    · obtain ⟨i, hi, rfl⟩ := List.getElem_of_mem hx
      exact (hlr i _ (List.getElem?_eq_getElem hi)).1
theorem opens_arg {α : Type} {ts : List TypeId} {ds : List (DataW H)} {j : Nat} {t : TypeId} {v : Value} {dt : DataW H} {ps : List MemPlace} {d : Kd α} {ok : α → Prop} (h : Opens enc P W t d ok)
    (hsz : (DataW.weightsEach P ts ds).all (· ≤ reachBytes) = true) (ht : ts[j]? = some t) (hd : ds[j]? = some dt) (hr : DataW.Trod enc P W 0 (fun _ => true) true t v dt ps) : ∃ x, d.K W x v.cells.toList ∧ ok x := by
  obtain ⟨fuel, hf⟩ := hr
  exact h fuel _ _ hf (fun n hn => by simpa using List.all_eq_true.1 hsz n (DataW.weights_mem_each ht hd n hn))
end
theorem slice_of {a A : Option Addr} {len cap n c : Nat} (h : (Value.slice a len cap).cells.toList = [.slice A n c]) : A = a ∧ len = n ∧ c = cap := by
  simp [Value.cells] at h
  exact ⟨h.1.symm, h.2.1, h.2.2.symm⟩
theorem int_of {k : IntKind} {s x : Int} {W : World} (h : (Kd.int k).K W x (Value.int k s).cells.toList) : x = s := by
  have h' : (Value.int k s).cells.toList = [.int k x] := h
  simpa [Value.cells, eq_comm] using h'
end Go.Proofs.YtmkhphkkpdiliaaOpens
end
