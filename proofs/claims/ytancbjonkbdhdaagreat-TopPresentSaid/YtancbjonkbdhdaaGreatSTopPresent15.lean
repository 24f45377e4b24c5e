-- The texts behind this claim's law, put together by a program of this session (shake.py): what no text uses is left out. Its words are print.sh's.
import Derived.WalkMore
import Derived.Lib.SliceRun
import Derived.Maps.RangeRun
import Derived.Deep.DeepCutAuto
import Derived.Deep.CutBlock
import Derived.Deep.MidRow
import Derived.BigQuiet
import Derived.SizedLaws
import Derived.ChangeSlices
import Derived.OpenShut
import Derived.Test.YtancbjonkbdhdaaGreatSTopPresent14
section
namespace Go.Proofs.YtancbjonkbdhdaaGreat.All
open Go.RowKit Go.Proofs.YtancbjonkbdhdaaGreatW.PrintWords Go.Proofs.YtancbjonkbdhdaaGreatW.PrintLast Go.Proofs.YtancbjonkbdhdaaGreatW.PrintMore
attribute [local go_sem] max2_int min2_int max_two min_two max_three min_three max_four min_four
set_option linter.unusedVariables false
set_option linter.unusedSimpArgs false
section
open Go.Proofs.YtancbjonkbdhdaaGreatHand Go.Proofs.YtancbjonkbdhdaaGreatSq
set_option maxHeartbeats 16000000
set_option maxRecDepth 100000
theorem R_alw {W : World} {base n : Nat} {v : Value} {l : List Int} (h : Kd.R (Kd.int .u32) 36 W n (fun k => n ≤ k) v l) (x : Obj) (hb : base ≤ n) (hn : n ≤ W.heap.size) : Kd.R (Kd.int .u32) 36 (W.alloc x) base (fun k => base ≤ k ∧ k ≠ W.heap.size) v l :=
  Kd.R_lower (Kd.R_mono (Kd.R_below (Kd.R_bound h) (below_alloc (Below.refl _ _) x)) (fun k hk => by have := hk.2.2.1; have := hk.1; omega)) hb
theorem R_p112 {W : World} {base m : Nat} {v : Value} {l : List Int} (h : Kd.R (Kd.int .u32) 36 W (m + 1) (fun k => m + 1 ≤ k) v l) (hb : base ≤ m) (b0 b1 b2 b3 b4 b5 b6 b7 b8 b9 b10 : Value) : Kd.R (Kd.int .u32) 36 (((((((((((W.setCell ⟨m, 0, none⟩ (b0)).setCell ⟨m, 1, none⟩ (b1)).setCell ⟨m, 2, none⟩ (b2)).setCell ⟨m, 3, none⟩ (b3)).setCell ⟨m, 4, none⟩ (b4)).setCell ⟨m, 5, none⟩ (b5)).setCell ⟨m, 6, none⟩ (b6)).setCell ⟨m, 7, none⟩ (b7)).setCell ⟨m, 8, none⟩ (b8)).setCell ⟨m, 9, none⟩ (b9)).setCell ⟨m, 10, none⟩ (b10)) base (fun k => base ≤ k ∧ k ≠ m) v l :=
  Kd.R_lower (Kd.R_mono (Kd.R_kept h (kept_put11 W m b0 b1 b2 b3 b4 b5 b6 b7 b8 b9 b10) (fun k hk e => by omega)) (fun k hk => by omega)) (by omega)
theorem apply_ok (w0 w : World) (g : Nat) (s2 : Int) (A2 : Option Addr) (c2 : Nat) (l2 : List Int) (n : Int) (hg : w.heap[g]? = some (.cells (Srf 0 (.slice none 0 0) s2 (.slice A2 l2.length c2) (.slice none 0 0) true n) 61 (0, 0))) (hr0 : Kd.C (Kd.int .u32) w A2 l2.length l2) (hc0 : l2.length ≤ c2) (hl : l2.length ≤ 1000) (hs2 : s2 = 0 ∧ l2 = [] ∨ s2 = 128) (hb : Below w0.heap.size w0 w) (hgl : w0.heap.size ≤ g) :
    Calls Tryz.prog 19 #[.pointer (some ⟨g, 0, none⟩)] w fun e w' => e = .returned (.bool true) ∧ ∃ v n', w'.heap[g]? = some (.cells (Srf 0 (.slice none 0 0) 0 (.slice none 0 0) v false n') 61 (0, 0)) ∧ Kd.R (Kd.int .u32) 36 w' w.heap.size (fun k => w.heap.size ≤ k) v l2 ∧ Kept w w' (fun k => k = g) ∧ Below w0.heap.size w0 w' := by
  have hu61 := Tryz.underlying61
  have hu59 := Tryz.underlying59
  have hu56 := Tryz.underlying56
  have HG := Aside0.mk hg
  have HR := Aside0.mk (And.intro hr0 (And.intro hc0 (And.intro hl hs2)))
  have HX := Aside0.mk (And.intro hb hgl)
  clear hg hr0 hc0 hl hs2 hb hgl
  go_enter Tryz.func19, Tryz.ntmps19
  go_upto_region 3 with (first | (go_at_call 16; (with_reducible refine (okS_ok _ g _ HG.out rfl).mono ?_); rintro e w' ⟨rfl, ⟨nd, rfl⟩⟩; have q34 : (w.drewN nd).cell? ⟨g, 34, none⟩ = some (.bool true) := (blk_cell (blk_drewN HG.out nd) 34).trans rfl; have f34 := blk_frozen (blk_drewN HG.out nd) 34))
  have H4 : Aside0 ((w.drewN nd).heap[g]? = some (.cells (Srf 0 (.slice none 0 0) s2 (.slice A2 l2.length c2) (.slice none 0 0) true n) 61 (0, 0)) ∧ Below w.heap.size w (w.drewN nd)) := ⟨blk_drewN HG.out nd, pw_below_drewN (Below.refl _ _) nd⟩
  clear q34 f34
  generalize w.drewN nd = w4 at H4 ⊢
  go_cut [3, 4] (fun v3 v4 w' => ∃ (n3 : Nat) (Av : Option Addr) (cv : Nat), v3 = .pointer (some ⟨n3, 0, none⟩) ∧ v4 = .int .i64 0 ∧ Aside0 (w'.heap[g]? = some (.cells (Srf 0 (.slice none 0 0) s2 (.slice A2 l2.length c2) (.slice none 0 0) true n) 61 (0, 0)) ∧ w'.heap[n3]? = some (.cells #[.int .i64 0, .slice none 0 0, .int .i64 1, .int .i64 0, .slice none 0 0, .slice none 0 0, .bool false, .slice none 0 0, .int .i64 0, .int .i64 0, .slice Av l2.length cv] 56 (0, 0)) ∧ Below w.heap.size w w' ∧ Kd.R (Kd.int .u32) 36 w' w.heap.size (fun k => w.heap.size ≤ k ∧ k ≠ n3) (.slice Av l2.length cv) l2 ∧ w.heap.size ≤ n3))
  case first =>
    have hgl := blk_lt H4.out.1
    have hgw := blk_lt HG.out
    have hsz4 := H4.out.2.size
    go_region_held3 (fun w' => w'.cell? ⟨g, 12, none⟩ = some (.int .i64 s2) ∧ w'.cell? ⟨g, 13, none⟩ = some (.slice none 0 0) ∧ w'.cell? ⟨g, 14, none⟩ = some (.int .i64 1) ∧ w'.cell? ⟨g, 15, none⟩ = some (.int .i64 0) ∧ w'.cell? ⟨g, 16, none⟩ = some (.slice none 0 0) ∧ w'.cell? ⟨g, 17, none⟩ = some (.slice none 0 0) ∧ w'.cell? ⟨g, 18, none⟩ = some (.bool false) ∧ w'.cell? ⟨g, 19, none⟩ = some (.slice none 0 0) ∧ w'.cell? ⟨g, 20, none⟩ = some (.int .i64 0) ∧ w'.cell? ⟨g, 21, none⟩ = some (.int .i64 0) ∧ w'.cell? ⟨g, 22, none⟩ = some (.slice A2 l2.length c2) ∧ w'.cell? ⟨g, 23, none⟩ = some (.int .i64 0) ∧ w'.cell? ⟨g, 24, none⟩ = some (.slice none 0 0) ∧ w'.cell? ⟨g, 25, none⟩ = some (.int .i64 1) ∧ w'.cell? ⟨g, 26, none⟩ = some (.int .i64 0) ∧ w'.cell? ⟨g, 27, none⟩ = some (.slice none 0 0) ∧ w'.cell? ⟨g, 28, none⟩ = some (.slice none 0 0) ∧ w'.cell? ⟨g, 29, none⟩ = some (.bool false) ∧ w'.cell? ⟨g, 30, none⟩ = some (.slice none 0 0) ∧ w'.cell? ⟨g, 31, none⟩ = some (.int .i64 0) ∧ w'.cell? ⟨g, 32, none⟩ = some (.int .i64 0) ∧ w'.cell? ⟨g, 33, none⟩ = some (.slice none 0 0)) (first | (refine ⟨(blk_cell (t := 61) (cs := (Srf 0 (.slice none 0 0) s2 (.slice A2 l2.length c2) (.slice none 0 0) true n)) ?bq 12).trans rfl, (blk_cell (t := 61) (cs := (Srf 0 (.slice none 0 0) s2 (.slice A2 l2.length c2) (.slice none 0 0) true n)) ?bq 13).trans rfl, (blk_cell (t := 61) (cs := (Srf 0 (.slice none 0 0) s2 (.slice A2 l2.length c2) (.slice none 0 0) true n)) ?bq 14).trans rfl, (blk_cell (t := 61) (cs := (Srf 0 (.slice none 0 0) s2 (.slice A2 l2.length c2) (.slice none 0 0) true n)) ?bq 15).trans rfl, (blk_cell (t := 61) (cs := (Srf 0 (.slice none 0 0) s2 (.slice A2 l2.length c2) (.slice none 0 0) true n)) ?bq 16).trans rfl, (blk_cell (t := 61) (cs := (Srf 0 (.slice none 0 0) s2 (.slice A2 l2.length c2) (.slice none 0 0) true n)) ?bq 17).trans rfl, (blk_cell (t := 61) (cs := (Srf 0 (.slice none 0 0) s2 (.slice A2 l2.length c2) (.slice none 0 0) true n)) ?bq 18).trans rfl, (blk_cell (t := 61) (cs := (Srf 0 (.slice none 0 0) s2 (.slice A2 l2.length c2) (.slice none 0 0) true n)) ?bq 19).trans rfl, (blk_cell (t := 61) (cs := (Srf 0 (.slice none 0 0) s2 (.slice A2 l2.length c2) (.slice none 0 0) true n)) ?bq 20).trans rfl, (blk_cell (t := 61) (cs := (Srf 0 (.slice none 0 0) s2 (.slice A2 l2.length c2) (.slice none 0 0) true n)) ?bq 21).trans rfl, (blk_cell (t := 61) (cs := (Srf 0 (.slice none 0 0) s2 (.slice A2 l2.length c2) (.slice none 0 0) true n)) ?bq 22).trans rfl, (blk_cell (t := 61) (cs := (Srf 0 (.slice none 0 0) s2 (.slice A2 l2.length c2) (.slice none 0 0) true n)) ?bq 23).trans rfl, (blk_cell (t := 61) (cs := (Srf 0 (.slice none 0 0) s2 (.slice A2 l2.length c2) (.slice none 0 0) true n)) ?bq 24).trans rfl, (blk_cell (t := 61) (cs := (Srf 0 (.slice none 0 0) s2 (.slice A2 l2.length c2) (.slice none 0 0) true n)) ?bq 25).trans rfl, (blk_cell (t := 61) (cs := (Srf 0 (.slice none 0 0) s2 (.slice A2 l2.length c2) (.slice none 0 0) true n)) ?bq 26).trans rfl, (blk_cell (t := 61) (cs := (Srf 0 (.slice none 0 0) s2 (.slice A2 l2.length c2) (.slice none 0 0) true n)) ?bq 27).trans rfl, (blk_cell (t := 61) (cs := (Srf 0 (.slice none 0 0) s2 (.slice A2 l2.length c2) (.slice none 0 0) true n)) ?bq 28).trans rfl, (blk_cell (t := 61) (cs := (Srf 0 (.slice none 0 0) s2 (.slice A2 l2.length c2) (.slice none 0 0) true n)) ?bq 29).trans rfl, (blk_cell (t := 61) (cs := (Srf 0 (.slice none 0 0) s2 (.slice A2 l2.length c2) (.slice none 0 0) true n)) ?bq 30).trans rfl, (blk_cell (t := 61) (cs := (Srf 0 (.slice none 0 0) s2 (.slice A2 l2.length c2) (.slice none 0 0) true n)) ?bq 31).trans rfl, (blk_cell (t := 61) (cs := (Srf 0 (.slice none 0 0) s2 (.slice A2 l2.length c2) (.slice none 0 0) true n)) ?bq 32).trans rfl, (blk_cell (t := 61) (cs := (Srf 0 (.slice none 0 0) s2 (.slice A2 l2.length c2) (.slice none 0 0) true n)) ?bq 33).trans rfl⟩; (case bq => (repeat (first | (with_reducible exact H5.out.1) | (with_reducible refine blk_drew ?_) | (with_reducible refine blk_alloc ?_ _) | (with_reducible refine blk_far11 _ _ _ _ _ _ _ _ _ _ _ ?_ ?_) | omega)))) | (refine ⟨(blk_cell (t := 61) (cs := (Srf 0 (.slice none 0 0) s2 (.slice A2 l2.length c2) (.slice none 0 0) true n)) ?bq 12).trans rfl, (blk_cell (t := 61) (cs := (Srf 0 (.slice none 0 0) s2 (.slice A2 l2.length c2) (.slice none 0 0) true n)) ?bq 13).trans rfl, (blk_cell (t := 61) (cs := (Srf 0 (.slice none 0 0) s2 (.slice A2 l2.length c2) (.slice none 0 0) true n)) ?bq 14).trans rfl, (blk_cell (t := 61) (cs := (Srf 0 (.slice none 0 0) s2 (.slice A2 l2.length c2) (.slice none 0 0) true n)) ?bq 15).trans rfl, (blk_cell (t := 61) (cs := (Srf 0 (.slice none 0 0) s2 (.slice A2 l2.length c2) (.slice none 0 0) true n)) ?bq 16).trans rfl, (blk_cell (t := 61) (cs := (Srf 0 (.slice none 0 0) s2 (.slice A2 l2.length c2) (.slice none 0 0) true n)) ?bq 17).trans rfl, (blk_cell (t := 61) (cs := (Srf 0 (.slice none 0 0) s2 (.slice A2 l2.length c2) (.slice none 0 0) true n)) ?bq 18).trans rfl, (blk_cell (t := 61) (cs := (Srf 0 (.slice none 0 0) s2 (.slice A2 l2.length c2) (.slice none 0 0) true n)) ?bq 19).trans rfl, (blk_cell (t := 61) (cs := (Srf 0 (.slice none 0 0) s2 (.slice A2 l2.length c2) (.slice none 0 0) true n)) ?bq 20).trans rfl, (blk_cell (t := 61) (cs := (Srf 0 (.slice none 0 0) s2 (.slice A2 l2.length c2) (.slice none 0 0) true n)) ?bq 21).trans rfl, (blk_cell (t := 61) (cs := (Srf 0 (.slice none 0 0) s2 (.slice A2 l2.length c2) (.slice none 0 0) true n)) ?bq 22).trans rfl, (blk_cell (t := 61) (cs := (Srf 0 (.slice none 0 0) s2 (.slice A2 l2.length c2) (.slice none 0 0) true n)) ?bq 23).trans rfl, (blk_cell (t := 61) (cs := (Srf 0 (.slice none 0 0) s2 (.slice A2 l2.length c2) (.slice none 0 0) true n)) ?bq 24).trans rfl, (blk_cell (t := 61) (cs := (Srf 0 (.slice none 0 0) s2 (.slice A2 l2.length c2) (.slice none 0 0) true n)) ?bq 25).trans rfl, (blk_cell (t := 61) (cs := (Srf 0 (.slice none 0 0) s2 (.slice A2 l2.length c2) (.slice none 0 0) true n)) ?bq 26).trans rfl, (blk_cell (t := 61) (cs := (Srf 0 (.slice none 0 0) s2 (.slice A2 l2.length c2) (.slice none 0 0) true n)) ?bq 27).trans rfl, (blk_cell (t := 61) (cs := (Srf 0 (.slice none 0 0) s2 (.slice A2 l2.length c2) (.slice none 0 0) true n)) ?bq 28).trans rfl, (blk_cell (t := 61) (cs := (Srf 0 (.slice none 0 0) s2 (.slice A2 l2.length c2) (.slice none 0 0) true n)) ?bq 29).trans rfl, (blk_cell (t := 61) (cs := (Srf 0 (.slice none 0 0) s2 (.slice A2 l2.length c2) (.slice none 0 0) true n)) ?bq 30).trans rfl, (blk_cell (t := 61) (cs := (Srf 0 (.slice none 0 0) s2 (.slice A2 l2.length c2) (.slice none 0 0) true n)) ?bq 31).trans rfl, (blk_cell (t := 61) (cs := (Srf 0 (.slice none 0 0) s2 (.slice A2 l2.length c2) (.slice none 0 0) true n)) ?bq 32).trans rfl, (blk_cell (t := 61) (cs := (Srf 0 (.slice none 0 0) s2 (.slice A2 l2.length c2) (.slice none 0 0) true n)) ?bq 33).trans rfl⟩; (case bq => (repeat (first | (with_reducible exact H4.out.1) | (with_reducible refine blk_drew ?_) | (with_reducible refine blk_alloc ?_ _) | (with_reducible refine blk_far11 _ _ _ _ _ _ _ _ _ _ _ ?_ ?_) | omega)))) | fail) (first | (go_at_call 33; refine (merge_ok s2 A2 c2 l2 _ (Kd.C_below HR.out.1 (below_step H4.out.2 (by repeat (first | (with_reducible exact Below.refl _ _) | (with_reducible apply below_drew1) | (with_reducible apply below_alloc))))) HR.out.2.1 HR.out.2.2.1 HR.out.2.2.2).mono ?_; rintro e w5 ⟨v5, rfl, hR5, hba⟩; obtain ⟨Av, cv, e5⟩ := Kd.R_slice hR5; subst e5; have hx := below_step (show Below w4.heap.size w4 _ from (by repeat (first | (with_reducible exact Below.refl _ _) | (with_reducible apply below_drew1) | (with_reducible apply below_alloc)))) hba; have H5 := Aside0.mk (And.intro (blk_below H4.out.1 hx) (below_step H4.out.2 hx)); have hz5 := hx.size; (first | (refine (fun (x1_ : w5.heap[w4.heap.size]? = some (.cells #[.int .i64 0, .slice none 0 0, .int .i64 0, .int .i64 0, .slice none 0 0, .slice none 0 0, .bool false, .slice none 0 0, .int .i64 0, .int .i64 0, .slice none 0 0] 56 (0, 0))) (x2_ : w5.heap[w4.heap.size + 1]? = some (.cells #[.int .i64 0, .slice none 0 0, .int .i64 0, .int .i64 0, .slice none 0 0, .slice none 0 0, .bool false, .slice none 0 0, .int .i64 0, .int .i64 0, .slice none 0 0] 56 (0, 0))) => ?_) ?ha ?hb; (case ha => (refine blk_below ?_ hba; (repeat (first | (with_reducible exact heap_alloc_new _ _) | (with_reducible exact alloc2_get _ _ _) | (with_reducible refine blk_drew ?_) | (with_reducible refine blk_alloc ?_ _))))); (case hb => (refine blk_below ?_ hba; (repeat (first | (with_reducible exact heap_alloc_new _ _) | (with_reducible exact alloc2_get _ _ _) | (with_reducible refine blk_drew ?_) | (with_reducible refine blk_alloc ?_ _))))); have hXa := Aside0.mk x1_; have hXb := Aside0.mk x2_; clear x1_ x2_) | (refine (fun (x1_ : w5.heap[w4.heap.size]? = some (.cells #[.int .i64 0, .slice none 0 0, .int .i64 0, .int .i64 0, .slice none 0 0, .slice none 0 0, .bool false, .slice none 0 0, .int .i64 0, .int .i64 0, .slice none 0 0] 56 (0, 0))) => ?_) ?ha; (case ha => (refine blk_below ?_ hba; (repeat (first | (with_reducible exact heap_alloc_new _ _) | (with_reducible exact alloc2_get _ _ _) | (with_reducible refine blk_drew ?_) | (with_reducible refine blk_alloc ?_ _))))); have hXa := Aside0.mk x1_; clear x1_) | skip); (first | (have hl5 := Aside0.mk (blk_lt hXa.out); have qp0 := (blk_cell hXa.out 0).trans rfl; have rp0 := blk_frozen hXa.out 0; have qp1 := (blk_cell hXa.out 1).trans rfl; have rp1 := blk_frozen hXa.out 1; have qp2 := (blk_cell hXa.out 2).trans rfl; have rp2 := blk_frozen hXa.out 2; have qp3 := (blk_cell hXa.out 3).trans rfl; have rp3 := blk_frozen hXa.out 3; have qp4 := (blk_cell hXa.out 4).trans rfl; have rp4 := blk_frozen hXa.out 4; have qp5 := (blk_cell hXa.out 5).trans rfl; have rp5 := blk_frozen hXa.out 5; have qp6 := (blk_cell hXa.out 6).trans rfl; have rp6 := blk_frozen hXa.out 6; have qp7 := (blk_cell hXa.out 7).trans rfl; have rp7 := blk_frozen hXa.out 7; have qp8 := (blk_cell hXa.out 8).trans rfl; have rp8 := blk_frozen hXa.out 8; have qp9 := (blk_cell hXa.out 9).trans rfl; have rp9 := blk_frozen hXa.out 9; have qp10 := (blk_cell hXa.out 10).trans rfl; have rp10 := blk_frozen hXa.out 10) | skip); (first | (have HR5 := Aside0.mk (R_up (n := w4.heap.size + 1) hR5 (Nat.le_of_eq (size_al w4 (Obj.cells #[.int .i64 0, .slice none 0 0, .int .i64 0, .int .i64 0, .slice none 0 0, .slice none 0 0, .bool false, .slice none 0 0, .int .i64 0, .int .i64 0, .slice none 0 0] 56)).symm))) | (have HR5 := Aside0.mk (R_up (n := w4.heap.size) hR5 (Nat.le_refl _)))); clear hba hx hR5))
    · (try have k5_ := hl5.out)
      refine app_world (fun W' => W'.heap[g]? = some (.cells (Srf 0 (.slice none 0 0) s2 (.slice A2 l2.length c2) (.slice none 0 0) true n) 61 (0, 0)) ∧ W'.heap[w5.heap.size]? = some (.cells #[.int .i64 0, .slice none 0 0, .int .i64 1, .int .i64 0, .slice none 0 0, .slice none 0 0, .bool false, .slice none 0 0, .int .i64 0, .int .i64 0, .slice Av l2.length cv] 56 (0, 0)) ∧ Below w.heap.size w W' ∧ Kd.R (Kd.int .u32) 36 W' w.heap.size (fun k => w.heap.size ≤ k ∧ k ≠ w5.heap.size) (.slice Av l2.length cv) l2 ∧ w.heap.size ≤ w5.heap.size) ?_ ?_
      · refine ⟨?_, ?_, ?_, ?_, ?_⟩
        · (repeat (first | (with_reducible exact H5.out.1) | (with_reducible refine blk_drew ?_) | (with_reducible refine blk_alloc ?_ _) | (with_reducible refine blk_far11 _ _ _ _ _ _ _ _ _ _ _ ?_ ?_) | omega))
        · (repeat (first | (with_reducible exact heap_alloc_new _ _) | (with_reducible exact hXa.out) | (with_reducible refine blk_drew ?_) | (with_reducible refine put_z ?_ _ _ _ _ _ _ _ _ _ _ _)))
        · (repeat (first | (with_reducible exact H5.out.2) | (with_reducible apply below_drew1) | (with_reducible apply below_alloc) | (with_reducible refine below_put11 ?_ ?_ _ _ _ _ _ _ _ _ _ _ _) | omega))
        · exact R_alw HR5.out _ (by omega) (by omega)
        · omega
      · intro W' hW'
        have HW' := Aside0.mk hW'
        clear hW'
        go_wp2_with fail
        go_meet
        case rel => exact ⟨w5.heap.size, Av, cv, rfl, rfl, HW'⟩
    · (try have k5_ := hl5.out)
      refine app_world (fun W' => W'.heap[g]? = some (.cells (Srf 0 (.slice none 0 0) s2 (.slice A2 l2.length c2) (.slice none 0 0) true n) 61 (0, 0)) ∧ W'.heap[w4.heap.size]? = some (.cells #[.int .i64 0, .slice none 0 0, .int .i64 1, .int .i64 0, .slice none 0 0, .slice none 0 0, .bool false, .slice none 0 0, .int .i64 0, .int .i64 0, .slice Av l2.length cv] 56 (0, 0)) ∧ Below w.heap.size w W' ∧ Kd.R (Kd.int .u32) 36 W' w.heap.size (fun k => w.heap.size ≤ k ∧ k ≠ w4.heap.size) (.slice Av l2.length cv) l2 ∧ w.heap.size ≤ w4.heap.size) ?_ ?_
      · refine ⟨?_, ?_, ?_, ?_, ?_⟩
        · (repeat (first | (with_reducible exact H5.out.1) | (with_reducible refine blk_drew ?_) | (with_reducible refine blk_alloc ?_ _) | (with_reducible refine blk_far11 _ _ _ _ _ _ _ _ _ _ _ ?_ ?_) | omega))
        · (repeat (first | (with_reducible exact heap_alloc_new _ _) | (with_reducible exact hXa.out) | (with_reducible refine blk_drew ?_) | (with_reducible refine put_z ?_ _ _ _ _ _ _ _ _ _ _ _)))
        · (repeat (first | (with_reducible exact H5.out.2) | (with_reducible apply below_drew1) | (with_reducible apply below_alloc) | (with_reducible refine below_put11 ?_ ?_ _ _ _ _ _ _ _ _ _ _ _) | omega))
        · exact R_p112 HR5.out (by omega) _ _ _ _ _ _ _ _ _ _ _
        · omega
      · intro W' hW'
        have HW' := Aside0.mk hW'
        clear hW'
        go_wp2_with fail
        go_meet
        case rel => exact ⟨w4.heap.size, Av, cv, rfl, rfl, HW'⟩
  case rest =>
    obtain ⟨n3, Av, cv, rfl, rfl, HM⟩ := hcut
    clear H4
    have hgw := blk_lt HG.out
    have hng : n3 ≠ g := by have := HM.out.2.2.2.2; omega
    have hng2 : g ≠ n3 := fun e => hng e.symm
    have a0 : wc.cell? ⟨n3, 0, none⟩ = some (.int .i64 0) := (blk_cell HM.out.2.1 0).trans rfl
    have fa0 := blk_frozen HM.out.2.1 0
    have a1 : wc.cell? ⟨n3, 1, none⟩ = some (.slice none 0 0) := (blk_cell HM.out.2.1 1).trans rfl
    have fa1 := blk_frozen HM.out.2.1 1
    have a2 : wc.cell? ⟨n3, 2, none⟩ = some (.int .i64 1) := (blk_cell HM.out.2.1 2).trans rfl
    have fa2 := blk_frozen HM.out.2.1 2
    have a3 : wc.cell? ⟨n3, 3, none⟩ = some (.int .i64 0) := (blk_cell HM.out.2.1 3).trans rfl
    have fa3 := blk_frozen HM.out.2.1 3
    have a4 : wc.cell? ⟨n3, 4, none⟩ = some (.slice none 0 0) := (blk_cell HM.out.2.1 4).trans rfl
    have fa4 := blk_frozen HM.out.2.1 4
    have a5 : wc.cell? ⟨n3, 5, none⟩ = some (.slice none 0 0) := (blk_cell HM.out.2.1 5).trans rfl
    have fa5 := blk_frozen HM.out.2.1 5
    have a6 : wc.cell? ⟨n3, 6, none⟩ = some (.bool false) := (blk_cell HM.out.2.1 6).trans rfl
    have fa6 := blk_frozen HM.out.2.1 6
    have a7 : wc.cell? ⟨n3, 7, none⟩ = some (.slice none 0 0) := (blk_cell HM.out.2.1 7).trans rfl
    have fa7 := blk_frozen HM.out.2.1 7
    have a8 : wc.cell? ⟨n3, 8, none⟩ = some (.int .i64 0) := (blk_cell HM.out.2.1 8).trans rfl
    have fa8 := blk_frozen HM.out.2.1 8
    have a9 : wc.cell? ⟨n3, 9, none⟩ = some (.int .i64 0) := (blk_cell HM.out.2.1 9).trans rfl
    have fa9 := blk_frozen HM.out.2.1 9
    have a10 : wc.cell? ⟨n3, 10, none⟩ = some (.slice Av l2.length cv) := (blk_cell HM.out.2.1 10).trans rfl
    have fa10 := blk_frozen HM.out.2.1 10
    go_wp2_with fail
    refine (accum_ok (.slice Av l2.length cv) g (Srf 0 (.slice none 0 0) s2 (.slice A2 l2.length c2) (.slice none 0 0) true n) _ HM.out.1 rfl).mono ?_
    rintro e w6x ⟨rfl, w6, hb6, rfl⟩
    have H6 := Aside0.mk (And.intro (blk_put (cs := (Srf 0 (.slice none 0 0) s2 (.slice A2 l2.length c2) (.slice none 0 0) true n)) (cs' := (Srf 0 (.slice none 0 0) s2 (.slice A2 l2.length c2) (.slice none 0 0) true n)) (blk_below HM.out.1 hb6) 35 (.slice none 0 0) rfl) (And.intro (blk_far (p := ⟨g, 35, none⟩) (blk_below HM.out.2.1 hb6) hng (.slice none 0 0)) (And.intro (below_set (j := 35) (v := (.slice none 0 0)) (below_step HX.out.1 (below_step HM.out.2.2.1 hb6)) HX.out.2) (And.intro (Kept.setCell (S := fun k => k = g) (Kept.of_below (below_step HM.out.2.2.1 hb6) (fun k => k = g)) (p := ⟨g, 35, none⟩) (.inl rfl) (.slice none 0 0)) (Kd.R_far (p := ⟨g, 35, none⟩) (Kd.R_below HM.out.2.2.2.1 hb6) (fun k hk e => by have := hk.1; simp only at e; omega) (.slice none 0 0))))))
    clear a0 fa0 a1 fa1 a2 fa2 a3 fa3 a4 fa4 a5 fa5 a6 fa6 a7 fa7 a8 fa8 a9 fa9 a10 fa10 hb6 HM
    generalize w6.setCell ⟨g, 35, none⟩ (.slice none 0 0) = w7 at H6 ⊢
    go_upto_region 7 with fail
    go_region_held3 (fun w' => w'.cell? ⟨n3, 0, none⟩ = some (.int .i64 0) ∧ w'.cell? ⟨n3, 1, none⟩ = some (.slice none 0 0) ∧ w'.cell? ⟨n3, 2, none⟩ = some (.int .i64 1) ∧ w'.cell? ⟨n3, 3, none⟩ = some (.int .i64 0) ∧ w'.cell? ⟨n3, 4, none⟩ = some (.slice none 0 0) ∧ w'.cell? ⟨n3, 5, none⟩ = some (.slice none 0 0) ∧ w'.cell? ⟨n3, 6, none⟩ = some (.bool false) ∧ w'.cell? ⟨n3, 7, none⟩ = some (.slice none 0 0) ∧ w'.cell? ⟨n3, 8, none⟩ = some (.int .i64 0) ∧ w'.cell? ⟨n3, 9, none⟩ = some (.int .i64 0) ∧ w'.cell? ⟨n3, 10, none⟩ = some (.slice Av l2.length cv)) (first | (refine ⟨(blk_cell (t := 56) (cs := #[.int .i64 0, .slice none 0 0, .int .i64 1, .int .i64 0, .slice none 0 0, .slice none 0 0, .bool false, .slice none 0 0, .int .i64 0, .int .i64 0, .slice Av l2.length cv]) ?br 0).trans rfl, (blk_cell (t := 56) (cs := #[.int .i64 0, .slice none 0 0, .int .i64 1, .int .i64 0, .slice none 0 0, .slice none 0 0, .bool false, .slice none 0 0, .int .i64 0, .int .i64 0, .slice Av l2.length cv]) ?br 1).trans rfl, (blk_cell (t := 56) (cs := #[.int .i64 0, .slice none 0 0, .int .i64 1, .int .i64 0, .slice none 0 0, .slice none 0 0, .bool false, .slice none 0 0, .int .i64 0, .int .i64 0, .slice Av l2.length cv]) ?br 2).trans rfl, (blk_cell (t := 56) (cs := #[.int .i64 0, .slice none 0 0, .int .i64 1, .int .i64 0, .slice none 0 0, .slice none 0 0, .bool false, .slice none 0 0, .int .i64 0, .int .i64 0, .slice Av l2.length cv]) ?br 3).trans rfl, (blk_cell (t := 56) (cs := #[.int .i64 0, .slice none 0 0, .int .i64 1, .int .i64 0, .slice none 0 0, .slice none 0 0, .bool false, .slice none 0 0, .int .i64 0, .int .i64 0, .slice Av l2.length cv]) ?br 4).trans rfl, (blk_cell (t := 56) (cs := #[.int .i64 0, .slice none 0 0, .int .i64 1, .int .i64 0, .slice none 0 0, .slice none 0 0, .bool false, .slice none 0 0, .int .i64 0, .int .i64 0, .slice Av l2.length cv]) ?br 5).trans rfl, (blk_cell (t := 56) (cs := #[.int .i64 0, .slice none 0 0, .int .i64 1, .int .i64 0, .slice none 0 0, .slice none 0 0, .bool false, .slice none 0 0, .int .i64 0, .int .i64 0, .slice Av l2.length cv]) ?br 6).trans rfl, (blk_cell (t := 56) (cs := #[.int .i64 0, .slice none 0 0, .int .i64 1, .int .i64 0, .slice none 0 0, .slice none 0 0, .bool false, .slice none 0 0, .int .i64 0, .int .i64 0, .slice Av l2.length cv]) ?br 7).trans rfl, (blk_cell (t := 56) (cs := #[.int .i64 0, .slice none 0 0, .int .i64 1, .int .i64 0, .slice none 0 0, .slice none 0 0, .bool false, .slice none 0 0, .int .i64 0, .int .i64 0, .slice Av l2.length cv]) ?br 8).trans rfl, (blk_cell (t := 56) (cs := #[.int .i64 0, .slice none 0 0, .int .i64 1, .int .i64 0, .slice none 0 0, .slice none 0 0, .bool false, .slice none 0 0, .int .i64 0, .int .i64 0, .slice Av l2.length cv]) ?br 9).trans rfl, (blk_cell (t := 56) (cs := #[.int .i64 0, .slice none 0 0, .int .i64 1, .int .i64 0, .slice none 0 0, .slice none 0 0, .bool false, .slice none 0 0, .int .i64 0, .int .i64 0, .slice Av l2.length cv]) ?br 10).trans rfl⟩; (case br => (repeat (first | (with_reducible exact H9.out.2.1) | (with_reducible refine blk_drew ?_) | (with_reducible refine blk_alloc ?_ _) | (with_reducible refine blk_far ?_ hng _))))) | (refine ⟨(blk_cell (t := 56) (cs := #[.int .i64 0, .slice none 0 0, .int .i64 1, .int .i64 0, .slice none 0 0, .slice none 0 0, .bool false, .slice none 0 0, .int .i64 0, .int .i64 0, .slice Av l2.length cv]) ?br 0).trans rfl, (blk_cell (t := 56) (cs := #[.int .i64 0, .slice none 0 0, .int .i64 1, .int .i64 0, .slice none 0 0, .slice none 0 0, .bool false, .slice none 0 0, .int .i64 0, .int .i64 0, .slice Av l2.length cv]) ?br 1).trans rfl, (blk_cell (t := 56) (cs := #[.int .i64 0, .slice none 0 0, .int .i64 1, .int .i64 0, .slice none 0 0, .slice none 0 0, .bool false, .slice none 0 0, .int .i64 0, .int .i64 0, .slice Av l2.length cv]) ?br 2).trans rfl, (blk_cell (t := 56) (cs := #[.int .i64 0, .slice none 0 0, .int .i64 1, .int .i64 0, .slice none 0 0, .slice none 0 0, .bool false, .slice none 0 0, .int .i64 0, .int .i64 0, .slice Av l2.length cv]) ?br 3).trans rfl, (blk_cell (t := 56) (cs := #[.int .i64 0, .slice none 0 0, .int .i64 1, .int .i64 0, .slice none 0 0, .slice none 0 0, .bool false, .slice none 0 0, .int .i64 0, .int .i64 0, .slice Av l2.length cv]) ?br 4).trans rfl, (blk_cell (t := 56) (cs := #[.int .i64 0, .slice none 0 0, .int .i64 1, .int .i64 0, .slice none 0 0, .slice none 0 0, .bool false, .slice none 0 0, .int .i64 0, .int .i64 0, .slice Av l2.length cv]) ?br 5).trans rfl, (blk_cell (t := 56) (cs := #[.int .i64 0, .slice none 0 0, .int .i64 1, .int .i64 0, .slice none 0 0, .slice none 0 0, .bool false, .slice none 0 0, .int .i64 0, .int .i64 0, .slice Av l2.length cv]) ?br 6).trans rfl, (blk_cell (t := 56) (cs := #[.int .i64 0, .slice none 0 0, .int .i64 1, .int .i64 0, .slice none 0 0, .slice none 0 0, .bool false, .slice none 0 0, .int .i64 0, .int .i64 0, .slice Av l2.length cv]) ?br 7).trans rfl, (blk_cell (t := 56) (cs := #[.int .i64 0, .slice none 0 0, .int .i64 1, .int .i64 0, .slice none 0 0, .slice none 0 0, .bool false, .slice none 0 0, .int .i64 0, .int .i64 0, .slice Av l2.length cv]) ?br 8).trans rfl, (blk_cell (t := 56) (cs := #[.int .i64 0, .slice none 0 0, .int .i64 1, .int .i64 0, .slice none 0 0, .slice none 0 0, .bool false, .slice none 0 0, .int .i64 0, .int .i64 0, .slice Av l2.length cv]) ?br 9).trans rfl, (blk_cell (t := 56) (cs := #[.int .i64 0, .slice none 0 0, .int .i64 1, .int .i64 0, .slice none 0 0, .slice none 0 0, .bool false, .slice none 0 0, .int .i64 0, .int .i64 0, .slice Av l2.length cv]) ?br 10).trans rfl⟩; (case br => (repeat (first | (with_reducible exact H6.out.2.1) | (with_reducible refine blk_drew ?_) | (with_reducible refine blk_alloc ?_ _) | (with_reducible refine blk_far ?_ hng _))))) | fail) (first | (go_at_call 15; refine (initial_ok _).mono ?_; rintro e w9 ⟨rfl, hba⟩; have hx := below_step (show Below w7.heap.size w7 _ from (by repeat (first | (with_reducible exact Below.refl _ _) | (with_reducible apply below_drew1) | (with_reducible apply below_alloc)))) hba; have H9 := Aside0.mk (And.intro (blk_below H6.out.1 hx) (And.intro (blk_below H6.out.2.1 hx) (And.intro (below_step H6.out.2.2.1 hx) (And.intro (H6.out.2.2.2.1.below hx) (Kd.R_below H6.out.2.2.2.2 hx))))); clear hba hx; have q12 : w9.cell? ⟨g, 12, none⟩ = some (.int .i64 s2) := (blk_cell H9.out.1 12).trans rfl; have f12 := blk_frozen H9.out.1 12; have q13 : w9.cell? ⟨g, 13, none⟩ = some (.slice none 0 0) := (blk_cell H9.out.1 13).trans rfl; have f13 := blk_frozen H9.out.1 13; have q14 : w9.cell? ⟨g, 14, none⟩ = some (.int .i64 1) := (blk_cell H9.out.1 14).trans rfl; have f14 := blk_frozen H9.out.1 14; have q15 : w9.cell? ⟨g, 15, none⟩ = some (.int .i64 0) := (blk_cell H9.out.1 15).trans rfl; have f15 := blk_frozen H9.out.1 15; have q16 : w9.cell? ⟨g, 16, none⟩ = some (.slice none 0 0) := (blk_cell H9.out.1 16).trans rfl; have f16 := blk_frozen H9.out.1 16; have q17 : w9.cell? ⟨g, 17, none⟩ = some (.slice none 0 0) := (blk_cell H9.out.1 17).trans rfl; have f17 := blk_frozen H9.out.1 17; have q18 : w9.cell? ⟨g, 18, none⟩ = some (.bool false) := (blk_cell H9.out.1 18).trans rfl; have f18 := blk_frozen H9.out.1 18; have q19 : w9.cell? ⟨g, 19, none⟩ = some (.slice none 0 0) := (blk_cell H9.out.1 19).trans rfl; have f19 := blk_frozen H9.out.1 19; have q20 : w9.cell? ⟨g, 20, none⟩ = some (.int .i64 0) := (blk_cell H9.out.1 20).trans rfl; have f20 := blk_frozen H9.out.1 20; have q21 : w9.cell? ⟨g, 21, none⟩ = some (.int .i64 0) := (blk_cell H9.out.1 21).trans rfl; have f21 := blk_frozen H9.out.1 21; have q22 : w9.cell? ⟨g, 22, none⟩ = some (.slice A2 l2.length c2) := (blk_cell H9.out.1 22).trans rfl; have f22 := blk_frozen H9.out.1 22; have q23 : w9.cell? ⟨g, 23, none⟩ = some (.int .i64 0) := (blk_cell H9.out.1 23).trans rfl; have f23 := blk_frozen H9.out.1 23; have q24 : w9.cell? ⟨g, 24, none⟩ = some (.slice none 0 0) := (blk_cell H9.out.1 24).trans rfl; have f24 := blk_frozen H9.out.1 24; have q25 : w9.cell? ⟨g, 25, none⟩ = some (.int .i64 1) := (blk_cell H9.out.1 25).trans rfl; have f25 := blk_frozen H9.out.1 25; have q26 : w9.cell? ⟨g, 26, none⟩ = some (.int .i64 0) := (blk_cell H9.out.1 26).trans rfl; have f26 := blk_frozen H9.out.1 26; have q27 : w9.cell? ⟨g, 27, none⟩ = some (.slice none 0 0) := (blk_cell H9.out.1 27).trans rfl; have f27 := blk_frozen H9.out.1 27; have q28 : w9.cell? ⟨g, 28, none⟩ = some (.slice none 0 0) := (blk_cell H9.out.1 28).trans rfl; have f28 := blk_frozen H9.out.1 28; have q29 : w9.cell? ⟨g, 29, none⟩ = some (.bool false) := (blk_cell H9.out.1 29).trans rfl; have f29 := blk_frozen H9.out.1 29; have q30 : w9.cell? ⟨g, 30, none⟩ = some (.slice none 0 0) := (blk_cell H9.out.1 30).trans rfl; have f30 := blk_frozen H9.out.1 30; have q31 : w9.cell? ⟨g, 31, none⟩ = some (.int .i64 0) := (blk_cell H9.out.1 31).trans rfl; have f31 := blk_frozen H9.out.1 31; have q32 : w9.cell? ⟨g, 32, none⟩ = some (.int .i64 0) := (blk_cell H9.out.1 32).trans rfl; have f32 := blk_frozen H9.out.1 32; have q33 : w9.cell? ⟨g, 33, none⟩ = some (.slice none 0 0) := (blk_cell H9.out.1 33).trans rfl; have f33 := blk_frozen H9.out.1 33; have q34 : w9.cell? ⟨g, 34, none⟩ = some (.bool true) := (blk_cell H9.out.1 34).trans rfl; have f34 := blk_frozen H9.out.1 34))
    have K9 := Aside0.mk (Kept.setCell (S := fun k => k = g) ((kept_o23 w9 g (.int .i64 0) (.slice none 0 0) (.int .i64 1) (.int .i64 0) (.slice none 0 0) (.slice none 0 0) (.bool false) (.slice none 0 0) (.int .i64 0) (.int .i64 0) (.slice Av l2.length cv)).then_ (kept_o12 _ g (.int .i64 0) (.slice none 0 0) (.int .i64 1) (.int .i64 0) (.slice none 0 0) (.slice none 0 0) (.bool false) (.slice none 0 0) (.int .i64 0) (.int .i64 0) (.slice none 0 0)) (fun _ h => .inl h)) (p := ⟨g, 34, none⟩) (.inl rfl) (.bool false))
    have B9 := Aside0.mk (below_set (j := 34) (v := .bool false) (below_o12 (below_o23 H9.out.2.2.1 HX.out.2 (.int .i64 0) (.slice none 0 0) (.int .i64 1) (.int .i64 0) (.slice none 0 0) (.slice none 0 0) (.bool false) (.slice none 0 0) (.int .i64 0) (.int .i64 0) (.slice Av l2.length cv)) HX.out.2 (.int .i64 0) (.slice none 0 0) (.int .i64 1) (.int .i64 0) (.slice none 0 0) (.slice none 0 0) (.bool false) (.slice none 0 0) (.int .i64 0) (.int .i64 0) (.slice none 0 0)) HX.out.2)
    have G9 := Aside0.mk (blk_put (cs := Srf 0 (.slice none 0 0) 0 (.slice none 0 0) (.slice Av l2.length cv) true n) (cs' := Srf 0 (.slice none 0 0) 0 (.slice none 0 0) (.slice Av l2.length cv) false n) (put_cached (s' := 0) (v' := (.slice none 0 0)) (put_current (v' := .slice Av l2.length cv) H9.out.1)) 34 (.bool false) rfl)
    go_upto_region 8 with fail
    generalize (((((((((((((((((((((((w9.setCell ⟨g, 23, none⟩ (.int .i64 0)).setCell ⟨g, 24, none⟩ (.slice none 0 0)).setCell ⟨g, 25, none⟩ (.int .i64 1)).setCell ⟨g, 26, none⟩ (.int .i64 0)).setCell ⟨g, 27, none⟩ (.slice none 0 0)).setCell ⟨g, 28, none⟩ (.slice none 0 0)).setCell ⟨g, 29, none⟩ (.bool false)).setCell ⟨g, 30, none⟩ (.slice none 0 0)).setCell ⟨g, 31, none⟩ (.int .i64 0)).setCell ⟨g, 32, none⟩ (.int .i64 0)).setCell ⟨g, 33, none⟩ (.slice Av l2.length cv)).setCell ⟨g, 12, none⟩ (.int .i64 0)).setCell ⟨g, 13, none⟩ (.slice none 0 0)).setCell ⟨g, 14, none⟩ (.int .i64 1)).setCell ⟨g, 15, none⟩ (.int .i64 0)).setCell ⟨g, 16, none⟩ (.slice none 0 0)).setCell ⟨g, 17, none⟩ (.slice none 0 0)).setCell ⟨g, 18, none⟩ (.bool false)).setCell ⟨g, 19, none⟩ (.slice none 0 0)).setCell ⟨g, 20, none⟩ (.int .i64 0)).setCell ⟨g, 21, none⟩ (.int .i64 0)).setCell ⟨g, 22, none⟩ (.slice none 0 0)).setCell ⟨g, 34, none⟩ (.bool false)) = w10 at K9 B9 G9 ⊢
    clear q12 f12 q13 f13 q14 f14 q15 f15 q16 f16 q17 f17 q18 f18 q19 f19 q20 f20 q21 f21 q22 f22 q23 f23 q24 f24 q25 f25 q26 f26 q27 f27 q28 f28 q29 f29 q30 f30 q31 f31 q32 f32 q33 f33 q34 f34
    have q36 : w10.cell? ⟨g, 36, none⟩ = some (.int .i64 n) := (blk_cell G9.out 36).trans rfl
    have f36 := blk_frozen G9.out 36
    go_wp2_with fail
    go_ret
    refine ⟨rfl, .slice Av l2.length cv, wrap64 (n + 1), blk_put (cs := Srf 0 (.slice none 0 0) 0 (.slice none 0 0) (.slice Av l2.length cv) false n) G9.out 36 _ rfl, Kd.R_far (p := ⟨g, 36, none⟩) (Kd.R_kept (Kd.R_mono H9.out.2.2.2.2 (fun k hk => hk.1)) K9.out (fun k hk e => by omega)) (fun k hk e => by simp only at e; omega) _, Kept.setCell (S := fun k => k = g) (H9.out.2.2.2.1.then_ K9.out (fun _ h => .inl h)) (p := ⟨g, 36, none⟩) (.inl rfl) _, below_set B9.out HX.out.2⟩
end
end Go.Proofs.YtancbjonkbdhdaaGreat.All
end
section
namespace Go.Proofs.YtancbjonkbdhdaaGreat.All
open Go.RowKit Go.Proofs.YtancbjonkbdhdaaGreatW.PrintWords Go.Proofs.YtancbjonkbdhdaaGreatW.PrintLast Go.Proofs.YtancbjonkbdhdaaGreatW.PrintMore
attribute [local go_sem] max2_int min2_int max_two min_two max_three min_three max_four min_four
set_option linter.unusedVariables false
set_option linter.unusedSimpArgs false
section
open Go.Proofs.YtancbjonkbdhdaaGreatHand Go.Proofs.YtancbjonkbdhdaaGreatSq
set_option maxHeartbeats 8000000
set_option maxRecDepth 100000
theorem commitS_ok (w0 w : World) (g : Nat) (s2 : Int) (A2 : Option Addr) (c2 : Nat) (l2 : List Int) (rd : Bool) (n : Int) (hg : w.heap[g]? = some (.cells (Srf s2 (.slice A2 l2.length c2) 0 (.slice none 0 0) (.slice none 0 0) rd n) 61 (0, 0))) (hr0 : Kd.C (Kd.int .u32) w A2 l2.length l2) (hc0 : l2.length ≤ c2) (hl : l2.length ≤ 1000) (hs2 : s2 = 0 ∧ l2 = [] ∨ s2 = 128) (hb : Below w0.heap.size w0 w) (hgl : w0.heap.size ≤ g) :
    Calls Tryz.prog 7 #[.pointer (some ⟨g, 0, none⟩)] w fun e w' => e = .returned (.int .i64 0) ∧ ∃ v n', w'.heap[g]? = some (.cells (Srf 0 (.slice none 0 0) 0 (.slice none 0 0) v false n') 61 (0, 0)) ∧ Kd.R (Kd.int .u32) 36 w' w.heap.size (fun k => w.heap.size ≤ k) v l2 ∧ Kept w w' (fun k => k = g) ∧ Below w0.heap.size w0 w' := by
  have HX := Aside0.mk (And.intro hb hgl)
  have HS := Aside0.mk (And.intro hl hs2)
  have H0 := Aside0.mk (And.intro hg (And.intro hr0 hc0))
  clear hb hgl hl hs2 hg hr0 hc0
  go_enter Tryz.func7, Tryz.ntmps7
  go_wp2_with fail
  refine (cache_ok w0 w g s2 A2 c2 l2 rd n H0.out.1 H0.out.2.1 H0.out.2.2 HS.out.1 HS.out.2 HX.out.1 HX.out.2).mono ?_
  rintro e w1 ⟨rfl, v1, hG1, hR1, hK1, hB1⟩
  obtain ⟨A1, c1, e1⟩ := Kd.R_slice hR1
  subst e1
  have hgw := blk_lt H0.out.1
  have H1 := Aside0.mk (And.intro hG1 (And.intro hR1 (And.intro hK1 hB1)))
  clear hG1 hR1 hK1 hB1
  go_wp2_with fail
  refine (apply_ok w0 w1 g s2 A1 c1 l2 n H1.out.1 (Kd.R_reads' H1.out.2.1).2.2 (Kd.R_reads' H1.out.2.1).2.1 HS.out.1 HS.out.2 H1.out.2.2.2 HX.out.2).mono ?_
  rintro e w2 ⟨rfl, v2, n2, hG2, hR2, hK2, hB2⟩
  have hsz := H1.out.2.2.1.1
  go_wp2_with fail
  go_ret
  exact ⟨rfl, v2, n2, hG2, R_up hR2 hsz, H1.out.2.2.1.then_ hK2 (fun _ h => .inl h), hB2⟩
end
end Go.Proofs.YtancbjonkbdhdaaGreat.All
end
section
namespace Go.Proofs.YtancbjonkbdhdaaGreat.All
open Go.RowKit Go.Proofs.YtancbjonkbdhdaaGreatW.PrintWords Go.Proofs.YtancbjonkbdhdaaGreatW.PrintLast Go.Proofs.YtancbjonkbdhdaaGreatW.PrintMore
attribute [local go_sem] max2_int min2_int max_two min_two max_three min_three max_four min_four
set_option linter.unusedVariables false
set_option linter.unusedSimpArgs false
section
open Go.Proofs.YtancbjonkbdhdaaGreatHand Go.Proofs.YtancbjonkbdhdaaGreatSq
theorem usable_ok (w : World) (g : Nat) (iv : Int) (h0 : w.cell? ⟨g, 0, none⟩ = some (.int .i64 iv)) (hf : w.frozen? ⟨g, 0, none⟩ = false) (hiv : 1 ≤ iv) : Calls Tryz.prog 20 #[.pointer (some ⟨g, 0, none⟩)] w fun e w' => e = .returned (.bool true) ∧ ∃ nd, w' = w.drewN nd := by
  have hu50 := Tryz.underlying50
  have d0 : decide (0 < iv) = true := decide_eq_true (by omega)
  go_enter Tryz.func20, Tryz.ntmps20
  go_wp2_with fail
  go_ret
  exact ⟨rfl, 0, rfl⟩
theorem clamp_ok (w : World) (a0 : Int) : Calls Tryz.prog 23 #[.int .i64 a0] w fun e w' => e = .returned (.int .i64 (mn (mx a0 0) 4611686018427387904)) ∧ ∃ nd, w' = w.drewN nd := by
  obtain ⟨ji2, hji2⟩ : ∃ j_ : Int, (mx a0 0) = j_ := ⟨_, rfl⟩
  have hji2_ : (if a0 < 0 then 0 else a0) = ji2 := hji2
  obtain ⟨ji3, hji3⟩ : ∃ j_ : Int, (mn (ji2) 4611686018427387904) = j_ := ⟨_, rfl⟩
  have hji3_ : (if 4611686018427387904 < (ji2) then 4611686018427387904 else (ji2)) = ji3 := hji3
  rw [hji2, hji3]
  go_enter Tryz.func23, Tryz.ntmps23
  go_wp2
  go_ret
  exact ⟨rfl, 0, rfl⟩
def nextOf (iv now : Int) : Int := wrap64 ((wrap64 ((wrap64 (Int.tdiv (mn (mx now 0) 4611686018427387904) iv)) + 1)) * iv)
theorem next_ok (w : World) (g : Nat) (iv now : Int) (h0 : w.cell? ⟨g, 0, none⟩ = some (.int .i64 iv)) (hf : w.frozen? ⟨g, 0, none⟩ = false) (hiv : 1 ≤ iv) : Calls Tryz.prog 22 #[.pointer (some ⟨g, 0, none⟩), .int .i64 now] w fun e w' => e = .returned (.int .i64 (nextOf iv now)) ∧ ∃ nd, w' = w.drewN nd := by
  have hu50 := Tryz.underlying50
  have hi0 : ¬ iv = 0 := by omega
  have hh := Aside0.mk h0
  have hhf := Aside0.mk hf
  have hiv' := Aside0.mk hiv
  go_enter Tryz.func22, Tryz.ntmps22
  go_wp2_with (first | (go_at_call 20; (with_reducible refine (usable_ok _ g iv (by exact hh.out) (by exact hhf.out) hiv'.out).mono ?_); rintro e w' ⟨rfl, ⟨nd, rfl⟩⟩) | (go_at_call 23; (with_reducible refine (clamp_ok _ now).mono ?_); rintro e w' ⟨rfl, ⟨nd, rfl⟩⟩))
  have hh1 : (w.drewN nd).drew.cell? ⟨g, 0, none⟩ = some (.int .i64 iv) := hh.out
  have hh2 : (w.drewN nd).drew.frozen? ⟨g, 0, none⟩ = false := hhf.out
  go_region_held3 (fun w' => w'.cell? ⟨g, 0, none⟩ = some (.int .i64 iv)) (exact hh.out) (first | (go_at_call 23; (with_reducible refine (clamp_ok _ now).mono ?_); rintro e w' ⟨rfl, ⟨nd2, rfl⟩⟩))
  go_wp2
  go_ret
  exact ⟨by simp only [nextOf, i64_w]; rfl, _, rfl⟩
theorem sequence_ok (w : World) (g : Nat) (iv now : Int) (h0 : w.cell? ⟨g, 0, none⟩ = some (.int .i64 iv)) (hf : w.frozen? ⟨g, 0, none⟩ = false) (h1 : w.cell? ⟨g, 1, none⟩ = some (.int .i64 now)) (hf1 : w.frozen? ⟨g, 1, none⟩ = false) (hiv : 1 ≤ iv) : Calls Tryz.prog 12 #[.pointer (some ⟨g, 0, none⟩)] w fun e w' => e = .returned (.int .i64 (wrap64 (Int.tdiv now iv))) ∧ ∃ nd, w' = w.drewN nd := by
  have hu50 := Tryz.underlying50
  have hi0 : ¬ iv = 0 := by omega
  have hh := Aside0.mk h0
  have hhf := Aside0.mk hf
  have hg := Aside0.mk h1
  have hgf := Aside0.mk hf1
  have hiv' := Aside0.mk hiv
  go_enter Tryz.func12, Tryz.ntmps12
  go_wp2_with (first | (go_at_call 20; (with_reducible refine (usable_ok _ g iv (by exact hh.out) (by exact hhf.out) hiv'.out).mono ?_); rintro e w' ⟨rfl, ⟨nd, rfl⟩⟩))
  have hh1 : (w.drewN nd).drew.cell? ⟨g, 0, none⟩ = some (.int .i64 iv) := hh.out
  have hh2 : (w.drewN nd).drew.frozen? ⟨g, 0, none⟩ = false := hhf.out
  have hh3 : (w.drewN nd).drew.cell? ⟨g, 1, none⟩ = some (.int .i64 now) := hg.out
  have hh4 : (w.drewN nd).drew.frozen? ⟨g, 1, none⟩ = false := hgf.out
  go_region_held3 (fun w' => w'.cell? ⟨g, 0, none⟩ = some (.int .i64 iv) ∧ w'.cell? ⟨g, 1, none⟩ = some (.int .i64 now)) (exact ⟨hh.out, hg.out⟩) (fail)
  go_wp2
  go_ret
  exact ⟨by simp only [i64_w]; rfl, nd + 1, rfl⟩
theorem pending_ok (w : World) (g : Nat) (iv : Int) (A : Option Addr) (n c : Nat) (h0 : w.cell? ⟨g, 0, none⟩ = some (.int .i64 iv)) (hf : w.frozen? ⟨g, 0, none⟩ = false) (h1 : w.cell? ⟨g, 2, none⟩ = some (.slice A n c)) (hf1 : w.frozen? ⟨g, 2, none⟩ = false) (hiv : 1 ≤ iv) : Calls Tryz.prog 11 #[.pointer (some ⟨g, 0, none⟩)] w fun e w' => e = .returned (.int .i64 n) ∧ ∃ nd, w' = w.drewN nd := by
  have hu50 := Tryz.underlying50
  have hh := Aside0.mk h0
  have hhf := Aside0.mk hf
  have hg := Aside0.mk h1
  have hgf := Aside0.mk hf1
  have hiv' := Aside0.mk hiv
  go_enter Tryz.func11, Tryz.ntmps11
  go_wp2_with (first | (go_at_call 20; (with_reducible refine (usable_ok _ g iv (by exact hh.out) (by exact hhf.out) hiv'.out).mono ?_); rintro e w' ⟨rfl, ⟨nd, rfl⟩⟩))
  go_ret
  exact ⟨rfl, _, rfl⟩
theorem info65 : (Tryz.prog.info? 65).map (fun i => (i.zero, i.size, i.bytes)) = some (some (.agg #[(.int .i64 0), (.slice none 0 0)]), 2, 32) := by kernel_rfl
structure Clk (w0 w : World) (g : Nat) (iv now : Int) (vq : Value) (q : List S65) : Prop where
  blk : w.heap[g]? = some (.cells #[.int .i64 iv, .int .i64 now, vq] 50 (0, 0))
  low : w0.heap.size ≤ g
  own : Kd.N k65 65 w w0.heap.size (fun k => w0.heap.size ≤ k ∧ k ≠ g) vq q
  below : Below w0.heap.size w0 w
def Stp (w w' : World) (g : Nat) (vq vq' : Value) : Prop := Kept w w' (fun k => k = g ∨ some k = vq.ownBlock) ∧ (vq'.ownBlock = vq.ownBlock ∨ vq'.ownBlock = none ∨ ∃ b, vq'.ownBlock = some b ∧ w.heap.size ≤ b)
theorem Clk.cells {w0 w : World} {g : Nat} {iv now : Int} {vq : Value} {q : List S65} (h : Clk w0 w g iv now vq q) : (w.cell? ⟨g, 0, none⟩ = some (.int .i64 iv) ∧ w.frozen? ⟨g, 0, none⟩ = false) ∧ (w.cell? ⟨g, 1, none⟩ = some (.int .i64 now) ∧ w.frozen? ⟨g, 1, none⟩ = false) ∧ (w.cell? ⟨g, 2, none⟩ = some vq ∧ w.frozen? ⟨g, 2, none⟩ = false) :=
  ⟨⟨(blk_cell h.blk 0).trans rfl, blk_frozen h.blk 0⟩, ⟨(blk_cell h.blk 1).trans rfl, blk_frozen h.blk 1⟩, (blk_cell h.blk 2).trans rfl, blk_frozen h.blk 2⟩
theorem Clk.drewN {w0 w : World} {g : Nat} {iv now : Int} {vq : Value} {q : List S65} (h : Clk w0 w g iv now vq q) (n : Nat) : Clk w0 (w.drewN n) g iv now vq q := ⟨blk_drewN h.blk n, h.low, Kd.N_drewN h.own n, pw_below_drewN h.below n⟩
theorem Clk.drew {w0 w : World} {g : Nat} {iv now : Int} {vq : Value} {q : List S65} (h : Clk w0 w g iv now vq q) : Clk w0 w.drew g iv now vq q := ⟨blk_drew h.blk, h.low, Kd.N_drew h.own, below_drew1 h.below⟩
theorem below_thru {w0 w w1 : World} (h : Below w0.heap.size w0 w) (hb : Below w.heap.size w w1) : Below w0.heap.size w0 w1 := below_step h hb
theorem Clk.after {w0 w w1 : World} {g : Nat} {iv now : Int} {vq : Value} {q : List S65} (h : Clk w0 w g iv now vq q) (hb : Below w.heap.size w w1) : Clk w0 w1 g iv now vq q := ⟨blk_below h.blk hb, h.low, Kd.N_below h.own hb, below_thru h.below hb⟩
theorem addr_add (a : Addr) (m n : Nat) : (a.add m).add n = a.add (m + n) := by
  unfold Addr.add
  by_cases hm : m = 0 <;> by_cases hn : n = 0 <;> simp [hm, hn, Nat.add_assoc]
theorem w1_ {k : Nat} (h : k ≤ 256) : wrap64 ((k : Int) + 1) = ((k + 1 : Nat) : Int) := by unfold wrap64; omega
def sup (q : List S65) (i : Nat) : Bool := (q.drop (i + 1)).any fun x => x.f0 == (rd_T65 q (i : Int)).f0
theorem sup_step (q : List S65) (i j : Nat) (hj : i + 1 + j < q.length) : (q.drop (i + 1 + j)).any (fun x => x.f0 == (rd_T65 q (i : Int)).f0) = ((rd_T65 q ((i + 1 + j : Nat) : Int)).f0 == (rd_T65 q (i : Int)).f0 || (q.drop (i + 1 + (j + 1))).any fun x => x.f0 == (rd_T65 q (i : Int)).f0) := by
  rw [List.drop_eq_getElem_cons hj, List.any_cons]
  have e : rd_T65 q ((i + 1 + j : Nat) : Int) = q[i + 1 + j] := by
    unfold rd_T65
    rw [Int.toNat_natCast, List.getD_eq_getElem?_getD, List.getElem?_eq_getElem hj]
    rfl
  rw [e]
  rfl
set_option maxHeartbeats 8000000 in
theorem superseded_ok (w0 w : World) (g : Nat) (iv now : Int) (vq : Value) (q : List S65) (i : Nat) (hK : Clk w0 w g iv now vq q) (hi : i < q.length) (hq : q.length ≤ 256) : Calls Tryz.prog 25 #[.pointer (some ⟨g, 0, none⟩), .int .i64 i] w fun e w' => e = .returned (.bool (sup q i)) ∧ Below w.heap.size w w' := by
  have hu50 := Tryz.underlying50
  have hu48 := Tryz.underlying48
  have hu65 := Tryz.underlying65
  obtain ⟨Aq, cq, rfl⟩ := Kd.N_slice hK.own
  obtain ⟨_, hcq, hC⟩ := Kd.N_reads' hK.own
  have hh := Aside0.mk hK.cells
  have c2_ := hh.out.2.2.1
  have f2_ := hh.out.2.2.2
  have HK := Aside0.mk hK
  have HC := Aside0.mk hC
  obtain ⟨ad, A1, c1, e0, x0, x1, _⟩ := at_T65 hC (i : Int) (by omega) (by omega)
  subst e0
  simp only [Int.toNat_natCast] at x0 x1
  have hX := Aside0.mk x0
  have hI := Aside0.mk (And.intro hi (And.intro hq hcq))
  have ew : wrap64 ((i : Int) + 1) = ((i + 1 : Nat) : Int) := by unfold wrap64; omega
  clear hK hC x0 x1 hi hq
  have hle : i + 1 ≤ q.length := hI.out.1
  by_cases hcap : cq = i + 1
  · have hz : q.length = i + 1 := by have := hI.out.1; have := hI.out.2.2; omega
    have hf : Aside0 (sup q i = false) := ⟨by unfold sup; rw [← hz, List.drop_length]; rfl⟩
    subst hcap
    go_enter Tryz.func25, Tryz.ntmps25
    go_wp2
    go_step3
    go_wp2
    go_step3
    go_wp2
    clear c2_ f2_
    go_loopw [5, 16] (fun v5 v w' => v5 = .bool false ∧ v = .int .i64 0 ∧ Aside0 (Below w.heap.size w w')) (fun _ v _ => 0)
    case atStart => exact ⟨rfl, rfl, ⟨Below.refl _ _⟩⟩
    case round =>
      obtain ⟨rfl, rfl, hb⟩ := hrel
      go_wp2
      rw [Exit.noGoto_ret]
      go_ret
      exact ⟨by rw [hf.out]; rfl, hb.out⟩
  · go_enter Tryz.func25, Tryz.ntmps25
    go_wp2
    go_step3
    go_wp2
    go_step3
    go_wp2
    clear c2_ f2_
    go_loopw [5, 16] (fun v5 v w' => ∃ k : Nat, k ≤ q.length - (i + 1) ∧ v5 = .bool false ∧ v = .int .i64 k ∧ Aside0 (sup q i = (q.drop (i + 1 + k)).any fun x => x.f0 == (rd_T65 q (i : Int)).f0) ∧ Aside0 (Below w.heap.size w w')) (fun _ v _ => q.length - (intOf v).toNat)
    case atStart => exact ⟨0, Nat.zero_le _, rfl, rfl, ⟨rfl⟩, ⟨Below.refl _ _⟩⟩
    case round =>
      obtain ⟨k, hk, rfl, rfl, he, hb⟩ := hrel
      by_cases hlt : k < q.length - (i + 1)
      · obtain ⟨ad', A1, c1, e0, x0, x1, _⟩ := at_T65 HC.out ((i + 1 + k : Nat) : Int) (by omega) (by omega)
        cases e0
        simp only [Int.toNat_natCast] at x0 x1
        replace x0 := (hb.out.cell (World.block_lt_of_cell? w _ x0)).trans x0
        replace x1 := (hb.out.cell (World.block_lt_of_cell? w _ x1)).trans x1
        have ea : (ad.add ((i + 1) * 2)).add (k * 2) = ad.add ((i + 1 + k) * 2) := by rw [addr_add, Nat.add_mul (i + 1) k 2]
        have hlt' : (k : Int) < ((q.length - (i + 1) : Nat) : Int) := by omega
        have hs := sup_step q i k (by omega)
        rw [hs] at he
        clear hs
        have ew2 : Aside0 (wrap64 ((k : Int) + 1) = ((k + 1 : Nat) : Int)) := ⟨w1_ (Nat.le_trans (Nat.le_of_lt hlt) (Nat.le_trans (Nat.sub_le _ _) hI.out.2.1))⟩
        generalize rd_T65 q ((i + 1 + k : Nat) : Int) = x at x0 x1 he
        go_wp2_with fail
        obtain ⟨hR0, hb0⟩ := allocs1 wr (Obj.cells #[Value.int IntKind.i64 x.f0, Value.slice A1 x.f1.length c1] 65)
        generalize hgz : wr.heap.size = gz at *
        generalize wr.alloc (Obj.cells #[Value.int IntKind.i64 x.f0, Value.slice A1 x.f1.length c1] 65) = W at hR0 hb0 ⊢
        have hbW : Aside0 (Below w.heap.size w W) := ⟨below_step hb.out (by rw [← hgz] at hb0; exact hb0)⟩
        have HW := Aside0.mk (HK.out.after hbW.out)
        have hXW : Aside0 (W.cell? (ad.add (i * 2)) = some (.int .i64 (rd_T65 q (i : Int)).f0)) := ⟨(hbW.out.cell (World.block_lt_of_cell? w _ hX.out)).trans hX.out⟩
        have hRW := Aside0.mk hR0
        have y0 : W.drew.cell? ⟨gz, 0, none⟩ = some (.int .i64 x.f0) := (blk_cell hR0 0).trans rfl
        have y1 : W.drew.cell? ⟨g, 2, none⟩ = some (.slice (some ad) q.length cq) := HW.out.cells.2.2.1
        have y2 : W.drew.cell? (ad.add (i * 2)) = some (.int .i64 (rd_T65 q (i : Int)).f0) := hXW.out
        have hiq : (i : Int) < (q.length : Int) := by have := hI.out.1; omega
        clear hb0 hR0 x0 x1 hgz
        go_region_held3 (fun w' => w'.cell? ⟨gz, 0, none⟩ = some (.int .i64 x.f0) ∧ w'.cell? ⟨g, 2, none⟩ = some (.slice (some ad) q.length cq) ∧ w'.cell? (ad.add (i * 2)) = some (.int .i64 (rd_T65 q (i : Int)).f0)) (exact ⟨(blk_cell hRW.out 0).trans rfl, HW.out.cells.2.2.1, hXW.out⟩) (fail)
        have hbD : Aside0 (Below w.heap.size w W.drew) := ⟨below_drew1 hbW.out⟩
        clear y0 y1 y2 HW hXW hRW hb hbW
        by_cases hk2 : (x.f0 == (rd_T65 q (i : Int)).f0) = true
        · rw [hk2] at he ⊢
          rw [Bool.true_or] at he
          go_wp2
          rw [Exit.noGoto_ret]
          go_ret
          exact ⟨by rw [he.out]; rfl, hbD.out⟩
        · replace hk2 := Bool.eq_false_iff.mpr hk2
          rw [hk2] at he ⊢
          rw [Bool.false_or] at he
          go_wp2
          go_roundw
          case rel => exact ⟨k + 1, by omega, rfl, by simp only [ew2.out], he, hbD⟩
          case measure =>
            clear he hbD
            rw [ew2.out]
            simp only [intOf, Int.toNat_natCast]
            omega
      · obtain rfl : k = q.length - (i + 1) := by omega
        have hf : Aside0 (sup q i = false) := ⟨by rw [he.out, show i + 1 + (q.length - (i + 1)) = q.length by omega, List.drop_length]; rfl⟩
        go_wp2
        rw [Exit.noGoto_ret]
        go_ret
        exact ⟨by rw [hf.out]; rfl, hb.out⟩
structure Out (u w : World) (go : Nat) (vo : Value) (l : List S42) : Prop where
  blk : w.heap[go]? = some (.cells #[vo] 34 (0, 0))
  low : u.heap.size ≤ go
  own : Kd.R k42 42 w u.heap.size (fun k => u.heap.size ≤ k ∧ k ≠ go) vo l
  below : Below u.heap.size u w
theorem Out.drewN {u w : World} {go : Nat} {vo : Value} {l : List S42} (h : Out u w go vo l) (n : Nat) : Out u (w.drewN n) go vo l := ⟨blk_drewN h.blk n, h.low, Kd.R_drewN h.own n, pw_below_drewN h.below n⟩
theorem Out.drew {u w : World} {go : Nat} {vo : Value} {l : List S42} (h : Out u w go vo l) : Out u w.drew go vo l := ⟨blk_drew h.blk, h.low, Kd.R_drew h.own, below_drew1 h.below⟩
theorem Out.after {u w w1 : World} {go : Nat} {vo : Value} {l : List S42} (h : Out u w go vo l) (hb : Below w.heap.size w w1) : Out u w1 go vo l := ⟨blk_below h.blk hb, h.low, Kd.R_below h.own hb, below_step h.below hb⟩
theorem report_ok (u w : World) (go : Nat) (vo : Value) (l : List S42) (s kd tm cd : Int) (hO : Out u w go vo l) (hl : l.length ≤ 1000000) : Calls Tryz.prog 24 #[.int .i64 s, .int .i64 kd, .int .i64 tm, .int .i64 cd, .pointer (some ⟨go, 0, none⟩)] w fun e w' => e = .returned (.tuple #[]) ∧ (∀ (k : Nat) (cs : Array Value), w.heap[k]? = some (Obj.cells cs 65 (0, 0)) → w'.heap[k]? = some (Obj.cells cs 65 (0, 0))) ∧ ∃ vo', Out u w' go vo' (l ++ [⟨0, s, kd, tm, 0, 0, cd, 0, 0⟩]) := by
  obtain ⟨Ao, co, rfl⟩ := Kd.R_slice hO.own
  have HO := Aside0.mk hO
  have HL := Aside0.mk hl
  have hc0 : w.cell? ⟨go, 0, none⟩ = some (.slice Ao l.length co) := (blk_cell hO.blk 0).trans rfl
  have hf0 := blk_frozen hO.blk 0
  clear hO hl
  go_enter Tryz.func24, Tryz.ntmps24
  go_wp2_with (first | ((with_reducible refine gate_builtin (b := .append) (xs := #[.tmp 9, .tmp 15]) rfl ?_); at_builtin; refine Kd.R_append k42 (w0 := u) u.heap.size rfl (.tmp 9) (.tmp 15) 34 42 (.agg #[(.int .i64 0), (.int .i64 0), (.int .i64 0), (.int .i64 0), (.int .i64 0), (.int .i64 0), (.int .i64 0), (.int .i64 0), (.int .u32 0)]) 72 rfl Tryz.underlying34 info42 rfl (by decide) (by omega) (.slice Ao l.length co) l (⟨0, s, kd, tm, 0, 0, cd, 0, 0⟩ : S42) [.int .i64 0, .int .i64 s, .int .i64 kd, .int .i64 tm, .int .i64 0, .int .i64 0, .int .i64 cd, .int .i64 0, .int .u32 0] (fun k => u.heap.size ≤ k ∧ k ≠ go) (fun _ => False) rfl rfl ?aP (fun _ hk => hk.elim) ?aF ?aO ?aB ?aS ?aL ?_; (case aP => exact k42_mkM _ _ _ (⟨0, s, kd, tm, 0, 0, cd, 0, 0⟩ : S42)); (case aB => exact HO.out.below); (case aF => exact (fun k hk => ⟨Nat.le_trans HO.out.below.size hk, fun e => Nat.lt_irrefl _ (Nat.lt_of_lt_of_le (blk_lt HO.out.blk) (e ▸ hk))⟩)); (case aO => exact HO.out.own); (case aS => exact HO.out.below.size); (case aL => have := HL.out; omega); intro v1 w1 ho hb hg hat; have hv1 := Aside0.mk ho; have hB1 := Aside0.mk hb; have hbk := Aside0.mk (blk_grown HO.out.blk hg (fun e => (HO.out.own.1 go e.symm).2 rfl)); have hkp : Aside0 (∀ (k : Nat) (cs : Array Value), w.heap[k]? = some (Obj.cells cs 65 (0, 0)) → w1.heap[k]? = some (Obj.cells cs 65 (0, 0))) := ⟨fun k cs hk => blk_grown hk hg (Kd.R_ne HO.out.own hk (by decide))⟩; clear ho hb hg hat; have hc1 : w1.cell? ⟨go, 0, none⟩ = some (.slice Ao l.length co) := (blk_cell hbk.out 0).trans rfl; have hf1 := blk_frozen hbk.out 0; obtain ⟨A1, c1, e1⟩ := Kd.R_slice hv1.out; subst e1))
  have hv2 := hv1.out
  rw [List.length_append, List.length_singleton] at hv2
  exact bodyPost_end (results_none rfl _ _ _) rfl ⟨rfl, fun k cs hk => blk_far (hkp.out k cs hk) (fun e => by subst e; exact absurd (hk.symm.trans HO.out.blk) (by simp)) _, _, blk_put (cs := #[.slice Ao l.length co]) hbk.out 0 _ rfl, HO.out.low, Kd.R_far (p := ⟨go, 0, none⟩) hv2 (fun _ hk => hk.2) _, below_set hB1.out HO.out.low⟩
def clampOf (n : Int) : Int := mn (mx n 0) 4611686018427387904
def dlOf (b iv : Int) (q : List S65) (i : Nat) : List S42 :=
  (rd_T65 q (i : Int)).f1.map (fun n => (⟨0, (rd_T65 q (i : Int)).f0, 19, wrap64 (Int.tdiv b 1000000), 0, 0, wrap64 n, 0, 0⟩ : S42)) ++ [if sup q i = true then ⟨0, (rd_T65 q (i : Int)).f0, 23, 0, 0, 0, 0, 0, 0⟩ else ⟨0, (rd_T65 q (i : Int)).f0, 22, wrap64 (Int.tdiv b 1000), 0, 0, wrap64 (Int.tdiv b iv), 0, 0⟩]
def dlAll (b iv : Int) (q : List S65) (n : Nat) : List S42 := (List.range n).flatMap (dlOf b iv q)
theorem meas_ {n k : Nat} (h : k < n) : n - (intOf (.int .i64 ((k + 1 : Nat) : Int))).toNat < n - (intOf (.int .i64 (k : Int))).toNat := by
  simp only [intOf, Int.toNat_natCast]
  omega
theorem lim_ {a b c d e : Nat} (h1 : a ≤ b * 257) (h2 : c ≤ 256) (h3 : d ≤ 256) (hb : b ≤ d) (he : e ≤ c) : a + e ≤ 1000000 := by
  have : b * 257 ≤ 256 * 257 := Nat.mul_le_mul_right _ (Nat.le_trans hb h3)
  omega
theorem at_u32 {w : World} {A : Option Addr} {n : Nat} {xs : List Int} (h : Kd.C (Kd.int .u32) w A n xs) (i : Int) (h0 : 0 ≤ i) (h1 : i < n) : ∃ ad, A = some ad ∧ w.cell? (ad.add i.toNat) = some (.int .u32 (xs.getD i.toNat 0)) := by
  obtain ⟨ad, c, e, _, hK, hc0⟩ := Kd.C_get h (0 : Int) i h0 h1
  have hc : ∀ j u, c[j]? = some u → w.cell? (ad.add (i.toNat * 1 + j)) = some u := hc0
  have hk : c = [.int .u32 (xs.getD i.toNat 0)] := hK
  subst hk
  exact ⟨ad, e, by have hq := hc 0 _ rfl; rwa [Nat.mul_one, Nat.add_zero] at hq⟩
theorem dl_len (b iv : Int) (q : List S65) (hq : ∀ x ∈ q, x.f1.length ≤ 256) : ∀ k, k ≤ q.length → (dlAll b iv q k).length ≤ k * 257 := by
  intro k
  induction k with
  | zero => intro _; simp [dlAll]
  | succ k ih =>
    intro hk
    have h1 := ih (by omega)
    have hm : rd_T65 q (k : Int) ∈ q := by
      unfold rd_T65
      rw [Int.toNat_natCast, List.getD_eq_getElem?_getD, List.getElem?_eq_getElem (show k < q.length by omega)]
      exact List.getElem_mem _
    have h2 := hq _ hm
    have h3 : (dlOf b iv q k).length = (rd_T65 q (k : Int)).f1.length + 1 := by
      unfold dlOf
      rw [List.length_append, List.length_map, List.length_singleton]
    unfold dlAll at h1 ⊢
    rw [List.range_succ, List.flatMap_append, List.length_append, List.flatMap_cons, List.flatMap_nil, List.append_nil, h3, Nat.succ_mul]
    omega
theorem dl_succ (b iv : Int) (q : List S65) (k : Nat) : dlAll b iv q (k + 1) = dlAll b iv q k ++ dlOf b iv q k := by
  unfold dlAll
  rw [List.range_succ, List.flatMap_append, List.flatMap_cons, List.flatMap_nil, List.append_nil]
set_option maxHeartbeats 8000000 in
set_option maxRecDepth 100000 in
theorem tick_full (w0 w : World) (g : Nat) (iv now n : Int) (vq : Value) (q : List S65) (hK : Clk w0 w g iv now vq q) (hiv : 1 ≤ iv) (hq : q.length ≤ 256) (hcb : ∀ x ∈ q, x.f1.length ≤ 256) (hb : ¬ mx now (clampOf n) < nextOf iv now) :
    Calls Tryz.prog 10 #[.pointer (some ⟨g, 0, none⟩), .int .i64 n] w fun e w' => ∃ v, e = .returned v ∧ Kd.R k42 42 w' w.heap.size (fun k => w.heap.size ≤ k) v (dlAll (nextOf iv now) iv q q.length) ∧ Clk w0 w' g iv (mx now (clampOf n)) (.slice none 0 0) [] ∧ Kept w w' (fun k => k = g) := by
  have hu50 := Tryz.underlying50
  have HK := Aside0.mk hK
  have hh := Aside0.mk hK.cells
  have c1_ := hh.out.2.1.1
  have f1_ := hh.out.2.1.2
  have hiv' := Aside0.mk hiv
  have hB := Aside0.mk hb
  have hQ := Aside0.mk (And.intro hq hcb)
  clear hK hb hq hcb
  obtain ⟨M, hM⟩ : ∃ M, mx now (clampOf n) = M := ⟨_, rfl⟩
  rw [hM] at hB ⊢
  have hM_ : (if now < clampOf n then clampOf n else now) = M := hM
  obtain ⟨C, hC⟩ : ∃ C, clampOf n = C := ⟨_, rfl⟩
  rw [hC] at hM_
  have hC' : mn (mx n 0) 4611686018427387904 = C := hC
  go_enter Tryz.func10, Tryz.ntmps10
  go_wp2_with (first | (go_at_call 20; (with_reducible refine (usable_ok _ g iv (by exact hh.out.1.1) (by exact hh.out.1.2) hiv'.out).mono ?_); rintro e w' ⟨rfl, ⟨nd, rfl⟩⟩) | (go_at_call 22; (with_reducible refine (next_ok _ g iv now ?hx ?hy hiv'.out).mono ?_); (case hx => exact hh.out.1.1); (case hy => exact hh.out.1.2); rintro e w' ⟨rfl, ⟨nd2, rfl⟩⟩))
  clear c1_ f1_
  obtain ⟨W, hW⟩ : ∃ W, W = (w.drewN (nd + nd2)).drew := ⟨_, rfl⟩
  have HKW : Aside0 (Clk w0 W g iv now vq q) := ⟨by rw [hW]; exact (HK.out.drewN _).drew⟩
  have KPW : Aside0 (Kept w W (fun k => k = g)) := ⟨by rw [hW]; exact Kept.drew (Kept.drewN (Kept.refl _ _) _)⟩
  refine start_ (n := 11) (S := fun w' => w'.cell? ⟨g, 1, none⟩ = some (.int .i64 now) ∧ w'.frozen? ⟨g, 1, none⟩ = false) (ds := [10]) #[false, false, false, false, false, false, false, false, false, false, false] (by kernel_rfl) rfl rfl (by rw [← hW]; exact ⟨HKW.out.cells.2.1.1, HKW.out.cells.2.1.2⟩) (fun hHeld => ?_)
  rw [← hW] at hHeld ⊢
  clear hW
  have HT_ : Aside0 (rtab .any (opsOf Tryz.f10 4) = rtab .any (opsOf Tryz.f10 4)) := ⟨rfl⟩
  refine pv_ 0 21 #[true, false, false, false, false, false, false, false, false, false, false] HT_ ?_
  refine pv_ 1 22 #[true, true, false, false, false, false, false, false, false, false, false] HT_ ?_
  refine pv_ 2 23 #[true, true, true, false, false, false, false, false, false, false, false] HT_ ?_
  refine pv_ 3 24 #[true, true, true, true, false, false, false, false, false, false, false] HT_ ?_
  refine pv_ 5 26 #[true, true, true, true, false, true, false, false, false, false, false] HT_ ?_
  refine take_ (i := 4) (N := some 25) (v := ?_) (a' := ?_) #[true, true, true, true, true, true, false, false, false, false, false] rfl rfl (take_of HT_.out (by kernel_rfl)) (fun _ _ _ h => h) (Or.inl ⟨by rfl, ?_⟩) hHeld ?_ ?_
  rotate_left
  · rintro w' ⟨s0, s1⟩
    go_simp
    with_reducible rfl
  rotate_left
  · simp only [Act.put, List.setIfInBounds_toArray, List.set_cons_zero, List.set_cons_succ, i64_w, i32_w]
    rfl
  refine one_ (i := 6) (N := some 27) #[true, true, true, true, true, true, true, false, false, false, false] rfl rfl (one_of HT_.out (by kernel_rfl)) (by decide) (fun K hK => ?_)
  refine goes_ Tryz.func23 (by kernel_rfl) rfl #[.int .i64 n] (by rfl) rfl rfl (by (try simp only [List.map_toArray, List.map_cons, List.map_nil]) <;> rfl) ?_
  refine (clamp_ok _ n).mono ?_
  rintro e w' ⟨rfl, ⟨nd3, rfl⟩⟩
  refine ⟨_, rfl, ?_⟩
  rw [hC']
  have HK3 := Aside0.mk (HKW.out.drewN nd3)
  refine hK.out _ _ ⟨HK3.out.cells.2.1.1, HK3.out.cells.2.1.2⟩ (fun hHeld => ?_)
  clear hK K
  refine norm_ (a' := ?_) ?_ ?_
  rotate_left
  · show Act.put _ (some 27) _ = _
    simp only [Act.put, List.setIfInBounds_toArray, List.set_cons_zero, List.set_cons_succ, i64_w, i32_w]
    rfl
  refine pv_ 7 28 #[true, true, true, true, true, true, true, true, false, false, false] HT_ ?_
  refine pv_ 8 29 #[true, true, true, true, true, true, true, true, true, false, false] HT_ ?_
  refine pv_ 9 30 #[true, true, true, true, true, true, true, true, true, true, false] HT_ ?_
  refine last_ (i := 10) (N := none) #[true, true, true, true, true, true, true, true, true, true, true] rfl rfl (one_of HT_.out (by kernel_rfl)) (by decide) (fun K hK => ?_)
  have cs1 : (W.drewN nd3).cell? ⟨g, 1, none⟩ = some (.int .i64 now) := HK3.out.cells.2.1.1
  have fs1 : (W.drewN nd3).frozen? ⟨g, 1, none⟩ = false := HK3.out.cells.2.1.2
  refine skip_ (w1 := ?_) (by rfl) rfl ?_ ?_
  rotate_left
  · go_simp
    rfl
  refine hK.out _ _ ?_
  clear hK K
  refine done_ (done_of HT_.out (by kernel_rfl)) ?_
  have HK4 : Aside0 (Clk w0 ((W.drewN nd3).setCell ⟨g, 1, none⟩ (.int .i64 M)) g iv M vq q) := ⟨⟨blk_put (cs := #[.int .i64 iv, .int .i64 now, vq]) HK3.out.blk 1 _ rfl, HK3.out.low, Kd.N_far (p := ⟨g, 1, none⟩) HK3.out.own (fun _ hk => hk.2) _, below_set HK3.out.below HK3.out.low⟩⟩
  have KP4 : Aside0 (Kept w ((W.drewN nd3).setCell ⟨g, 1, none⟩ (.int .i64 M)) (fun k => k = g)) := ⟨Kept.setCell (Kept.drewN KPW.out _) (Or.inl rfl) _⟩
  generalize (W.drewN nd3).setCell ⟨g, 1, none⟩ (.int .i64 M) = U at HK4 KP4 ⊢
  have u1 := HK4.out.cells.2.1.1
  have v1 := HK4.out.cells.2.1.2
  have dB : decide (M < nextOf iv now) = false := decide_eq_false (by have := hB.out; omega)
  clear cs1 fs1
  obtain ⟨Aq, cq, rfl⟩ := Kd.N_slice HK4.out.own
  have u2 := HK4.out.cells.2.2.1
  have v2 := HK4.out.cells.2.2.2
  generalize hbl : nextOf iv now = b at *
  go_wp2_with (first | ((with_reducible refine gate_dst (N := 6) rfl ?_); refine box_event ?hg (N := 6) ?hd (cs := #[.slice none 0 0]) (t := 34) ?hr ?_; (case hd => rfl); (case hg => rfl); (case hr => first | (go_simp; done) | (go_simp; rfl)); intro gO hgO V hbox hb; have HO : Aside0 (Out U V gO (.slice none 0 0) []) := ⟨⟨hbox, by rw [hgO]; exact Nat.le_refl _, Kd.R_nil _ _ _ _ _, hb⟩⟩; have u3 := (HK4.out.after hb).cells.2.2.1; have v3 := (HK4.out.after hb).cells.2.2.2; clear hbox hb hgO u1 v1 u2 v2))
  obtain ⟨_, hcq, hCu⟩ := Kd.N_reads' HK4.out.own
  have HCu := Aside0.mk (And.intro hcq hCu)
  clear u3 v3 hcq hCu
  go_loopw [43] (fun v w' => ∃ (k : Nat) (vo : Value), k ≤ q.length ∧ v = .int .i64 k ∧ Aside0 (Out U w' gO vo (dlAll b iv q k))) (fun v _ => q.length - (intOf v).toNat)
  case atStart => exact ⟨0, _, Nat.zero_le _, rfl, HO⟩
  case round =>
    obtain ⟨k, vo, hk, rfl, hO⟩ := hrel
    by_cases hlt : k < q.length
    · obtain ⟨ad, A1, c1, e0, x0, x1, l1, g1⟩ := at_T65 HCu.out.2 (k : Int) (by omega) (by omega)
      subst e0
      simp only [Int.toNat_natCast] at x0 x1
      replace x0 := (hO.out.below.cell (World.block_lt_of_cell? U _ x0)).trans x0
      replace x1 := (hO.out.below.cell (World.block_lt_of_cell? U _ x1)).trans x1
      have hX : Aside0 (rd_T65 q (k : Int) ∈ q) := ⟨by unfold rd_T65; rw [Int.toNat_natCast, List.getD_eq_getElem?_getD, List.getElem?_eq_getElem hlt]; exact List.getElem_mem hlt⟩
      obtain ⟨x, hx⟩ : ∃ x, x = rd_T65 q (k : Int) := ⟨_, rfl⟩
      rw [← hx] at x0 x1 l1 g1 hX
      have hx' := Aside0.mk hx
      have hG := Aside0.mk (And.intro l1 g1)
      have hlt' : (k : Int) < (q.length : Int) := by omega
      clear hx l1 g1
      go_wp2_with fail
      obtain ⟨hR0, hb0⟩ := allocs1 wr (Obj.cells #[Value.int IntKind.i64 x.f0, Value.slice A1 x.f1.length c1] 65)
      generalize hgz : wr.heap.size = gz at *
      generalize wr.alloc (Obj.cells #[Value.int IntKind.i64 x.f0, Value.slice A1 x.f1.length c1] 65) = W2 at hR0 hb0 ⊢
      have hO2 : Aside0 (Out U W2 gO vo (dlAll b iv q k)) := ⟨hO.out.after (by rw [← hgz] at hb0; exact hb0)⟩
      have hX2 := Aside0.mk hR0
      clear hb0 hR0 hgz x0 x1 hO
      go_loopw [51] (fun v w' => ∃ (j : Nat) (vo : Value), j ≤ x.f1.length ∧ v = .int .i64 j ∧ Aside0 (Out U w' gO vo (dlAll b iv q k ++ (x.f1.take j).map (fun n => (⟨0, x.f0, 19, wrap64 (Int.tdiv b 1000000), 0, 0, wrap64 n, 0, 0⟩ : S42)))) ∧ Aside0 (w'.heap[gz]? = some (Obj.cells #[Value.int IntKind.i64 x.f0, Value.slice A1 x.f1.length c1] 65 (0, 0)))) (fun v _ => x.f1.length - (intOf v).toNat)
      case atStart => exact ⟨0, vo, Nat.zero_le _, rfl, ⟨by rw [List.take_zero, List.map_nil, List.append_nil]; exact hO2.out⟩, hX2⟩
      case round =>
        obtain ⟨j, vo2, hj, rfl, hO3, hX3⟩ := hrel
        by_cases hjt : j < x.f1.length
        · obtain ⟨aq, e1, y0⟩ := at_u32 (Kd.C_below hG.out.2 hO3.out.below) (j : Int) (by omega) (by omega)
          rw [Int.toNat_natCast] at y0
          have z0 : wr.cell? ⟨gz, 0, none⟩ = some (.int .i64 x.f0) := (blk_cell hX3.out 0).trans rfl
          subst e1
          have hjt' : (j : Int) < (x.f1.length : Int) := by omega
          have hll : Aside0 ((dlAll b iv q k ++ (x.f1.take j).map (fun n => (⟨0, x.f0, 19, wrap64 (Int.tdiv b 1000000), 0, 0, wrap64 n, 0, 0⟩ : S42))).length ≤ 1000000) := ⟨by rw [List.length_append, List.length_map, List.length_take]; exact lim_ (dl_len b iv q hQ.out.2 k hk) (hQ.out.2 x hX.out) hQ.out.1 hk (Nat.min_le_right _ _)⟩
          obtain ⟨y, hy⟩ : ∃ y, y = x.f1.getD j 0 := ⟨_, rfl⟩
          rw [← hy] at y0
          have hy' := Aside0.mk hy
          clear hy
          go_wp2_with (first | (go_at_call 24; (with_reducible refine (report_ok U wr gO vo2 _ _ _ _ _ hO3.out hll.out).mono ?_); rintro e w3 ⟨rfl, hkp, vo3, ho3⟩))
          have hj2 : x.f1.take (j + 1) = x.f1.take j ++ [y] := by
            rw [List.take_add_one, List.getElem?_eq_getElem hjt, hy'.out, List.getD_eq_getElem?_getD, List.getElem?_eq_getElem hjt]
            rfl
          have hjw : wrap64 ((j : Int) + 1) = ((j + 1 : Nat) : Int) := w1_ (Nat.le_trans (Nat.le_of_lt hjt) (hQ.out.2 x hX.out))
          refine ⟨⟨j + 1, vo3, hjt, by rw [hjw], ⟨?_⟩, ⟨hkp _ _ hX3.out⟩⟩, ?_⟩
          · rw [hj2, List.map_append, ← List.append_assoc]
            exact ho3
          · rw [hjw]
            exact meas_ hjt
        · obtain rfl : j = x.f1.length := by omega
          have hOe : Aside0 (Out U wr gO vo2 (dlAll b iv q k ++ x.f1.map (fun n => (⟨0, x.f0, 19, wrap64 (Int.tdiv b 1000000), 0, 0, wrap64 n, 0, 0⟩ : S42)))) := ⟨by have h := hO3.out; rwa [List.take_length] at h⟩
          have hll : Aside0 ((dlAll b iv q k ++ x.f1.map (fun n => (⟨0, x.f0, 19, wrap64 (Int.tdiv b 1000000), 0, 0, wrap64 n, 0, 0⟩ : S42))).length ≤ 1000000) := ⟨by rw [List.length_append, List.length_map]; exact lim_ (dl_len b iv q hQ.out.2 k hk) (hQ.out.2 x hX.out) hQ.out.1 hk (Nat.le_refl _)⟩
          have HKr := Aside0.mk (HK4.out.after hOe.out.below)
          clear hO3
          by_cases hsp : sup q k = true
          · have hs' := Aside0.mk hsp
            go_wp2_with (first | (go_at_call 25; (with_reducible refine (superseded_ok w0 _ g iv M _ q k HKr.out hlt hQ.out.1).mono ?_); rintro e w3 ⟨rfl, hb3⟩; rw [hs'.out]; have hO4 := Aside0.mk (hOe.out.after hb3); have hX4 := Aside0.mk (blk_below hX3.out hb3); clear hb3; have z0 : w3.cell? ⟨gz, 0, none⟩ = some (.int .i64 x.f0) := (blk_cell hX4.out 0).trans rfl) | (go_at_call 24; (with_reducible refine (report_ok U _ gO vo2 _ _ _ _ _ hO4.out hll.out).mono ?_); rintro e w5 ⟨rfl, hkp, vo5, ho5⟩))
            have hkw : wrap64 ((k : Int) + 1) = ((k + 1 : Nat) : Int) := w1_ (Nat.le_trans (Nat.le_of_lt hlt) hQ.out.1)
            refine ⟨⟨k + 1, vo5, hlt, by rw [hkw], ⟨?_⟩⟩, ?_⟩
            · rw [dl_succ, dlOf, if_pos hs'.out, ← hx'.out, ← List.append_assoc]
              exact ho5
            · rw [hkw]
              exact meas_ hlt
          · replace hsp := Bool.eq_false_iff.mpr hsp
            have hs' := Aside0.mk hsp
            go_wp2_with (first | (go_at_call 25; (with_reducible refine (superseded_ok w0 _ g iv M _ q k HKr.out hlt hQ.out.1).mono ?_); rintro e w3 ⟨rfl, hb3⟩; rw [hs'.out]; have hO4 := Aside0.mk (hOe.out.after hb3); have hX4 := Aside0.mk (blk_below hX3.out hb3); clear hb3))
            have hO4d := Aside0.mk hO4.out.drew
            have hX4d : Aside0 (w3.drew.heap[gz]? = some (Obj.cells #[Value.int IntKind.i64 x.f0, Value.slice A1 x.f1.length c1] 65 (0, 0))) := ⟨blk_drew hX4.out⟩
            have y0 : w3.drew.cell? ⟨gz, 0, none⟩ = some (.int .i64 x.f0) := (blk_cell hX4d.out 0).trans rfl
            have y1 : w3.drew.cell? ⟨g, 0, none⟩ = some (.int .i64 iv) := (HK4.out.after hO4d.out.below).cells.1.1
            have y0s := Aside0.mk (And.intro y0 y1)
            have hiv0 : ¬ iv = 0 := by have := hiv'.out; omega
            go_region_held3 (fun w' => w'.cell? ⟨gz, 0, none⟩ = some (.int .i64 x.f0) ∧ w'.cell? ⟨g, 0, none⟩ = some (.int .i64 iv)) (first | exact y0s.out | exact z5.out) (first | (go_at_call 24; (with_reducible refine (report_ok U _ gO vo2 _ _ _ _ _ hO4d.out hll.out).mono ?_); rintro e w5 ⟨rfl, hkp, vo5, ho5⟩; have z5 : Aside0 (w5.cell? ⟨gz, 0, none⟩ = some (.int .i64 x.f0) ∧ w5.cell? ⟨g, 0, none⟩ = some (.int .i64 iv)) := ⟨⟨(blk_cell (hkp _ _ hX4d.out) 0).trans rfl, (HK4.out.after ho5.below).cells.1.1⟩⟩))
            go_wp2
            have hkw : wrap64 ((k : Int) + 1) = ((k + 1 : Nat) : Int) := w1_ (Nat.le_trans (Nat.le_of_lt hlt) hQ.out.1)
            refine ⟨⟨k + 1, vo5, hlt, by rw [hkw], ⟨?_⟩⟩, ?_⟩
            · rw [dl_succ, dlOf, if_neg (by rw [hs'.out]; decide), ← hx'.out, ← List.append_assoc]
              simp only [i64_w] at ho5
              exact ho5
            · rw [hkw]
              exact meas_ hlt
    · obtain rfl : k = q.length := by omega
      have HKr := Aside0.mk (HK4.out.after hO.out.below)
      have u5 := HKr.out.cells.2.2.1
      have v5 := HKr.out.cells.2.2.2
      have hgo : gO ≠ g := fun e => Nat.lt_irrefl _ (Nat.lt_of_lt_of_le (blk_lt HK4.out.blk) (e ▸ hO.out.low))
      have o5 : wr.cell? ⟨gO, 0, none⟩ = some vo := (blk_cell hO.out.blk 0).trans rfl
      have o6 : (wr.setCell ⟨g, 2, none⟩ (.slice none 0 0)).cell? ⟨gO, 0, none⟩ = some vo := (blk_cell (blk_far hO.out.blk (p := ⟨g, 2, none⟩) hgo (.slice none 0 0)) 0).trans rfl
      go_wp2
      go_ret
      have hlow : w.heap.size ≤ U.heap.size := KP4.out.1
      refine ⟨_, rfl, Kd.R_lower (Kd.R_mono (Kd.R_far (p := ⟨g, 2, none⟩) hO.out.own (fun j hj e => Nat.lt_irrefl g (Nat.lt_of_lt_of_le (blk_lt HK4.out.blk) (by have h := hj.1; rw [show j = g from e] at h; exact h))) _) (fun j hj => Nat.le_trans hlow hj.1)) hlow, ⟨blk_put (cs := #[.int .i64 iv, .int .i64 M, .slice Aq q.length cq]) HKr.out.blk 2 _ rfl, HK.out.low, Kd.N_nil _ _ _ _ _, below_set HKr.out.below HK.out.low⟩, Kept.setCell (Kept.below KP4.out hO.out.below) (Or.inl rfl) _⟩
set_option maxHeartbeats 8000000 in
set_option maxRecDepth 100000 in
theorem commit_okP (w0 w : World) (g : Nat) (iv now s : Int) (vq : Value) (q : List S65) (A2 : Option Addr) (c2 : Nat) (l2 : List Int) (P : Nat → Prop) (hK : Clk w0 w g iv now vq q) (hNP : Kd.N k65 65 w w0.heap.size (fun k => (w0.heap.size ≤ k ∧ k ≠ g) ∧ P k) vq q) (hP : ∀ k, w.heap.size ≤ k → P k) (hiv : 1 ≤ iv) (hs : 1 ≤ s) (hq : q.length < 256) (hl : l2.length ≤ 256) (hr2 : Kd.C (Kd.int .u32) w A2 l2.length l2) (hc2 : l2.length ≤ c2) :
    Calls Tryz.prog 8 #[.pointer (some ⟨g, 0, none⟩), .int .i64 s, .slice A2 l2.length c2] w fun e w' => e = .returned (.int .i64 0) ∧ ∃ vq', Clk w0 w' g iv now vq' (q ++ [⟨s, l2⟩]) ∧ Kd.N k65 65 w' w0.heap.size (fun k => (w0.heap.size ≤ k ∧ k ≠ g) ∧ P k) vq' (q ++ [⟨s, l2⟩]) ∧ Stp w w' g vq vq' := by
  have hu50 := Tryz.underlying50
  obtain ⟨Aq, cq, rfl⟩ := Kd.N_slice hK.own
  have hh := Aside0.mk hK.cells
  have c2_ := hh.out.2.2.1
  have f2_ := hh.out.2.2.2
  have HK := Aside0.mk hK
  have HNP := Aside0.mk (And.intro hNP hP)
  clear hNP hP
  have HR2 := Aside0.mk (And.intro hr2 hc2)
  have hiv' := Aside0.mk hiv
  have HQ := Aside0.mk (And.intro hq hl)
  have d0 : decide (s < 1) = false := decide_eq_false (by omega)
  have d1 : decide (256 ≤ q.length) = false := decide_eq_false (by omega)
  have d2 : decide (256 ≤ (q.length : Int)) = false := decide_eq_false (by omega)
  have d3 : decide (256 < l2.length) = false := decide_eq_false (by omega)
  have d4 : decide (256 < (l2.length : Int)) = false := decide_eq_false (by omega)
  clear hK hs hq hl hr2 hc2
  go_enter Tryz.func8, Tryz.ntmps8
  go_wp2_with (first | (go_at_call 20; (with_reducible refine (usable_ok _ g iv (by exact hh.out.1.1) (by exact hh.out.1.2) hiv'.out).mono ?_); rintro e w' ⟨rfl, ⟨nd, rfl⟩⟩))
  clear c2_ f2_
  obtain ⟨W, hW⟩ : ∃ W, W = (w.drewN nd).drew := ⟨_, rfl⟩
  have hbW : Aside0 (Below w.heap.size w W) := ⟨by rw [hW]; exact below_drew1 (pw_below_drewN (Below.refl _ _) _)⟩
  have HKW : Aside0 (Clk w0 W g iv now (.slice Aq q.length cq) q) := ⟨by rw [hW]; exact (HK.out.drewN nd).drew⟩
  refine start_ (n := 14) (S := fun w' => w'.cell? ⟨g, 2, none⟩ = some (.slice Aq q.length cq) ∧ w'.frozen? ⟨g, 2, none⟩ = false) (ds := [13]) #[false, false, false, false, false, false, false, false, false, false, false, false, false, false] (by kernel_rfl) rfl rfl (by rw [← hW]; exact ⟨HKW.out.cells.2.2.1, HKW.out.cells.2.2.2⟩) (fun hHeld => ?_)
  rw [← hW] at hHeld ⊢
  have HT_ : Aside0 (rtab .any (opsOf Tryz.f8 7) = rtab .any (opsOf Tryz.f8 7)) := ⟨rfl⟩
  refine pv_ 0 26 #[true, false, false, false, false, false, false, false, false, false, false, false, false, false] HT_ ?_
  refine pv_ 1 27 #[true, true, false, false, false, false, false, false, false, false, false, false, false, false] HT_ ?_
  refine pv_ 2 28 #[true, true, true, false, false, false, false, false, false, false, false, false, false, false] HT_ ?_
  refine pv_ 3 29 #[true, true, true, true, false, false, false, false, false, false, false, false, false, false] HT_ ?_
  refine pv_ 5 31 #[true, true, true, true, false, true, false, false, false, false, false, false, false, false] HT_ ?_
  refine pv_ 6 32 #[true, true, true, true, false, true, true, false, false, false, false, false, false, false] HT_ ?_
  refine take_ (i := 4) (N := some 30) (v := ?_) (a' := ?_) #[true, true, true, true, true, true, true, false, false, false, false, false, false, false] rfl rfl (take_of HT_.out (by kernel_rfl)) (fun _ _ _ h => h) (Or.inl ⟨by rfl, ?_⟩) hHeld ?_ ?_
  rotate_left
  · rintro w' ⟨s0, s1⟩
    go_simp
    with_reducible rfl
  rotate_left
  · simp only [Act.put, List.setIfInBounds_toArray, List.set_cons_zero, List.set_cons_succ, i64_w, i32_w]
    rfl
  refine one_ (i := 7) (N := some 33) #[true, true, true, true, true, true, true, true, false, false, false, false, false, false] rfl rfl (one_of HT_.out (by kernel_rfl)) (by decide) (fun K hK => ?_)
  refine Kd.R_append_rows_step (Kd.int .u32) (w0 := w) w.heap.size (by rfl) (.const (.slice none 0 0)) (.tmp 32) 39 36 (.int .u32 0) 4 rfl Tryz.underlying39 info36 rfl (by decide) (by omega) (.slice none 0 0) [] l2 A2 l2.length c2 (fun k => w.heap.size ≤ k) (fun _ => False) rfl rfl (Kd.R_nil _ _ _ _ _) (Kd.C_below HR2.out.1 hbW.out) (fun x cs h => h) (fun _ h => h.elim) (fun k hk => Nat.le_trans hbW.out.size hk) hbW.out hbW.out.size (by have := HQ.out.2; rw [List.length_nil]; omega) ?_
  rw [List.nil_append]
  intro v1 w1 hv1 hb1 _ hat1
  obtain ⟨A1, c1, e1⟩ := Kd.R_slice hv1
  subst e1
  have HV1 := Aside0.mk hv1
  have HB1 := Aside0.mk hb1
  have HK1 := Aside0.mk (HK.out.after hb1)
  clear hv1 hb1 hat1
  refine hK.out _ _ ⟨HK1.out.cells.2.2.1, HK1.out.cells.2.2.2⟩ (fun hHeld => ?_)
  clear hK K
  refine norm_ (a' := ?_) ?_ ?_
  rotate_left
  · show Act.put _ (some 33) _ = _
    simp only [Act.put, List.setIfInBounds_toArray, List.set_cons_zero, List.set_cons_succ, i64_w, i32_w]
    rfl
  refine pv_ 8 34 #[true, true, true, true, true, true, true, true, true, false, false, false, false, false] HT_ ?_
  refine one_ (i := 9) (N := some 35) #[true, true, true, true, true, true, true, true, true, true, false, false, false, false] rfl rfl (one_of HT_.out (by kernel_rfl)) (by decide) (fun K hK => ?_)
  refine event_step (by rfl) (v := .slice (some ⟨w1.heap.size, 0, none⟩) 1 1) (w1 := w1.alloc (.cells #[.int .i64 s, .slice A1 l2.length c1] 65 (0, 0))) ?hr ?_
  case hr => first | (go_simp; done) | (go_simp; rfl)
  refine hK.out _ _ ⟨(HK1.out.after (below_alloc (Below.refl _ _) _)).cells.2.2.1, (HK1.out.after (below_alloc (Below.refl _ _) _)).cells.2.2.2⟩ (fun hHeld => ?_)
  clear hK K
  refine norm_ (a' := ?_) ?_ ?_
  rotate_left
  · show Act.put _ (some 35) _ = _
    simp only [Act.put, List.setIfInBounds_toArray, List.set_cons_zero, List.set_cons_succ, i64_w, i32_w]
    rfl
  refine one_ (i := 10) (N := some 36) #[true, true, true, true, true, true, true, true, true, true, true, false, false, false] rfl rfl (one_of HT_.out (by kernel_rfl)) (by decide) (fun K hK => ?_)
  refine Kd.N_append_step k65 (w0 := w0) w0.heap.size (by rfl) (.tmp 30) (.tmp 35) 48 65 (.agg #[(.int .i64 0), (.slice none 0 0)]) 32 rfl Tryz.underlying48 info65 rfl (by decide) (by omega) (.slice Aq q.length cq) q (⟨s, l2⟩ : S65) [.int .i64 s, .slice A1 l2.length c1] (fun k => (w0.heap.size ≤ k ∧ k ≠ g) ∧ P k) (fun k => w.heap.size ≤ k) rfl rfl (k65_mkF _ _ (⟨s, l2⟩ : S65) (Kd.R_reads' HV1.out).2.1 (Kd.R_F HV1.out)) ?hokp ?hfr (Kd.N_below HNP.out.1 HB1.out) HK1.out.below HK1.out.below.size (by have := HQ.out.1; omega) ?_
  case hokp =>
    intro k hk
    refine ⟨⟨⟨Nat.le_trans HK.out.below.size hk, fun e => ?_⟩, HNP.out.2 k hk⟩, fun e => ?_⟩
    · have := blk_lt HK.out.blk
      omega
    · have := Kd.N_lt HK.out.own k e.symm
      omega
  case hfr =>
    intro k hk
    refine ⟨⟨Nat.le_trans HK1.out.below.size hk, fun e => ?_⟩, HNP.out.2 k (Nat.le_trans HB1.out.size hk)⟩
    have := blk_lt HK1.out.blk
    omega
  intro v3 w3 hv3 hb3 hg3 hat3
  have hgn : some g ≠ (Value.slice Aq q.length cq).ownBlock := fun e => (HK.out.own.1 g e.symm).2 rfl
  have HK3 : Aside0 (Clk w0 w3 g iv now (.slice Aq q.length cq) q → True) := ⟨fun _ => trivial⟩
  have BK3 := Aside0.mk (blk_grown HK1.out.blk hg3 hgn)
  have HV3 := Aside0.mk hv3
  have HB3 := Aside0.mk hb3
  have KP3 : Aside0 (Kept w w3 (fun k => k = g ∨ some k = (Value.slice Aq q.length cq).ownBlock)) := ⟨Kept.of_grown hg3 (Kept.of_below HB1.out _) (fun k hk => Or.inl (Or.inr hk.symm))⟩
  have HAT : Aside0 (v3.ownBlock = (Value.slice Aq q.length cq).ownBlock ∨ ∃ b, v3.ownBlock = some b ∧ w.heap.size ≤ b) := ⟨hat3.elim Or.inl (fun ⟨b, h1, h2⟩ => Or.inr ⟨b, h1, Nat.le_trans HB1.out.size h2⟩)⟩
  clear hv3 hb3 hg3 hat3 hgn HK3
  refine hK.out _ _ ⟨(blk_cell BK3.out 2).trans rfl, blk_frozen BK3.out 2⟩ (fun hHeld => ?_)
  clear hK K
  refine norm_ (a' := ?_) ?_ ?_
  rotate_left
  · show Act.put _ (some 36) _ = _
    simp only [Act.put, List.setIfInBounds_toArray, List.set_cons_zero, List.set_cons_succ, i64_w, i32_w]
    rfl
  refine pv_ 11 37 #[true, true, true, true, true, true, true, true, true, true, true, true, false, false] HT_ ?_
  refine pv_ 12 38 #[true, true, true, true, true, true, true, true, true, true, true, true, true, false] HT_ ?_
  refine last_ (i := 13) (N := none) #[true, true, true, true, true, true, true, true, true, true, true, true, true, true] rfl rfl (one_of HT_.out (by kernel_rfl)) (by decide) (fun K hK => ?_)
  have cs2 : w3.cell? ⟨g, 2, none⟩ = some (.slice Aq q.length cq) := (blk_cell BK3.out 2).trans rfl
  have fs2 := blk_frozen BK3.out 2
  obtain ⟨A3, c3, e3⟩ := Kd.N_slice HV3.out
  subst e3
  have HV4 := HV3.out
  simp only [List.length_append, List.length_cons, List.length_nil, Nat.zero_add] at HV4
  have HV5 := Aside0.mk HV4
  clear HV4 HV3
  simp only [List.length_append, List.length_cons, List.length_nil, Nat.zero_add] at HAT
  refine skip_ (w1 := ?_) (by rfl) rfl ?_ ?_
  rotate_left
  · go_simp
    rfl
  refine hK.out _ _ ?_
  clear hK K
  refine done_ (done_of HT_.out (by kernel_rfl)) ?_
  go_wp2
  go_ret
  refine ⟨rfl, _, ⟨blk_put (cs := #[.int .i64 iv, .int .i64 now, .slice Aq q.length cq]) BK3.out 2 _ rfl, HK.out.low, Kd.N_mono (Kd.N_far (p := ⟨g, 2, none⟩) HV5.out (fun _ hk => hk.1.2) _) (fun _ hk => hk.1), below_set HB3.out HK.out.low⟩, Kd.N_far (p := ⟨g, 2, none⟩) HV5.out (fun _ hk => hk.1.2) _, Kept.setCell KP3.out (Or.inl (Or.inl rfl)) _, ?_⟩
  exact HAT.out.elim Or.inl (fun h => Or.inr (Or.inr h))
set_option maxHeartbeats 8000000 in
set_option maxRecDepth 100000 in
theorem new_ok (a0_0 : ByteArray) (a0_1 a0_2 a0_3 a0_4 a0_5 a0_6 a0_7 : Int) (iv : Int) (w : World) (h : output_Check.f a0_0 a0_1 a0_2 a0_3 a0_4 a0_5 a0_6 a0_7 = some 0) (hi : output_Interval.f a0_0 a0_1 a0_2 a0_3 a0_4 a0_5 a0_6 a0_7 = some iv) :
    Calls Tryz.prog 4 #[.agg #[.string a0_0, .int .i64 a0_1, .int .i64 a0_2, .int .i64 a0_3, .int .i64 a0_4, .int .i64 a0_5, .int .i64 a0_6, .int .i64 a0_7]] w fun e w' => ∃ g, e = .returned (.tuple #[.pointer (some ⟨g, 0, none⟩), .int .i64 0]) ∧ w'.heap[g]? = some (.cells #[.int .i64 iv, .int .i64 0, .slice none 0 0] 50 (0, 0)) ∧ w.heap.size ≤ g ∧ Below w.heap.size w w' := by
  have hu28 := Tryz.underlying28
  have hu50 := Tryz.underlying50
  have HB := Aside0.mk (Below.refl w.heap.size w)
  have hC := Aside0.mk h
  have hI := Aside0.mk hi
  clear h hi
  go_enter Tryz.func4, Tryz.ntmps4
  go_wp2_with (first | ((with_reducible refine gate_dst (N := 1) rfl ?_); refine box_event ?hg (N := 1) ?hd (cs := #[.string a0_0, .int .i64 a0_1, .int .i64 a0_2, .int .i64 a0_3, .int .i64 a0_4, .int .i64 a0_5, .int .i64 a0_6, .int .i64 a0_7]) (t := 28) ?hr ?_; (case hd => rfl); (case hg => rfl); (case hr => first | (go_simp; done) | (go_simp; rfl)); intro gB hg w9 hbox hb; have n0_ := Aside0.mk (below_step (by repeat (first | (with_reducible first | exact HB.out | apply below_alloc | apply pw_below_drewN | apply below_drew1) | exact HB.out)) hb); clear HB; have HB := n0_; clear n0_; have BK := Aside0.mk hbox; clear hb hbox hg; have hcz_0 : w9.cell? ⟨gB, 0, none⟩ = some (.string a0_0) := (blk_cell BK.out 0).trans rfl; have fcz_0 := blk_frozen BK.out 0; have hcz_1 : w9.cell? ⟨gB, 1, none⟩ = some (.int .i64 a0_1) := (blk_cell BK.out 1).trans rfl; have fcz_1 := blk_frozen BK.out 1; have hcz_2 : w9.cell? ⟨gB, 2, none⟩ = some (.int .i64 a0_2) := (blk_cell BK.out 2).trans rfl; have fcz_2 := blk_frozen BK.out 2; have hcz_3 : w9.cell? ⟨gB, 3, none⟩ = some (.int .i64 a0_3) := (blk_cell BK.out 3).trans rfl; have fcz_3 := blk_frozen BK.out 3; have hcz_4 : w9.cell? ⟨gB, 4, none⟩ = some (.int .i64 a0_4) := (blk_cell BK.out 4).trans rfl; have fcz_4 := blk_frozen BK.out 4; have hcz_5 : w9.cell? ⟨gB, 5, none⟩ = some (.int .i64 a0_5) := (blk_cell BK.out 5).trans rfl; have fcz_5 := blk_frozen BK.out 5; have hcz_6 : w9.cell? ⟨gB, 6, none⟩ = some (.int .i64 a0_6) := (blk_cell BK.out 6).trans rfl; have fcz_6 := blk_frozen BK.out 6; have hcz_7 : w9.cell? ⟨gB, 7, none⟩ = some (.int .i64 a0_7) := (blk_cell BK.out 7).trans rfl; have fcz_7 := blk_frozen BK.out 7) | (go_at_call 13; (with_reducible refine (output_Check.calls a0_0 a0_1 a0_2 a0_3 a0_4 a0_5 a0_6 a0_7 _ _ hC.out).mono ?_); rintro e w10 ⟨rfl, hb⟩; have n0_ := Aside0.mk (below_step (by repeat (first | (with_reducible first | exact HB.out | apply below_alloc | apply pw_below_drewN | apply below_drew1) | exact HB.out)) hb); have n1_ := Aside0.mk (blk_below (g := gB) (o := .cells #[.string a0_0, .int .i64 a0_1, .int .i64 a0_2, .int .i64 a0_3, .int .i64 a0_4, .int .i64 a0_5, .int .i64 a0_6, .int .i64 a0_7] 28 (0, 0)) (by ((with_reducible repeat (first | refine blk_drewN ?_ _ | refine blk_drew ?_ | refine blk_alloc ?_ _)); exact BK.out)) hb); clear HB BK; have HB := n0_; have BK := n1_; clear n0_ n1_ hb; have hca_0 : w10.cell? ⟨gB, 0, none⟩ = some (.string a0_0) := (blk_cell BK.out 0).trans rfl; have fca_0 := blk_frozen BK.out 0; have hca_1 : w10.cell? ⟨gB, 1, none⟩ = some (.int .i64 a0_1) := (blk_cell BK.out 1).trans rfl; have fca_1 := blk_frozen BK.out 1; have hca_2 : w10.cell? ⟨gB, 2, none⟩ = some (.int .i64 a0_2) := (blk_cell BK.out 2).trans rfl; have fca_2 := blk_frozen BK.out 2; have hca_3 : w10.cell? ⟨gB, 3, none⟩ = some (.int .i64 a0_3) := (blk_cell BK.out 3).trans rfl; have fca_3 := blk_frozen BK.out 3; have hca_4 : w10.cell? ⟨gB, 4, none⟩ = some (.int .i64 a0_4) := (blk_cell BK.out 4).trans rfl; have fca_4 := blk_frozen BK.out 4; have hca_5 : w10.cell? ⟨gB, 5, none⟩ = some (.int .i64 a0_5) := (blk_cell BK.out 5).trans rfl; have fca_5 := blk_frozen BK.out 5; have hca_6 : w10.cell? ⟨gB, 6, none⟩ = some (.int .i64 a0_6) := (blk_cell BK.out 6).trans rfl; have fca_6 := blk_frozen BK.out 6; have hca_7 : w10.cell? ⟨gB, 7, none⟩ = some (.int .i64 a0_7) := (blk_cell BK.out 7).trans rfl; have fca_7 := blk_frozen BK.out 7) | (go_at_call 14; (with_reducible refine (output_Interval.calls a0_0 a0_1 a0_2 a0_3 a0_4 a0_5 a0_6 a0_7 _ _ hI.out).mono ?_); rintro e w11 ⟨rfl, hb⟩; have n0_ := Aside0.mk (below_step (by repeat (first | (with_reducible first | exact HB.out | apply below_alloc | apply pw_below_drewN | apply below_drew1) | exact HB.out)) hb); clear HB; have HB := n0_; clear n0_ hb) | ((with_reducible refine gate_dst (N := 13) rfl ?_); refine box_event ?hg (N := 13) ?hd (cs := #[.int .i64 iv, .int .i64 0, .slice none 0 0]) (t := 50) ?hr ?_; (case hd => rfl); (case hg => rfl); (case hr => first | (go_simp; done) | (go_simp; rfl)); intro gC hg w12 hbox hb; have n1_ := Aside0.mk ((by rw [hg]; exact (below_size (by repeat (first | (with_reducible first | exact HB.out | apply below_alloc | apply pw_below_drewN | apply below_drew1) | exact HB.out))) : w.heap.size ≤ gC)); have n0_ := Aside0.mk (below_step (by repeat (first | (with_reducible first | exact HB.out | apply below_alloc | apply pw_below_drewN | apply below_drew1) | exact HB.out)) hb); clear HB; have HB := n0_; clear n0_; have CK := Aside0.mk hbox; clear hb hbox hg))
  go_ret2
  exact ⟨gC, rfl, CK.out, n1_.out, HB.out⟩
end
end Go.Proofs.YtancbjonkbdhdaaGreat.All
end
section
namespace Go.Proofs.YtancbjonkbdhdaaGreat.All
open Go.RowKit Go.Proofs.YtancbjonkbdhdaaGreatW.PrintWords Go.Proofs.YtancbjonkbdhdaaGreatW.PrintLast Go.Proofs.YtancbjonkbdhdaaGreatW.PrintMore
attribute [local go_sem] max2_int min2_int max_two min_two max_three min_three max_four min_four
set_option linter.unusedVariables false
set_option linter.unusedSimpArgs false
section
open Go.Proofs.YtancbjonkbdhdaaGreatHand Go.Proofs.YtancbjonkbdhdaaGreatSq
set_option maxHeartbeats 4000000
set_option maxRecDepth 100000
def upd (own : Nat → Nat) (m t : Nat) : Nat → Nat := fun k => if k < m then own k else t
theorem upd_lt {own : Nat → Nat} {m t k : Nat} (h : k < m) : upd own m t k = own k := if_pos h
theorem upd_ge {own : Nat → Nat} {m t k : Nat} (h : m ≤ k) : upd own m t k = t := if_neg (by omega)
theorem upd_or {own : Nat → Nat} {m t k : Nat} (h : own k = t ∨ m ≤ k) : upd own m t k = t := by
  rcases Nat.lt_or_ge k m with h1 | h1
  · rw [upd_lt h1]
    exact h.elim id (fun h2 => by omega)
  · exact upd_ge h1
theorem R_tag {α : Type} {d : Kd α} {e base : Nat} {w w' : World} {own : Nat → Nat} {j t : Nat} {T : Nat → Prop} {v : Value} {xs : List α} (h : Kd.R d e w base (fun k => own k = j) v xs) (K : Kept w w' (fun k => T (own k))) (ht : ¬ T j) : Kd.R d e w' base (fun k => upd own w.heap.size t k = j) v xs :=
  Kd.R_mono (Kd.R_kept (Kd.R_mono (ok' := fun k => own k = j ∧ k < w.heap.size) (Kd.R_bound h) (fun k hk => ⟨hk.1, hk.2.2.1⟩)) K (fun k hk e => ht (by rw [← hk.1]; exact e))) (fun k hk => by rw [upd_lt hk.2]; exact hk.1)
theorem N_tag {w0 w w' : World} {own : Nat → Nat} {gc t : Nat} {T : Nat → Prop} {v : Value} {xs : List S65} (h : Kd.N k65 65 w w0.heap.size (fun k => (w0.heap.size ≤ k ∧ k ≠ gc) ∧ own k = 11) v xs) (K : Kept w w' (fun k => T (own k))) (ht : ¬ T 11) : Kd.N k65 65 w' w0.heap.size (fun k => (w0.heap.size ≤ k ∧ k ≠ gc) ∧ upd own w.heap.size t k = 11) v xs :=
  Kd.N_mono (Kd.N_kept (Kd.N_mono (ok' := fun k => ((w0.heap.size ≤ k ∧ k ≠ gc) ∧ own k = 11) ∧ k < w.heap.size) (Kd.N_bound h) (fun k hk => hk)) K (fun k hk e => ht (by rw [← hk.1.2]; exact e))) (fun k hk => ⟨hk.1.1, by rw [upd_lt hk.2]; exact hk.1.2⟩)
theorem blk_tag {w w' : World} {own : Nat → Nat} {g : Nat} {T : Nat → Prop} {o : Obj} (h : w.heap[g]? = some o) (K : Kept w w' (fun k => T (own k))) (ht : ¬ T (own g)) : w'.heap[g]? = some o := blk_kept h K ht
theorem own_tag {w : World} {own : Nat → Nat} {g t j : Nat} {o : Obj} (h : w.heap[g]? = some o) (e : own g = j) : upd own w.heap.size t g = j := (upd_lt (blk_lt h)).trans e
structure CK (w0 w : World) (own : Nat → Nat) (gc : Nat) (b : Int) (vq : Value) (q : List S65) : Prop where
  clk : Clk w0 w gc 1000000000 (b * 1000000000) vq q
  nq : Kd.N k65 65 w w0.heap.size (fun k => (w0.heap.size ≤ k ∧ k ≠ gc) ∧ own k = 11) vq q
  og : own gc = 1
structure SU (w0 w : World) (own : Nat → Nat) (tg tr g : Nat) (s : Int) (v : Value) (l : List Int) (n : Int) : Prop where
  blk : w.heap[g]? = some (.cells (Srf s v 0 (.slice none 0 0) (.slice none 0 0) false n) 61 (0, 0))
  row : Kd.R (Kd.int .u32) 36 w w0.heap.size (fun k => own k = tr) v l
  og : own g = tg
  low : w0.heap.size ≤ g
  st : s = 0 ∧ l = [] ∨ s = 128
structure TT (w0 w : World) (own : Nat → Nat) (gc gs gp g0 g1 : Nat) (b : Int) (vq : Value) (q : List S65) (s0 : Int) (v0 : Value) (l0 : List Int) (n0 : Int) (s1 : Int) (v1 : Value) (l1 : List Int) (n1 : Int) (p0 : Value) (P0 : List Int) (p1 : Value) (P1 : List Int) (vw : Value) (wt : List S42) : Prop where
  ck : CK w0 w own gc b vq q
  su0 : SU w0 w own 2 12 g0 s0 v0 l0 n0
  su1 : SU w0 w own 3 13 g1 s1 v1 l1 n1
  ar : w.heap[gs]? = some (.cells #[.pointer (some ⟨g0, 0, none⟩), .pointer (some ⟨g1, 0, none⟩)] 31 (0, 0))
  oar : own gs = 8
  ap : w.heap[gp]? = some (.cells #[p0, p1] 33 (0, 0))
  oap : own gp = 7
  lowp : w0.heap.size ≤ gp
  r0 : Kd.R (Kd.int .i64) 3 w w0.heap.size (fun k => own k = 4) p0 P0
  r1 : Kd.R (Kd.int .i64) 3 w w0.heap.size (fun k => own k = 5) p1 P1
  rw_ : Kd.R k42 42 w w0.heap.size (fun k => own k = 6) vw wt
  bl : Below w0.heap.size w0 w
theorem CK.keep {w0 w w' : World} {own : Nat → Nat} {gc t : Nat} {b : Int} {vq : Value} {q : List S65} {T : Nat → Prop} (h : CK w0 w own gc b vq q) (K : Kept w w' (fun k => T (own k))) (hB : Below w0.heap.size w0 w') (h1 : ¬ T 1) (h2 : ¬ T 11) : CK w0 w' (upd own w.heap.size t) gc b vq q :=
  have hn := N_tag (t := t) h.nq K h2
  ⟨⟨blk_tag h.clk.blk K (by rw [h.og]; exact h1), h.clk.low, Kd.N_mono hn (fun k hk => hk.1), hB⟩, hn, own_tag h.clk.blk h.og⟩
theorem SU.keep {w0 w w' : World} {own : Nat → Nat} {tg tr g t : Nat} {s n : Int} {v : Value} {l : List Int} {T : Nat → Prop} (h : SU w0 w own tg tr g s v l n) (K : Kept w w' (fun k => T (own k))) (h1 : ¬ T tg) (h2 : ¬ T tr) : SU w0 w' (upd own w.heap.size t) tg tr g s v l n :=
  ⟨blk_tag h.blk K (by rw [h.og]; exact h1), R_tag h.row K h2, own_tag h.blk h.og, h.low, h.st⟩
theorem TT.below {w0 w w' : World} {own : Nat → Nat} {gc gs gp g0 g1 : Nat} {b : Int} {vq : Value} {q : List S65} {s0 : Int} {v0 : Value} {l0 : List Int} {n0 : Int} {s1 : Int} {v1 : Value} {l1 : List Int} {n1 : Int} {p0 : Value} {P0 : List Int} {p1 : Value} {P1 : List Int} {vw : Value} {wt : List S42} (h : TT w0 w own gc gs gp g0 g1 b vq q s0 v0 l0 n0 s1 v1 l1 n1 p0 P0 p1 P1 vw wt) (hb : Below w.heap.size w w') : TT w0 w' own gc gs gp g0 g1 b vq q s0 v0 l0 n0 s1 v1 l1 n1 p0 P0 p1 P1 vw wt :=
  ⟨⟨h.ck.clk.after hb, Kd.N_below h.ck.nq hb, h.ck.og⟩, ⟨blk_below h.su0.blk hb, Kd.R_below h.su0.row hb, h.su0.og, h.su0.low, h.su0.st⟩, ⟨blk_below h.su1.blk hb, Kd.R_below h.su1.row hb, h.su1.og, h.su1.low, h.su1.st⟩, blk_below h.ar hb, h.oar, blk_below h.ap hb, h.oap, h.lowp, Kd.R_below h.r0 hb, Kd.R_below h.r1 hb, Kd.R_below h.rw_ hb, below_step h.bl hb⟩
theorem TT.frame0 {w0 w w' : World} {own : Nat → Nat} {gc gs gp g0 g1 : Nat} {b : Int} {vq : Value} {q : List S65} {s0 : Int} {v0 : Value} {l0 : List Int} {n0 : Int} {s1 : Int} {v1 : Value} {l1 : List Int} {n1 : Int} {p0 : Value} {P0 : List Int} {p1 : Value} {P1 : List Int} {vw : Value} {wt : List S42} {v : Value} {c : Int} (h : TT w0 w own gc gs gp g0 g1 b vq q s0 v0 l0 n0 s1 v1 l1 n1 p0 P0 p1 P1 vw wt) (hG : w'.heap[g0]? = some (.cells (Srf 128 v 0 (.slice none 0 0) (.slice none 0 0) false n0) 61 (0, 0))) (hR : Kd.R (Kd.int .u32) 36 w' w0.heap.size (fun k => own k = 12 ∨ w.heap.size ≤ k) v (l0 ++ [c])) (hB : Below w0.heap.size w0 w') (hK : Kept w w' (fun k => k = g0 ∨ some k = v0.ownBlock)) : TT w0 w' (upd own w.heap.size 12) gc gs gp g0 g1 b vq q 128 v (l0 ++ [c]) n0 s1 v1 l1 n1 p0 P0 p1 P1 vw wt :=
  have K : Kept w w' (fun k => (fun x => x = 2 ∨ x = 12) (own k)) := hK.mono (fun k hk => hk.elim (fun e => .inl (by rw [e]; exact h.su0.og)) (fun e => .inr (h.su0.row.1 k e.symm)))
  ⟨(CK.keep (T := fun x => x = 2 ∨ x = 12) (own := own) (t := 12) h.ck K hB (by decide) (by decide)), ⟨hG, Kd.R_mono hR (fun k hk => upd_or hk), own_tag h.su0.blk h.su0.og, h.su0.low, .inr rfl⟩, (SU.keep (T := fun x => x = 2 ∨ x = 12) (own := own) (t := 12) h.su1 K (by decide) (by decide)), (blk_tag (T := fun x => x = 2 ∨ x = 12) (own := own) h.ar K (by rw [h.oar]; decide)), (own_tag h.ar h.oar), (blk_tag (T := fun x => x = 2 ∨ x = 12) (own := own) h.ap K (by rw [h.oap]; decide)), (own_tag h.ap h.oap), h.lowp, (R_tag (T := fun x => x = 2 ∨ x = 12) (own := own) h.r0 K (by decide)), (R_tag (T := fun x => x = 2 ∨ x = 12) (own := own) h.r1 K (by decide)), (R_tag (T := fun x => x = 2 ∨ x = 12) (own := own) h.rw_ K (by decide)), hB⟩
theorem TT.take0 {w0 w w' : World} {own : Nat → Nat} {gc gs gp g0 g1 : Nat} {b : Int} {vq : Value} {q : List S65} {s0 : Int} {v0 : Value} {l0 : List Int} {n0 : Int} {s1 : Int} {v1 : Value} {l1 : List Int} {n1 : Int} {p0 : Value} {P0 : List Int} {p1 : Value} {P1 : List Int} {vw : Value} {wt : List S42} {n : Int} (h : TT w0 w own gc gs gp g0 g1 b vq q s0 v0 l0 n0 s1 v1 l1 n1 p0 P0 p1 P1 vw wt) (hG : w'.heap[g0]? = some (.cells (Srf 0 (.slice none 0 0) 0 (.slice none 0 0) (.slice none 0 0) false n) 61 (0, 0))) (hB : Below w0.heap.size w0 w') (hK : Kept w w' (fun k => k = g0)) : TT w0 w' (upd own w.heap.size 9) gc gs gp g0 g1 b vq q 0 (.slice none 0 0) [] n s1 v1 l1 n1 p0 P0 p1 P1 vw wt :=
  have K : Kept w w' (fun k => (fun x => x = 2) (own k)) := hK.mono (fun k hk => by rw [hk]; exact h.su0.og)
  ⟨(CK.keep (T := fun x => x = 2) (own := own) (t := 9) h.ck K hB (by decide) (by decide)), ⟨hG, Kd.R_nil _ _ _ _ _, own_tag h.su0.blk h.su0.og, h.su0.low, .inl ⟨rfl, rfl⟩⟩, (SU.keep (T := fun x => x = 2) (own := own) (t := 9) h.su1 K (by decide) (by decide)), (blk_tag (T := fun x => x = 2) (own := own) h.ar K (by rw [h.oar]; decide)), (own_tag h.ar h.oar), (blk_tag (T := fun x => x = 2) (own := own) h.ap K (by rw [h.oap]; decide)), (own_tag h.ap h.oap), h.lowp, (R_tag (T := fun x => x = 2) (own := own) h.r0 K (by decide)), (R_tag (T := fun x => x = 2) (own := own) h.r1 K (by decide)), (R_tag (T := fun x => x = 2) (own := own) h.rw_ K (by decide)), hB⟩
theorem TT.push0 {w0 w w1 : World} {own : Nat → Nat} {gc gs gp g0 g1 : Nat} {b : Int} {vq : Value} {q : List S65} {s0 : Int} {v0 : Value} {l0 : List Int} {n0 : Int} {s1 : Int} {v1 : Value} {l1 : List Int} {n1 : Int} {p0 : Value} {P0 : List Int} {p1 : Value} {P1 : List Int} {vw : Value} {wt : List S42} {v : Value} {c : Int} (h : TT w0 w own gc gs gp g0 g1 b vq q s0 v0 l0 n0 s1 v1 l1 n1 p0 P0 p1 P1 vw wt) (hR : Kd.R (Kd.int .i64) 3 w1 w0.heap.size (fun k => own k = 4 ∨ w.heap.size ≤ k) v (P0 ++ [c])) (hB1 : Below w0.heap.size w0 w1) (hg : w.grownBy w1 p0.ownBlock) : TT w0 (w1.setCell ⟨gp, 0, none⟩ v) (upd own w.heap.size 4) gc gs gp g0 g1 b vq q s0 v0 l0 n0 s1 v1 l1 n1 v (P0 ++ [c]) p1 P1 vw wt :=
  have K0 : Kept w w1 (fun k => (fun x => x = 4 ∨ x = 7) (own k)) := Kept.of_grown hg (Kept.refl w _) (fun k hk => .inl (.inl (h.r0.1 k hk)))
  have K := Kept.setCell K0 (p := ⟨gp, 0, none⟩) (.inl (.inr h.oap)) v
  have hB := below_set (j := 0) (v := v) hB1 h.lowp
  have hap : w1.heap[gp]? = some (.cells #[p0, p1] 33 (0, 0)) := blk_grown h.ap hg (fun e => by have e2 : own gp = 4 := h.r0.1 gp e.symm; rw [h.oap] at e2; cases e2)
  ⟨(CK.keep (T := fun x => x = 4 ∨ x = 7) (own := own) (t := 4) h.ck K hB (by decide) (by decide)), (SU.keep (T := fun x => x = 4 ∨ x = 7) (own := own) (t := 4) h.su0 K (by decide) (by decide)), (SU.keep (T := fun x => x = 4 ∨ x = 7) (own := own) (t := 4) h.su1 K (by decide) (by decide)), (blk_tag (T := fun x => x = 4 ∨ x = 7) (own := own) h.ar K (by rw [h.oar]; decide)), (own_tag h.ar h.oar), (blk_put (cs := #[p0, p1]) (cs' := #[v, p1]) hap 0 v rfl), (own_tag h.ap h.oap), h.lowp, (Kd.R_far (p := ⟨gp, 0, none⟩) (Kd.R_mono hR (fun k hk => upd_or hk)) (fun k hk e => by simp only at e; subst e; rw [own_tag h.ap h.oap] at hk; cases hk) v), (R_tag (T := fun x => x = 4 ∨ x = 7) (own := own) h.r1 K (by decide)), (R_tag (T := fun x => x = 4 ∨ x = 7) (own := own) h.rw_ K (by decide)), hB⟩
theorem TT.clr0 {w0 w : World} {own : Nat → Nat} {gc gs gp g0 g1 : Nat} {b : Int} {vq : Value} {q : List S65} {s0 : Int} {v0 : Value} {l0 : List Int} {n0 : Int} {s1 : Int} {v1 : Value} {l1 : List Int} {n1 : Int} {p0 : Value} {P0 : List Int} {p1 : Value} {P1 : List Int} {vw : Value} {wt : List S42} (h : TT w0 w own gc gs gp g0 g1 b vq q s0 v0 l0 n0 s1 v1 l1 n1 p0 P0 p1 P1 vw wt) : TT w0 (w.setCell ⟨gp, 0, none⟩ (.slice none 0 0)) (upd own w.heap.size 9) gc gs gp g0 g1 b vq q s0 v0 l0 n0 s1 v1 l1 n1 (.slice none 0 0) [] p1 P1 vw wt :=
  have K : Kept w (w.setCell ⟨gp, 0, none⟩ (.slice none 0 0)) (fun k => (fun x => x = 7) (own k)) := Kept.setCell (Kept.refl w _) (p := ⟨gp, 0, none⟩) (.inl h.oap) (.slice none 0 0)
  have hB := below_set (j := 0) (v := (.slice none 0 0)) h.bl h.lowp
  ⟨(CK.keep (T := fun x => x = 7) (own := own) (t := 9) h.ck K hB (by decide) (by decide)), (SU.keep (T := fun x => x = 7) (own := own) (t := 9) h.su0 K (by decide) (by decide)), (SU.keep (T := fun x => x = 7) (own := own) (t := 9) h.su1 K (by decide) (by decide)), (blk_tag (T := fun x => x = 7) (own := own) h.ar K (by rw [h.oar]; decide)), (own_tag h.ar h.oar), (blk_put (cs := #[p0, p1]) (cs' := #[(.slice none 0 0), p1]) h.ap 0 (.slice none 0 0) rfl), (own_tag h.ap h.oap), h.lowp, (Kd.R_nil _ _ _ _ _), (R_tag (T := fun x => x = 7) (own := own) h.r1 K (by decide)), (R_tag (T := fun x => x = 7) (own := own) h.rw_ K (by decide)), hB⟩
theorem TT.frame1 {w0 w w' : World} {own : Nat → Nat} {gc gs gp g0 g1 : Nat} {b : Int} {vq : Value} {q : List S65} {s0 : Int} {v0 : Value} {l0 : List Int} {n0 : Int} {s1 : Int} {v1 : Value} {l1 : List Int} {n1 : Int} {p0 : Value} {P0 : List Int} {p1 : Value} {P1 : List Int} {vw : Value} {wt : List S42} {v : Value} {c : Int} (h : TT w0 w own gc gs gp g0 g1 b vq q s0 v0 l0 n0 s1 v1 l1 n1 p0 P0 p1 P1 vw wt) (hG : w'.heap[g1]? = some (.cells (Srf 128 v 0 (.slice none 0 0) (.slice none 0 0) false n1) 61 (0, 0))) (hR : Kd.R (Kd.int .u32) 36 w' w0.heap.size (fun k => own k = 13 ∨ w.heap.size ≤ k) v (l1 ++ [c])) (hB : Below w0.heap.size w0 w') (hK : Kept w w' (fun k => k = g1 ∨ some k = v1.ownBlock)) : TT w0 w' (upd own w.heap.size 13) gc gs gp g0 g1 b vq q s0 v0 l0 n0 128 v (l1 ++ [c]) n1 p0 P0 p1 P1 vw wt :=
  have K : Kept w w' (fun k => (fun x => x = 3 ∨ x = 13) (own k)) := hK.mono (fun k hk => hk.elim (fun e => .inl (by rw [e]; exact h.su1.og)) (fun e => .inr (h.su1.row.1 k e.symm)))
  ⟨(CK.keep (T := fun x => x = 3 ∨ x = 13) (own := own) (t := 13) h.ck K hB (by decide) (by decide)), (SU.keep (T := fun x => x = 3 ∨ x = 13) (own := own) (t := 13) h.su0 K (by decide) (by decide)), ⟨hG, Kd.R_mono hR (fun k hk => upd_or hk), own_tag h.su1.blk h.su1.og, h.su1.low, .inr rfl⟩, (blk_tag (T := fun x => x = 3 ∨ x = 13) (own := own) h.ar K (by rw [h.oar]; decide)), (own_tag h.ar h.oar), (blk_tag (T := fun x => x = 3 ∨ x = 13) (own := own) h.ap K (by rw [h.oap]; decide)), (own_tag h.ap h.oap), h.lowp, (R_tag (T := fun x => x = 3 ∨ x = 13) (own := own) h.r0 K (by decide)), (R_tag (T := fun x => x = 3 ∨ x = 13) (own := own) h.r1 K (by decide)), (R_tag (T := fun x => x = 3 ∨ x = 13) (own := own) h.rw_ K (by decide)), hB⟩
theorem TT.take1 {w0 w w' : World} {own : Nat → Nat} {gc gs gp g0 g1 : Nat} {b : Int} {vq : Value} {q : List S65} {s0 : Int} {v0 : Value} {l0 : List Int} {n0 : Int} {s1 : Int} {v1 : Value} {l1 : List Int} {n1 : Int} {p0 : Value} {P0 : List Int} {p1 : Value} {P1 : List Int} {vw : Value} {wt : List S42} {n : Int} (h : TT w0 w own gc gs gp g0 g1 b vq q s0 v0 l0 n0 s1 v1 l1 n1 p0 P0 p1 P1 vw wt) (hG : w'.heap[g1]? = some (.cells (Srf 0 (.slice none 0 0) 0 (.slice none 0 0) (.slice none 0 0) false n) 61 (0, 0))) (hB : Below w0.heap.size w0 w') (hK : Kept w w' (fun k => k = g1)) : TT w0 w' (upd own w.heap.size 9) gc gs gp g0 g1 b vq q s0 v0 l0 n0 0 (.slice none 0 0) [] n p0 P0 p1 P1 vw wt :=
  have K : Kept w w' (fun k => (fun x => x = 3) (own k)) := hK.mono (fun k hk => by rw [hk]; exact h.su1.og)
  ⟨(CK.keep (T := fun x => x = 3) (own := own) (t := 9) h.ck K hB (by decide) (by decide)), (SU.keep (T := fun x => x = 3) (own := own) (t := 9) h.su0 K (by decide) (by decide)), ⟨hG, Kd.R_nil _ _ _ _ _, own_tag h.su1.blk h.su1.og, h.su1.low, .inl ⟨rfl, rfl⟩⟩, (blk_tag (T := fun x => x = 3) (own := own) h.ar K (by rw [h.oar]; decide)), (own_tag h.ar h.oar), (blk_tag (T := fun x => x = 3) (own := own) h.ap K (by rw [h.oap]; decide)), (own_tag h.ap h.oap), h.lowp, (R_tag (T := fun x => x = 3) (own := own) h.r0 K (by decide)), (R_tag (T := fun x => x = 3) (own := own) h.r1 K (by decide)), (R_tag (T := fun x => x = 3) (own := own) h.rw_ K (by decide)), hB⟩
theorem TT.push1 {w0 w w1 : World} {own : Nat → Nat} {gc gs gp g0 g1 : Nat} {b : Int} {vq : Value} {q : List S65} {s0 : Int} {v0 : Value} {l0 : List Int} {n0 : Int} {s1 : Int} {v1 : Value} {l1 : List Int} {n1 : Int} {p0 : Value} {P0 : List Int} {p1 : Value} {P1 : List Int} {vw : Value} {wt : List S42} {v : Value} {c : Int} (h : TT w0 w own gc gs gp g0 g1 b vq q s0 v0 l0 n0 s1 v1 l1 n1 p0 P0 p1 P1 vw wt) (hR : Kd.R (Kd.int .i64) 3 w1 w0.heap.size (fun k => own k = 5 ∨ w.heap.size ≤ k) v (P1 ++ [c])) (hB1 : Below w0.heap.size w0 w1) (hg : w.grownBy w1 p1.ownBlock) : TT w0 (w1.setCell ⟨gp, 1, none⟩ v) (upd own w.heap.size 5) gc gs gp g0 g1 b vq q s0 v0 l0 n0 s1 v1 l1 n1 p0 P0 v (P1 ++ [c]) vw wt :=
  have K0 : Kept w w1 (fun k => (fun x => x = 5 ∨ x = 7) (own k)) := Kept.of_grown hg (Kept.refl w _) (fun k hk => .inl (.inl (h.r1.1 k hk)))
  have K := Kept.setCell K0 (p := ⟨gp, 1, none⟩) (.inl (.inr h.oap)) v
  have hB := below_set (j := 1) (v := v) hB1 h.lowp
  have hap : w1.heap[gp]? = some (.cells #[p0, p1] 33 (0, 0)) := blk_grown h.ap hg (fun e => by have e2 : own gp = 5 := h.r1.1 gp e.symm; rw [h.oap] at e2; cases e2)
  ⟨(CK.keep (T := fun x => x = 5 ∨ x = 7) (own := own) (t := 5) h.ck K hB (by decide) (by decide)), (SU.keep (T := fun x => x = 5 ∨ x = 7) (own := own) (t := 5) h.su0 K (by decide) (by decide)), (SU.keep (T := fun x => x = 5 ∨ x = 7) (own := own) (t := 5) h.su1 K (by decide) (by decide)), (blk_tag (T := fun x => x = 5 ∨ x = 7) (own := own) h.ar K (by rw [h.oar]; decide)), (own_tag h.ar h.oar), (blk_put (cs := #[p0, p1]) (cs' := #[p0, v]) hap 1 v rfl), (own_tag h.ap h.oap), h.lowp, (R_tag (T := fun x => x = 5 ∨ x = 7) (own := own) h.r0 K (by decide)), (Kd.R_far (p := ⟨gp, 1, none⟩) (Kd.R_mono hR (fun k hk => upd_or hk)) (fun k hk e => by simp only at e; subst e; rw [own_tag h.ap h.oap] at hk; cases hk) v), (R_tag (T := fun x => x = 5 ∨ x = 7) (own := own) h.rw_ K (by decide)), hB⟩
theorem TT.clr1 {w0 w : World} {own : Nat → Nat} {gc gs gp g0 g1 : Nat} {b : Int} {vq : Value} {q : List S65} {s0 : Int} {v0 : Value} {l0 : List Int} {n0 : Int} {s1 : Int} {v1 : Value} {l1 : List Int} {n1 : Int} {p0 : Value} {P0 : List Int} {p1 : Value} {P1 : List Int} {vw : Value} {wt : List S42} (h : TT w0 w own gc gs gp g0 g1 b vq q s0 v0 l0 n0 s1 v1 l1 n1 p0 P0 p1 P1 vw wt) : TT w0 (w.setCell ⟨gp, 1, none⟩ (.slice none 0 0)) (upd own w.heap.size 9) gc gs gp g0 g1 b vq q s0 v0 l0 n0 s1 v1 l1 n1 p0 P0 (.slice none 0 0) [] vw wt :=
  have K : Kept w (w.setCell ⟨gp, 1, none⟩ (.slice none 0 0)) (fun k => (fun x => x = 7) (own k)) := Kept.setCell (Kept.refl w _) (p := ⟨gp, 1, none⟩) (.inl h.oap) (.slice none 0 0)
  have hB := below_set (j := 1) (v := (.slice none 0 0)) h.bl h.lowp
  ⟨(CK.keep (T := fun x => x = 7) (own := own) (t := 9) h.ck K hB (by decide) (by decide)), (SU.keep (T := fun x => x = 7) (own := own) (t := 9) h.su0 K (by decide) (by decide)), (SU.keep (T := fun x => x = 7) (own := own) (t := 9) h.su1 K (by decide) (by decide)), (blk_tag (T := fun x => x = 7) (own := own) h.ar K (by rw [h.oar]; decide)), (own_tag h.ar h.oar), (blk_put (cs := #[p0, p1]) (cs' := #[p0, (.slice none 0 0)]) h.ap 1 (.slice none 0 0) rfl), (own_tag h.ap h.oap), h.lowp, (R_tag (T := fun x => x = 7) (own := own) h.r0 K (by decide)), (Kd.R_nil _ _ _ _ _), (R_tag (T := fun x => x = 7) (own := own) h.rw_ K (by decide)), hB⟩
theorem TT.queue {w0 w w' : World} {own : Nat → Nat} {gc gs gp g0 g1 : Nat} {b : Int} {vq : Value} {q : List S65} {s0 : Int} {v0 : Value} {l0 : List Int} {n0 : Int} {s1 : Int} {v1 : Value} {l1 : List Int} {n1 : Int} {p0 : Value} {P0 : List Int} {p1 : Value} {P1 : List Int} {vw : Value} {wt : List S42} {vq' : Value} {q' : List S65} (h : TT w0 w own gc gs gp g0 g1 b vq q s0 v0 l0 n0 s1 v1 l1 n1 p0 P0 p1 P1 vw wt) (hC : Clk w0 w' gc 1000000000 (b * 1000000000) vq' q') (hN : Kd.N k65 65 w' w0.heap.size (fun k => (w0.heap.size ≤ k ∧ k ≠ gc) ∧ (own k = 11 ∨ w.heap.size ≤ k)) vq' q') (hS : Stp w w' gc vq vq') : TT w0 w' (upd own w.heap.size 11) gc gs gp g0 g1 b vq' q' s0 v0 l0 n0 s1 v1 l1 n1 p0 P0 p1 P1 vw wt :=
  have K : Kept w w' (fun k => (fun x => x = 1 ∨ x = 11) (own k)) := hS.1.mono (fun k hk => hk.elim (fun e => .inl (by rw [e]; exact h.ck.og)) (fun e => .inr (h.ck.nq.1 k e.symm).2))
  have hB := hC.below
  ⟨⟨hC, Kd.N_mono hN (fun k hk => ⟨hk.1, upd_or hk.2⟩), own_tag h.ck.clk.blk h.ck.og⟩, (SU.keep (T := fun x => x = 1 ∨ x = 11) (own := own) (t := 11) h.su0 K (by decide) (by decide)), (SU.keep (T := fun x => x = 1 ∨ x = 11) (own := own) (t := 11) h.su1 K (by decide) (by decide)), (blk_tag (T := fun x => x = 1 ∨ x = 11) (own := own) h.ar K (by rw [h.oar]; decide)), (own_tag h.ar h.oar), (blk_tag (T := fun x => x = 1 ∨ x = 11) (own := own) h.ap K (by rw [h.oap]; decide)), (own_tag h.ap h.oap), h.lowp, (R_tag (T := fun x => x = 1 ∨ x = 11) (own := own) h.r0 K (by decide)), (R_tag (T := fun x => x = 1 ∨ x = 11) (own := own) h.r1 K (by decide)), (R_tag (T := fun x => x = 1 ∨ x = 11) (own := own) h.rw_ K (by decide)), hB⟩
theorem TT.tick {w0 w w' : World} {own : Nat → Nat} {gc gs gp g0 g1 : Nat} {b : Int} {vq : Value} {q : List S65} {s0 : Int} {v0 : Value} {l0 : List Int} {n0 : Int} {s1 : Int} {v1 : Value} {l1 : List Int} {n1 : Int} {p0 : Value} {P0 : List Int} {p1 : Value} {P1 : List Int} {vw : Value} {wt : List S42} {b' : Int} (h : TT w0 w own gc gs gp g0 g1 b vq q s0 v0 l0 n0 s1 v1 l1 n1 p0 P0 p1 P1 vw wt) (hC : Clk w0 w' gc 1000000000 (b' * 1000000000) (.slice none 0 0) []) (hK : Kept w w' (fun k => k = gc)) : TT w0 w' (upd own w.heap.size 9) gc gs gp g0 g1 b' (.slice none 0 0) [] s0 v0 l0 n0 s1 v1 l1 n1 p0 P0 p1 P1 vw wt :=
  have K : Kept w w' (fun k => (fun x => x = 1) (own k)) := hK.mono (fun k hk => by rw [hk]; exact h.ck.og)
  have hB := hC.below
  ⟨⟨hC, Kd.N_nil _ _ _ _ _, own_tag h.ck.clk.blk h.ck.og⟩, (SU.keep (T := fun x => x = 1) (own := own) (t := 9) h.su0 K (by decide) (by decide)), (SU.keep (T := fun x => x = 1) (own := own) (t := 9) h.su1 K (by decide) (by decide)), (blk_tag (T := fun x => x = 1) (own := own) h.ar K (by rw [h.oar]; decide)), (own_tag h.ar h.oar), (blk_tag (T := fun x => x = 1) (own := own) h.ap K (by rw [h.oap]; decide)), (own_tag h.ap h.oap), h.lowp, (R_tag (T := fun x => x = 1) (own := own) h.r0 K (by decide)), (R_tag (T := fun x => x = 1) (own := own) h.r1 K (by decide)), (R_tag (T := fun x => x = 1) (own := own) h.rw_ K (by decide)), hB⟩
theorem TT.wpush {w0 w w' : World} {own : Nat → Nat} {gc gs gp g0 g1 : Nat} {b : Int} {vq : Value} {q : List S65} {s0 : Int} {v0 : Value} {l0 : List Int} {n0 : Int} {s1 : Int} {v1 : Value} {l1 : List Int} {n1 : Int} {p0 : Value} {P0 : List Int} {p1 : Value} {P1 : List Int} {vw : Value} {wt : List S42} {v : Value} {wt' : List S42} (h : TT w0 w own gc gs gp g0 g1 b vq q s0 v0 l0 n0 s1 v1 l1 n1 p0 P0 p1 P1 vw wt) (hR : Kd.R k42 42 w' w0.heap.size (fun k => own k = 6 ∨ w.heap.size ≤ k) v wt') (hB : Below w0.heap.size w0 w') (hg : w.grownBy w' vw.ownBlock) : TT w0 w' (upd own w.heap.size 6) gc gs gp g0 g1 b vq q s0 v0 l0 n0 s1 v1 l1 n1 p0 P0 p1 P1 v wt' :=
  have K : Kept w w' (fun k => (fun x => x = 6) (own k)) := Kept.of_grown hg (Kept.refl w _) (fun k hk => .inl (h.rw_.1 k hk))
  ⟨(CK.keep (T := fun x => x = 6) (own := own) (t := 6) h.ck K hB (by decide) (by decide)), (SU.keep (T := fun x => x = 6) (own := own) (t := 6) h.su0 K (by decide) (by decide)), (SU.keep (T := fun x => x = 6) (own := own) (t := 6) h.su1 K (by decide) (by decide)), (blk_tag (T := fun x => x = 6) (own := own) h.ar K (by rw [h.oar]; decide)), (own_tag h.ar h.oar), (blk_tag (T := fun x => x = 6) (own := own) h.ap K (by rw [h.oap]; decide)), (own_tag h.ap h.oap), h.lowp, (R_tag (T := fun x => x = 6) (own := own) h.r0 K (by decide)), (R_tag (T := fun x => x = 6) (own := own) h.r1 K (by decide)), (Kd.R_mono hR (fun k hk => upd_or hk)), hB⟩
theorem TT.wclr {w0 w : World} {own : Nat → Nat} {gc gs gp g0 g1 : Nat} {b : Int} {vq : Value} {q : List S65} {s0 : Int} {v0 : Value} {l0 : List Int} {n0 : Int} {s1 : Int} {v1 : Value} {l1 : List Int} {n1 : Int} {p0 : Value} {P0 : List Int} {p1 : Value} {P1 : List Int} {vw : Value} {wt : List S42} (h : TT w0 w own gc gs gp g0 g1 b vq q s0 v0 l0 n0 s1 v1 l1 n1 p0 P0 p1 P1 vw wt) : TT w0 w own gc gs gp g0 g1 b vq q s0 v0 l0 n0 s1 v1 l1 n1 p0 P0 p1 P1 (.slice none 0 0) [] :=
  ⟨h.ck, h.su0, h.su1, h.ar, h.oar, h.ap, h.oap, h.lowp, h.r0, h.r1, Kd.R_nil _ _ _ _ _, h.bl⟩
end
end Go.Proofs.YtancbjonkbdhdaaGreat.All
end
section
namespace Go.Proofs.YtancbjonkbdhdaaGreat.All
open Go.RowKit Go.Proofs.YtancbjonkbdhdaaGreatW.PrintWords Go.Proofs.YtancbjonkbdhdaaGreatW.PrintLast Go.Proofs.YtancbjonkbdhdaaGreatW.PrintMore
attribute [local go_sem] max2_int min2_int max_two min_two max_three min_three max_four min_four
set_option linter.unusedVariables false
set_option linter.unusedSimpArgs false
section
open Go.Proofs.YtancbjonkbdhdaaGreatHand Go.Proofs.YtancbjonkbdhdaaGreatSq
theorem at_u8 {w : World} {A : Option Addr} {n : Nat} {xs : List Int} (h : Kd.C (Kd.int .u8) w A n xs) (i : Int) (h0 : 0 ≤ i) (h1 : i < n) : ∃ ad, A = some ad ∧ w.cell? (ad.add i.toNat) = some (.int .u8 (xs.getD i.toNat 0)) := by
  obtain ⟨ad, c, e, _, hK, hc0⟩ := Kd.C_get h (0 : Int) i h0 h1
  have hc : ∀ j u, c[j]? = some u → w.cell? (ad.add (i.toNat * 1 + j)) = some u := hc0
  have hk : c = [.int .u8 (xs.getD i.toNat 0)] := hK
  subst hk
  exact ⟨ad, e, by have hq := hc 0 _ rfl; rwa [Nat.mul_one, Nat.add_zero] at hq⟩
def mkd (s c : Int) : S42 := ⟨0, s, 19, 0, 0, 0, c, 0, 0⟩
def wtOf (q : List S65) : List S42 := q.flatMap (fun x => x.f1.map (mkd x.f0))
theorem wtOf_app (q : List S65) (x : S65) : wtOf (q ++ [x]) = wtOf q ++ x.f1.map (mkd x.f0) := by
  simp [wtOf, List.flatMap_append]
theorem take65 (q : List S65) (k : Nat) (h : k < q.length) : q.take (k + 1) = q.take k ++ [rd_T65 q (k : Int)] := by
  unfold rd_T65
  rw [List.take_add_one, List.getElem?_eq_getElem h, Int.toNat_natCast, List.getD_eq_getElem?_getD, List.getElem?_eq_getElem h]
  rfl
theorem rd65_mem (q : List S65) (k : Nat) (h : k < q.length) : rd_T65 q (k : Int) ∈ q := by
  unfold rd_T65
  rw [Int.toNat_natCast, List.getD_eq_getElem?_getD, List.getElem?_eq_getElem h]
  exact List.getElem_mem h
def don (t : Int) (d : S42) : S42 := ⟨0, d.f1, 19, t, 0, 0, d.f6, 0, 0⟩
theorem dlOf_filter (b iv : Int) (q : List S65) (i : Nat) (hq : ∀ c ∈ (rd_T65 q (i : Int)).f1, 0 ≤ c ∧ c < 1000) : (dlOf b iv q i).filter (fun x => x.f2 == 19) = ((rd_T65 q (i : Int)).f1.map (mkd (rd_T65 q (i : Int)).f0)).map (don (wrap64 (Int.tdiv b 1000000))) := by
  unfold dlOf
  rw [List.filter_append]
  have h2 : ([if sup q i = true then (⟨0, (rd_T65 q (i : Int)).f0, 23, 0, 0, 0, 0, 0, 0⟩ : S42) else ⟨0, (rd_T65 q (i : Int)).f0, 22, wrap64 (Int.tdiv b 1000), 0, 0, wrap64 (Int.tdiv b iv), 0, 0⟩]).filter (fun x => x.f2 == 19) = [] := by
    by_cases h : sup q i = true
    · rw [if_pos h]; rfl
    · rw [if_neg h]; rfl
  rw [h2, List.append_nil, List.filter_eq_self.2, List.map_map]
  · refine List.map_congr_left (fun c hc => ?_)
    have := hq c hc
    have e : wrap64 c = c := by unfold wrap64; omega
    simp only [Function.comp, don, mkd, e]
  · intro x hx
    obtain ⟨c, _, rfl⟩ := List.mem_map.1 hx
    rfl
theorem dl_filter (b iv : Int) (q : List S65) (hq : ∀ x ∈ q, ∀ c ∈ x.f1, 0 ≤ c ∧ c < 1000) : ∀ n, n ≤ q.length → (dlAll b iv q n).filter (fun x => x.f2 == 19) = (wtOf (q.take n)).map (don (wrap64 (Int.tdiv b 1000000))) := by
  intro n
  induction n with
  | zero => intro _; rfl
  | succ k ih =>
    intro hk
    rw [dl_succ, List.filter_append, ih (by omega), dlOf_filter b iv q k (hq _ (rd65_mem q k hk)), take65 q k hk, wtOf_app, List.map_append]
theorem filter_at {α : Type} (p : α → Bool) (l : List α) (j : Nat) (x : α) (h : l[j]? = some x) (hp : p x = true) : (l.filter p)[((l.take j).filter p).length]? = some x := by
  have hj : j < l.length := by
    rcases Nat.lt_or_ge j l.length with h1 | h1
    · exact h1
    · rw [List.getElem?_eq_none h1] at h
      cases h
  have e : l.drop j = x :: l.drop (j + 1) := by
    rw [List.drop_eq_getElem_cons hj]
    rw [List.getElem?_eq_getElem hj] at h
    rw [Option.some.inj h]
  have e2 : l.filter p = (l.take j).filter p ++ (x :: (l.drop (j + 1)).filter p) := by
    conv => lhs; rw [← List.take_append_drop j l, List.filter_append, e, List.filter_cons, hp]
    rfl
  rw [e2, List.getElem?_append_right (Nat.le_refl _), Nat.sub_self]
  rfl
theorem filter_take {α : Type} (p : α → Bool) (l : List α) (j : Nat) (x : α) (h : l[j]? = some x) : ((l.take (j + 1)).filter p).length = ((l.take j).filter p).length + (if p x = true then 1 else 0) := by
  rw [List.take_add_one, h, Option.toList_some, List.filter_append, List.length_append]
  by_cases hp : p x = true
  · rw [if_pos hp, List.filter_cons, hp]; rfl
  · rw [if_neg hp, List.filter_cons]; simp [hp]
theorem clk_now (b : Int) (h0 : 0 ≤ b) (h1 : b ≤ 60) : clampOf ((b + 1) * 1000000000) = (b + 1) * 1000000000 ∧ mx (b * 1000000000) ((b + 1) * 1000000000) = (b + 1) * 1000000000 ∧ nextOf 1000000000 (b * 1000000000) = (b + 1) * 1000000000 := by
  refine ⟨by unfold clampOf mn mx; omega, by unfold mx; omega, ?_⟩
  have e : mn (mx (b * 1000000000) 0) 4611686018427387904 = b * 1000000000 := by unfold mn mx; omega
  unfold nextOf
  rw [e, Int.tdiv_eq_ediv_of_nonneg (by omega)]
  have e2 : b * 1000000000 / 1000000000 = b := by omega
  rw [e2]
  have w1 : wrap64 b = b := by unfold wrap64; omega
  have w2 : wrap64 (b + 1) = b + 1 := by unfold wrap64; omega
  rw [w1, w2]
  unfold wrap64
  omega
theorem clk_time (b : Int) (h0 : 0 ≤ b) (h1 : b ≤ 61) : wrap64 (Int.tdiv (b * 1000000000) 1000000) = 1000 * b := by
  rw [Int.tdiv_eq_ediv_of_nonneg (by omega)]
  unfold wrap64
  omega
theorem clk_seq (b : Int) (h0 : 0 ≤ b) (h1 : b ≤ 61) : wrap64 (Int.tdiv (b * 1000000000) 1000000000) = b := by
  rw [Int.tdiv_eq_ediv_of_nonneg (by omega)]
  unfold wrap64
  omega
end
end Go.Proofs.YtancbjonkbdhdaaGreat.All
end
section
namespace Go.Proofs.YtancbjonkbdhdaaGreat.All
open Go.RowKit Go.Proofs.YtancbjonkbdhdaaGreatW.PrintWords Go.Proofs.YtancbjonkbdhdaaGreatW.PrintLast Go.Proofs.YtancbjonkbdhdaaGreatW.PrintMore
attribute [local go_sem] max2_int min2_int max_two min_two max_three min_three max_four min_four
set_option linter.unusedVariables false
set_option linter.unusedSimpArgs false
section
open Go.Proofs.YtancbjonkbdhdaaGreatHand Go.Proofs.YtancbjonkbdhdaaGreatSq
set_option maxHeartbeats 16000000
set_option maxRecDepth 100000
structure IV (k b : Nat) (q : List S65) (l0 l1 : List Int) : Prop where
  hk : k ≤ 60
  hb : b ≤ k
  hq : q.length ≤ k
  hl : l0.length + l1.length + (wtOf q).length ≤ k
  hcb : ∀ x ∈ q, x.f1.length ≤ 60
  hrq : ∀ x ∈ q, ∀ c ∈ x.f1, 0 ≤ c ∧ c < 1000
  hr0 : ∀ c ∈ l0, 0 ≤ c ∧ c < 1000
  hr1 : ∀ c ∈ l1, 0 ≤ c ∧ c < 1000
theorem IV.push0 {k b : Nat} {q : List S65} {l0 l1 : List Int} (h : IV k b q l0 l1) (hk : k + 1 ≤ 60) : IV (k + 1) b q (l0 ++ [100 + (k : Int)]) l1 :=
  ⟨hk, Nat.le_succ_of_le h.hb, Nat.le_succ_of_le h.hq, (by have := h.hl; rw [List.length_append, List.length_singleton]; omega), h.hcb, h.hrq, (fun c hc => (List.mem_append.1 hc).elim (h.hr0 c) (fun h1 => by rw [List.mem_singleton.1 h1]; omega)), h.hr1⟩
theorem IV.push1 {k b : Nat} {q : List S65} {l0 l1 : List Int} (h : IV k b q l0 l1) (hk : k + 1 ≤ 60) : IV (k + 1) b q l0 (l1 ++ [100 + (k : Int)]) :=
  ⟨hk, Nat.le_succ_of_le h.hb, Nat.le_succ_of_le h.hq, (by have := h.hl; rw [List.length_append, List.length_singleton]; omega), h.hcb, h.hrq, h.hr0, (fun c hc => (List.mem_append.1 hc).elim (h.hr1 c) (fun h1 => by rw [List.mem_singleton.1 h1]; omega))⟩
theorem IV.com0 {k b : Nat} {q : List S65} {l0 l1 : List Int} (h : IV k b q l0 l1) (hk : k + 1 ≤ 60) (s : Int) : IV (k + 1) b (q ++ [⟨s, l0⟩]) [] l1 :=
  ⟨hk, Nat.le_succ_of_le h.hb, (by have := h.hq; rw [List.length_append, List.length_singleton]; omega), (by have := h.hl; rw [wtOf_app, List.length_append, List.length_map, List.length_nil]; simp only []; omega), (fun x hx => (List.mem_append.1 hx).elim (h.hcb x) (fun h1 => by rw [List.mem_singleton.1 h1]; have := h.hl; have := h.hk; simp only []; omega)), (fun x hx => (List.mem_append.1 hx).elim (h.hrq x) (fun h1 => by rw [List.mem_singleton.1 h1]; exact h.hr0)), (by simp), h.hr1⟩
theorem IV.com1 {k b : Nat} {q : List S65} {l0 l1 : List Int} (h : IV k b q l0 l1) (hk : k + 1 ≤ 60) (s : Int) : IV (k + 1) b (q ++ [⟨s, l1⟩]) l0 [] :=
  ⟨hk, Nat.le_succ_of_le h.hb, (by have := h.hq; rw [List.length_append, List.length_singleton]; omega), (by have := h.hl; rw [wtOf_app, List.length_append, List.length_map, List.length_nil]; simp only []; omega), (fun x hx => (List.mem_append.1 hx).elim (h.hcb x) (fun h1 => by rw [List.mem_singleton.1 h1]; have := h.hl; have := h.hk; simp only []; omega)), (fun x hx => (List.mem_append.1 hx).elim (h.hrq x) (fun h1 => by rw [List.mem_singleton.1 h1]; exact h.hr1)), h.hr0, (by simp)⟩
theorem at_i64 {w : World} {A : Option Addr} {n : Nat} {xs : List Int} (h : Kd.C (Kd.int .i64) w A n xs) (i : Int) (h0 : 0 ≤ i) (h1 : i < n) : ∃ ad, A = some ad ∧ w.cell? (ad.add i.toNat) = some (.int .i64 (xs.getD i.toNat 0)) := by
  obtain ⟨ad, c, e, _, hK, hc0⟩ := Kd.C_get h (0 : Int) i h0 h1
  have hc : ∀ j u, c[j]? = some u → w.cell? (ad.add (i.toNat * 1 + j)) = some u := hc0
  have hk : c = [.int .i64 (xs.getD i.toNat 0)] := hK
  subst hk
  exact ⟨ad, e, by have hq := hc 0 _ rfl; rwa [Nat.mul_one, Nat.add_zero] at hq⟩
theorem tk_map (q : List S65) (l : List Int) (s : Int) (j : Nat) (h : j < l.length) : (wtOf q ++ (l.take j).map (mkd s)) ++ [mkd s (l.getD j 0)] = wtOf q ++ (l.take (j + 1)).map (mkd s) := by
  rw [List.take_add_one, List.getElem?_eq_getElem h, List.map_append, List.append_assoc, List.getD_eq_getElem?_getD, List.getElem?_eq_getElem h]
  rfl
theorem IV.tick {k b : Nat} {q : List S65} {l0 l1 : List Int} (h : IV k b q l0 l1) (hk : k + 1 ≤ 60) : IV (k + 1) (b + 1) [] l0 l1 :=
  ⟨hk, Nat.succ_le_succ h.hb, Nat.zero_le _, (by have := h.hl; show l0.length + l1.length + 0 ≤ k + 1; omega), (by simp), (by simp), h.hr0, h.hr1⟩
def isD (x : S42) : Bool := x.f2 == 19
theorem got42 (l : List S42) (j : Nat) (h : j < l.length) : l[j]? = some (rd_T42 l (j : Int)) := by
  unfold rd_T42
  rw [Int.toNat_natCast, List.getD_eq_getElem?_getD, List.getElem?_eq_getElem h]
  rfl
theorem told (DL wt : List S42) (t : Int) (hF : DL.filter isD = wt.map (don t)) (j : Nat) (h : j < DL.length) (hd : (rd_T42 DL (j : Int)).f2 = 19) : ((DL.take j).filter isD).length < wt.length ∧ (rd_T42 DL (j : Int)).f1 = (rd_T42 wt ((((DL.take j).filter isD).length : Nat) : Int)).f1 ∧ (rd_T42 DL (j : Int)).f6 = (rd_T42 wt ((((DL.take j).filter isD).length : Nat) : Int)).f6 ∧ (rd_T42 DL (j : Int)).f3 = t ∧ ((DL.take (j + 1)).filter isD).length = ((DL.take j).filter isD).length + 1 := by
  have hp : isD (rd_T42 DL (j : Int)) = true := by unfold isD; rw [hd]; rfl
  have h1 := filter_at isD DL j _ (got42 DL j h) hp
  have h2 := filter_take isD DL j _ (got42 DL j h)
  rw [if_pos hp] at h2
  rw [hF, List.getElem?_map] at h1
  generalize ((DL.take j).filter isD).length = n at h1 h2 ⊢
  have hn : n < wt.length := by
    rcases Nat.lt_or_ge n wt.length with h3 | h3
    · exact h3
    · rw [List.getElem?_eq_none h3] at h1
      cases h1
  rw [got42 wt n hn] at h1
  have h4 := Option.some.inj h1
  rw [← h4]
  exact ⟨hn, rfl, rfl, rfl, h2⟩
theorem untold (DL : List S42) (j : Nat) (h : j < DL.length) (hd : ¬ (rd_T42 DL (j : Int)).f2 = 19) : ((DL.take (j + 1)).filter isD).length = ((DL.take j).filter isD).length := by
  have h2 := filter_take isD DL j _ (got42 DL j h)
  rw [if_neg (by unfold isD; simpa using hd)] at h2
  exact h2
theorem info3_ : (Tryz.prog.info? 3).map (fun i => (i.zero, i.size, i.bytes)) = some (some (.int .i64 0), 1, 8) := by kernel_rfl
theorem TT.gp0 {w0 w w1 : World} {own : Nat → Nat} {gc gs gp g0 g1 : Nat} {b : Int} {vq : Value} {q : List S65} {s0 : Int} {v0 : Value} {l0 : List Int} {n0 : Int} {s1 : Int} {v1 : Value} {l1 : List Int} {n1 : Int} {p0 : Value} {P0 : List Int} {p1 : Value} {P1 : List Int} {vw : Value} {wt : List S42} (h : TT w0 w own gc gs gp g0 g1 b vq q s0 v0 l0 n0 s1 v1 l1 n1 p0 P0 p1 P1 vw wt) (hg : w.grownBy w1 p0.ownBlock) : w1.heap[gp]? = some (.cells #[p0, p1] 33 (0, 0)) :=
  blk_grown h.ap hg (fun e => by have e2 : own gp = 4 := h.r0.1 gp e.symm; rw [h.oap] at e2; cases e2)
theorem TT.gp1 {w0 w w1 : World} {own : Nat → Nat} {gc gs gp g0 g1 : Nat} {b : Int} {vq : Value} {q : List S65} {s0 : Int} {v0 : Value} {l0 : List Int} {n0 : Int} {s1 : Int} {v1 : Value} {l1 : List Int} {n1 : Int} {p0 : Value} {P0 : List Int} {p1 : Value} {P1 : List Int} {vw : Value} {wt : List S42} (h : TT w0 w own gc gs gp g0 g1 b vq q s0 v0 l0 n0 s1 v1 l1 n1 p0 P0 p1 P1 vw wt) (hg : w.grownBy w1 p1.ownBlock) : w1.heap[gp]? = some (.cells #[p0, p1] 33 (0, 0)) :=
  blk_grown h.ap hg (fun e => by have e2 : own gp = 5 := h.r1.1 gp e.symm; rw [h.oap] at e2; cases e2)
theorem wm_ {k : Nat} (h : k ≤ 1000000) : wrap64 ((k : Int) + 1) = ((k + 1 : Nat) : Int) := by unfold wrap64; omega
theorem wk_ {k : Nat} (h : k ≤ 60) : wrap64 ((k : Int) + 1) = ((k + 1 : Nat) : Int) := by unfold wrap64; omega
theorem chk_o : output_Check.f ⟨#[111]⟩ 1 1 1000 1 0 0 0 = some 0 := by kernel_rfl
theorem int_o : output_Interval.f ⟨#[111]⟩ 1 1 1000 1 0 0 0 = some 1000000000 := by kernel_rfl
theorem TT.start (w0 w : World) (gc gs gp g0 g1 : Nat) (h1 : gc < g0) (h2 : g0 < g1) (h3 : g1 < gs) (h4 : gs < gp) (hl : w0.heap.size ≤ gc) (bc : w.heap[gc]? = some (.cells #[.int .i64 1000000000, .int .i64 0, (.slice none 0 0)] 50 (0, 0))) (b0 : w.heap[g0]? = some (.cells (Srf 0 (.slice none 0 0) 0 (.slice none 0 0) (.slice none 0 0) false 0) 61 (0, 0))) (b1 : w.heap[g1]? = some (.cells (Srf 0 (.slice none 0 0) 0 (.slice none 0 0) (.slice none 0 0) false 0) 61 (0, 0))) (bs : w.heap[gs]? = some (.cells #[.pointer (some ⟨g0, 0, none⟩), .pointer (some ⟨g1, 0, none⟩)] 31 (0, 0))) (bp : w.heap[gp]? = some (.cells #[(.slice none 0 0), (.slice none 0 0)] 33 (0, 0))) (hB : Below w0.heap.size w0 w) :
    ∃ own, TT w0 w own gc gs gp g0 g1 ((0 : Nat) : Int) (.slice none 0 0) [] 0 (.slice none 0 0) [] 0 0 (.slice none 0 0) [] 0 (.slice none 0 0) [] (.slice none 0 0) [] (.slice none 0 0) (wtOf []) := by
  refine ⟨fun k => if k = gc then 1 else if k = g0 then 2 else if k = g1 then 3 else if k = gs then 8 else if k = gp then 7 else 0, ?_⟩
  have e0 : (((0 : Nat) : Int) * 1000000000) = 0 := by simp
  refine ⟨⟨⟨by rw [e0]; exact bc, hl, Kd.N_nil _ _ _ _ _, hB⟩, Kd.N_nil _ _ _ _ _, by simp⟩, ⟨b0, Kd.R_nil _ _ _ _ _, ?_, by omega, .inl ⟨rfl, rfl⟩⟩, ⟨b1, Kd.R_nil _ _ _ _ _, ?_, by omega, .inl ⟨rfl, rfl⟩⟩, bs, ?_, bp, ?_, by omega, Kd.R_nil _ _ _ _ _, Kd.R_nil _ _ _ _ _, Kd.R_nil _ _ _ _ _, hB⟩
  · simp only []; rw [if_neg (by omega), if_pos trivial]
  · simp only []; rw [if_neg (by omega), if_neg (by omega), if_pos trivial]
  · simp only []; rw [if_neg (by omega), if_neg (by omega), if_neg (by omega), if_pos trivial]
  · simp only []; rw [if_neg (by omega), if_neg (by omega), if_neg (by omega), if_neg (by omega), if_pos trivial]
theorem toplaw_ok (A : Option Addr) (c : Nat) (st : List Int) (w : World) (hr : Kd.C (Kd.int .u8) w A st.length st) (hrg : ∀ x ∈ st, 0 ≤ x ∧ x ≤ 255) :
    Calls Tryz.prog 3 #[.slice A st.length c] w fun e w' => e = .returned (.bool true) ∧ Below w.heap.size w w' := by
  have hu28 := Tryz.underlying28
  have HR := Aside0.mk hr
  have HG := Aside0.mk hrg
  clear hr hrg
  go_enter Tryz.func3, Tryz.ntmps3
  go_wp2_with fail
  refine (new_ok ⟨#[111]⟩ 1 1 1000 1 0 0 0 1000000000 w chk_o int_o).mono ?_
  rintro e w1 ⟨gc, rfl, hC, hgl, hb⟩
  have H1 := Aside0.mk (And.intro hC (And.intro hgl hb))
  clear hC hgl hb hu28
  go_wp2_with fail
  refine (newS_ok _).mono ?_
  rintro e w2 ⟨g0, rfl, hC, hgl, hb⟩
  have H2 := Aside0.mk (And.intro (blk_below H1.out.1 hb) (And.intro hC (And.intro (below_step H1.out.2.2 hb) (And.intro (blk_lt H1.out.1) (And.intro hgl H1.out.2.1)))))
  have H2b := Aside0.mk H1.out.2.2.size
  clear hC hgl hb H1
  go_wp2_with fail
  refine (newS_ok _).mono ?_
  rintro e w3 ⟨g1, rfl, hC, hgl, hb⟩
  have H3 := Aside0.mk (And.intro (blk_below H2.out.1 hb) (And.intro (blk_below H2.out.2.1 hb) (And.intro hC (And.intro (below_step H2.out.2.2.1 hb) (And.intro (blk_lt H2.out.2.1) (And.intro hgl H2.out.2.2.2))))))
  clear hC hgl hb H2
  go_upto_region 3 with fail
  obtain ⟨hL4, hb4⟩ := allocs1 w3 (Obj.cells #[.pointer (some ⟨g0, 0, none⟩), .pointer (some ⟨g1, 0, none⟩)] 31)
  have hz4 := size_al w3 (Obj.cells #[.pointer (some ⟨g0, 0, none⟩), .pointer (some ⟨g1, 0, none⟩)] 31)
  generalize w3.alloc (Obj.cells #[.pointer (some ⟨g0, 0, none⟩), .pointer (some ⟨g1, 0, none⟩)] 31) = w4 at hL4 hb4 hz4 ⊢
  have hlt1 := blk_lt H3.out.2.2.1
  have H4 := Aside0.mk (And.intro (blk_below H3.out.1 hb4) (And.intro (blk_below H3.out.2.1 hb4) (And.intro (blk_below H3.out.2.2.1 hb4) (And.intro hL4 (below_step H3.out.2.2.2.1 hb4)))))
  have HD : Aside0 (gc < g0 ∧ g0 < g1 ∧ g1 < w3.heap.size ∧ w.heap.size ≤ gc ∧ w4.heap.size = w3.heap.size + 1) := ⟨by have := H3.out.2.2.2.2; omega⟩
  clear hL4 hb4 hz4 hlt1 H3 H2b
  generalize w3.heap.size = gs at H4 HD ⊢
  have q0 : w4.cell? ⟨gs, 0, none⟩ = some (.pointer (some ⟨g0, 0, none⟩)) := (blk_cell H4.out.2.2.2.1 0).trans rfl
  have f0 := blk_frozen H4.out.2.2.2.1 0
  have q1 : w4.cell? ⟨gs, 1, none⟩ = some (.pointer (some ⟨g1, 0, none⟩)) := (blk_cell H4.out.2.2.2.1 1).trans rfl
  have f1 := blk_frozen H4.out.2.2.2.1 1
  by_cases hn : st.length ≤ 60
  · have d60 : decide (60 < (st.length : Int)) = false := decide_eq_false (by omega)
    have HN := Aside0.mk hn
    clear hn
    go_upto_region 8 with fail
    clear q0 q1 f0 f1 d60
    obtain ⟨hL5, hb5⟩ := allocs1 w4 (Obj.cells #[.slice none 0 0, .slice none 0 0] 33)
    have HT0 := TT.start w (w4.alloc (Obj.cells #[.slice none 0 0, .slice none 0 0] 33)) gc gs w4.heap.size g0 g1 HD.out.1 HD.out.2.1 HD.out.2.2.1 (by have := HD.out.2.2.2.2; omega) HD.out.2.2.2.1 (blk_below H4.out.1 hb5) (blk_below H4.out.2.1 hb5) (blk_below H4.out.2.2.1 hb5) (blk_below H4.out.2.2.2.1 hb5) hL5 (below_step H4.out.2.2.2.2 hb5)
    clear hL5 hb5 H4 HD
    generalize w4.alloc (Obj.cells #[.slice none 0 0, .slice none 0 0] 33) = w5 at HT0 ⊢
    generalize w4.heap.size = gp at HT0 ⊢
    obtain ⟨own0, HT0⟩ := HT0
    have HT1 := Aside0.mk HT0
    clear HT0
    go_wp2_with fail
    go_loopw [7, 8, 9] (fun v7 v8 v9 w' => ∃ (k b : Nat) (own : Nat → Nat) (vq : Value) (q : List S65) (s0 : Int) (v0 : Value) (l0 : List Int) (n0 s1 : Int) (v1 : Value) (l1 : List Int) (n1 : Int) (p0 p1 vw : Value), k ≤ st.length ∧ v7 = vw ∧ v8 = .int .i64 b ∧ v9 = .int .i64 k ∧ Aside0 (TT w w' own gc gs gp g0 g1 (b : Int) vq q s0 v0 l0 n0 s1 v1 l1 n1 p0 l0 p1 l1 vw (wtOf q)) ∧ Aside0 (IV k b q l0 l1)) (fun _ _ v9 _ => st.length - (intOf v9).toNat)
    case atStart => exact ⟨0, 0, own0, _, [], _, _, [], _, _, _, [], _, _, _, _, Nat.zero_le _, rfl, rfl, rfl, HT1, ⟨⟨by omega, by omega, Nat.le_refl _, Nat.le_refl _, by simp, by simp, by simp, by simp⟩⟩⟩
    case round =>
      obtain ⟨k, b, own, vq, q, s0, v0, l0, n0, s1, v1, l1, n1, p0, p1, vw, hk, rfl, rfl, rfl, HT, HI⟩ := hrel
      clear HT1
      obtain ⟨Aw, cw, ew⟩ := Kd.R_slice HT.out.rw_
      subst ew
      by_cases hlt : k < st.length
      · have hlt' : (k : Int) < (st.length : Int) := by omega
        have h0k : 0 ≤ (k : Int) := by omega
        obtain ⟨ad, ea, xa⟩ := at_u8 (Kd.C_below HR.out HT.out.bl) (k : Int) h0k hlt'
        subst ea
        simp only [Int.toNat_natCast] at xa
        have hx := HG.out (st.getD k 0) (by rw [List.getD_eq_getElem?_getD, List.getElem?_eq_getElem hlt]; exact List.getElem_mem hlt)
        generalize st.getD k 0 = x at xa hx
        have HV := HI.out
        have HKW := Aside0.mk (wk_ (k := k) HV.hk)
        have HKM := Aside0.mk (meas_ hlt)
        have HKL : Aside0 (k + 1 ≤ 60) := ⟨by have := HN.out; omega⟩
        have hx2 : x % 2 = 0 ∨ x % 2 = 1 := by omega
        have hx3 : x / 2 % 3 = 0 ∨ x / 2 % 3 = 1 ∨ x / 2 % 3 = 2 := by omega
        clear HV
        go_upto_region 28 with fail
        clear xa
        generalize x % 2 = m at hx2 ⊢
        generalize x / 2 % 3 = y at hx3 ⊢
        rcases hx3 with rfl | rfl | rfl
        · rcases hx2 with rfl | rfl
          · have K100 : wrap64 (100 + (k : Int)) = 100 + (k : Int) := by have := HKL.out; unfold wrap64; omega
            have KU : (100 + (k : Int)) % 4294967296 = 100 + (k : Int) := by have := HKL.out; omega
            have qs := (blk_cell HT.out.ar 0).trans rfl
            have qf := blk_frozen HT.out.ar 0
            go_wp2_with fail
            refine (frame_ok w wr g0 s0 v0 l0 false n0 (100 + (k : Int)) (fun j => own j = 12 ∨ wr.heap.size ≤ j) HT.out.su0.blk (HT.out.su0.st.elim (fun h => .inl h.1) .inr) (Kd.R_mono HT.out.su0.row (fun j hj => .inl hj)) (fun j hj => .inr hj) (fun h => by rcases h with h | h; (· rw [HT.out.su0.og] at h; cases h); (· have := blk_lt HT.out.su0.blk; omega)) HT.out.bl HT.out.su0.low (by omega) (by have := HI.out.hl; have := HI.out.hk; omega)).mono ?_
            rintro e w6 ⟨rfl, v6, hG6, hR6, hB6, hK6⟩
            have HT6 := Aside0.mk (HT.out.frame0 hG6 hR6 hB6 hK6)
            generalize upd own wr.heap.size 12 = own6 at HT6
            clear hG6 hR6 hB6 hK6 HT qs qf
            obtain ⟨Ap, cp, ep⟩ := Kd.R_slice HT6.out.r0
            subst ep
            have qp := (blk_cell HT6.out.ap 0).trans rfl
            have qpf := blk_frozen HT6.out.ap 0
            go_wp2_with (first | ((with_reducible refine gate_builtin (b := .append) (xs := #[.tmp 137, .tmp 140]) rfl ?_); at_builtin; refine Kd.R_append (Kd.int .i64) (w0 := w) w.heap.size rfl (.tmp 137) (.tmp 140) 32 3 (.int .i64 0) 8 rfl Tryz.underlying32 info3_ rfl (by decide) (by decide) (.slice Ap l0.length cp) l0 (100 + (k : Int)) [.int .i64 (100 + (k : Int))] (fun j => own6 j = 4 ∨ w6.heap.size ≤ j) (fun _ => False) rfl rfl ?aP (fun _ hk => hk.elim) ?aF ?aO ?aB ?aS ?aL ?_; (case aP => rfl); (case aF => exact fun j hj => .inr hj); (case aO => exact Kd.R_mono HT6.out.r0 (fun j hj => .inl hj)); (case aB => exact HT6.out.bl); (case aS => exact HT6.out.bl.size); (case aL => have := HI.out.hl; have := HI.out.hk; omega); intro v8 w8 ho hb hgx hat; obtain ⟨A8, c8, e8⟩ := Kd.R_slice ho; subst e8; rw [List.length_append, List.length_singleton] at ho; have HP := Aside0.mk (HT6.out.push0 (v := .slice A8 (l0.length + 1) c8) ho hb hgx); have hgp := HT6.out.gp0 hgx; clear ho hb hgx hat qp qpf; have qp := (blk_cell hgp 0).trans rfl; have qpf := blk_frozen hgp 0; clear hgp))
            exact ⟨⟨k + 1, b, _, vq, q, 128, v6, (l0 ++ [100 + (k : Int)]), n0, s1, v1, l1, n1, _, _, _, hlt, rfl, rfl, rfl, HP, ⟨HI.out.push0 HKL.out⟩⟩, HKM.out⟩
          · have K100 : wrap64 (100 + (k : Int)) = 100 + (k : Int) := by have := HKL.out; unfold wrap64; omega
            have KU : (100 + (k : Int)) % 4294967296 = 100 + (k : Int) := by have := HKL.out; omega
            have qs := (blk_cell HT.out.ar 1).trans rfl
            have qf := blk_frozen HT.out.ar 1
            go_wp2_with fail
            refine (frame_ok w wr g1 s1 v1 l1 false n1 (100 + (k : Int)) (fun j => own j = 13 ∨ wr.heap.size ≤ j) HT.out.su1.blk (HT.out.su1.st.elim (fun h => .inl h.1) .inr) (Kd.R_mono HT.out.su1.row (fun j hj => .inl hj)) (fun j hj => .inr hj) (fun h => by rcases h with h | h; (· rw [HT.out.su1.og] at h; cases h); (· have := blk_lt HT.out.su1.blk; omega)) HT.out.bl HT.out.su1.low (by omega) (by have := HI.out.hl; have := HI.out.hk; omega)).mono ?_
            rintro e w6 ⟨rfl, v6, hG6, hR6, hB6, hK6⟩
            have HT6 := Aside0.mk (HT.out.frame1 hG6 hR6 hB6 hK6)
            generalize upd own wr.heap.size 13 = own6 at HT6
            clear hG6 hR6 hB6 hK6 HT qs qf
            obtain ⟨Ap, cp, ep⟩ := Kd.R_slice HT6.out.r1
            subst ep
            have qp := (blk_cell HT6.out.ap 1).trans rfl
            have qpf := blk_frozen HT6.out.ap 1
            go_wp2_with (first | ((with_reducible refine gate_builtin (b := .append) (xs := #[.tmp 137, .tmp 140]) rfl ?_); at_builtin; refine Kd.R_append (Kd.int .i64) (w0 := w) w.heap.size rfl (.tmp 137) (.tmp 140) 32 3 (.int .i64 0) 8 rfl Tryz.underlying32 info3_ rfl (by decide) (by decide) (.slice Ap l1.length cp) l1 (100 + (k : Int)) [.int .i64 (100 + (k : Int))] (fun j => own6 j = 5 ∨ w6.heap.size ≤ j) (fun _ => False) rfl rfl ?aP (fun _ hk => hk.elim) ?aF ?aO ?aB ?aS ?aL ?_; (case aP => rfl); (case aF => exact fun j hj => .inr hj); (case aO => exact Kd.R_mono HT6.out.r1 (fun j hj => .inl hj)); (case aB => exact HT6.out.bl); (case aS => exact HT6.out.bl.size); (case aL => have := HI.out.hl; have := HI.out.hk; omega); intro v8 w8 ho hb hgx hat; obtain ⟨A8, c8, e8⟩ := Kd.R_slice ho; subst e8; rw [List.length_append, List.length_singleton] at ho; have HP := Aside0.mk (HT6.out.push1 (v := .slice A8 (l1.length + 1) c8) ho hb hgx); have hgp := HT6.out.gp1 hgx; clear ho hb hgx hat qp qpf; have qp := (blk_cell hgp 1).trans rfl; have qpf := blk_frozen hgp 1; clear hgp))
            exact ⟨⟨k + 1, b, _, vq, q, s0, v0, l0, n0, 128, v6, (l1 ++ [100 + (k : Int)]), n1, _, _, _, hlt, rfl, rfl, rfl, HP, ⟨HI.out.push1 HKL.out⟩⟩, HKM.out⟩
        · rcases hx2 with rfl | rfl
          · obtain ⟨Av, cv, ev⟩ := Kd.R_slice HT.out.su0.row
            subst ev
            obtain ⟨Ap, cp, ep⟩ := Kd.R_slice HT.out.r0
            subst ep
            have HLL : Aside0 (l0.length ≤ 60 ∧ q.length ≤ 60 ∧ (wtOf q).length ≤ 60) := ⟨by have := HI.out.hl; have := HI.out.hk; have := HI.out.hq; omega⟩
            have qs := (blk_cell HT.out.ar 0).trans rfl
            have qf := blk_frozen HT.out.ar 0
            go_wp2_with fail
            have hRv := Kd.R_reads' HT.out.su0.row
            refine (commitS_ok w wr g0 s0 Av cv l0 false n0 HT.out.su0.blk hRv.2.2 hRv.2.1 (Nat.le_trans HLL.out.1 (by decide)) HT.out.su0.st HT.out.bl HT.out.su0.low).mono ?_
            rintro e w6 ⟨rfl, v6, n6, hG6, hR6, hK6, hB6⟩
            obtain ⟨A6, c6, e6⟩ := Kd.R_slice hR6
            subst e6
            have har : w6.heap[gs]? = some (.cells #[.pointer (some ⟨g0, 0, none⟩), .pointer (some ⟨g1, 0, none⟩)] 31 (0, 0)) := blk_kept HT.out.ar hK6 (fun e => by have e1 := HT.out.oar; rw [e, HT.out.su0.og] at e1; cases e1)
            have H6 := Aside0.mk (And.intro hG6 (And.intro hR6 (And.intro hK6 hB6)))
            clear hG6 hR6 hK6 hB6 hRv qs qf
            have qs := (blk_cell har 0).trans rfl
            have qf := blk_frozen har 0
            clear har
            go_wp2_with fail
            have hRv := Kd.R_reads' H6.out.2.1
            refine (take_ok w6 g0 A6 c6 l0 false n6 H6.out.1 hRv.2.2 hRv.2.1 (Nat.le_trans HLL.out.1 (by decide))).mono ?_
            rintro e w7 ⟨v7, rfl, hG7, hR7, hK7, w7b, hB7, e7⟩
            obtain ⟨A7, c7, e8⟩ := Kd.R_slice hR7
            subst e8
            have HT7 := Aside0.mk (HT.out.take0 hG7 (by rw [e7]; exact below_set (below_step H6.out.2.2.2 hB7) HT.out.su0.low) (H6.out.2.2.1.then_ hK7 (fun _ h => .inl h)))
            have HR7 := Aside0.mk hR7
            generalize upd own wr.heap.size 9 = own7 at HT7
            clear hG7 hR7 hK7 hB7 e7 hRv qs qf HT H6
            go_wp2_with fail
            have hRv := Kd.R_reads' HR7.out
            refine (commit_okP w w7 gc 1000000000 ((b : Int) * 1000000000) 1 vq q A7 c7 l0 (fun j => own7 j = 11 ∨ w7.heap.size ≤ j) HT7.out.ck.clk (Kd.N_mono HT7.out.ck.nq (fun j hj => ⟨hj.1, .inl hj.2⟩)) (fun j hj => .inr hj) (by decide) (by decide) (by have := HLL.out; omega) (by have := HLL.out; omega) hRv.2.2 hRv.2.1).mono ?_
            rintro e w8 ⟨rfl, vq8, hC8, hN8, hS8⟩
            have HT8 := Aside0.mk (HT7.out.queue hC8 hN8 hS8)
            generalize upd own7 w7.heap.size 11 = own8 at HT8
            clear hC8 hN8 hS8 hRv HT7 HR7
            go_wp2_with fail
            go_loopw [7, 11] (fun v7 v11 w' => ∃ (j : Nat) (own : Nat → Nat) (vw : Value), j ≤ l0.length ∧ v7 = vw ∧ v11 = .int .i64 j ∧ Aside0 (TT w w' own gc gs gp g0 g1 (b : Int) vq8 (q ++ [⟨1, l0⟩]) 0 (.slice none 0 0) [] n6 s1 v1 l1 n1 (.slice Ap l0.length cp) l0 p1 l1 vw (wtOf q ++ (l0.take j).map (mkd 1)))) (fun _ v11 _ => l0.length - (intOf v11).toNat)
            case atStart => exact ⟨0, own8, _, Nat.zero_le _, rfl, rfl, ⟨by have h := HT8.out; simpa using h⟩⟩
            case round =>
              obtain ⟨j, own9, vw, hj, rfl, rfl, HT9⟩ := hrel
              clear HT8
              obtain ⟨Aj, cj, ej⟩ := Kd.R_slice HT9.out.rw_
              subst ej
              by_cases hjl : j < l0.length
              · have hjl' : (j : Int) < (l0.length : Int) := by omega
                have h0j : 0 ≤ (j : Int) := by omega
                have HTK := Aside0.mk (tk_map q l0 1 j hjl)
                have HWL : Aside0 ((wtOf q ++ (l0.take j).map (mkd 1)).length ≤ 120) := ⟨by rw [List.length_append, List.length_map, List.length_take]; have := HLL.out; omega⟩
                have HKJ := Aside0.mk (wk_ (k := j) (by have := HLL.out; omega))
                have HMJ := Aside0.mk (meas_ hjl)
                obtain ⟨adp, eap, xp⟩ := at_i64 (Kd.R_reads' HT9.out.r0).2.2 (j : Int) h0j hjl'
                subst eap
                simp only [Int.toNat_natCast] at xp
                generalize l0.getD j 0 = y at xp HTK
                generalize wtOf q ++ (l0.take j).map (mkd 1) = WL at HT9 HTK HWL ⊢
                have qp := (blk_cell HT9.out.ap 0).trans rfl
                have qpf := blk_frozen HT9.out.ap 0
                go_wp2_with (first | ((with_reducible refine gate_builtin (b := .append) (xs := #[.tmp 169, .tmp 179]) rfl ?_); at_builtin; refine Kd.R_append k42 (w0 := w) w.heap.size rfl (.tmp 169) (.tmp 179) 34 42 (.agg #[(.int .i64 0), (.int .i64 0), (.int .i64 0), (.int .i64 0), (.int .i64 0), (.int .i64 0), (.int .i64 0), (.int .i64 0), (.int .u32 0)]) 72 rfl Tryz.underlying34 info42 rfl (by decide) (by decide) (.slice Aj WL.length cj) WL (mkd 1 y) [.int .i64 0, .int .i64 1, .int .i64 19, .int .i64 0, .int .i64 0, .int .i64 0, .int .i64 y, .int .i64 0, .int .u32 0] (fun n => own9 n = 6 ∨ wr.heap.size ≤ n) (fun _ => False) rfl rfl ?aP (fun _ hk => hk.elim) ?aF ?aO ?aB ?aS ?aL ?_; (case aP => exact k42_mkM _ _ _ (mkd 1 y)); (case aF => exact fun n hn => .inr hn); (case aO => exact Kd.R_mono HT9.out.rw_ (fun n hn => .inl hn)); (case aB => exact HT9.out.bl); (case aS => exact HT9.out.bl.size); (case aL => have := HWL.out; omega); intro v3 w3 ho hb hgx hat; obtain ⟨A3, c3, e3⟩ := Kd.R_slice ho; subst e3; rw [List.length_append, List.length_singleton] at ho; have HP := Aside0.mk (HT9.out.wpush (v := .slice A3 (WL.length + 1) c3) ho hb hgx); clear ho hb hgx hat))
                rw [HKJ.out]
                exact ⟨⟨j + 1, _, _, hjl, rfl, rfl, ⟨by have h := HP.out; rw [HTK.out] at h; exact h⟩⟩, HMJ.out⟩
              · obtain rfl : j = l0.length := by omega
                have e9 : wtOf q ++ (l0.take l0.length).map (mkd 1) = wtOf (q ++ [⟨1, l0⟩]) := by rw [wtOf_app, List.take_length]
                rw [e9] at HT9 ⊢
                have HTc := Aside0.mk HT9.out.clr0
                have qp := (blk_cell HT9.out.ap 0).trans rfl
                have qpf := blk_frozen HT9.out.ap 0
                go_wp2_with fail
                rw [HKW.out]
                exact ⟨⟨k + 1, b, _, vq8, q ++ [⟨1, l0⟩], 0, (.slice none 0 0), [], n6, s1, v1, l1, n1, _, _, _, hlt, rfl, rfl, rfl, HTc, ⟨HI.out.com0 HKL.out 1⟩⟩, HKM.out⟩
          · obtain ⟨Av, cv, ev⟩ := Kd.R_slice HT.out.su1.row
            subst ev
            obtain ⟨Ap, cp, ep⟩ := Kd.R_slice HT.out.r1
            subst ep
            have HLL : Aside0 (l1.length ≤ 60 ∧ q.length ≤ 60 ∧ (wtOf q).length ≤ 60) := ⟨by have := HI.out.hl; have := HI.out.hk; have := HI.out.hq; omega⟩
            have qs := (blk_cell HT.out.ar 1).trans rfl
            have qf := blk_frozen HT.out.ar 1
            go_wp2_with fail
            have hRv := Kd.R_reads' HT.out.su1.row
            refine (commitS_ok w wr g1 s1 Av cv l1 false n1 HT.out.su1.blk hRv.2.2 hRv.2.1 (Nat.le_trans HLL.out.1 (by decide)) HT.out.su1.st HT.out.bl HT.out.su1.low).mono ?_
            rintro e w6 ⟨rfl, v6, n6, hG6, hR6, hK6, hB6⟩
            obtain ⟨A6, c6, e6⟩ := Kd.R_slice hR6
            subst e6
            have har : w6.heap[gs]? = some (.cells #[.pointer (some ⟨g0, 0, none⟩), .pointer (some ⟨g1, 0, none⟩)] 31 (0, 0)) := blk_kept HT.out.ar hK6 (fun e => by have e1 := HT.out.oar; rw [e, HT.out.su1.og] at e1; cases e1)
            have H6 := Aside0.mk (And.intro hG6 (And.intro hR6 (And.intro hK6 hB6)))
            clear hG6 hR6 hK6 hB6 hRv qs qf
            have qs := (blk_cell har 1).trans rfl
            have qf := blk_frozen har 1
            clear har
            go_wp2_with fail
            have hRv := Kd.R_reads' H6.out.2.1
            refine (take_ok w6 g1 A6 c6 l1 false n6 H6.out.1 hRv.2.2 hRv.2.1 (Nat.le_trans HLL.out.1 (by decide))).mono ?_
            rintro e w7 ⟨v7, rfl, hG7, hR7, hK7, w7b, hB7, e7⟩
            obtain ⟨A7, c7, e8⟩ := Kd.R_slice hR7
            subst e8
            have HT7 := Aside0.mk (HT.out.take1 hG7 (by rw [e7]; exact below_set (below_step H6.out.2.2.2 hB7) HT.out.su1.low) (H6.out.2.2.1.then_ hK7 (fun _ h => .inl h)))
            have HR7 := Aside0.mk hR7
            generalize upd own wr.heap.size 9 = own7 at HT7
            clear hG7 hR7 hK7 hB7 e7 hRv qs qf HT H6
            go_wp2_with fail
            have hRv := Kd.R_reads' HR7.out
            refine (commit_okP w w7 gc 1000000000 ((b : Int) * 1000000000) 2 vq q A7 c7 l1 (fun j => own7 j = 11 ∨ w7.heap.size ≤ j) HT7.out.ck.clk (Kd.N_mono HT7.out.ck.nq (fun j hj => ⟨hj.1, .inl hj.2⟩)) (fun j hj => .inr hj) (by decide) (by decide) (by have := HLL.out; omega) (by have := HLL.out; omega) hRv.2.2 hRv.2.1).mono ?_
            rintro e w8 ⟨rfl, vq8, hC8, hN8, hS8⟩
            have HT8 := Aside0.mk (HT7.out.queue hC8 hN8 hS8)
            generalize upd own7 w7.heap.size 11 = own8 at HT8
            clear hC8 hN8 hS8 hRv HT7 HR7
            go_wp2_with fail
            go_loopw [7, 11] (fun v7 v11 w' => ∃ (j : Nat) (own : Nat → Nat) (vw : Value), j ≤ l1.length ∧ v7 = vw ∧ v11 = .int .i64 j ∧ Aside0 (TT w w' own gc gs gp g0 g1 (b : Int) vq8 (q ++ [⟨2, l1⟩]) s0 v0 l0 n0 0 (.slice none 0 0) [] n6 p0 l0 (.slice Ap l1.length cp) l1 vw (wtOf q ++ (l1.take j).map (mkd 2)))) (fun _ v11 _ => l1.length - (intOf v11).toNat)
            case atStart => exact ⟨0, own8, _, Nat.zero_le _, rfl, rfl, ⟨by have h := HT8.out; simpa using h⟩⟩
            case round =>
              obtain ⟨j, own9, vw, hj, rfl, rfl, HT9⟩ := hrel
              clear HT8
              obtain ⟨Aj, cj, ej⟩ := Kd.R_slice HT9.out.rw_
              subst ej
              by_cases hjl : j < l1.length
              · have hjl' : (j : Int) < (l1.length : Int) := by omega
                have h0j : 0 ≤ (j : Int) := by omega
                have HTK := Aside0.mk (tk_map q l1 2 j hjl)
                have HWL : Aside0 ((wtOf q ++ (l1.take j).map (mkd 2)).length ≤ 120) := ⟨by rw [List.length_append, List.length_map, List.length_take]; have := HLL.out; omega⟩
                have HKJ := Aside0.mk (wk_ (k := j) (by have := HLL.out; omega))
                have HMJ := Aside0.mk (meas_ hjl)
                obtain ⟨adp, eap, xp⟩ := at_i64 (Kd.R_reads' HT9.out.r1).2.2 (j : Int) h0j hjl'
                subst eap
                simp only [Int.toNat_natCast] at xp
                generalize l1.getD j 0 = y at xp HTK
                generalize wtOf q ++ (l1.take j).map (mkd 2) = WL at HT9 HTK HWL ⊢
                have qp := (blk_cell HT9.out.ap 1).trans rfl
                have qpf := blk_frozen HT9.out.ap 1
                go_wp2_with (first | ((with_reducible refine gate_builtin (b := .append) (xs := #[.tmp 169, .tmp 179]) rfl ?_); at_builtin; refine Kd.R_append k42 (w0 := w) w.heap.size rfl (.tmp 169) (.tmp 179) 34 42 (.agg #[(.int .i64 0), (.int .i64 0), (.int .i64 0), (.int .i64 0), (.int .i64 0), (.int .i64 0), (.int .i64 0), (.int .i64 0), (.int .u32 0)]) 72 rfl Tryz.underlying34 info42 rfl (by decide) (by decide) (.slice Aj WL.length cj) WL (mkd 2 y) [.int .i64 0, .int .i64 2, .int .i64 19, .int .i64 0, .int .i64 0, .int .i64 0, .int .i64 y, .int .i64 0, .int .u32 0] (fun n => own9 n = 6 ∨ wr.heap.size ≤ n) (fun _ => False) rfl rfl ?aP (fun _ hk => hk.elim) ?aF ?aO ?aB ?aS ?aL ?_; (case aP => exact k42_mkM _ _ _ (mkd 2 y)); (case aF => exact fun n hn => .inr hn); (case aO => exact Kd.R_mono HT9.out.rw_ (fun n hn => .inl hn)); (case aB => exact HT9.out.bl); (case aS => exact HT9.out.bl.size); (case aL => have := HWL.out; omega); intro v3 w3 ho hb hgx hat; obtain ⟨A3, c3, e3⟩ := Kd.R_slice ho; subst e3; rw [List.length_append, List.length_singleton] at ho; have HP := Aside0.mk (HT9.out.wpush (v := .slice A3 (WL.length + 1) c3) ho hb hgx); clear ho hb hgx hat))
                rw [HKJ.out]
                exact ⟨⟨j + 1, _, _, hjl, rfl, rfl, ⟨by have h := HP.out; rw [HTK.out] at h; exact h⟩⟩, HMJ.out⟩
              · obtain rfl : j = l1.length := by omega
                have e9 : wtOf q ++ (l1.take l1.length).map (mkd 2) = wtOf (q ++ [⟨2, l1⟩]) := by rw [wtOf_app, List.take_length]
                rw [e9] at HT9 ⊢
                have HTc := Aside0.mk HT9.out.clr1
                have qp := (blk_cell HT9.out.ap 1).trans rfl
                have qpf := blk_frozen HT9.out.ap 1
                go_wp2_with fail
                rw [HKW.out]
                exact ⟨⟨k + 1, b, _, vq8, q ++ [⟨2, l1⟩], s0, v0, l0, n0, 0, (.slice none 0 0), [], n6, _, _, _, hlt, rfl, rfl, rfl, HTc, ⟨HI.out.com1 HKL.out 2⟩⟩, HKM.out⟩
        · obtain ⟨ck1, ck2, ck3⟩ := clk_now (b : Int) (by omega) (by have := HI.out.hb; have := HI.out.hk; omega)
          have HB61 : Aside0 (b + 1 ≤ 61) := ⟨by have := HI.out.hb; have := HI.out.hk; omega⟩
          have KB : wrap64 ((b : Int) + 1) = (b : Int) + 1 := by have := HB61.out; unfold wrap64; omega
          have KB2 : wrap64 (((b : Int) + 1) * 1000000000) = ((b : Int) + 1) * 1000000000 := by have := HB61.out; unfold wrap64; omega
          go_wp2_with fail
          refine (tick_full w wr gc 1000000000 ((b : Int) * 1000000000) (((b : Int) + 1) * 1000000000) vq q HT.out.ck.clk (by decide) (by have := HI.out.hq; have := HI.out.hk; omega) (fun x hx => by have := HI.out.hcb x hx; omega) (by rw [ck1, ck2, ck3]; omega)).mono ?_
          rintro e w6 ⟨v6, rfl, hR6, hC6, hK6⟩
          rw [ck1, ck2] at hC6
          rw [ck3] at hR6
          have hF : (dlAll (((b : Int) + 1) * 1000000000) 1000000000 q q.length).filter isD = (wtOf q).map (don (1000 * ((b : Int) + 1))) := by
            have h := dl_filter (((b : Int) + 1) * 1000000000) 1000000000 q HI.out.hrq q.length (Nat.le_refl _)
            rw [clk_time _ (by omega) (by have := HB61.out; omega), List.take_length] at h
            exact h
          have hDL := dl_len (((b : Int) + 1) * 1000000000) 1000000000 q (fun x hx => by have := HI.out.hcb x hx; omega) q.length (Nat.le_refl _)
          generalize dlAll (((b : Int) + 1) * 1000000000) 1000000000 q q.length = DL at hR6 hF hDL
          obtain ⟨A6, c6, e6⟩ := Kd.R_slice hR6
          subst e6
          have HT6 := Aside0.mk (HT.out.tick (b' := (b : Int) + 1) hC6 hK6)
          generalize upd own wr.heap.size 9 = own6 at HT6
          have HR6 := Aside0.mk hR6
          have HF := Aside0.mk hF
          have HDL : Aside0 (DL.length ≤ 20000) := ⟨by have := HI.out.hq; have := HI.out.hk; omega⟩
          clear hR6 hC6 hK6 hF hDL ck1 ck2 ck3 HT KB2
          go_wp2_with fail
          go_loopw [13, 14] (fun v13 v14 w' => ∃ j : Nat, j ≤ DL.length ∧ v13 = .int .i64 (((DL.take j).filter isD).length : Nat) ∧ v14 = .int .i64 j ∧ Aside0 (Below w6.heap.size w6 w')) (fun _ v14 _ => DL.length - (intOf v14).toNat)
          case atStart => exact ⟨0, Nat.zero_le _, rfl, rfl, ⟨Below.refl _ _⟩⟩
          case round =>
            obtain ⟨j, hj, rfl, rfl, hB⟩ := hrel
            by_cases hjl : j < DL.length
            · have hjl' : (j : Int) < (DL.length : Int) := by omega
              have h0j : 0 ≤ (j : Int) := by omega
              have HKJ := Aside0.mk (wm_ (k := j) (by have := HDL.out; omega))
              have HMJ := Aside0.mk (meas_ hjl)
              obtain ⟨ad6, e6, x0, x1, x2, x3, x4, x5, x6, x7, x8⟩ := at_T42 (Kd.C_below (Kd.R_reads' HR6.out).2.2 hB.out) (j : Int) h0j hjl'
              subst e6
              simp only [Int.toNat_natCast] at x0 x1 x2 x3 x4 x5 x6 x7 x8
              clear x0 x4 x5 x7 x8
              by_cases hd : (rd_T42 DL (j : Int)).f2 = 19
              · obtain ⟨hn, t1, t6, t3, t9⟩ := told DL (wtOf q) _ HF.out j hjl hd
                have HT9 := Aside0.mk t9
                clear t9
                rw [hd] at x2
                rw [t1] at x1
                rw [t6] at x6
                rw [t3] at x3
                clear t1 t6 t3 hd
                generalize ((DL.take j).filter isD).length = n at hn x1 x6 HT9 ⊢
                have hn' : (n : Int) < ((wtOf q).length : Int) := by omega
                have h0n : 0 ≤ (n : Int) := by omega
                obtain ⟨adw, ew, y0, y1, y2, y3, y4, y5, y6, y7, y8⟩ := at_T42 (Kd.C_below (Kd.R_reads' HT6.out.rw_).2.2 hB.out) (n : Int) h0n hn'
                subst ew
                simp only [Int.toNat_natCast] at y0 y1 y2 y3 y4 y5 y6 y7 y8
                clear y0 y2 y3 y4 y5 y7 y8
                have KT : wrap64 (1000 * ((b : Int) + 1)) = 1000 * ((b : Int) + 1) := by have := HB61.out; unfold wrap64; omega
                have KN : wrap64 ((n : Int) + 1) = ((n + 1 : Nat) : Int) := wm_ (by have := HDL.out; have := hn; have := HI.out.hl; have := HI.out.hk; omega)
                have dn2 : decide ((wtOf q).length ≤ n) = false := decide_eq_false (Nat.not_le.2 hn)
                have dn : decide (((wtOf q).length : Int) ≤ (n : Int)) = false := decide_eq_false (Int.not_le.2 hn')
                go_upto_region 22 with fail
                go_cut [117] (fun v117 w' => v117 = .bool false ∧ Aside0 (Below w6.heap.size w6 w'))
                case first =>
                  go_quiet (fail)
                  go_wp2_with fail
                  go_meet
                  case rel => exact ⟨by first | rfl | (rw [dn2]; (try rw [KB]); rw [i64_w, KT]; simp), ⟨pw_below_drewN hB.out _⟩⟩
                case rest =>
                  obtain ⟨rfl, hB2⟩ := hcut
                  clear x1 x2 x3 x6 y1 y6 hB
                  go_wp2_with fail
                  rw [KN, HKJ.out]
                  exact ⟨⟨j + 1, hjl, by rw [HT9.out], rfl, hB2⟩, HMJ.out⟩
              · have hu := untold DL j hjl hd
                have d19 : ((rd_T42 DL (j : Int)).f2 == 19) = false := by simpa using hd
                clear x1 x3 x6
                go_wp2_with fail
                rw [HKJ.out]
                exact ⟨⟨j + 1, hjl, by rw [hu], rfl, hB⟩, HMJ.out⟩
            · obtain rfl : j = DL.length := by omega
              have hlen : ((DL.take DL.length).filter isD).length = (wtOf q).length := by rw [List.take_length, HF.out, List.length_map]
              rw [hlen]
              have HTn := Aside0.mk (HT6.out.below hB.out).wclr
              have KB3 : ((b : Int) + 1) = ((b + 1 : Nat) : Int) := rfl
              go_wp2_with fail
              rw [HKW.out]
              exact ⟨⟨k + 1, b + 1, own6, _, [], s0, v0, l0, n0, s1, v1, l1, n1, _, _, _, hlt, rfl, rfl, rfl, HTn, ⟨HI.out.tick HKL.out⟩⟩, HKM.out⟩
      · obtain ⟨Aq, cq, eq⟩ := Kd.N_slice HT.out.ck.nq
        subst eq
        have hc := HT.out.ck.clk.cells
        have HB61 : Aside0 (b + 1 ≤ 61) := ⟨by have := HI.out.hb; have := HI.out.hk; omega⟩
        have dq : decide (0 ≤ (q.length : Int)) = true := decide_eq_true (Int.natCast_nonneg _)
        have hkn : k = st.length := by omega
        subst hkn
        go_wp2_with fail
        refine (pending_ok wr gc 1000000000 Aq q.length cq hc.1.1 hc.1.2 hc.2.2.1 hc.2.2.2 (by decide)).mono ?_
        rintro e w6 ⟨rfl, nd, rfl⟩
        go_wp2_with fail
        have hc2 := (HT.out.ck.clk.drewN nd).cells
        refine (sequence_ok _ gc 1000000000 ((b : Int) * 1000000000) hc2.1.1 hc2.1.2 hc2.2.1.1 hc2.2.1.2 (by decide)).mono ?_
        rintro e w7 ⟨rfl, nd2, rfl⟩
        rw [clk_seq (b : Int) (by omega) (by have := HB61.out; omega)]
        go_wp2_with fail
        go_ret
        exact ⟨by simp, pw_below_drewN HT.out.bl (nd + nd2)⟩
  · have d60 : decide (60 < (st.length : Int)) = true := decide_eq_true (by omega)
    clear hn
    go_wp2_with fail
    go_ret
    exact ⟨rfl, H4.out.2.2.2.2⟩
def compositortop_TopPresent.f (l0 : List Int) : Option Bool := if ∀ x ∈ l0, 0 ≤ x ∧ x ≤ 255 then some true else none
theorem compositortop_TopPresent.calls (A0 : Option Addr) (c0 : Nat) (l0 : List Int) (w : World) (hr0 : Kd.C (Kd.int .u8) w A0 l0.length l0) (hc0 : l0.length ≤ c0) (h : compositortop_TopPresent.f l0 = some true) :
    Calls Tryz.prog 3 #[.slice A0 l0.length c0] w fun e w' => e = .returned (.bool true) ∧ Below w.heap.size w w' := by
  unfold compositortop_TopPresent.f at h
  by_cases hl : ∀ x ∈ l0, 0 ≤ x ∧ x ≤ 255
  · exact toplaw_ok A0 c0 l0 w hr0 hl
  · rw [if_neg hl] at h
    cases h
end
end Go.Proofs.YtancbjonkbdhdaaGreat.All
end
section
namespace Go.Proofs.YtancbjonkbdhdaaGreat.Pure
open Go.RowKit Go.Proofs.YtancbjonkbdhdaaGreatW.PrintWords Go.Proofs.YtancbjonkbdhdaaGreatW.PrintMore Go.Proofs.YtancbjonkbdhdaaGreat.All
set_option linter.unusedVariables false
set_option linter.unusedSimpArgs false
theorem u8_rng {x : Int} (ok : (Lit.int .u8 x).wf = true) : 0 ≤ x ∧ x ≤ 255 := by
  simpa [Lit.wf, IntKind.min, IntKind.max, IntKind.signed, IntKind.bits] using ok
theorem TopPresent (x0 : List Int) (ok0 : x0.length * 1 ≤ 140737488351232 ∧ x0.length ≤ 9223372036854775807 ∧ ∀ y33 ∈ x0, (Lit.int .u8 y33).wf = true) :
    compositortop_TopPresent.f x0 = some true := by
  unfold compositortop_TopPresent.f
  rw [if_pos]
  exact fun x hx => u8_rng (ok0.2.2 x hx)
end Go.Proofs.YtancbjonkbdhdaaGreat.Pure
end
section
namespace Go.Proofs.YtancbjonkbdhdaaGreatOpens
open Go.ChangeShapes Go.WideShapes Go.RowKit Go.Proofs.YtancbjonkbdhdaaGreatW.PrintWords
section
variable {H : Type} {enc : TypeId × Value → H} {P : Program} {W : World}
def Opens {α : Type} (enc : TypeId × Value → H) (P : Program) (W : World) (t : TypeId) (d : Kd α) (ok : α → Prop) : Prop :=
  ∀ fuel cs y, DataW.trod enc P W 0 (fun _ => true) true fuel t cs = some y → (∀ n ∈ y.1.weights P t, n ≤ reachBytes) → ∃ x, d.K W x cs ∧ ok x
theorem opens_int {t : TypeId} {k : IntKind} (ht : P.underlying t = some (.int k)) : Opens enc P W t (Kd.int k) (fun x => (Lit.int k x).wf = true) := by
  intro fuel cs y h _
  obtain ⟨n, rfl, _, hw⟩ := DataW.trod_int ht h
  exact ⟨n, rfl, hw⟩
theorem weightsAll_mem {e : TypeId} : ∀ {l : List (DataW H)} {d : DataW H}, d ∈ l → ∀ n ∈ d.weights P e, n ∈ DataW.weightsAll P e l
  | d0 :: r, d, hd, n, hn => by
    simp only [DataW.weightsAll, List.mem_append]
    rcases List.mem_cons.1 hd with rfl | hd
    · exact .inl hn
    · exact .inr (weightsAll_mem hd n hn)
theorem choose_list {α : Type} (n : Nat) (R : Nat → α → Prop) (h : ∀ i, i < n → ∃ x, R i x) : ∃ l : List α, l.length = n ∧ ∀ i x, l[i]? = some x → R i x := by
  induction n with
  | zero => exact ⟨[], rfl, fun i x hx => by simp at hx⟩
  | succ n ih =>
    obtain ⟨l, hl, hr⟩ := ih (fun i hi => h i (by omega))
    obtain ⟨x, hx⟩ := h n (by omega)
    refine ⟨l ++ [x], by simp [hl], fun i y hy => ?_⟩
    rcases Nat.lt_or_ge i l.length with hi | hi
    · rw [List.getElem?_append_left hi] at hy
      exact hr i y hy
    · rw [List.getElem?_append_right hi] at hy
      obtain ⟨hi2, rfl⟩ : i - l.length = 0 ∧ x = y := by
        rcases Nat.eq_zero_or_pos (i - l.length) with h0 | h0
        · rw [h0] at hy; simp at hy; exact ⟨h0, hy⟩
        · rw [List.getElem?_eq_none (by simp; omega)] at hy; cases hy
      have : i = n := by omega
      subst this
      exact hx
theorem opens_slice {α : Type} {t e : TypeId} {d : Kd α} {ok : α → Prop} {B : Nat} (ht : P.underlying t = some (.slice e)) (hc : P.cellsOf e = d.sz) (hB : P.bytesOf e = B) (he : Opens enc P W e d ok) :
    Opens enc P W t (Kd.slice e d) (fun l => l.length * B ≤ 140737488351232 ∧ l.length ≤ 9223372036854775807 ∧ ∀ x ∈ l, ok x) := by
  intro fuel cs y h hz
  rcases DataW.trod_slice ht h with ⟨rfl, _⟩ | ⟨a, len, cap, elems, rest, n, _, rfl, rfl, _, hl, hm, hlen, hel, _, _⟩
  · exact ⟨[], ⟨none, 0, rfl, by simp, rfl, by simp, fun h0 => absurd h0 (by simp)⟩, by simp, by simp, by simp⟩
  · have hw : ∀ n ∈ (((elems.map (·.1)).length + (rest.map (·.1)).length) * P.bytesOf e) :: (DataW.weightsAll P e (elems.map (·.1)) ++ DataW.weightsAll P e (rest.map (·.1))), n ≤ reachBytes := by
      intro m hm'
      refine hz m ?_
      simp only [DataW.weights, ht]
      exact hm'
    obtain ⟨l, hll, hlr⟩ := choose_list (α := α) len (fun i x => ok x ∧ ∃ c, c.length = d.sz ∧ d.K W x c ∧ ∀ j u, c[j]? = some u → W.cell? (a.add (i * d.sz + j)) = some u) (by
      intro i hi
      have h1 := hel i hi
      rw [List.getElem?_eq_getElem (by omega)] at h1
      obtain ⟨c, hcs, htr⟩ := Option.bind_eq_some_iff.1 h1
      have hmem : (elems[i]'(by omega)).1 ∈ elems.map (·.1) := List.mem_map.2 ⟨_, List.getElem_mem _, rfl⟩
      obtain ⟨x, hK, hok⟩ := he n c _ htr (fun m hm' => hw m (by
        refine List.mem_cons_of_mem _ (List.mem_append_left _ ?_)
        exact weightsAll_mem hmem m hm'))
      refine ⟨x, hok, c, d.K_len hK, hK, fun j u hu => ?_⟩
      rw [hc] at hcs
      unfold World.cells? at hcs
      split at hcs
      · have hj : j < d.sz := by
          have := (List.getElem?_eq_some_iff.1 hu).1
          rw [d.K_len hK] at this
          exact this
        have h2 := mapM_some_get hcs j j (by simp [hj])
        rw [hu] at h2
        rw [← h2]
        congr 1
        have : ∀ (a : Addr) (p q : Nat), (a.add p).add q = a.add (p + q) := by
          intro a p q
          unfold Addr.add
          split
          · split <;> simp_all
          · split <;> simp_all [Nat.add_assoc]
        exact (this a _ _).symm
      · cases hcs)
    refine ⟨l, ⟨some a, cap, by rw [hll], by omega, rfl, by unfold maxLen at hm; omega, fun _ => ⟨a, rfl, fun j p hp => ?_⟩⟩, ?_, by unfold maxLen at hm; omega, fun x hx => ?_⟩
    · obtain ⟨_, c, h1, h2, h3⟩ := hlr j p hp
      exact ⟨c, h1, h2, h3⟩
    · have := hw _ List.mem_cons_self
      rw [hB] at this
      simp only [List.length_map, hlen] at this
      rw [hll]
      unfold reachBytes at this
      exact Nat.le_trans (Nat.mul_le_mul_right _ (Nat.le_add_right _ _)) this
    · obtain ⟨i, hi, rfl⟩ := List.getElem_of_mem hx
      exact (hlr i _ (List.getElem?_eq_getElem hi)).1
theorem opens_arg {α : Type} {ts : List TypeId} {ds : List (DataW H)} {j : Nat} {t : TypeId} {v : Value} {dt : DataW H} {ps : List MemPlace} {d : Kd α} {ok : α → Prop} (h : Opens enc P W t d ok)
    (hsz : (DataW.weightsEach P ts ds).all (· ≤ reachBytes) = true) (ht : ts[j]? = some t) (hd : ds[j]? = some dt) (hr : DataW.Trod enc P W 0 (fun _ => true) true t v dt ps) : ∃ x, d.K W x v.cells.toList ∧ ok x := by
  obtain ⟨fuel, hf⟩ := hr
  exact h fuel _ _ hf (fun n hn => by simpa using List.all_eq_true.1 hsz n (DataW.weights_mem_each ht hd n hn))
end
theorem slice_of {a A : Option Addr} {len cap n c : Nat} (h : (Value.slice a len cap).cells.toList = [.slice A n c]) : A = a ∧ len = n ∧ c = cap := by
  simp [Value.cells] at h
  exact ⟨h.1.symm, h.2.1, h.2.2.symm⟩
end Go.Proofs.YtancbjonkbdhdaaGreatOpens
end
