-- The texts behind this claim's law, put together by a program of this session (shake.py): what no text uses is left out. Its words are print.sh's.
import Derived.SizedLaws
import Derived.ChangeSlices
import Derived.OpenShut
import Derived.Test.YtmockeaiccpogaaSBufferNeutral16
section
namespace Go.Proofs.Ytmockeaiccpogaa.All
open Go.Proofs.YtmockeaiccpogaaSq
open Go.RowKit Go.Proofs.YtmockeaiccpogaaW.PrintWords Go.Proofs.YtmockeaiccpogaaW.PrintLast Go.Proofs.YtmockeaiccpogaaW.PrintMore
attribute [local go_sem] max2_int min2_int max_two min_two max_three min_three max_four min_four
set_option linter.unusedVariables false
set_option linter.unusedSimpArgs false
mutual
def compositorlaw09_BufferNeutral.j0 : Nat → Bool → Int → Int → List (S43) → Int → Int → List (S43) → Option (Bool)
 | 0, _, _, _, _, _, _, _ => none
 | k + 1, x32, x675000, x675001, x675002, x676000, x676001, x676002 => if x32 = true then ((compositorlaw09_exampleHolds.f k).bind fun t680 => (some t680)) else ((buffer_Paste.f x675000 x675001 x675002 x675000 x675001 x675002 0 0).bind fun bt681 => ((buffer_New.f k x675000 x675001 0 0 0 0).bind fun bt688 => ((buffer_BlendOver.f x675000 x675001 x675002 bt688.1 bt688.2.1 bt688.2.2.1 0 0).bind fun bt695 => ((buffer_Paste.f x675000 x675001 x675002 x676000 x676001 x676002 x675000 0).bind fun bt702 => ((buffer_BlendOver.f x675000 x675001 x675002 x676000 x676001 x676002 0 (wrap64 (-x676001))).bind fun bt709 => (if bt681.2.2.2 = 0 then (if bt688.2.2.2 = 0 then (if bt695.2.2.2 = 0 then (if bt702.2.2.2 = 0 then (compositorlaw09_BufferNeutral.j1 k (bt709.2.2.2 != 0) x675000 x675001 x675002 bt681.1 bt681.2.1 bt681.2.2.1 bt695.1 bt695.2.1 bt695.2.2.1 bt702.1 bt702.2.1 bt702.2.2.1 bt709.1 bt709.2.1 bt709.2.2.1) else (compositorlaw09_BufferNeutral.j1 k true x675000 x675001 x675002 bt681.1 bt681.2.1 bt681.2.2.1 bt695.1 bt695.2.1 bt695.2.2.1 bt702.1 bt702.2.1 bt702.2.2.1 bt709.1 bt709.2.1 bt709.2.2.1)) else (compositorlaw09_BufferNeutral.j1 k true x675000 x675001 x675002 bt681.1 bt681.2.1 bt681.2.2.1 bt695.1 bt695.2.1 bt695.2.2.1 bt702.1 bt702.2.1 bt702.2.2.1 bt709.1 bt709.2.1 bt709.2.2.1)) else (compositorlaw09_BufferNeutral.j1 k true x675000 x675001 x675002 bt681.1 bt681.2.1 bt681.2.2.1 bt695.1 bt695.2.1 bt695.2.2.1 bt702.1 bt702.2.1 bt702.2.2.1 bt709.1 bt709.2.1 bt709.2.2.1)) else (compositorlaw09_BufferNeutral.j1 k true x675000 x675001 x675002 bt681.1 bt681.2.1 bt681.2.2.1 bt695.1 bt695.2.1 bt695.2.2.1 bt702.1 bt702.2.1 bt702.2.2.1 bt709.1 bt709.2.1 bt709.2.2.1)))))))
def compositorlaw09_BufferNeutral.j1 : Nat → Bool → Int → Int → List (S43) → Int → Int → List (S43) → Int → Int → List (S43) → Int → Int → List (S43) → Int → Int → List (S43) → Option (Bool)
 | 0, _, _, _, _, _, _, _, _, _, _, _, _, _, _, _, _ => none
 | k + 1, x89, x675000, x675001, x675002, x688000, x688001, x688002, x702000, x702001, x702002, x709000, x709001, x709002, x716000, x716001, x716002 => if x89 = true then (some false) else ((compositorref09_Equal.f k x688000 x688001 x688002 x675000 x675001 x675002).bind fun t716 => (if t716 = true then ((compositorref09_Equal.f k x702000 x702001 x702002 x675000 x675001 x675002).bind fun t717 => (if t717 = true then ((compositorref09_Equal.f k x709000 x709001 x709002 x675000 x675001 x675002).bind fun t718 => (if t718 = true then ((compositorref09_Equal.f k x716000 x716001 x716002 x675000 x675001 x675002).bind fun t719 => (if t719 = true then ((compositorlaw09_exampleHolds.f k).bind fun t720 => (some t720)) else (some false))) else (some false))) else (some false))) else (some false)))
end
def compositorlaw09_BufferNeutral.f (k : Nat) (a0_0 : Int) (a0_1 : Int) (l0_2 : List (S43)) (a1_0 : Int) (a1_1 : Int) (l1_2 : List (S43)) : Option (Bool) := (compositorlaw09_small.f a0_0 a0_1 l0_2).bind fun t676 => (if t676 = true then ((compositorlaw09_small.f a1_0 a1_1 l1_2).bind fun t677 => (if t677 = true then ((compositorref09_Valid.f k a0_0 a0_1 l0_2).bind fun t678 => (if t678 = true then ((compositorref09_Valid.f k a1_0 a1_1 l1_2).bind fun t679 => (compositorlaw09_BufferNeutral.j0 k (!t679) a0_0 a0_1 l0_2 a1_0 a1_1 l1_2)) else (compositorlaw09_BufferNeutral.j0 k true a0_0 a0_1 l0_2 a1_0 a1_1 l1_2))) else (compositorlaw09_BufferNeutral.j0 k true a0_0 a0_1 l0_2 a1_0 a1_1 l1_2))) else (compositorlaw09_BufferNeutral.j0 k true a0_0 a0_1 l0_2 a1_0 a1_1 l1_2))
set_option maxHeartbeats 8000000 in
set_option maxRecDepth 100000 in
theorem compositorlaw09_BufferNeutral.calls (k : Nat) (a0_0 : Int) (a0_1 : Int) (A0_2 : Option Addr) (c0_2 : Nat) (l0_2 : List (S43)) (a1_0 : Int) (a1_1 : Int) (A1_2 : Option Addr) (c1_2 : Nat) (l1_2 : List (S43)) (w : World) (hr0_2 : Kd.C k43 w A0_2 l0_2.length l0_2) (hc0_2 : l0_2.length ≤ c0_2) (hr1_2 : Kd.C k43 w A1_2 l1_2.length l1_2) (hc1_2 : l1_2.length ≤ c1_2) (h : compositorlaw09_BufferNeutral.f k a0_0 a0_1 l0_2 a1_0 a1_1 l1_2 = some true) :
  Calls Try.prog 12 #[.agg #[.int .i64 a0_0, .int .i64 a0_1, .slice A0_2 l0_2.length c0_2], .agg #[.int .i64 a1_0, .int .i64 a1_1, .slice A1_2 l1_2.length c1_2]] w fun e w' => e = .returned (.bool true) ∧ Below w.heap.size w w' := by
 have hu27 := Try.underlying27
 have hu43 := Try.underlying43
 have HR0_2 := Aside0.mk hr0_2
 have HC0_2 := Aside0.mk hc0_2
 clear hr0_2 hc0_2
 have HR1_2 := Aside0.mk hr1_2
 have HC1_2 := Aside0.mk hc1_2
 clear hr1_2 hc1_2
 have HB := Aside0.mk (Below.refl w.heap.size w)
 have H : ((compositorlaw09_small.f a0_0 a0_1 l0_2).bind fun t676 => (if t676 = true then ((compositorlaw09_small.f a1_0 a1_1 l1_2).bind fun t677 => (if t677 = true then ((compositorref09_Valid.f k a0_0 a0_1 l0_2).bind fun t678 => (if t678 = true then ((compositorref09_Valid.f k a1_0 a1_1 l1_2).bind fun t679 => (compositorlaw09_BufferNeutral.j0 k (!t679) a0_0 a0_1 l0_2 a1_0 a1_1 l1_2)) else (compositorlaw09_BufferNeutral.j0 k true a0_0 a0_1 l0_2 a1_0 a1_1 l1_2))) else (compositorlaw09_BufferNeutral.j0 k true a0_0 a0_1 l0_2 a1_0 a1_1 l1_2))) else (compositorlaw09_BufferNeutral.j0 k true a0_0 a0_1 l0_2 a1_0 a1_1 l1_2))) = some true := h
 clear h
 have HC3 := Aside0.mk H
 clear H
 go_enter Try.func12, Try.ntmps12
 go_upto_region 1 with (first | ((with_reducible refine gate_dst (N := 2) rfl ?_); refine box_event ?hg (N := 2) ?hd (cs := #[.int .i64 a0_0, .int .i64 a0_1, .slice A0_2 l0_2.length c0_2]) (t := 27) ?hr ?_; (case hd => rfl); (case hg => rfl); (case hr => first | (go_simp; done) | (go_simp; rfl)); intro gb674 hg w4 hbox hb; have n0_ := hb_ HB hb; have n1_ := Aside0.mk (hbox); have n2_ := Aside0.mk ((by rw [hg]; exact (below_size (hq_ HB)) : w.heap.size ≤ gb674)); have n3_ := Aside0.mk ((by rw [hg]; exact (below_size (hq_ HB)) : w.heap.size ≤ gb674)); clear HB; have HB := n0_; have BK674 := n1_; have GW674 := n2_; have GE674 := n3_; clear n0_ n1_ n2_ n3_; clear hb hbox hg) | ((with_reducible refine gate_dst (N := 3) rfl ?_); refine box_event ?hg (N := 3) ?hd (cs := #[.int .i64 a1_0, .int .i64 a1_1, .slice A1_2 l1_2.length c1_2]) (t := 27) ?hr ?_; (case hd => rfl); (case hg => rfl); (case hr => first | (go_simp; done) | (go_simp; rfl)); intro gb675 hg w5 hbox hb; have n0_ := bb_ BK674 hb; have n1_ := hb_ HB hb; have n2_ := Aside0.mk (hbox); have n3_ := Aside0.mk ((by rw [hg]; exact (below_size (hq_ HB)) : w.heap.size ≤ gb675)); have n4_ := Aside0.mk ((by rw [hg]; exact (below_size (hq_ HB)) : w.heap.size ≤ gb675)); have n5_ := Aside0.mk ((by rw [hg]; exact Nat.ne_of_lt (blk_lt (g := gb674) (o := .cells #[.int .i64 a0_0, .int .i64 a0_1, .slice A0_2 l0_2.length c0_2] 27 (0, 0)) (bq_ BK674)) : gb674 ≠ gb675)); have n6_ := Aside0.mk ((by rw [hg]; exact Nat.ne_of_gt (blk_lt (g := gb674) (o := .cells #[.int .i64 a0_0, .int .i64 a0_1, .slice A0_2 l0_2.length c0_2] 27 (0, 0)) (bq_ BK674)) : gb675 ≠ gb674)); clear BK674; clear HB; have BK674 := n0_; have HB := n1_; have BK675 := n2_; have GW675 := n3_; have GE675 := n4_; have NB674_675 := n5_; have NB675_674 := n6_; clear n0_ n1_ n2_ n3_ n4_ n5_ n6_; clear hb hbox hg))
 (try simp only [Act.put, List.setIfInBounds_toArray, List.set_cons_zero, List.set_cons_succ])
 go_cut [32] (fun v32 wc => ∃ (kq : Nat) (x32_2 : Bool), v32 = .bool x32_2 ∧ Aside0 (compositorlaw09_BufferNeutral.j0 kq x32_2 a0_0 a0_1 l0_2 a1_0 a1_1 l1_2 = some true) ∧ Aside0 (kq ≤ k) ∧ Aside0 (wc.heap[gb674]? = some (.cells #[.int .i64 a0_0, .int .i64 a0_1, (.slice A0_2 l0_2.length c0_2)] 27 (0, 0))) ∧ Aside0 (wc.heap[gb675]? = some (.cells #[.int .i64 a1_0, .int .i64 a1_1, (.slice A1_2 l1_2.length c1_2)] 27 (0, 0))) ∧ Aside0 (Below w.heap.size w wc))
 case first =>
  have H := HC3.out
  clear HC3
  replace H := Option.bind_eq_some_iff.mp H
  obtain ⟨t676, A60, H⟩ := H
  try dsimp only at H
  have A6 := Aside0.mk A60
  clear A60
  by_cases c7 : t676 = true
  ·
   subst c7
   have H1 : ((compositorlaw09_small.f a1_0 a1_1 l1_2).bind fun t677 => (if t677 = true then ((compositorref09_Valid.f k a0_0 a0_1 l0_2).bind fun t678 => (if t678 = true then ((compositorref09_Valid.f k a1_0 a1_1 l1_2).bind fun t679 => (compositorlaw09_BufferNeutral.j0 k (!t679) a0_0 a0_1 l0_2 a1_0 a1_1 l1_2)) else (compositorlaw09_BufferNeutral.j0 k true a0_0 a0_1 l0_2 a1_0 a1_1 l1_2))) else (compositorlaw09_BufferNeutral.j0 k true a0_0 a0_1 l0_2 a1_0 a1_1 l1_2))) = some true := by rw [if_pos rfl] at H; exact H
   clear H
   have H := H1
   clear H1
   replace H := Option.bind_eq_some_iff.mp H
   obtain ⟨t677, A80, H⟩ := H
   try dsimp only at H
   have A8 := Aside0.mk A80
   clear A80
   by_cases c9 : t677 = true
   ·
    subst c9
    have H1 : ((compositorref09_Valid.f k a0_0 a0_1 l0_2).bind fun t678 => (if t678 = true then ((compositorref09_Valid.f k a1_0 a1_1 l1_2).bind fun t679 => (compositorlaw09_BufferNeutral.j0 k (!t679) a0_0 a0_1 l0_2 a1_0 a1_1 l1_2)) else (compositorlaw09_BufferNeutral.j0 k true a0_0 a0_1 l0_2 a1_0 a1_1 l1_2))) = some true := by rw [if_pos rfl] at H; exact H
    clear H
    have H := H1
    clear H1
    replace H := Option.bind_eq_some_iff.mp H
    obtain ⟨t678, A100, H⟩ := H
    try dsimp only at H
    have A10 := Aside0.mk A100
    clear A100
    by_cases c11 : t678 = true
    ·
     subst c11
     have H1 : ((compositorref09_Valid.f k a1_0 a1_1 l1_2).bind fun t679 => (compositorlaw09_BufferNeutral.j0 k (!t679) a0_0 a0_1 l0_2 a1_0 a1_1 l1_2)) = some true := by rw [if_pos rfl] at H; exact H
     clear H
     have H := H1
     clear H1
     replace H := Option.bind_eq_some_iff.mp H
     obtain ⟨t679, A120, H⟩ := H
     try dsimp only at H
     have A12 := Aside0.mk A120
     clear A120
     have H' := Aside0.mk H
     clear H
     have hnb13 := NB674_675.out
     have hnc13 := NB675_674.out
     have hcz14_0 : w5.cell? ⟨gb674, 0, none⟩ = some (.int .i64 a0_0) := (blk_cell BK674.out 0).trans rfl
     have hcz14_1 : w5.cell? ⟨gb674, 1, none⟩ = some (.int .i64 a0_1) := (blk_cell BK674.out 1).trans rfl
     have hcz14_2 : w5.cell? ⟨gb674, 2, none⟩ = some (.slice A0_2 l0_2.length c0_2) := (blk_cell BK674.out 2).trans rfl
     have hfz14_0 := blk_frozen BK674.out 0
     have hfz14_1 := blk_frozen BK674.out 1
     have hfz14_2 := blk_frozen BK674.out 2
     go_wp2_with (first | ((with_reducible refine gate_callee (f := 22) rfl ?_); refine goesL_ (some 16) rfl rfl Try.func22 (by kernel_rfl) rfl #[.agg #[.int .i64 a0_0, .int .i64 a0_1, .slice A0_2 l0_2.length c0_2]] rfl (by (try simp only [List.map_toArray, List.map_cons, List.map_nil]) <;> rfl) ?_; (with_reducible refine (compositorlaw09_small.calls a0_0 a0_1 _ _ l0_2 true _ ?side1 ?side2 A6.out).mono ?_); (case side1 => repeat (first | exact (Kd.C_below HR0_2.out HB.out) | (with_reducible refine Kd.C_alloc ?_ _) | (with_reducible refine Kd.C_drewN ?_ _) | (with_reducible refine Kd.C_drew ?_))); (case side2 => exact HC0_2.out); rintro e w15 ⟨rfl, hb⟩; refine ⟨_, rfl, ?_⟩; have n0_ := bb_ BK674 hb; have n1_ := bb_ BK675 hb; have n2_ := hb_ HB hb; clear BK674; clear BK675; clear HB; have BK674 := n0_; have BK675 := n1_; have HB := n2_; clear n0_ n1_ n2_; (try clear hb); (try clear hb2); (try clear hk); (try clear hi); have hcz16_0 : w15.cell? ⟨gb675, 0, none⟩ = some (.int .i64 a1_0) := (blk_cell BK675.out 0).trans rfl; have hcz16_1 : w15.cell? ⟨gb675, 1, none⟩ = some (.int .i64 a1_1) := (blk_cell BK675.out 1).trans rfl; have hcz16_2 : w15.cell? ⟨gb675, 2, none⟩ = some (.slice A1_2 l1_2.length c1_2) := (blk_cell BK675.out 2).trans rfl; have hfz16_0 := blk_frozen BK675.out 0; have hfz16_1 := blk_frozen BK675.out 1; have hfz16_2 := blk_frozen BK675.out 2) | (go_at_call 22; (with_reducible refine (compositorlaw09_small.calls a1_0 a1_1 _ _ l1_2 true _ ?side1 ?side2 A8.out).mono ?_); (case side1 => repeat (first | exact (Kd.C_below HR1_2.out HB.out) | (with_reducible refine Kd.C_alloc ?_ _) | (with_reducible refine Kd.C_drewN ?_ _) | (with_reducible refine Kd.C_drew ?_))); (case side2 => exact HC1_2.out); rintro e w17 ⟨rfl, hb⟩; have n0_ := bb_ BK674 hb; have n1_ := bb_ BK675 hb; have n2_ := hb_ HB hb; clear BK674; clear BK675; clear HB; have BK674 := n0_; have BK675 := n1_; have HB := n2_; clear n0_ n1_ n2_; (try clear hb); (try clear hb2); (try clear hk); (try clear hi); have hcz18_0 : w17.cell? ⟨gb674, 0, none⟩ = some (.int .i64 a0_0) := (blk_cell BK674.out 0).trans rfl; have hcz18_1 : w17.cell? ⟨gb674, 1, none⟩ = some (.int .i64 a0_1) := (blk_cell BK674.out 1).trans rfl; have hcz18_2 : w17.cell? ⟨gb674, 2, none⟩ = some (.slice A0_2 l0_2.length c0_2) := (blk_cell BK674.out 2).trans rfl; have hfz18_0 := blk_frozen BK674.out 0; have hfz18_1 := blk_frozen BK674.out 1; have hfz18_2 := blk_frozen BK674.out 2) | (go_at_call 25; (with_reducible refine (compositorref09_Valid.calls k a0_0 a0_1 _ _ l0_2 true _ ?side1 ?side2 A10.out).mono ?_); (case side1 => repeat (first | exact (Kd.C_below HR0_2.out HB.out) | (with_reducible refine Kd.C_alloc ?_ _) | (with_reducible refine Kd.C_drewN ?_ _) | (with_reducible refine Kd.C_drew ?_))); (case side2 => exact HC0_2.out); rintro e w19 ⟨rfl, hb⟩; have n0_ := bb_ BK674 hb; have n1_ := bb_ BK675 hb; have n2_ := hb_ HB hb; clear BK674; clear BK675; clear HB; have BK674 := n0_; have BK675 := n1_; have HB := n2_; clear n0_ n1_ n2_; (try clear hb); (try clear hb2); (try clear hk); (try clear hi); have hcz20_0 : w19.cell? ⟨gb675, 0, none⟩ = some (.int .i64 a1_0) := (blk_cell BK675.out 0).trans rfl; have hcz20_1 : w19.cell? ⟨gb675, 1, none⟩ = some (.int .i64 a1_1) := (blk_cell BK675.out 1).trans rfl; have hcz20_2 : w19.cell? ⟨gb675, 2, none⟩ = some (.slice A1_2 l1_2.length c1_2) := (blk_cell BK675.out 2).trans rfl; have hfz20_0 := blk_frozen BK675.out 0; have hfz20_1 := blk_frozen BK675.out 1; have hfz20_2 := blk_frozen BK675.out 2) | (go_at_call 25; (with_reducible refine (compositorref09_Valid.calls k a1_0 a1_1 _ _ l1_2 t679 _ ?side1 ?side2 A12.out).mono ?_); (case side1 => repeat (first | exact (Kd.C_below HR1_2.out HB.out) | (with_reducible refine Kd.C_alloc ?_ _) | (with_reducible refine Kd.C_drewN ?_ _) | (with_reducible refine Kd.C_drew ?_))); (case side2 => exact HC1_2.out); rintro e w21 ⟨rfl, hb⟩; have n0_ := bb_ BK674 hb; have n1_ := bb_ BK675 hb; have n2_ := hb_ HB hb; clear BK674; clear BK675; clear HB; have BK674 := n0_; have BK675 := n1_; have HB := n2_; clear n0_ n1_ n2_; (try clear hb); (try clear hb2); (try clear hk); (try clear hi)))
     go_meet
     case rel => exact ⟨_, (!t679), (by first | rfl | (simp; done) | (simp [*]; done)), H', ⟨by first | omega | exact Nat.le_refl _⟩, bf_ BK674, bf_ BK675, ⟨by repeat (first | (with_reducible first | exact HB.out | apply below_alloc | apply pw_below_drewN | apply below_drew1 | refine below_set ?_ GE674.out | refine below_set ?_ GE675.out) | exact HB.out)⟩⟩
    ·
     replace c11 := Bool.eq_false_iff.mpr c11
     subst c11
     have H1 : (compositorlaw09_BufferNeutral.j0 k true a0_0 a0_1 l0_2 a1_0 a1_1 l1_2) = some true := by rw [if_neg (show ¬ (false = true) by decide)] at H; exact H
     clear H
     have H := H1
     clear H1
     have H' := Aside0.mk H
     clear H
     have hnb22 := NB674_675.out
     have hnc22 := NB675_674.out
     have hcz23_0 : w5.cell? ⟨gb674, 0, none⟩ = some (.int .i64 a0_0) := (blk_cell BK674.out 0).trans rfl
     have hcz23_1 : w5.cell? ⟨gb674, 1, none⟩ = some (.int .i64 a0_1) := (blk_cell BK674.out 1).trans rfl
     have hcz23_2 : w5.cell? ⟨gb674, 2, none⟩ = some (.slice A0_2 l0_2.length c0_2) := (blk_cell BK674.out 2).trans rfl
     have hfz23_0 := blk_frozen BK674.out 0
     have hfz23_1 := blk_frozen BK674.out 1
     have hfz23_2 := blk_frozen BK674.out 2
     go_wp2_with (first | ((with_reducible refine gate_callee (f := 22) rfl ?_); refine goesL_ (some 16) rfl rfl Try.func22 (by kernel_rfl) rfl #[.agg #[.int .i64 a0_0, .int .i64 a0_1, .slice A0_2 l0_2.length c0_2]] rfl (by (try simp only [List.map_toArray, List.map_cons, List.map_nil]) <;> rfl) ?_; (with_reducible refine (compositorlaw09_small.calls a0_0 a0_1 _ _ l0_2 true _ ?side1 ?side2 A6.out).mono ?_); (case side1 => repeat (first | exact (Kd.C_below HR0_2.out HB.out) | (with_reducible refine Kd.C_alloc ?_ _) | (with_reducible refine Kd.C_drewN ?_ _) | (with_reducible refine Kd.C_drew ?_))); (case side2 => exact HC0_2.out); rintro e w24 ⟨rfl, hb⟩; refine ⟨_, rfl, ?_⟩; have n0_ := bb_ BK674 hb; have n1_ := bb_ BK675 hb; have n2_ := hb_ HB hb; clear BK674; clear BK675; clear HB; have BK674 := n0_; have BK675 := n1_; have HB := n2_; clear n0_ n1_ n2_; (try clear hb); (try clear hb2); (try clear hk); (try clear hi); have hcz25_0 : w24.cell? ⟨gb675, 0, none⟩ = some (.int .i64 a1_0) := (blk_cell BK675.out 0).trans rfl; have hcz25_1 : w24.cell? ⟨gb675, 1, none⟩ = some (.int .i64 a1_1) := (blk_cell BK675.out 1).trans rfl; have hcz25_2 : w24.cell? ⟨gb675, 2, none⟩ = some (.slice A1_2 l1_2.length c1_2) := (blk_cell BK675.out 2).trans rfl; have hfz25_0 := blk_frozen BK675.out 0; have hfz25_1 := blk_frozen BK675.out 1; have hfz25_2 := blk_frozen BK675.out 2) | (go_at_call 22; (with_reducible refine (compositorlaw09_small.calls a1_0 a1_1 _ _ l1_2 true _ ?side1 ?side2 A8.out).mono ?_); (case side1 => repeat (first | exact (Kd.C_below HR1_2.out HB.out) | (with_reducible refine Kd.C_alloc ?_ _) | (with_reducible refine Kd.C_drewN ?_ _) | (with_reducible refine Kd.C_drew ?_))); (case side2 => exact HC1_2.out); rintro e w26 ⟨rfl, hb⟩; have n0_ := bb_ BK674 hb; have n1_ := bb_ BK675 hb; have n2_ := hb_ HB hb; clear BK674; clear BK675; clear HB; have BK674 := n0_; have BK675 := n1_; have HB := n2_; clear n0_ n1_ n2_; (try clear hb); (try clear hb2); (try clear hk); (try clear hi); have hcz27_0 : w26.cell? ⟨gb674, 0, none⟩ = some (.int .i64 a0_0) := (blk_cell BK674.out 0).trans rfl; have hcz27_1 : w26.cell? ⟨gb674, 1, none⟩ = some (.int .i64 a0_1) := (blk_cell BK674.out 1).trans rfl; have hcz27_2 : w26.cell? ⟨gb674, 2, none⟩ = some (.slice A0_2 l0_2.length c0_2) := (blk_cell BK674.out 2).trans rfl; have hfz27_0 := blk_frozen BK674.out 0; have hfz27_1 := blk_frozen BK674.out 1; have hfz27_2 := blk_frozen BK674.out 2) | (go_at_call 25; (with_reducible refine (compositorref09_Valid.calls k a0_0 a0_1 _ _ l0_2 false _ ?side1 ?side2 A10.out).mono ?_); (case side1 => repeat (first | exact (Kd.C_below HR0_2.out HB.out) | (with_reducible refine Kd.C_alloc ?_ _) | (with_reducible refine Kd.C_drewN ?_ _) | (with_reducible refine Kd.C_drew ?_))); (case side2 => exact HC0_2.out); rintro e w28 ⟨rfl, hb⟩; have n0_ := bb_ BK674 hb; have n1_ := bb_ BK675 hb; have n2_ := hb_ HB hb; clear BK674; clear BK675; clear HB; have BK674 := n0_; have BK675 := n1_; have HB := n2_; clear n0_ n1_ n2_; (try clear hb); (try clear hb2); (try clear hk); (try clear hi)))
     go_meet
     case rel => exact ⟨_, (true), (by first | rfl | (simp; done) | (simp [*]; done)), H', ⟨by first | omega | exact Nat.le_refl _⟩, bf_ BK674, bf_ BK675, ⟨by repeat (first | (with_reducible first | exact HB.out | apply below_alloc | apply pw_below_drewN | apply below_drew1 | refine below_set ?_ GE674.out | refine below_set ?_ GE675.out) | exact HB.out)⟩⟩
   ·
    replace c9 := Bool.eq_false_iff.mpr c9
    subst c9
    have H1 : (compositorlaw09_BufferNeutral.j0 k true a0_0 a0_1 l0_2 a1_0 a1_1 l1_2) = some true := by rw [if_neg (show ¬ (false = true) by decide)] at H; exact H
    clear H
    have H := H1
    clear H1
    have H' := Aside0.mk H
    clear H
    have hnb29 := NB674_675.out
    have hnc29 := NB675_674.out
    have hcz30_0 : w5.cell? ⟨gb674, 0, none⟩ = some (.int .i64 a0_0) := (blk_cell BK674.out 0).trans rfl
    have hcz30_1 : w5.cell? ⟨gb674, 1, none⟩ = some (.int .i64 a0_1) := (blk_cell BK674.out 1).trans rfl
    have hcz30_2 : w5.cell? ⟨gb674, 2, none⟩ = some (.slice A0_2 l0_2.length c0_2) := (blk_cell BK674.out 2).trans rfl
    have hfz30_0 := blk_frozen BK674.out 0
    have hfz30_1 := blk_frozen BK674.out 1
    have hfz30_2 := blk_frozen BK674.out 2
    go_wp2_with (first | ((with_reducible refine gate_callee (f := 22) rfl ?_); refine goesL_ (some 16) rfl rfl Try.func22 (by kernel_rfl) rfl #[.agg #[.int .i64 a0_0, .int .i64 a0_1, .slice A0_2 l0_2.length c0_2]] rfl (by (try simp only [List.map_toArray, List.map_cons, List.map_nil]) <;> rfl) ?_; (with_reducible refine (compositorlaw09_small.calls a0_0 a0_1 _ _ l0_2 true _ ?side1 ?side2 A6.out).mono ?_); (case side1 => repeat (first | exact (Kd.C_below HR0_2.out HB.out) | (with_reducible refine Kd.C_alloc ?_ _) | (with_reducible refine Kd.C_drewN ?_ _) | (with_reducible refine Kd.C_drew ?_))); (case side2 => exact HC0_2.out); rintro e w31 ⟨rfl, hb⟩; refine ⟨_, rfl, ?_⟩; have n0_ := bb_ BK674 hb; have n1_ := bb_ BK675 hb; have n2_ := hb_ HB hb; clear BK674; clear BK675; clear HB; have BK674 := n0_; have BK675 := n1_; have HB := n2_; clear n0_ n1_ n2_; (try clear hb); (try clear hb2); (try clear hk); (try clear hi); have hcz32_0 : w31.cell? ⟨gb675, 0, none⟩ = some (.int .i64 a1_0) := (blk_cell BK675.out 0).trans rfl; have hcz32_1 : w31.cell? ⟨gb675, 1, none⟩ = some (.int .i64 a1_1) := (blk_cell BK675.out 1).trans rfl; have hcz32_2 : w31.cell? ⟨gb675, 2, none⟩ = some (.slice A1_2 l1_2.length c1_2) := (blk_cell BK675.out 2).trans rfl; have hfz32_0 := blk_frozen BK675.out 0; have hfz32_1 := blk_frozen BK675.out 1; have hfz32_2 := blk_frozen BK675.out 2) | (go_at_call 22; (with_reducible refine (compositorlaw09_small.calls a1_0 a1_1 _ _ l1_2 false _ ?side1 ?side2 A8.out).mono ?_); (case side1 => repeat (first | exact (Kd.C_below HR1_2.out HB.out) | (with_reducible refine Kd.C_alloc ?_ _) | (with_reducible refine Kd.C_drewN ?_ _) | (with_reducible refine Kd.C_drew ?_))); (case side2 => exact HC1_2.out); rintro e w33 ⟨rfl, hb⟩; have n0_ := bb_ BK674 hb; have n1_ := bb_ BK675 hb; have n2_ := hb_ HB hb; clear BK674; clear BK675; clear HB; have BK674 := n0_; have BK675 := n1_; have HB := n2_; clear n0_ n1_ n2_; (try clear hb); (try clear hb2); (try clear hk); (try clear hi)))
    go_meet
    case rel => exact ⟨_, (true), (by first | rfl | (simp; done) | (simp [*]; done)), H', ⟨by first | omega | exact Nat.le_refl _⟩, bf_ BK674, bf_ BK675, ⟨by repeat (first | (with_reducible first | exact HB.out | apply below_alloc | apply pw_below_drewN | apply below_drew1 | refine below_set ?_ GE674.out | refine below_set ?_ GE675.out) | exact HB.out)⟩⟩
  ·
   replace c7 := Bool.eq_false_iff.mpr c7
   subst c7
   have H1 : (compositorlaw09_BufferNeutral.j0 k true a0_0 a0_1 l0_2 a1_0 a1_1 l1_2) = some true := by rw [if_neg (show ¬ (false = true) by decide)] at H; exact H
   clear H
   have H := H1
   clear H1
   have H' := Aside0.mk H
   clear H
   have hnb34 := NB674_675.out
   have hnc34 := NB675_674.out
   have hcz35_0 : w5.cell? ⟨gb674, 0, none⟩ = some (.int .i64 a0_0) := (blk_cell BK674.out 0).trans rfl
   have hcz35_1 : w5.cell? ⟨gb674, 1, none⟩ = some (.int .i64 a0_1) := (blk_cell BK674.out 1).trans rfl
   have hcz35_2 : w5.cell? ⟨gb674, 2, none⟩ = some (.slice A0_2 l0_2.length c0_2) := (blk_cell BK674.out 2).trans rfl
   have hfz35_0 := blk_frozen BK674.out 0
   have hfz35_1 := blk_frozen BK674.out 1
   have hfz35_2 := blk_frozen BK674.out 2
   go_wp2_with (first | ((with_reducible refine gate_callee (f := 22) rfl ?_); refine goesL_ (some 16) rfl rfl Try.func22 (by kernel_rfl) rfl #[.agg #[.int .i64 a0_0, .int .i64 a0_1, .slice A0_2 l0_2.length c0_2]] rfl (by (try simp only [List.map_toArray, List.map_cons, List.map_nil]) <;> rfl) ?_; (with_reducible refine (compositorlaw09_small.calls a0_0 a0_1 _ _ l0_2 false _ ?side1 ?side2 A6.out).mono ?_); (case side1 => repeat (first | exact (Kd.C_below HR0_2.out HB.out) | (with_reducible refine Kd.C_alloc ?_ _) | (with_reducible refine Kd.C_drewN ?_ _) | (with_reducible refine Kd.C_drew ?_))); (case side2 => exact HC0_2.out); rintro e w36 ⟨rfl, hb⟩; refine ⟨_, rfl, ?_⟩; have n0_ := bb_ BK674 hb; have n1_ := bb_ BK675 hb; have n2_ := hb_ HB hb; clear BK674; clear BK675; clear HB; have BK674 := n0_; have BK675 := n1_; have HB := n2_; clear n0_ n1_ n2_; (try clear hb); (try clear hb2); (try clear hk); (try clear hi)))
   go_meet
   case rel => exact ⟨_, (true), (by first | rfl | (simp; done) | (simp [*]; done)), H', ⟨by first | omega | exact Nat.le_refl _⟩, bf_ BK674, bf_ BK675, ⟨by repeat (first | (with_reducible first | exact HB.out | apply below_alloc | apply pw_below_drewN | apply below_drew1 | refine below_set ?_ GE674.out | refine below_set ?_ GE675.out) | exact HB.out)⟩⟩
 case rest =>
  clear HC3
  try clear c1
  try clear c2
  try clear p2
  try clear c3
  try clear c7
  try clear c9
  try clear c11
  try clear c12
  try clear c13
  try clear c22
  try clear c29
  try clear c34
  try clear hcz14_0
  try clear hcz14_1
  try clear hcz14_2
  try clear hcz16_0
  try clear hcz16_1
  try clear hcz16_2
  try clear hcz18_0
  try clear hcz18_1
  try clear hcz18_2
  try clear hcz20_0
  try clear hcz20_1
  try clear hcz20_2
  try clear hcz23_0
  try clear hcz23_1
  try clear hcz23_2
  try clear hcz25_0
  try clear hcz25_1
  try clear hcz25_2
  try clear hcz27_0
  try clear hcz27_1
  try clear hcz27_2
  try clear hcz30_0
  try clear hcz30_1
  try clear hcz30_2
  try clear hcz32_0
  try clear hcz32_1
  try clear hcz32_2
  try clear hcz35_0
  try clear hcz35_1
  try clear hcz35_2
  try clear hfz14_0
  try clear hfz14_1
  try clear hfz14_2
  try clear hfz16_0
  try clear hfz16_1
  try clear hfz16_2
  try clear hfz18_0
  try clear hfz18_1
  try clear hfz18_2
  try clear hfz20_0
  try clear hfz20_1
  try clear hfz20_2
  try clear hfz23_0
  try clear hfz23_1
  try clear hfz23_2
  try clear hfz25_0
  try clear hfz25_1
  try clear hfz25_2
  try clear hfz27_0
  try clear hfz27_1
  try clear hfz27_2
  try clear hfz30_0
  try clear hfz30_1
  try clear hfz30_2
  try clear hfz32_0
  try clear hfz32_1
  try clear hfz32_2
  try clear hfz35_0
  try clear hfz35_1
  try clear hfz35_2
  obtain ⟨kq, x32_2, rfl, HA, HJ2, BK674, BK675, HB⟩ := hcut
  cases kq with
  | zero => exact absurd HA.out (by simp [compositorlaw09_BufferNeutral.j0])
  | succ kj2 =>
   have H := HA.out
   clear HA
   simp only [compositorlaw09_BufferNeutral.j0] at H
   by_cases c37 : x32_2 = true
   ·
    subst c37
    have H1 : ((compositorlaw09_exampleHolds.f kj2).bind fun t680 => (some t680)) = some true := by rw [if_pos rfl] at H; exact H
    clear H
    have H := H1
    clear H1
    replace H := Option.bind_eq_some_iff.mp H
    obtain ⟨t680, A380, H⟩ := H
    try dsimp only at H
    have A38 := Aside0.mk A380
    clear A380
    have Hq_ := Option.some.inj H
    go_wp2_with (first | ((with_reducible refine gate_callee (f := 13) rfl ?_); refine goesL_ (some 33) rfl rfl Try.func13 (by kernel_rfl) rfl #[] rfl (by (try simp only [List.map_toArray, List.map_cons, List.map_nil]) <;> rfl) ?_; (with_reducible refine (compositorlaw09_exampleHolds.calls kj2  t680 _ A38.out).mono ?_); rintro e w39 ⟨rfl, hb⟩; refine ⟨_, rfl, ?_⟩; have n0_ := bb_ BK674 hb; have n1_ := bb_ BK675 hb; have n2_ := hb_ HB hb; clear BK674; clear BK675; clear HB; have BK674 := n0_; have BK675 := n1_; have HB := n2_; clear n0_ n1_ n2_; (try clear hb); (try clear hb2); (try clear hk); (try clear hi)))
    go_ret
    exact ⟨by first | rfl | (simp [errW_none, errW_some] <;> rfl) | (simp [*, errW_none, errW_some] <;> rfl), by repeat (first | (with_reducible first | exact HB.out | apply below_alloc | apply pw_below_drewN | apply below_drew1 | refine below_set ?_ GE674.out | refine below_set ?_ GE675.out) | exact HB.out)⟩
   ·
    replace c37 := Bool.eq_false_iff.mpr c37
    subst c37
    have H1 : ((buffer_Paste.f a0_0 a0_1 l0_2 a0_0 a0_1 l0_2 0 0).bind fun bt681 => ((buffer_New.f kj2 a0_0 a0_1 0 0 0 0).bind fun bt688 => ((buffer_BlendOver.f a0_0 a0_1 l0_2 bt688.1 bt688.2.1 bt688.2.2.1 0 0).bind fun bt695 => ((buffer_Paste.f a0_0 a0_1 l0_2 a1_0 a1_1 l1_2 a0_0 0).bind fun bt702 => ((buffer_BlendOver.f a0_0 a0_1 l0_2 a1_0 a1_1 l1_2 0 (wrap64 (-a1_1))).bind fun bt709 => (if bt681.2.2.2 = 0 then (if bt688.2.2.2 = 0 then (if bt695.2.2.2 = 0 then (if bt702.2.2.2 = 0 then (compositorlaw09_BufferNeutral.j1 kj2 (bt709.2.2.2 != 0) a0_0 a0_1 l0_2 bt681.1 bt681.2.1 bt681.2.2.1 bt695.1 bt695.2.1 bt695.2.2.1 bt702.1 bt702.2.1 bt702.2.2.1 bt709.1 bt709.2.1 bt709.2.2.1) else (compositorlaw09_BufferNeutral.j1 kj2 true a0_0 a0_1 l0_2 bt681.1 bt681.2.1 bt681.2.2.1 bt695.1 bt695.2.1 bt695.2.2.1 bt702.1 bt702.2.1 bt702.2.2.1 bt709.1 bt709.2.1 bt709.2.2.1)) else (compositorlaw09_BufferNeutral.j1 kj2 true a0_0 a0_1 l0_2 bt681.1 bt681.2.1 bt681.2.2.1 bt695.1 bt695.2.1 bt695.2.2.1 bt702.1 bt702.2.1 bt702.2.2.1 bt709.1 bt709.2.1 bt709.2.2.1)) else (compositorlaw09_BufferNeutral.j1 kj2 true a0_0 a0_1 l0_2 bt681.1 bt681.2.1 bt681.2.2.1 bt695.1 bt695.2.1 bt695.2.2.1 bt702.1 bt702.2.1 bt702.2.2.1 bt709.1 bt709.2.1 bt709.2.2.1)) else (compositorlaw09_BufferNeutral.j1 kj2 true a0_0 a0_1 l0_2 bt681.1 bt681.2.1 bt681.2.2.1 bt695.1 bt695.2.1 bt695.2.2.1 bt702.1 bt702.2.1 bt702.2.2.1 bt709.1 bt709.2.1 bt709.2.2.1))))))) = some true := by rw [if_neg (show ¬ (false = true) by decide)] at H; exact H
    clear H
    have H := H1
    clear H1
    replace H := Option.bind_eq_some_iff.mp H
    obtain ⟨⟨t681, t682, t683, t686⟩, A400, H⟩ := H
    try dsimp only at H
    have A40 := Aside0.mk A400
    clear A400
    replace H := Option.bind_eq_some_iff.mp H
    obtain ⟨⟨t688, t689, t690, t693⟩, A410, H⟩ := H
    try dsimp only at H
    have A41 := Aside0.mk A410
    clear A410
    replace H := Option.bind_eq_some_iff.mp H
    obtain ⟨⟨t695, t696, t697, t700⟩, A420, H⟩ := H
    try dsimp only at H
    have A42 := Aside0.mk A420
    clear A420
    replace H := Option.bind_eq_some_iff.mp H
    obtain ⟨⟨t702, t703, t704, t707⟩, A430, H⟩ := H
    try dsimp only at H
    have A43 := Aside0.mk A430
    clear A430
    replace H := Option.bind_eq_some_iff.mp H
    obtain ⟨⟨t709, t710, t711, t714⟩, A440, H⟩ := H
    try dsimp only at H
    have A44 := Aside0.mk A440
    clear A440
    have HC45 := Aside0.mk H
    clear H
    have hnb46 := NB674_675.out
    have hnc46 := NB675_674.out
    have hcz47_0 : wc.cell? ⟨gb674, 0, none⟩ = some (.int .i64 a0_0) := (blk_cell BK674.out 0).trans rfl
    have hcz47_1 : wc.cell? ⟨gb674, 1, none⟩ = some (.int .i64 a0_1) := (blk_cell BK674.out 1).trans rfl
    have hcz47_2 : wc.cell? ⟨gb674, 2, none⟩ = some (.slice A0_2 l0_2.length c0_2) := (blk_cell BK674.out 2).trans rfl
    have hfz47_0 := blk_frozen BK674.out 0
    have hfz47_1 := blk_frozen BK674.out 1
    have hfz47_2 := blk_frozen BK674.out 2
    go_upto_region 8 with (first | ((with_reducible refine gate_callee (f := 32) rfl ?_); refine goesL_ (some 37) rfl rfl Try.func32 (by kernel_rfl) rfl #[.agg #[.int .i64 a0_0, .int .i64 a0_1, .slice A0_2 l0_2.length c0_2], .agg #[.int .i64 a0_0, .int .i64 a0_1, .slice A0_2 l0_2.length c0_2], .int .i64 0, .int .i64 0] rfl (by (try simp only [List.map_toArray, List.map_cons, List.map_nil]) <;> rfl) ?_; (with_reducible refine (buffer_Paste.calls a0_0 a0_1 _ _ l0_2 a0_0 a0_1 _ _ l0_2 0 0 t681 t682 t683 t686 _ ?side1 ?side2 ?side3 ?side4 A40.out).mono ?_); (case side1 => repeat (first | exact (Kd.C_below HR0_2.out HB.out) | (with_reducible refine Kd.C_alloc ?_ _) | (with_reducible refine Kd.C_drewN ?_ _) | (with_reducible refine Kd.C_drew ?_))); (case side2 => exact HC0_2.out); (case side3 => repeat (first | exact (Kd.C_below HR0_2.out HB.out) | (with_reducible refine Kd.C_alloc ?_ _) | (with_reducible refine Kd.C_drewN ?_ _) | (with_reducible refine Kd.C_drew ?_))); (case side4 => exact HC0_2.out); rintro e w48 ⟨v684, rfl, ho0, hb⟩; refine ⟨_, rfl, ?_⟩; have n0_ := Aside0.mk (Kd.R_lower ho0 (below_size (hq_ HB))); have n1_ := bb_ BK674 hb; have n2_ := bb_ BK675 hb; have n3_ := hb_ HB hb; clear BK674; clear BK675; clear HB; have HO685 := n0_; have BK674 := n1_; have BK675 := n2_; have HB := n3_; clear n0_ n1_ n2_ n3_; (try clear hb); (try clear hb2); (try clear hk); (try clear hi); (try clear ho0)) | ((with_reducible refine gate_dst (N := 5) rfl ?_); refine box_event ?hg (N := 5) ?hd (cs := #[.int .i64 0, .int .i64 0, .slice none 0 0]) (t := 27) ?hr ?_; (case hd => rfl); (case hg => rfl); (case hr => first | (go_simp; done) | (go_simp; rfl)); intro gb687 hg w49 hbox hb; have n0_ := Aside0.mk (Kd.R_below (by (with_reducible repeat (first | apply Kd.R_alloc | apply Kd.R_drewN | apply Kd.R_drew)); exact HO685.out) hb); have n1_ := bb_ BK674 hb; have n2_ := bb_ BK675 hb; have n3_ := hb_ HB hb; have n4_ := Aside0.mk (hbox); have n5_ := Aside0.mk ((by rw [hg]; exact (below_size (hq_ HB)) : w.heap.size ≤ gb687)); have n6_ := Aside0.mk ((by rw [hg]; exact (below_size (hq_ HB)) : w.heap.size ≤ gb687)); have n7_ := Aside0.mk ((by rw [hg]; exact Nat.ne_of_lt (blk_lt (g := gb674) (o := .cells #[.int .i64 a0_0, .int .i64 a0_1, .slice A0_2 l0_2.length c0_2] 27 (0, 0)) (bq_ BK674)) : gb674 ≠ gb687)); have n8_ := Aside0.mk ((by rw [hg]; exact Nat.ne_of_gt (blk_lt (g := gb674) (o := .cells #[.int .i64 a0_0, .int .i64 a0_1, .slice A0_2 l0_2.length c0_2] 27 (0, 0)) (bq_ BK674)) : gb687 ≠ gb674)); have n9_ := Aside0.mk ((by rw [hg]; exact Nat.ne_of_lt (blk_lt (g := gb675) (o := .cells #[.int .i64 a1_0, .int .i64 a1_1, .slice A1_2 l1_2.length c1_2] 27 (0, 0)) (bq_ BK675)) : gb675 ≠ gb687)); have n10_ := Aside0.mk ((by rw [hg]; exact Nat.ne_of_gt (blk_lt (g := gb675) (o := .cells #[.int .i64 a1_0, .int .i64 a1_1, .slice A1_2 l1_2.length c1_2] 27 (0, 0)) (bq_ BK675)) : gb687 ≠ gb675)); clear HO685; clear BK674; clear BK675; clear HB; have HO685 := n0_; have BK674 := n1_; have BK675 := n2_; have HB := n3_; have BK687 := n4_; have GW687 := n5_; have GE687 := n6_; have NB674_687 := n7_; have NB687_674 := n8_; have NB675_687 := n9_; have NB687_675 := n10_; clear n0_ n1_ n2_ n3_ n4_ n5_ n6_ n7_ n8_ n9_ n10_; clear hb hbox hg; have hnb50 := NB687_674.out; have hnc50 := NB674_687.out; have hnb51 := NB687_675.out; have hnc51 := NB675_687.out; have hcz52_0 : w49.cell? ⟨gb687, 0, none⟩ = some (.int .i64 0) := (blk_cell BK687.out 0).trans rfl; have hcz52_1 : w49.cell? ⟨gb687, 1, none⟩ = some (.int .i64 0) := (blk_cell BK687.out 1).trans rfl; have hcz52_2 : w49.cell? ⟨gb687, 2, none⟩ = some (.slice none 0 0) := (blk_cell BK687.out 2).trans rfl; have hfz52_0 := blk_frozen BK687.out 0; have hfz52_1 := blk_frozen BK687.out 1; have hfz52_2 := blk_frozen BK687.out 2; obtain ⟨Ao53, co53, eo53⟩ := Kd.R_slice HO685.out; subst eo53; have hcz54_0 : w49.cell? ⟨gb674, 0, none⟩ = some (.int .i64 a0_0) := (blk_cell BK674.out 0).trans rfl; have hcz54_1 : w49.cell? ⟨gb674, 1, none⟩ = some (.int .i64 a0_1) := (blk_cell BK674.out 1).trans rfl; have hcz54_2 : w49.cell? ⟨gb674, 2, none⟩ = some (.slice A0_2 l0_2.length c0_2) := (blk_cell BK674.out 2).trans rfl; have hfz54_0 := blk_frozen BK674.out 0; have hfz54_1 := blk_frozen BK674.out 1; have hfz54_2 := blk_frozen BK674.out 2) | ((with_reducible refine gate_callee (f := 37) rfl ?_); refine goesL_ (some 46) rfl rfl Try.func37 (by kernel_rfl) rfl #[.int .i64 a0_0, .int .i64 a0_1, .agg #[.int .u8 0, .int .u8 0, .int .u8 0, .int .u8 0]] rfl (by (try simp only [List.map_toArray, List.map_cons, List.map_nil]) <;> rfl) ?_; (with_reducible refine (buffer_New.calls kj2 a0_0 a0_1 0 0 0 0 t688 t689 t690 t693 _ A41.out).mono ?_); rintro e w55 ⟨v691, rfl, ho0, hb⟩; refine ⟨_, rfl, ?_⟩; have n0_ := Aside0.mk (Kd.R_elder' (by (with_reducible repeat (first | apply Kd.R_alloc | apply Kd.R_drewN | apply Kd.R_drew)); exact (Kd.R_mono (Kd.R_far (p := ⟨gb687, 2, none⟩) (Kd.R_far (p := ⟨gb687, 1, none⟩) (Kd.R_far (p := ⟨gb687, 0, none⟩) (Kd.R_types HO685.out BK687.out (by decide)) (fun _ hk => hk.2) (.int .i64 t681)) (fun _ hk => hk.2) (.int .i64 t682)) (fun _ hk => hk.2) (.slice Ao53 t683.length co53)) (fun _ h_ => h_.1))) (Kd.R_base ho0) hb); have n1_ := Aside0.mk (Kd.R_lower (Kd.R_new' ho0 (Kd.R_lt (by (with_reducible repeat (first | apply Kd.R_alloc | apply Kd.R_drewN | apply Kd.R_drew)); exact (Kd.R_mono (Kd.R_far (p := ⟨gb687, 2, none⟩) (Kd.R_far (p := ⟨gb687, 1, none⟩) (Kd.R_far (p := ⟨gb687, 0, none⟩) (Kd.R_types HO685.out BK687.out (by decide)) (fun _ hk => hk.2) (.int .i64 t681)) (fun _ hk => hk.2) (.int .i64 t682)) (fun _ hk => hk.2) (.slice Ao53 t683.length co53)) (fun _ h_ => h_.1))))) (below_size (hq_ HB))); have n2_ := Aside0.mk (blk_below (g := gb674) (o := .cells #[.int .i64 a0_0, .int .i64 a0_1, .slice A0_2 l0_2.length c0_2] 27 (0, 0)) (by (with_reducible repeat (first | refine blk_drewN ?_ _ | refine blk_drew ?_ | refine blk_alloc ?_ _)); refine blk_far ?_ NB674_687.out _; (with_reducible repeat (first | refine blk_drewN ?_ _ | refine blk_drew ?_ | refine blk_alloc ?_ _)); refine blk_far ?_ NB674_687.out _; (with_reducible repeat (first | refine blk_drewN ?_ _ | refine blk_drew ?_ | refine blk_alloc ?_ _)); refine blk_far ?_ NB674_687.out _; (with_reducible repeat (first | refine blk_drewN ?_ _ | refine blk_drew ?_ | refine blk_alloc ?_ _)); exact BK674.out) hb); have n3_ := Aside0.mk (blk_below (g := gb675) (o := .cells #[.int .i64 a1_0, .int .i64 a1_1, .slice A1_2 l1_2.length c1_2] 27 (0, 0)) (by (with_reducible repeat (first | refine blk_drewN ?_ _ | refine blk_drew ?_ | refine blk_alloc ?_ _)); refine blk_far ?_ NB675_687.out _; (with_reducible repeat (first | refine blk_drewN ?_ _ | refine blk_drew ?_ | refine blk_alloc ?_ _)); refine blk_far ?_ NB675_687.out _; (with_reducible repeat (first | refine blk_drewN ?_ _ | refine blk_drew ?_ | refine blk_alloc ?_ _)); refine blk_far ?_ NB675_687.out _; (with_reducible repeat (first | refine blk_drewN ?_ _ | refine blk_drew ?_ | refine blk_alloc ?_ _)); exact BK675.out) hb); have n4_ := Aside0.mk (blk_below (g := gb687) (o := .cells #[.int .i64 t681, .int .i64 t682, .slice Ao53 t683.length co53] 27 (0, 0)) (by (with_reducible repeat (first | refine blk_drewN ?_ _ | refine blk_drew ?_ | refine blk_alloc ?_ _)); refine blk_put (cs := #[.int .i64 t681, .int .i64 t682, .slice none 0 0]) ?_ 2 _ rfl; (with_reducible repeat (first | refine blk_drewN ?_ _ | refine blk_drew ?_ | refine blk_alloc ?_ _)); refine blk_put (cs := #[.int .i64 t681, .int .i64 0, .slice none 0 0]) ?_ 1 _ rfl; (with_reducible repeat (first | refine blk_drewN ?_ _ | refine blk_drew ?_ | refine blk_alloc ?_ _)); refine blk_put (cs := #[.int .i64 0, .int .i64 0, .slice none 0 0]) ?_ 0 _ rfl; (with_reducible repeat (first | refine blk_drewN ?_ _ | refine blk_drew ?_ | refine blk_alloc ?_ _)); exact BK687.out) hb); have n5_ := hb_ HB hb; clear HO685; clear BK674; clear BK675; clear BK687; clear HB; have HO685 := n0_; have HO692 := n1_; have BK674 := n2_; have BK675 := n3_; have BK687 := n4_; have HB := n5_; clear n0_ n1_ n2_ n3_ n4_ n5_; (try clear hb); (try clear hb2); (try clear hk); (try clear hi); (try clear ho0)) | ((with_reducible refine gate_dst (N := 7) rfl ?_); refine box_event ?hg (N := 7) ?hd (cs := #[.int .i64 0, .int .i64 0, .slice none 0 0]) (t := 27) ?hr ?_; (case hd => rfl); (case hg => rfl); (case hr => first | (go_simp; done) | (go_simp; rfl)); intro gb694 hg w56 hbox hb; have n0_ := Aside0.mk (Kd.R_below (by (with_reducible repeat (first | apply Kd.R_alloc | apply Kd.R_drewN | apply Kd.R_drew)); exact HO685.out) hb); have n1_ := Aside0.mk (Kd.R_below (by (with_reducible repeat (first | apply Kd.R_alloc | apply Kd.R_drewN | apply Kd.R_drew)); exact HO692.out) hb); have n2_ := bb_ BK674 hb; have n3_ := bb_ BK675 hb; have n4_ := bb_ BK687 hb; have n5_ := hb_ HB hb; have n6_ := Aside0.mk (hbox); have n7_ := Aside0.mk ((by rw [hg]; exact (below_size (hq_ HB)) : w.heap.size ≤ gb694)); have n8_ := Aside0.mk ((by rw [hg]; exact (below_size (hq_ HB)) : w.heap.size ≤ gb694)); have n9_ := Aside0.mk ((by rw [hg]; exact Nat.ne_of_lt (blk_lt (g := gb674) (o := .cells #[.int .i64 a0_0, .int .i64 a0_1, .slice A0_2 l0_2.length c0_2] 27 (0, 0)) (bq_ BK674)) : gb674 ≠ gb694)); have n10_ := Aside0.mk ((by rw [hg]; exact Nat.ne_of_gt (blk_lt (g := gb674) (o := .cells #[.int .i64 a0_0, .int .i64 a0_1, .slice A0_2 l0_2.length c0_2] 27 (0, 0)) (bq_ BK674)) : gb694 ≠ gb674)); have n11_ := Aside0.mk ((by rw [hg]; exact Nat.ne_of_lt (blk_lt (g := gb675) (o := .cells #[.int .i64 a1_0, .int .i64 a1_1, .slice A1_2 l1_2.length c1_2] 27 (0, 0)) (bq_ BK675)) : gb675 ≠ gb694)); have n12_ := Aside0.mk ((by rw [hg]; exact Nat.ne_of_gt (blk_lt (g := gb675) (o := .cells #[.int .i64 a1_0, .int .i64 a1_1, .slice A1_2 l1_2.length c1_2] 27 (0, 0)) (bq_ BK675)) : gb694 ≠ gb675)); have n13_ := Aside0.mk ((by rw [hg]; exact Nat.ne_of_lt (blk_lt (g := gb687) (o := .cells #[.int .i64 t681, .int .i64 t682, .slice Ao53 t683.length co53] 27 (0, 0)) (bq_ BK687)) : gb687 ≠ gb694)); have n14_ := Aside0.mk ((by rw [hg]; exact Nat.ne_of_gt (blk_lt (g := gb687) (o := .cells #[.int .i64 t681, .int .i64 t682, .slice Ao53 t683.length co53] 27 (0, 0)) (bq_ BK687)) : gb694 ≠ gb687)); clear HO685; clear HO692; clear BK674; clear BK675; clear BK687; clear HB; have HO685 := n0_; have HO692 := n1_; have BK674 := n2_; have BK675 := n3_; have BK687 := n4_; have HB := n5_; have BK694 := n6_; have GW694 := n7_; have GE694 := n8_; have NB674_694 := n9_; have NB694_674 := n10_; have NB675_694 := n11_; have NB694_675 := n12_; have NB687_694 := n13_; have NB694_687 := n14_; clear n0_ n1_ n2_ n3_ n4_ n5_ n6_ n7_ n8_ n9_ n10_ n11_ n12_ n13_ n14_; clear hb hbox hg; have hnb57 := NB694_674.out; have hnc57 := NB674_694.out; have hnb58 := NB694_675.out; have hnc58 := NB675_694.out; have hnb59 := NB694_687.out; have hnc59 := NB687_694.out; have hcz60_0 : w56.cell? ⟨gb694, 0, none⟩ = some (.int .i64 0) := (blk_cell BK694.out 0).trans rfl; have hcz60_1 : w56.cell? ⟨gb694, 1, none⟩ = some (.int .i64 0) := (blk_cell BK694.out 1).trans rfl; have hcz60_2 : w56.cell? ⟨gb694, 2, none⟩ = some (.slice none 0 0) := (blk_cell BK694.out 2).trans rfl; have hfz60_0 := blk_frozen BK694.out 0; have hfz60_1 := blk_frozen BK694.out 1; have hfz60_2 := blk_frozen BK694.out 2; obtain ⟨Ao61, co61, eo61⟩ := Kd.R_slice HO692.out; subst eo61; have hcz62_0 : w56.cell? ⟨gb674, 0, none⟩ = some (.int .i64 a0_0) := (blk_cell BK674.out 0).trans rfl; have hcz62_1 : w56.cell? ⟨gb674, 1, none⟩ = some (.int .i64 a0_1) := (blk_cell BK674.out 1).trans rfl; have hcz62_2 : w56.cell? ⟨gb674, 2, none⟩ = some (.slice A0_2 l0_2.length c0_2) := (blk_cell BK674.out 2).trans rfl; have hfz62_0 := blk_frozen BK674.out 0; have hfz62_1 := blk_frozen BK674.out 1; have hfz62_2 := blk_frozen BK674.out 2) | ((with_reducible refine gate_callee (f := 35) rfl ?_); refine goesL_ (some 52) rfl rfl Try.func35 (by kernel_rfl) rfl #[.agg #[.int .i64 a0_0, .int .i64 a0_1, .slice A0_2 l0_2.length c0_2], .agg #[.int .i64 t688, .int .i64 t689, .slice Ao61 t690.length co61], .int .i64 0, .int .i64 0] rfl (by (try simp only [List.map_toArray, List.map_cons, List.map_nil]) <;> rfl) ?_; (with_reducible refine (buffer_BlendOver.calls a0_0 a0_1 _ _ l0_2 t688 t689 _ _ t690 0 0 t695 t696 t697 t700 _ ?side1 ?side2 ?side3 ?side4 A42.out).mono ?_); (case side1 => exact Kd.C_below HR0_2.out (hq_ HB)); (case side2 => exact HC0_2.out); (case side3 => refine (Kd.R_reads' (e := 43) (base := w.heap.size) (ok := fun k_ => (True ∧ some k_ ≠ (.slice Ao53 t683.length co53 : Value).ownBlock)) (n := t690.length) (c := co61) ?_).2.2; exact (by (with_reducible repeat (first | apply Kd.R_alloc | apply Kd.R_drewN | apply Kd.R_drew)); exact (Kd.R_mono (Kd.R_far (p := ⟨gb694, 2, none⟩) (Kd.R_far (p := ⟨gb694, 1, none⟩) (Kd.R_far (p := ⟨gb694, 0, none⟩) (Kd.R_types HO692.out BK694.out (by decide)) (fun _ hk => hk.2) (.int .i64 t688)) (fun _ hk => hk.2) (.int .i64 t689)) (fun _ hk => hk.2) (.slice Ao61 t690.length co61)) (fun _ h_ => h_.1)))); (case side4 => exact (Kd.R_reads' HO692.out).2.1); rintro e w63 ⟨v698, rfl, ho0, hb⟩; refine ⟨_, rfl, ?_⟩; have n0_ := Aside0.mk (Kd.R_elder' (by (with_reducible repeat (first | apply Kd.R_alloc | apply Kd.R_drewN | apply Kd.R_drew)); exact (Kd.R_mono (Kd.R_far (p := ⟨gb694, 2, none⟩) (Kd.R_far (p := ⟨gb694, 1, none⟩) (Kd.R_far (p := ⟨gb694, 0, none⟩) (Kd.R_types HO685.out BK694.out (by decide)) (fun _ hk => hk.2) (.int .i64 t688)) (fun _ hk => hk.2) (.int .i64 t689)) (fun _ hk => hk.2) (.slice Ao61 t690.length co61)) (fun _ h_ => h_.1))) (Kd.R_base ho0) hb); have n1_ := Aside0.mk (Kd.R_elder' (by (with_reducible repeat (first | apply Kd.R_alloc | apply Kd.R_drewN | apply Kd.R_drew)); exact (Kd.R_mono (Kd.R_far (p := ⟨gb694, 2, none⟩) (Kd.R_far (p := ⟨gb694, 1, none⟩) (Kd.R_far (p := ⟨gb694, 0, none⟩) (Kd.R_types HO692.out BK694.out (by decide)) (fun _ hk => hk.2) (.int .i64 t688)) (fun _ hk => hk.2) (.int .i64 t689)) (fun _ hk => hk.2) (.slice Ao61 t690.length co61)) (fun _ h_ => h_.1))) (Kd.R_base ho0) hb); have n2_ := Aside0.mk (Kd.R_lower (Kd.R_new' (Kd.R_new' ho0 (Kd.R_lt (by (with_reducible repeat (first | apply Kd.R_alloc | apply Kd.R_drewN | apply Kd.R_drew)); exact (Kd.R_mono (Kd.R_far (p := ⟨gb694, 2, none⟩) (Kd.R_far (p := ⟨gb694, 1, none⟩) (Kd.R_far (p := ⟨gb694, 0, none⟩) (Kd.R_types HO685.out BK694.out (by decide)) (fun _ hk => hk.2) (.int .i64 t688)) (fun _ hk => hk.2) (.int .i64 t689)) (fun _ hk => hk.2) (.slice Ao61 t690.length co61)) (fun _ h_ => h_.1))))) (Kd.R_lt (by (with_reducible repeat (first | apply Kd.R_alloc | apply Kd.R_drewN | apply Kd.R_drew)); exact (Kd.R_mono (Kd.R_far (p := ⟨gb694, 2, none⟩) (Kd.R_far (p := ⟨gb694, 1, none⟩) (Kd.R_far (p := ⟨gb694, 0, none⟩) (Kd.R_types HO692.out BK694.out (by decide)) (fun _ hk => hk.2) (.int .i64 t688)) (fun _ hk => hk.2) (.int .i64 t689)) (fun _ hk => hk.2) (.slice Ao61 t690.length co61)) (fun _ h_ => h_.1))))) (below_size (hq_ HB))); have n3_ := Aside0.mk (blk_below (g := gb674) (o := .cells #[.int .i64 a0_0, .int .i64 a0_1, .slice A0_2 l0_2.length c0_2] 27 (0, 0)) (by (with_reducible repeat (first | refine blk_drewN ?_ _ | refine blk_drew ?_ | refine blk_alloc ?_ _)); refine blk_far ?_ NB674_694.out _; (with_reducible repeat (first | refine blk_drewN ?_ _ | refine blk_drew ?_ | refine blk_alloc ?_ _)); refine blk_far ?_ NB674_694.out _; (with_reducible repeat (first | refine blk_drewN ?_ _ | refine blk_drew ?_ | refine blk_alloc ?_ _)); refine blk_far ?_ NB674_694.out _; (with_reducible repeat (first | refine blk_drewN ?_ _ | refine blk_drew ?_ | refine blk_alloc ?_ _)); exact BK674.out) hb); have n4_ := Aside0.mk (blk_below (g := gb675) (o := .cells #[.int .i64 a1_0, .int .i64 a1_1, .slice A1_2 l1_2.length c1_2] 27 (0, 0)) (by (with_reducible repeat (first | refine blk_drewN ?_ _ | refine blk_drew ?_ | refine blk_alloc ?_ _)); refine blk_far ?_ NB675_694.out _; (with_reducible repeat (first | refine blk_drewN ?_ _ | refine blk_drew ?_ | refine blk_alloc ?_ _)); refine blk_far ?_ NB675_694.out _; (with_reducible repeat (first | refine blk_drewN ?_ _ | refine blk_drew ?_ | refine blk_alloc ?_ _)); refine blk_far ?_ NB675_694.out _; (with_reducible repeat (first | refine blk_drewN ?_ _ | refine blk_drew ?_ | refine blk_alloc ?_ _)); exact BK675.out) hb); have n5_ := Aside0.mk (blk_below (g := gb687) (o := .cells #[.int .i64 t681, .int .i64 t682, .slice Ao53 t683.length co53] 27 (0, 0)) (by (with_reducible repeat (first | refine blk_drewN ?_ _ | refine blk_drew ?_ | refine blk_alloc ?_ _)); refine blk_far ?_ NB687_694.out _; (with_reducible repeat (first | refine blk_drewN ?_ _ | refine blk_drew ?_ | refine blk_alloc ?_ _)); refine blk_far ?_ NB687_694.out _; (with_reducible repeat (first | refine blk_drewN ?_ _ | refine blk_drew ?_ | refine blk_alloc ?_ _)); refine blk_far ?_ NB687_694.out _; (with_reducible repeat (first | refine blk_drewN ?_ _ | refine blk_drew ?_ | refine blk_alloc ?_ _)); exact BK687.out) hb); have n6_ := Aside0.mk (blk_below (g := gb694) (o := .cells #[.int .i64 t688, .int .i64 t689, .slice Ao61 t690.length co61] 27 (0, 0)) (by (with_reducible repeat (first | refine blk_drewN ?_ _ | refine blk_drew ?_ | refine blk_alloc ?_ _)); refine blk_put (cs := #[.int .i64 t688, .int .i64 t689, .slice none 0 0]) ?_ 2 _ rfl; (with_reducible repeat (first | refine blk_drewN ?_ _ | refine blk_drew ?_ | refine blk_alloc ?_ _)); refine blk_put (cs := #[.int .i64 t688, .int .i64 0, .slice none 0 0]) ?_ 1 _ rfl; (with_reducible repeat (first | refine blk_drewN ?_ _ | refine blk_drew ?_ | refine blk_alloc ?_ _)); refine blk_put (cs := #[.int .i64 0, .int .i64 0, .slice none 0 0]) ?_ 0 _ rfl; (with_reducible repeat (first | refine blk_drewN ?_ _ | refine blk_drew ?_ | refine blk_alloc ?_ _)); exact BK694.out) hb); have n7_ := hb_ HB hb; clear HO685; clear HO692; clear BK674; clear BK675; clear BK687; clear BK694; clear HB; have HO685 := n0_; have HO692 := n1_; have HO699 := n2_; have BK674 := n3_; have BK675 := n4_; have BK687 := n5_; have BK694 := n6_; have HB := n7_; clear n0_ n1_ n2_ n3_ n4_ n5_ n6_ n7_; (try clear hb); (try clear hb2); (try clear hk); (try clear hi); (try clear ho0)) | ((with_reducible refine gate_dst (N := 9) rfl ?_); refine box_event ?hg (N := 9) ?hd (cs := #[.int .i64 0, .int .i64 0, .slice none 0 0]) (t := 27) ?hr ?_; (case hd => rfl); (case hg => rfl); (case hr => first | (go_simp; done) | (go_simp; rfl)); intro gb701 hg w64 hbox hb; have n0_ := Aside0.mk (Kd.R_below (by (with_reducible repeat (first | apply Kd.R_alloc | apply Kd.R_drewN | apply Kd.R_drew)); exact HO685.out) hb); have n1_ := Aside0.mk (Kd.R_below (by (with_reducible repeat (first | apply Kd.R_alloc | apply Kd.R_drewN | apply Kd.R_drew)); exact HO692.out) hb); have n2_ := Aside0.mk (Kd.R_below (by (with_reducible repeat (first | apply Kd.R_alloc | apply Kd.R_drewN | apply Kd.R_drew)); exact HO699.out) hb); have n3_ := bb_ BK674 hb; have n4_ := bb_ BK675 hb; have n5_ := bb_ BK687 hb; have n6_ := bb_ BK694 hb; have n7_ := hb_ HB hb; have n8_ := Aside0.mk (hbox); have n9_ := Aside0.mk ((by rw [hg]; exact (below_size (hq_ HB)) : w.heap.size ≤ gb701)); have n10_ := Aside0.mk ((by rw [hg]; exact (below_size (hq_ HB)) : w.heap.size ≤ gb701)); have n11_ := Aside0.mk ((by rw [hg]; exact Nat.ne_of_lt (blk_lt (g := gb674) (o := .cells #[.int .i64 a0_0, .int .i64 a0_1, .slice A0_2 l0_2.length c0_2] 27 (0, 0)) (bq_ BK674)) : gb674 ≠ gb701)); have n12_ := Aside0.mk ((by rw [hg]; exact Nat.ne_of_gt (blk_lt (g := gb674) (o := .cells #[.int .i64 a0_0, .int .i64 a0_1, .slice A0_2 l0_2.length c0_2] 27 (0, 0)) (bq_ BK674)) : gb701 ≠ gb674)); have n13_ := Aside0.mk ((by rw [hg]; exact Nat.ne_of_lt (blk_lt (g := gb675) (o := .cells #[.int .i64 a1_0, .int .i64 a1_1, .slice A1_2 l1_2.length c1_2] 27 (0, 0)) (bq_ BK675)) : gb675 ≠ gb701)); have n14_ := Aside0.mk ((by rw [hg]; exact Nat.ne_of_gt (blk_lt (g := gb675) (o := .cells #[.int .i64 a1_0, .int .i64 a1_1, .slice A1_2 l1_2.length c1_2] 27 (0, 0)) (bq_ BK675)) : gb701 ≠ gb675)); have n15_ := Aside0.mk ((by rw [hg]; exact Nat.ne_of_lt (blk_lt (g := gb687) (o := .cells #[.int .i64 t681, .int .i64 t682, .slice Ao53 t683.length co53] 27 (0, 0)) (bq_ BK687)) : gb687 ≠ gb701)); have n16_ := Aside0.mk ((by rw [hg]; exact Nat.ne_of_gt (blk_lt (g := gb687) (o := .cells #[.int .i64 t681, .int .i64 t682, .slice Ao53 t683.length co53] 27 (0, 0)) (bq_ BK687)) : gb701 ≠ gb687)); have n17_ := Aside0.mk ((by rw [hg]; exact Nat.ne_of_lt (blk_lt (g := gb694) (o := .cells #[.int .i64 t688, .int .i64 t689, .slice Ao61 t690.length co61] 27 (0, 0)) (bq_ BK694)) : gb694 ≠ gb701)); have n18_ := Aside0.mk ((by rw [hg]; exact Nat.ne_of_gt (blk_lt (g := gb694) (o := .cells #[.int .i64 t688, .int .i64 t689, .slice Ao61 t690.length co61] 27 (0, 0)) (bq_ BK694)) : gb701 ≠ gb694)); clear HO685; clear HO692; clear HO699; clear BK674; clear BK675; clear BK687; clear BK694; clear HB; have HO685 := n0_; have HO692 := n1_; have HO699 := n2_; have BK674 := n3_; have BK675 := n4_; have BK687 := n5_; have BK694 := n6_; have HB := n7_; have BK701 := n8_; have GW701 := n9_; have GE701 := n10_; have NB674_701 := n11_; have NB701_674 := n12_; have NB675_701 := n13_; have NB701_675 := n14_; have NB687_701 := n15_; have NB701_687 := n16_; have NB694_701 := n17_; have NB701_694 := n18_; clear n0_ n1_ n2_ n3_ n4_ n5_ n6_ n7_ n8_ n9_ n10_ n11_ n12_ n13_ n14_ n15_ n16_ n17_ n18_; clear hb hbox hg; have hnb65 := NB701_674.out; have hnc65 := NB674_701.out; have hnb66 := NB701_675.out; have hnc66 := NB675_701.out; have hnb67 := NB701_687.out; have hnc67 := NB687_701.out; have hnb68 := NB701_694.out; have hnc68 := NB694_701.out; have hcz69_0 : w64.cell? ⟨gb701, 0, none⟩ = some (.int .i64 0) := (blk_cell BK701.out 0).trans rfl; have hcz69_1 : w64.cell? ⟨gb701, 1, none⟩ = some (.int .i64 0) := (blk_cell BK701.out 1).trans rfl; have hcz69_2 : w64.cell? ⟨gb701, 2, none⟩ = some (.slice none 0 0) := (blk_cell BK701.out 2).trans rfl; have hfz69_0 := blk_frozen BK701.out 0; have hfz69_1 := blk_frozen BK701.out 1; have hfz69_2 := blk_frozen BK701.out 2; obtain ⟨Ao70, co70, eo70⟩ := Kd.R_slice HO699.out; subst eo70; have hcz71_0 : w64.cell? ⟨gb674, 0, none⟩ = some (.int .i64 a0_0) := (blk_cell BK674.out 0).trans rfl; have hcz71_1 : w64.cell? ⟨gb674, 1, none⟩ = some (.int .i64 a0_1) := (blk_cell BK674.out 1).trans rfl; have hcz71_2 : w64.cell? ⟨gb674, 2, none⟩ = some (.slice A0_2 l0_2.length c0_2) := (blk_cell BK674.out 2).trans rfl; have hfz71_0 := blk_frozen BK674.out 0; have hfz71_1 := blk_frozen BK674.out 1; have hfz71_2 := blk_frozen BK674.out 2; have hcz72_0 : w64.cell? ⟨gb675, 0, none⟩ = some (.int .i64 a1_0) := (blk_cell BK675.out 0).trans rfl; have hcz72_1 : w64.cell? ⟨gb675, 1, none⟩ = some (.int .i64 a1_1) := (blk_cell BK675.out 1).trans rfl; have hcz72_2 : w64.cell? ⟨gb675, 2, none⟩ = some (.slice A1_2 l1_2.length c1_2) := (blk_cell BK675.out 2).trans rfl; have hfz72_0 := blk_frozen BK675.out 0; have hfz72_1 := blk_frozen BK675.out 1; have hfz72_2 := blk_frozen BK675.out 2) | ((with_reducible refine gate_callee (f := 32) rfl ?_); refine goesL_ (some 60) rfl rfl Try.func32 (by kernel_rfl) rfl #[.agg #[.int .i64 a0_0, .int .i64 a0_1, .slice A0_2 l0_2.length c0_2], .agg #[.int .i64 a1_0, .int .i64 a1_1, .slice A1_2 l1_2.length c1_2], .int .i64 a0_0, .int .i64 0] rfl (by (try simp only [List.map_toArray, List.map_cons, List.map_nil]) <;> rfl) ?_; (with_reducible refine (buffer_Paste.calls a0_0 a0_1 _ _ l0_2 a1_0 a1_1 _ _ l1_2 a0_0 0 t702 t703 t704 t707 _ ?side1 ?side2 ?side3 ?side4 A43.out).mono ?_); (case side1 => exact Kd.C_below HR0_2.out (hq_ HB)); (case side2 => exact HC0_2.out); (case side3 => exact Kd.C_below HR1_2.out (hq_ HB)); (case side4 => exact HC1_2.out); rintro e w73 ⟨v705, rfl, ho0, hb⟩; refine ⟨_, rfl, ?_⟩; have n0_ := Aside0.mk (Kd.R_elder' (by (with_reducible repeat (first | apply Kd.R_alloc | apply Kd.R_drewN | apply Kd.R_drew)); exact (Kd.R_mono (Kd.R_far (p := ⟨gb701, 2, none⟩) (Kd.R_far (p := ⟨gb701, 1, none⟩) (Kd.R_far (p := ⟨gb701, 0, none⟩) (Kd.R_types HO685.out BK701.out (by decide)) (fun _ hk => hk.2) (.int .i64 t695)) (fun _ hk => hk.2) (.int .i64 t696)) (fun _ hk => hk.2) (.slice Ao70 t697.length co70)) (fun _ h_ => h_.1))) (Kd.R_base ho0) hb); have n1_ := Aside0.mk (Kd.R_elder' (by (with_reducible repeat (first | apply Kd.R_alloc | apply Kd.R_drewN | apply Kd.R_drew)); exact (Kd.R_mono (Kd.R_far (p := ⟨gb701, 2, none⟩) (Kd.R_far (p := ⟨gb701, 1, none⟩) (Kd.R_far (p := ⟨gb701, 0, none⟩) (Kd.R_types HO692.out BK701.out (by decide)) (fun _ hk => hk.2) (.int .i64 t695)) (fun _ hk => hk.2) (.int .i64 t696)) (fun _ hk => hk.2) (.slice Ao70 t697.length co70)) (fun _ h_ => h_.1))) (Kd.R_base ho0) hb); have n2_ := Aside0.mk (Kd.R_elder' (by (with_reducible repeat (first | apply Kd.R_alloc | apply Kd.R_drewN | apply Kd.R_drew)); exact (Kd.R_mono (Kd.R_far (p := ⟨gb701, 2, none⟩) (Kd.R_far (p := ⟨gb701, 1, none⟩) (Kd.R_far (p := ⟨gb701, 0, none⟩) (Kd.R_types HO699.out BK701.out (by decide)) (fun _ hk => hk.2) (.int .i64 t695)) (fun _ hk => hk.2) (.int .i64 t696)) (fun _ hk => hk.2) (.slice Ao70 t697.length co70)) (fun _ h_ => h_.1))) (Kd.R_base ho0) hb); have n3_ := Aside0.mk (Kd.R_lower (Kd.R_new' (Kd.R_new' (Kd.R_new' ho0 (Kd.R_lt (by (with_reducible repeat (first | apply Kd.R_alloc | apply Kd.R_drewN | apply Kd.R_drew)); exact (Kd.R_mono (Kd.R_far (p := ⟨gb701, 2, none⟩) (Kd.R_far (p := ⟨gb701, 1, none⟩) (Kd.R_far (p := ⟨gb701, 0, none⟩) (Kd.R_types HO685.out BK701.out (by decide)) (fun _ hk => hk.2) (.int .i64 t695)) (fun _ hk => hk.2) (.int .i64 t696)) (fun _ hk => hk.2) (.slice Ao70 t697.length co70)) (fun _ h_ => h_.1))))) (Kd.R_lt (by (with_reducible repeat (first | apply Kd.R_alloc | apply Kd.R_drewN | apply Kd.R_drew)); exact (Kd.R_mono (Kd.R_far (p := ⟨gb701, 2, none⟩) (Kd.R_far (p := ⟨gb701, 1, none⟩) (Kd.R_far (p := ⟨gb701, 0, none⟩) (Kd.R_types HO692.out BK701.out (by decide)) (fun _ hk => hk.2) (.int .i64 t695)) (fun _ hk => hk.2) (.int .i64 t696)) (fun _ hk => hk.2) (.slice Ao70 t697.length co70)) (fun _ h_ => h_.1))))) (Kd.R_lt (by (with_reducible repeat (first | apply Kd.R_alloc | apply Kd.R_drewN | apply Kd.R_drew)); exact (Kd.R_mono (Kd.R_far (p := ⟨gb701, 2, none⟩) (Kd.R_far (p := ⟨gb701, 1, none⟩) (Kd.R_far (p := ⟨gb701, 0, none⟩) (Kd.R_types HO699.out BK701.out (by decide)) (fun _ hk => hk.2) (.int .i64 t695)) (fun _ hk => hk.2) (.int .i64 t696)) (fun _ hk => hk.2) (.slice Ao70 t697.length co70)) (fun _ h_ => h_.1))))) (below_size (hq_ HB))); have n4_ := Aside0.mk (blk_below (g := gb674) (o := .cells #[.int .i64 a0_0, .int .i64 a0_1, .slice A0_2 l0_2.length c0_2] 27 (0, 0)) (by (with_reducible repeat (first | refine blk_drewN ?_ _ | refine blk_drew ?_ | refine blk_alloc ?_ _)); refine blk_far ?_ NB674_701.out _; (with_reducible repeat (first | refine blk_drewN ?_ _ | refine blk_drew ?_ | refine blk_alloc ?_ _)); refine blk_far ?_ NB674_701.out _; (with_reducible repeat (first | refine blk_drewN ?_ _ | refine blk_drew ?_ | refine blk_alloc ?_ _)); refine blk_far ?_ NB674_701.out _; (with_reducible repeat (first | refine blk_drewN ?_ _ | refine blk_drew ?_ | refine blk_alloc ?_ _)); exact BK674.out) hb); have n5_ := Aside0.mk (blk_below (g := gb675) (o := .cells #[.int .i64 a1_0, .int .i64 a1_1, .slice A1_2 l1_2.length c1_2] 27 (0, 0)) (by (with_reducible repeat (first | refine blk_drewN ?_ _ | refine blk_drew ?_ | refine blk_alloc ?_ _)); refine blk_far ?_ NB675_701.out _; (with_reducible repeat (first | refine blk_drewN ?_ _ | refine blk_drew ?_ | refine blk_alloc ?_ _)); refine blk_far ?_ NB675_701.out _; (with_reducible repeat (first | refine blk_drewN ?_ _ | refine blk_drew ?_ | refine blk_alloc ?_ _)); refine blk_far ?_ NB675_701.out _; (with_reducible repeat (first | refine blk_drewN ?_ _ | refine blk_drew ?_ | refine blk_alloc ?_ _)); exact BK675.out) hb); have n6_ := Aside0.mk (blk_below (g := gb687) (o := .cells #[.int .i64 t681, .int .i64 t682, .slice Ao53 t683.length co53] 27 (0, 0)) (by (with_reducible repeat (first | refine blk_drewN ?_ _ | refine blk_drew ?_ | refine blk_alloc ?_ _)); refine blk_far ?_ NB687_701.out _; (with_reducible repeat (first | refine blk_drewN ?_ _ | refine blk_drew ?_ | refine blk_alloc ?_ _)); refine blk_far ?_ NB687_701.out _; (with_reducible repeat (first | refine blk_drewN ?_ _ | refine blk_drew ?_ | refine blk_alloc ?_ _)); refine blk_far ?_ NB687_701.out _; (with_reducible repeat (first | refine blk_drewN ?_ _ | refine blk_drew ?_ | refine blk_alloc ?_ _)); exact BK687.out) hb); have n7_ := Aside0.mk (blk_below (g := gb694) (o := .cells #[.int .i64 t688, .int .i64 t689, .slice Ao61 t690.length co61] 27 (0, 0)) (by (with_reducible repeat (first | refine blk_drewN ?_ _ | refine blk_drew ?_ | refine blk_alloc ?_ _)); refine blk_far ?_ NB694_701.out _; (with_reducible repeat (first | refine blk_drewN ?_ _ | refine blk_drew ?_ | refine blk_alloc ?_ _)); refine blk_far ?_ NB694_701.out _; (with_reducible repeat (first | refine blk_drewN ?_ _ | refine blk_drew ?_ | refine blk_alloc ?_ _)); refine blk_far ?_ NB694_701.out _; (with_reducible repeat (first | refine blk_drewN ?_ _ | refine blk_drew ?_ | refine blk_alloc ?_ _)); exact BK694.out) hb); have n8_ := Aside0.mk (blk_below (g := gb701) (o := .cells #[.int .i64 t695, .int .i64 t696, .slice Ao70 t697.length co70] 27 (0, 0)) (by (with_reducible repeat (first | refine blk_drewN ?_ _ | refine blk_drew ?_ | refine blk_alloc ?_ _)); refine blk_put (cs := #[.int .i64 t695, .int .i64 t696, .slice none 0 0]) ?_ 2 _ rfl; (with_reducible repeat (first | refine blk_drewN ?_ _ | refine blk_drew ?_ | refine blk_alloc ?_ _)); refine blk_put (cs := #[.int .i64 t695, .int .i64 0, .slice none 0 0]) ?_ 1 _ rfl; (with_reducible repeat (first | refine blk_drewN ?_ _ | refine blk_drew ?_ | refine blk_alloc ?_ _)); refine blk_put (cs := #[.int .i64 0, .int .i64 0, .slice none 0 0]) ?_ 0 _ rfl; (with_reducible repeat (first | refine blk_drewN ?_ _ | refine blk_drew ?_ | refine blk_alloc ?_ _)); exact BK701.out) hb); have n9_ := hb_ HB hb; clear HO685; clear HO692; clear HO699; clear BK674; clear BK675; clear BK687; clear BK694; clear BK701; clear HB; have HO685 := n0_; have HO692 := n1_; have HO699 := n2_; have HO706 := n3_; have BK674 := n4_; have BK675 := n5_; have BK687 := n6_; have BK694 := n7_; have BK701 := n8_; have HB := n9_; clear n0_ n1_ n2_ n3_ n4_ n5_ n6_ n7_ n8_ n9_; (try clear hb); (try clear hb2); (try clear hk); (try clear hi); (try clear ho0)) | ((with_reducible refine gate_dst (N := 11) rfl ?_); refine box_event ?hg (N := 11) ?hd (cs := #[.int .i64 0, .int .i64 0, .slice none 0 0]) (t := 27) ?hr ?_; (case hd => rfl); (case hg => rfl); (case hr => first | (go_simp; done) | (go_simp; rfl)); intro gb708 hg w74 hbox hb; have n0_ := Aside0.mk (Kd.R_below (by (with_reducible repeat (first | apply Kd.R_alloc | apply Kd.R_drewN | apply Kd.R_drew)); exact HO685.out) hb); have n1_ := Aside0.mk (Kd.R_below (by (with_reducible repeat (first | apply Kd.R_alloc | apply Kd.R_drewN | apply Kd.R_drew)); exact HO692.out) hb); have n2_ := Aside0.mk (Kd.R_below (by (with_reducible repeat (first | apply Kd.R_alloc | apply Kd.R_drewN | apply Kd.R_drew)); exact HO699.out) hb); have n3_ := Aside0.mk (Kd.R_below (by (with_reducible repeat (first | apply Kd.R_alloc | apply Kd.R_drewN | apply Kd.R_drew)); exact HO706.out) hb); have n4_ := bb_ BK674 hb; have n5_ := bb_ BK675 hb; have n6_ := bb_ BK687 hb; have n7_ := bb_ BK694 hb; have n8_ := bb_ BK701 hb; have n9_ := hb_ HB hb; have n10_ := Aside0.mk (hbox); have n11_ := Aside0.mk ((by rw [hg]; exact (below_size (hq_ HB)) : w.heap.size ≤ gb708)); have n12_ := Aside0.mk ((by rw [hg]; exact (below_size (hq_ HB)) : w.heap.size ≤ gb708)); have n13_ := Aside0.mk ((by rw [hg]; exact Nat.ne_of_lt (blk_lt (g := gb674) (o := .cells #[.int .i64 a0_0, .int .i64 a0_1, .slice A0_2 l0_2.length c0_2] 27 (0, 0)) (bq_ BK674)) : gb674 ≠ gb708)); have n14_ := Aside0.mk ((by rw [hg]; exact Nat.ne_of_gt (blk_lt (g := gb674) (o := .cells #[.int .i64 a0_0, .int .i64 a0_1, .slice A0_2 l0_2.length c0_2] 27 (0, 0)) (bq_ BK674)) : gb708 ≠ gb674)); have n15_ := Aside0.mk ((by rw [hg]; exact Nat.ne_of_lt (blk_lt (g := gb675) (o := .cells #[.int .i64 a1_0, .int .i64 a1_1, .slice A1_2 l1_2.length c1_2] 27 (0, 0)) (bq_ BK675)) : gb675 ≠ gb708)); have n16_ := Aside0.mk ((by rw [hg]; exact Nat.ne_of_gt (blk_lt (g := gb675) (o := .cells #[.int .i64 a1_0, .int .i64 a1_1, .slice A1_2 l1_2.length c1_2] 27 (0, 0)) (bq_ BK675)) : gb708 ≠ gb675)); have n17_ := Aside0.mk ((by rw [hg]; exact Nat.ne_of_lt (blk_lt (g := gb687) (o := .cells #[.int .i64 t681, .int .i64 t682, .slice Ao53 t683.length co53] 27 (0, 0)) (bq_ BK687)) : gb687 ≠ gb708)); have n18_ := Aside0.mk ((by rw [hg]; exact Nat.ne_of_gt (blk_lt (g := gb687) (o := .cells #[.int .i64 t681, .int .i64 t682, .slice Ao53 t683.length co53] 27 (0, 0)) (bq_ BK687)) : gb708 ≠ gb687)); have n19_ := Aside0.mk ((by rw [hg]; exact Nat.ne_of_lt (blk_lt (g := gb694) (o := .cells #[.int .i64 t688, .int .i64 t689, .slice Ao61 t690.length co61] 27 (0, 0)) (bq_ BK694)) : gb694 ≠ gb708)); have n20_ := Aside0.mk ((by rw [hg]; exact Nat.ne_of_gt (blk_lt (g := gb694) (o := .cells #[.int .i64 t688, .int .i64 t689, .slice Ao61 t690.length co61] 27 (0, 0)) (bq_ BK694)) : gb708 ≠ gb694)); have n21_ := Aside0.mk ((by rw [hg]; exact Nat.ne_of_lt (blk_lt (g := gb701) (o := .cells #[.int .i64 t695, .int .i64 t696, .slice Ao70 t697.length co70] 27 (0, 0)) (bq_ BK701)) : gb701 ≠ gb708)); have n22_ := Aside0.mk ((by rw [hg]; exact Nat.ne_of_gt (blk_lt (g := gb701) (o := .cells #[.int .i64 t695, .int .i64 t696, .slice Ao70 t697.length co70] 27 (0, 0)) (bq_ BK701)) : gb708 ≠ gb701)); clear HO685; clear HO692; clear HO699; clear HO706; clear BK674; clear BK675; clear BK687; clear BK694; clear BK701; clear HB; have HO685 := n0_; have HO692 := n1_; have HO699 := n2_; have HO706 := n3_; have BK674 := n4_; have BK675 := n5_; have BK687 := n6_; have BK694 := n7_; have BK701 := n8_; have HB := n9_; have BK708 := n10_; have GW708 := n11_; have GE708 := n12_; have NB674_708 := n13_; have NB708_674 := n14_; have NB675_708 := n15_; have NB708_675 := n16_; have NB687_708 := n17_; have NB708_687 := n18_; have NB694_708 := n19_; have NB708_694 := n20_; have NB701_708 := n21_; have NB708_701 := n22_; clear n0_ n1_ n2_ n3_ n4_ n5_ n6_ n7_ n8_ n9_ n10_ n11_ n12_ n13_ n14_ n15_ n16_ n17_ n18_ n19_ n20_ n21_ n22_; clear hb hbox hg; have hnb75 := NB708_674.out; have hnc75 := NB674_708.out; have hnb76 := NB708_675.out; have hnc76 := NB675_708.out; have hnb77 := NB708_687.out; have hnc77 := NB687_708.out; have hnb78 := NB708_694.out; have hnc78 := NB694_708.out; have hnb79 := NB708_701.out; have hnc79 := NB701_708.out; have hcz80_0 : w74.cell? ⟨gb708, 0, none⟩ = some (.int .i64 0) := (blk_cell BK708.out 0).trans rfl; have hcz80_1 : w74.cell? ⟨gb708, 1, none⟩ = some (.int .i64 0) := (blk_cell BK708.out 1).trans rfl; have hcz80_2 : w74.cell? ⟨gb708, 2, none⟩ = some (.slice none 0 0) := (blk_cell BK708.out 2).trans rfl; have hfz80_0 := blk_frozen BK708.out 0; have hfz80_1 := blk_frozen BK708.out 1; have hfz80_2 := blk_frozen BK708.out 2; obtain ⟨Ao81, co81, eo81⟩ := Kd.R_slice HO706.out; subst eo81; have hcz82_0 : w74.cell? ⟨gb674, 0, none⟩ = some (.int .i64 a0_0) := (blk_cell BK674.out 0).trans rfl; have hcz82_1 : w74.cell? ⟨gb674, 1, none⟩ = some (.int .i64 a0_1) := (blk_cell BK674.out 1).trans rfl; have hcz82_2 : w74.cell? ⟨gb674, 2, none⟩ = some (.slice A0_2 l0_2.length c0_2) := (blk_cell BK674.out 2).trans rfl; have hfz82_0 := blk_frozen BK674.out 0; have hfz82_1 := blk_frozen BK674.out 1; have hfz82_2 := blk_frozen BK674.out 2; have hcz83_0 : w74.cell? ⟨gb675, 0, none⟩ = some (.int .i64 a1_0) := (blk_cell BK675.out 0).trans rfl; have hcz83_1 : w74.cell? ⟨gb675, 1, none⟩ = some (.int .i64 a1_1) := (blk_cell BK675.out 1).trans rfl; have hcz83_2 : w74.cell? ⟨gb675, 2, none⟩ = some (.slice A1_2 l1_2.length c1_2) := (blk_cell BK675.out 2).trans rfl; have hfz83_0 := blk_frozen BK675.out 0; have hfz83_1 := blk_frozen BK675.out 1; have hfz83_2 := blk_frozen BK675.out 2) | ((with_reducible refine gate_callee (f := 35) rfl ?_); refine goesL_ (some 69) rfl rfl Try.func35 (by kernel_rfl) rfl #[.agg #[.int .i64 a0_0, .int .i64 a0_1, .slice A0_2 l0_2.length c0_2], .agg #[.int .i64 a1_0, .int .i64 a1_1, .slice A1_2 l1_2.length c1_2], .int .i64 0, .int .i64 (wrap64 (-a1_1))] rfl (by (try simp only [List.map_toArray, List.map_cons, List.map_nil]) <;> rfl) ?_; (with_reducible refine (buffer_BlendOver.calls a0_0 a0_1 _ _ l0_2 a1_0 a1_1 _ _ l1_2 0 (wrap64 (-a1_1)) t709 t710 t711 t714 _ ?side1 ?side2 ?side3 ?side4 A44.out).mono ?_); (case side1 => exact Kd.C_below HR0_2.out (hq_ HB)); (case side2 => exact HC0_2.out); (case side3 => exact Kd.C_below HR1_2.out (hq_ HB)); (case side4 => exact HC1_2.out); rintro e w84 ⟨v712, rfl, ho0, hb⟩; refine ⟨_, rfl, ?_⟩; have n0_ := Aside0.mk (Kd.R_elder' (by (with_reducible repeat (first | apply Kd.R_alloc | apply Kd.R_drewN | apply Kd.R_drew)); exact (Kd.R_mono (Kd.R_far (p := ⟨gb708, 2, none⟩) (Kd.R_far (p := ⟨gb708, 1, none⟩) (Kd.R_far (p := ⟨gb708, 0, none⟩) (Kd.R_types HO685.out BK708.out (by decide)) (fun _ hk => hk.2) (.int .i64 t702)) (fun _ hk => hk.2) (.int .i64 t703)) (fun _ hk => hk.2) (.slice Ao81 t704.length co81)) (fun _ h_ => h_.1))) (Kd.R_base ho0) hb); have n1_ := Aside0.mk (Kd.R_elder' (by (with_reducible repeat (first | apply Kd.R_alloc | apply Kd.R_drewN | apply Kd.R_drew)); exact (Kd.R_mono (Kd.R_far (p := ⟨gb708, 2, none⟩) (Kd.R_far (p := ⟨gb708, 1, none⟩) (Kd.R_far (p := ⟨gb708, 0, none⟩) (Kd.R_types HO692.out BK708.out (by decide)) (fun _ hk => hk.2) (.int .i64 t702)) (fun _ hk => hk.2) (.int .i64 t703)) (fun _ hk => hk.2) (.slice Ao81 t704.length co81)) (fun _ h_ => h_.1))) (Kd.R_base ho0) hb); have n2_ := Aside0.mk (Kd.R_elder' (by (with_reducible repeat (first | apply Kd.R_alloc | apply Kd.R_drewN | apply Kd.R_drew)); exact (Kd.R_mono (Kd.R_far (p := ⟨gb708, 2, none⟩) (Kd.R_far (p := ⟨gb708, 1, none⟩) (Kd.R_far (p := ⟨gb708, 0, none⟩) (Kd.R_types HO699.out BK708.out (by decide)) (fun _ hk => hk.2) (.int .i64 t702)) (fun _ hk => hk.2) (.int .i64 t703)) (fun _ hk => hk.2) (.slice Ao81 t704.length co81)) (fun _ h_ => h_.1))) (Kd.R_base ho0) hb); have n3_ := Aside0.mk (Kd.R_elder' (by (with_reducible repeat (first | apply Kd.R_alloc | apply Kd.R_drewN | apply Kd.R_drew)); exact (Kd.R_mono (Kd.R_far (p := ⟨gb708, 2, none⟩) (Kd.R_far (p := ⟨gb708, 1, none⟩) (Kd.R_far (p := ⟨gb708, 0, none⟩) (Kd.R_types HO706.out BK708.out (by decide)) (fun _ hk => hk.2) (.int .i64 t702)) (fun _ hk => hk.2) (.int .i64 t703)) (fun _ hk => hk.2) (.slice Ao81 t704.length co81)) (fun _ h_ => h_.1))) (Kd.R_base ho0) hb); have n4_ := Aside0.mk (Kd.R_lower (Kd.R_new' (Kd.R_new' (Kd.R_new' (Kd.R_new' ho0 (Kd.R_lt (by (with_reducible repeat (first | apply Kd.R_alloc | apply Kd.R_drewN | apply Kd.R_drew)); exact (Kd.R_mono (Kd.R_far (p := ⟨gb708, 2, none⟩) (Kd.R_far (p := ⟨gb708, 1, none⟩) (Kd.R_far (p := ⟨gb708, 0, none⟩) (Kd.R_types HO685.out BK708.out (by decide)) (fun _ hk => hk.2) (.int .i64 t702)) (fun _ hk => hk.2) (.int .i64 t703)) (fun _ hk => hk.2) (.slice Ao81 t704.length co81)) (fun _ h_ => h_.1))))) (Kd.R_lt (by (with_reducible repeat (first | apply Kd.R_alloc | apply Kd.R_drewN | apply Kd.R_drew)); exact (Kd.R_mono (Kd.R_far (p := ⟨gb708, 2, none⟩) (Kd.R_far (p := ⟨gb708, 1, none⟩) (Kd.R_far (p := ⟨gb708, 0, none⟩) (Kd.R_types HO692.out BK708.out (by decide)) (fun _ hk => hk.2) (.int .i64 t702)) (fun _ hk => hk.2) (.int .i64 t703)) (fun _ hk => hk.2) (.slice Ao81 t704.length co81)) (fun _ h_ => h_.1))))) (Kd.R_lt (by (with_reducible repeat (first | apply Kd.R_alloc | apply Kd.R_drewN | apply Kd.R_drew)); exact (Kd.R_mono (Kd.R_far (p := ⟨gb708, 2, none⟩) (Kd.R_far (p := ⟨gb708, 1, none⟩) (Kd.R_far (p := ⟨gb708, 0, none⟩) (Kd.R_types HO699.out BK708.out (by decide)) (fun _ hk => hk.2) (.int .i64 t702)) (fun _ hk => hk.2) (.int .i64 t703)) (fun _ hk => hk.2) (.slice Ao81 t704.length co81)) (fun _ h_ => h_.1))))) (Kd.R_lt (by (with_reducible repeat (first | apply Kd.R_alloc | apply Kd.R_drewN | apply Kd.R_drew)); exact (Kd.R_mono (Kd.R_far (p := ⟨gb708, 2, none⟩) (Kd.R_far (p := ⟨gb708, 1, none⟩) (Kd.R_far (p := ⟨gb708, 0, none⟩) (Kd.R_types HO706.out BK708.out (by decide)) (fun _ hk => hk.2) (.int .i64 t702)) (fun _ hk => hk.2) (.int .i64 t703)) (fun _ hk => hk.2) (.slice Ao81 t704.length co81)) (fun _ h_ => h_.1))))) (below_size (hq_ HB))); have n5_ := Aside0.mk (blk_below (g := gb674) (o := .cells #[.int .i64 a0_0, .int .i64 a0_1, .slice A0_2 l0_2.length c0_2] 27 (0, 0)) (by (with_reducible repeat (first | refine blk_drewN ?_ _ | refine blk_drew ?_ | refine blk_alloc ?_ _)); refine blk_far ?_ NB674_708.out _; (with_reducible repeat (first | refine blk_drewN ?_ _ | refine blk_drew ?_ | refine blk_alloc ?_ _)); refine blk_far ?_ NB674_708.out _; (with_reducible repeat (first | refine blk_drewN ?_ _ | refine blk_drew ?_ | refine blk_alloc ?_ _)); refine blk_far ?_ NB674_708.out _; (with_reducible repeat (first | refine blk_drewN ?_ _ | refine blk_drew ?_ | refine blk_alloc ?_ _)); exact BK674.out) hb); have n6_ := Aside0.mk (blk_below (g := gb675) (o := .cells #[.int .i64 a1_0, .int .i64 a1_1, .slice A1_2 l1_2.length c1_2] 27 (0, 0)) (by (with_reducible repeat (first | refine blk_drewN ?_ _ | refine blk_drew ?_ | refine blk_alloc ?_ _)); refine blk_far ?_ NB675_708.out _; (with_reducible repeat (first | refine blk_drewN ?_ _ | refine blk_drew ?_ | refine blk_alloc ?_ _)); refine blk_far ?_ NB675_708.out _; (with_reducible repeat (first | refine blk_drewN ?_ _ | refine blk_drew ?_ | refine blk_alloc ?_ _)); refine blk_far ?_ NB675_708.out _; (with_reducible repeat (first | refine blk_drewN ?_ _ | refine blk_drew ?_ | refine blk_alloc ?_ _)); exact BK675.out) hb); have n7_ := Aside0.mk (blk_below (g := gb687) (o := .cells #[.int .i64 t681, .int .i64 t682, .slice Ao53 t683.length co53] 27 (0, 0)) (by (with_reducible repeat (first | refine blk_drewN ?_ _ | refine blk_drew ?_ | refine blk_alloc ?_ _)); refine blk_far ?_ NB687_708.out _; (with_reducible repeat (first | refine blk_drewN ?_ _ | refine blk_drew ?_ | refine blk_alloc ?_ _)); refine blk_far ?_ NB687_708.out _; (with_reducible repeat (first | refine blk_drewN ?_ _ | refine blk_drew ?_ | refine blk_alloc ?_ _)); refine blk_far ?_ NB687_708.out _; (with_reducible repeat (first | refine blk_drewN ?_ _ | refine blk_drew ?_ | refine blk_alloc ?_ _)); exact BK687.out) hb); have n8_ := Aside0.mk (blk_below (g := gb694) (o := .cells #[.int .i64 t688, .int .i64 t689, .slice Ao61 t690.length co61] 27 (0, 0)) (by (with_reducible repeat (first | refine blk_drewN ?_ _ | refine blk_drew ?_ | refine blk_alloc ?_ _)); refine blk_far ?_ NB694_708.out _; (with_reducible repeat (first | refine blk_drewN ?_ _ | refine blk_drew ?_ | refine blk_alloc ?_ _)); refine blk_far ?_ NB694_708.out _; (with_reducible repeat (first | refine blk_drewN ?_ _ | refine blk_drew ?_ | refine blk_alloc ?_ _)); refine blk_far ?_ NB694_708.out _; (with_reducible repeat (first | refine blk_drewN ?_ _ | refine blk_drew ?_ | refine blk_alloc ?_ _)); exact BK694.out) hb); have n9_ := Aside0.mk (blk_below (g := gb701) (o := .cells #[.int .i64 t695, .int .i64 t696, .slice Ao70 t697.length co70] 27 (0, 0)) (by (with_reducible repeat (first | refine blk_drewN ?_ _ | refine blk_drew ?_ | refine blk_alloc ?_ _)); refine blk_far ?_ NB701_708.out _; (with_reducible repeat (first | refine blk_drewN ?_ _ | refine blk_drew ?_ | refine blk_alloc ?_ _)); refine blk_far ?_ NB701_708.out _; (with_reducible repeat (first | refine blk_drewN ?_ _ | refine blk_drew ?_ | refine blk_alloc ?_ _)); refine blk_far ?_ NB701_708.out _; (with_reducible repeat (first | refine blk_drewN ?_ _ | refine blk_drew ?_ | refine blk_alloc ?_ _)); exact BK701.out) hb); have n10_ := Aside0.mk (blk_below (g := gb708) (o := .cells #[.int .i64 t702, .int .i64 t703, .slice Ao81 t704.length co81] 27 (0, 0)) (by (with_reducible repeat (first | refine blk_drewN ?_ _ | refine blk_drew ?_ | refine blk_alloc ?_ _)); refine blk_put (cs := #[.int .i64 t702, .int .i64 t703, .slice none 0 0]) ?_ 2 _ rfl; (with_reducible repeat (first | refine blk_drewN ?_ _ | refine blk_drew ?_ | refine blk_alloc ?_ _)); refine blk_put (cs := #[.int .i64 t702, .int .i64 0, .slice none 0 0]) ?_ 1 _ rfl; (with_reducible repeat (first | refine blk_drewN ?_ _ | refine blk_drew ?_ | refine blk_alloc ?_ _)); refine blk_put (cs := #[.int .i64 0, .int .i64 0, .slice none 0 0]) ?_ 0 _ rfl; (with_reducible repeat (first | refine blk_drewN ?_ _ | refine blk_drew ?_ | refine blk_alloc ?_ _)); exact BK708.out) hb); have n11_ := hb_ HB hb; clear HO685; clear HO692; clear HO699; clear HO706; clear BK674; clear BK675; clear BK687; clear BK694; clear BK701; clear BK708; clear HB; have HO685 := n0_; have HO692 := n1_; have HO699 := n2_; have HO706 := n3_; have HO713 := n4_; have BK674 := n5_; have BK675 := n6_; have BK687 := n7_; have BK694 := n8_; have BK701 := n9_; have BK708 := n10_; have HB := n11_; clear n0_ n1_ n2_ n3_ n4_ n5_ n6_ n7_ n8_ n9_ n10_ n11_; (try clear hb); (try clear hb2); (try clear hk); (try clear hi); (try clear ho0)) | ((with_reducible refine gate_dst (N := 13) rfl ?_); refine box_event ?hg (N := 13) ?hd (cs := #[.int .i64 0, .int .i64 0, .slice none 0 0]) (t := 27) ?hr ?_; (case hd => rfl); (case hg => rfl); (case hr => first | (go_simp; done) | (go_simp; rfl)); intro gb715 hg w85 hbox hb; have n0_ := Aside0.mk (Kd.R_below (by (with_reducible repeat (first | apply Kd.R_alloc | apply Kd.R_drewN | apply Kd.R_drew)); exact HO685.out) hb); have n1_ := Aside0.mk (Kd.R_below (by (with_reducible repeat (first | apply Kd.R_alloc | apply Kd.R_drewN | apply Kd.R_drew)); exact HO692.out) hb); have n2_ := Aside0.mk (Kd.R_below (by (with_reducible repeat (first | apply Kd.R_alloc | apply Kd.R_drewN | apply Kd.R_drew)); exact HO699.out) hb); have n3_ := Aside0.mk (Kd.R_below (by (with_reducible repeat (first | apply Kd.R_alloc | apply Kd.R_drewN | apply Kd.R_drew)); exact HO706.out) hb); have n4_ := Aside0.mk (Kd.R_below (by (with_reducible repeat (first | apply Kd.R_alloc | apply Kd.R_drewN | apply Kd.R_drew)); exact HO713.out) hb); have n5_ := bb_ BK674 hb; have n6_ := bb_ BK675 hb; have n7_ := bb_ BK687 hb; have n8_ := bb_ BK694 hb; have n9_ := bb_ BK701 hb; have n10_ := bb_ BK708 hb; have n11_ := hb_ HB hb; have n12_ := Aside0.mk (hbox); have n13_ := Aside0.mk ((by rw [hg]; exact (below_size (hq_ HB)) : w.heap.size ≤ gb715)); have n14_ := Aside0.mk ((by rw [hg]; exact (below_size (hq_ HB)) : w.heap.size ≤ gb715)); have n15_ := Aside0.mk ((by rw [hg]; exact Nat.ne_of_lt (blk_lt (g := gb674) (o := .cells #[.int .i64 a0_0, .int .i64 a0_1, .slice A0_2 l0_2.length c0_2] 27 (0, 0)) (bq_ BK674)) : gb674 ≠ gb715)); have n16_ := Aside0.mk ((by rw [hg]; exact Nat.ne_of_gt (blk_lt (g := gb674) (o := .cells #[.int .i64 a0_0, .int .i64 a0_1, .slice A0_2 l0_2.length c0_2] 27 (0, 0)) (bq_ BK674)) : gb715 ≠ gb674)); have n17_ := Aside0.mk ((by rw [hg]; exact Nat.ne_of_lt (blk_lt (g := gb675) (o := .cells #[.int .i64 a1_0, .int .i64 a1_1, .slice A1_2 l1_2.length c1_2] 27 (0, 0)) (bq_ BK675)) : gb675 ≠ gb715)); have n18_ := Aside0.mk ((by rw [hg]; exact Nat.ne_of_gt (blk_lt (g := gb675) (o := .cells #[.int .i64 a1_0, .int .i64 a1_1, .slice A1_2 l1_2.length c1_2] 27 (0, 0)) (bq_ BK675)) : gb715 ≠ gb675)); have n19_ := Aside0.mk ((by rw [hg]; exact Nat.ne_of_lt (blk_lt (g := gb687) (o := .cells #[.int .i64 t681, .int .i64 t682, .slice Ao53 t683.length co53] 27 (0, 0)) (bq_ BK687)) : gb687 ≠ gb715)); have n20_ := Aside0.mk ((by rw [hg]; exact Nat.ne_of_gt (blk_lt (g := gb687) (o := .cells #[.int .i64 t681, .int .i64 t682, .slice Ao53 t683.length co53] 27 (0, 0)) (bq_ BK687)) : gb715 ≠ gb687)); have n21_ := Aside0.mk ((by rw [hg]; exact Nat.ne_of_lt (blk_lt (g := gb694) (o := .cells #[.int .i64 t688, .int .i64 t689, .slice Ao61 t690.length co61] 27 (0, 0)) (bq_ BK694)) : gb694 ≠ gb715)); have n22_ := Aside0.mk ((by rw [hg]; exact Nat.ne_of_gt (blk_lt (g := gb694) (o := .cells #[.int .i64 t688, .int .i64 t689, .slice Ao61 t690.length co61] 27 (0, 0)) (bq_ BK694)) : gb715 ≠ gb694)); have n23_ := Aside0.mk ((by rw [hg]; exact Nat.ne_of_lt (blk_lt (g := gb701) (o := .cells #[.int .i64 t695, .int .i64 t696, .slice Ao70 t697.length co70] 27 (0, 0)) (bq_ BK701)) : gb701 ≠ gb715)); have n24_ := Aside0.mk ((by rw [hg]; exact Nat.ne_of_gt (blk_lt (g := gb701) (o := .cells #[.int .i64 t695, .int .i64 t696, .slice Ao70 t697.length co70] 27 (0, 0)) (bq_ BK701)) : gb715 ≠ gb701)); have n25_ := Aside0.mk ((by rw [hg]; exact Nat.ne_of_lt (blk_lt (g := gb708) (o := .cells #[.int .i64 t702, .int .i64 t703, .slice Ao81 t704.length co81] 27 (0, 0)) (bq_ BK708)) : gb708 ≠ gb715)); have n26_ := Aside0.mk ((by rw [hg]; exact Nat.ne_of_gt (blk_lt (g := gb708) (o := .cells #[.int .i64 t702, .int .i64 t703, .slice Ao81 t704.length co81] 27 (0, 0)) (bq_ BK708)) : gb715 ≠ gb708)); clear HO685; clear HO692; clear HO699; clear HO706; clear HO713; clear BK674; clear BK675; clear BK687; clear BK694; clear BK701; clear BK708; clear HB; have HO685 := n0_; have HO692 := n1_; have HO699 := n2_; have HO706 := n3_; have HO713 := n4_; have BK674 := n5_; have BK675 := n6_; have BK687 := n7_; have BK694 := n8_; have BK701 := n9_; have BK708 := n10_; have HB := n11_; have BK715 := n12_; have GW715 := n13_; have GE715 := n14_; have NB674_715 := n15_; have NB715_674 := n16_; have NB675_715 := n17_; have NB715_675 := n18_; have NB687_715 := n19_; have NB715_687 := n20_; have NB694_715 := n21_; have NB715_694 := n22_; have NB701_715 := n23_; have NB715_701 := n24_; have NB708_715 := n25_; have NB715_708 := n26_; clear n0_ n1_ n2_ n3_ n4_ n5_ n6_ n7_ n8_ n9_ n10_ n11_ n12_ n13_ n14_ n15_ n16_ n17_ n18_ n19_ n20_ n21_ n22_ n23_ n24_ n25_ n26_; clear hb hbox hg; have hnb86 := NB715_674.out; have hnc86 := NB674_715.out; have hnb87 := NB715_675.out; have hnc87 := NB675_715.out; have hnb88 := NB715_687.out; have hnc88 := NB687_715.out; have hnb89 := NB715_694.out; have hnc89 := NB694_715.out; have hnb90 := NB715_701.out; have hnc90 := NB701_715.out; have hnb91 := NB715_708.out; have hnc91 := NB708_715.out; have hcz92_0 : w85.cell? ⟨gb715, 0, none⟩ = some (.int .i64 0) := (blk_cell BK715.out 0).trans rfl; have hcz92_1 : w85.cell? ⟨gb715, 1, none⟩ = some (.int .i64 0) := (blk_cell BK715.out 1).trans rfl; have hcz92_2 : w85.cell? ⟨gb715, 2, none⟩ = some (.slice none 0 0) := (blk_cell BK715.out 2).trans rfl; have hfz92_0 := blk_frozen BK715.out 0; have hfz92_1 := blk_frozen BK715.out 1; have hfz92_2 := blk_frozen BK715.out 2; obtain ⟨Ao93, co93, eo93⟩ := Kd.R_slice HO713.out; subst eo93))
    (try simp only [Act.put, List.setIfInBounds_toArray, List.set_cons_zero, List.set_cons_succ])
    go_cut [89] (fun v89 wc => ∃ (kq : Nat) (x89_44 : Bool), v89 = .bool x89_44 ∧ Aside0 (compositorlaw09_BufferNeutral.j1 kq x89_44 a0_0 a0_1 l0_2 t681 t682 t683 t695 t696 t697 t702 t703 t704 t709 t710 t711 = some true) ∧ Aside0 (kq ≤ kj2) ∧ Aside0 (Kd.R k43 43 wc w.heap.size (fun k_ => some k_ ≠ ((.slice Ao61 t690.length co61) : Value).ownBlock ∧ some k_ ≠ ((.slice Ao70 t697.length co70) : Value).ownBlock ∧ some k_ ≠ ((.slice Ao81 t704.length co81) : Value).ownBlock ∧ some k_ ≠ ((.slice Ao93 t711.length co93) : Value).ownBlock) (.slice Ao53 t683.length co53) t683) ∧ Aside0 (Kd.R k43 43 wc w.heap.size (fun k_ => some k_ ≠ ((.slice Ao53 t683.length co53) : Value).ownBlock ∧ some k_ ≠ ((.slice Ao70 t697.length co70) : Value).ownBlock ∧ some k_ ≠ ((.slice Ao81 t704.length co81) : Value).ownBlock ∧ some k_ ≠ ((.slice Ao93 t711.length co93) : Value).ownBlock) (.slice Ao61 t690.length co61) t690) ∧ Aside0 (Kd.R k43 43 wc w.heap.size (fun k_ => some k_ ≠ ((.slice Ao53 t683.length co53) : Value).ownBlock ∧ some k_ ≠ ((.slice Ao61 t690.length co61) : Value).ownBlock ∧ some k_ ≠ ((.slice Ao81 t704.length co81) : Value).ownBlock ∧ some k_ ≠ ((.slice Ao93 t711.length co93) : Value).ownBlock) (.slice Ao70 t697.length co70) t697) ∧ Aside0 (Kd.R k43 43 wc w.heap.size (fun k_ => some k_ ≠ ((.slice Ao53 t683.length co53) : Value).ownBlock ∧ some k_ ≠ ((.slice Ao61 t690.length co61) : Value).ownBlock ∧ some k_ ≠ ((.slice Ao70 t697.length co70) : Value).ownBlock ∧ some k_ ≠ ((.slice Ao93 t711.length co93) : Value).ownBlock) (.slice Ao81 t704.length co81) t704) ∧ Aside0 (Kd.R k43 43 wc w.heap.size (fun k_ => some k_ ≠ ((.slice Ao53 t683.length co53) : Value).ownBlock ∧ some k_ ≠ ((.slice Ao61 t690.length co61) : Value).ownBlock ∧ some k_ ≠ ((.slice Ao70 t697.length co70) : Value).ownBlock ∧ some k_ ≠ ((.slice Ao81 t704.length co81) : Value).ownBlock) (.slice Ao93 t711.length co93) t711) ∧ Aside0 (wc.heap[gb674]? = some (.cells #[.int .i64 a0_0, .int .i64 a0_1, (.slice A0_2 l0_2.length c0_2)] 27 (0, 0))) ∧ Aside0 (wc.heap[gb675]? = some (.cells #[.int .i64 a1_0, .int .i64 a1_1, (.slice A1_2 l1_2.length c1_2)] 27 (0, 0))) ∧ Aside0 (wc.heap[gb687]? = some (.cells #[.int .i64 t681, .int .i64 t682, (.slice Ao53 t683.length co53)] 27 (0, 0))) ∧ Aside0 (wc.heap[gb694]? = some (.cells #[.int .i64 t688, .int .i64 t689, (.slice Ao61 t690.length co61)] 27 (0, 0))) ∧ Aside0 (wc.heap[gb701]? = some (.cells #[.int .i64 t695, .int .i64 t696, (.slice Ao70 t697.length co70)] 27 (0, 0))) ∧ Aside0 (wc.heap[gb708]? = some (.cells #[.int .i64 t702, .int .i64 t703, (.slice Ao81 t704.length co81)] 27 (0, 0))) ∧ Aside0 (wc.heap[gb715]? = some (.cells #[.int .i64 t709, .int .i64 t710, (.slice Ao93 t711.length co93)] 27 (0, 0))) ∧ Aside0 (Below w.heap.size w wc))
    case first =>
     have H := HC45.out
     clear HC45
     by_cases c94 : t686 = 0
     ·
      rw [if_pos c94] at H
      have c94b0 : (t686 == 0) = true := beq_iff_eq.mpr c94
      have c94b1 : (t686 != 0) = false := bne_eq_false_iff_eq.mpr c94
      clear c94
      (first | rw [c94b0] | (simp only [i64_w, i32_w]; rw [c94b0]) | skip)
      by_cases c95 : t693 = 0
      ·
       rw [if_pos c95] at H
       have c95b0 : (t693 == 0) = true := beq_iff_eq.mpr c95
       have c95b1 : (t693 != 0) = false := bne_eq_false_iff_eq.mpr c95
       clear c95
       by_cases c96 : t700 = 0
       ·
        rw [if_pos c96] at H
        have c96b0 : (t700 == 0) = true := beq_iff_eq.mpr c96
        have c96b1 : (t700 != 0) = false := bne_eq_false_iff_eq.mpr c96
        clear c96
        by_cases c97 : t707 = 0
        ·
         rw [if_pos c97] at H
         have c97b0 : (t707 == 0) = true := beq_iff_eq.mpr c97
         have c97b1 : (t707 != 0) = false := bne_eq_false_iff_eq.mpr c97
         clear c97
         have H' := Aside0.mk H
         clear H
         go_wp2
         go_meet
         case rel => exact ⟨_, ((t714 != 0)), (by first | rfl | (simp; done) | (simp [*]; done)), H', ⟨by have := HJ2.out; first | omega | exact Nat.le_refl _⟩, ⟨by (with_reducible repeat (first | apply Kd.R_alloc | apply Kd.R_drewN | apply Kd.R_drew)); exact Kd.R_mono (Kd.R_far (p := ⟨gb715, 2, none⟩) (Kd.R_far (p := ⟨gb715, 1, none⟩) (Kd.R_far (p := ⟨gb715, 0, none⟩) (Kd.R_types HO685.out BK715.out (by decide)) (fun _ hk => hk.2) (.int .i64 t709)) (fun _ hk => hk.2) (.int .i64 t710)) (fun _ hk => hk.2) (.slice Ao93 t711.length co93)) (fun _ hk => ⟨hk.1.1.1.1.2, ⟨hk.1.1.1.2, ⟨hk.1.1.2, hk.1.2⟩⟩⟩)⟩, ⟨by (with_reducible repeat (first | apply Kd.R_alloc | apply Kd.R_drewN | apply Kd.R_drew)); exact Kd.R_mono (Kd.R_far (p := ⟨gb715, 2, none⟩) (Kd.R_far (p := ⟨gb715, 1, none⟩) (Kd.R_far (p := ⟨gb715, 0, none⟩) (Kd.R_types HO692.out BK715.out (by decide)) (fun _ hk => hk.2) (.int .i64 t709)) (fun _ hk => hk.2) (.int .i64 t710)) (fun _ hk => hk.2) (.slice Ao93 t711.length co93)) (fun _ hk => ⟨hk.1.1.1.1.2, ⟨hk.1.1.1.2, ⟨hk.1.1.2, hk.1.2⟩⟩⟩)⟩, ⟨by (with_reducible repeat (first | apply Kd.R_alloc | apply Kd.R_drewN | apply Kd.R_drew)); exact Kd.R_mono (Kd.R_far (p := ⟨gb715, 2, none⟩) (Kd.R_far (p := ⟨gb715, 1, none⟩) (Kd.R_far (p := ⟨gb715, 0, none⟩) (Kd.R_types HO699.out BK715.out (by decide)) (fun _ hk => hk.2) (.int .i64 t709)) (fun _ hk => hk.2) (.int .i64 t710)) (fun _ hk => hk.2) (.slice Ao93 t711.length co93)) (fun _ hk => ⟨hk.1.1.1.1.2, ⟨hk.1.1.1.2, ⟨hk.1.1.2, hk.1.2⟩⟩⟩)⟩, ⟨by (with_reducible repeat (first | apply Kd.R_alloc | apply Kd.R_drewN | apply Kd.R_drew)); exact Kd.R_mono (Kd.R_far (p := ⟨gb715, 2, none⟩) (Kd.R_far (p := ⟨gb715, 1, none⟩) (Kd.R_far (p := ⟨gb715, 0, none⟩) (Kd.R_types HO706.out BK715.out (by decide)) (fun _ hk => hk.2) (.int .i64 t709)) (fun _ hk => hk.2) (.int .i64 t710)) (fun _ hk => hk.2) (.slice Ao93 t711.length co93)) (fun _ hk => ⟨hk.1.1.1.1.2, ⟨hk.1.1.1.2, ⟨hk.1.1.2, hk.1.2⟩⟩⟩)⟩, ⟨by (with_reducible repeat (first | apply Kd.R_alloc | apply Kd.R_drewN | apply Kd.R_drew)); exact Kd.R_mono (Kd.R_far (p := ⟨gb715, 2, none⟩) (Kd.R_far (p := ⟨gb715, 1, none⟩) (Kd.R_far (p := ⟨gb715, 0, none⟩) (Kd.R_types HO713.out BK715.out (by decide)) (fun _ hk => hk.2) (.int .i64 t709)) (fun _ hk => hk.2) (.int .i64 t710)) (fun _ hk => hk.2) (.slice Ao93 t711.length co93)) (fun _ hk => ⟨hk.1.1.1.1.2, ⟨hk.1.1.1.2, ⟨hk.1.1.2, hk.1.2⟩⟩⟩)⟩, bf_ BK674, bf_ BK675, bf_ BK687, bf_ BK694, bf_ BK701, bf_ BK708, ⟨by (with_reducible repeat (first | refine blk_drewN ?_ _ | refine blk_drew ?_ | refine blk_alloc ?_ _)); refine blk_put (cs := #[.int .i64 t709, .int .i64 t710, .slice none 0 0]) ?_ 2 _ rfl; (with_reducible repeat (first | refine blk_drewN ?_ _ | refine blk_drew ?_ | refine blk_alloc ?_ _)); refine blk_put (cs := #[.int .i64 t709, .int .i64 0, .slice none 0 0]) ?_ 1 _ rfl; (with_reducible repeat (first | refine blk_drewN ?_ _ | refine blk_drew ?_ | refine blk_alloc ?_ _)); refine blk_put (cs := #[.int .i64 0, .int .i64 0, .slice none 0 0]) ?_ 0 _ rfl; (with_reducible repeat (first | refine blk_drewN ?_ _ | refine blk_drew ?_ | refine blk_alloc ?_ _)); exact BK715.out⟩, ⟨by repeat (first | (with_reducible first | exact HB.out | apply below_alloc | apply pw_below_drewN | apply below_drew1 | refine below_set ?_ GE674.out | refine below_set ?_ GE675.out | refine below_set ?_ GE687.out | refine below_set ?_ GE694.out | refine below_set ?_ GE701.out | refine below_set ?_ GE708.out | refine below_set ?_ GE715.out) | exact HB.out)⟩⟩
        ·
         rw [if_neg c97] at H
         have c97b0 : (t707 == 0) = false := beq_eq_false_iff_ne.mpr c97
         have c97b1 : (t707 != 0) = true := bne_iff_ne.mpr c97
         have H' := Aside0.mk H
         clear H
         go_wp2
         go_meet
         case rel => exact ⟨_, (true), (by first | rfl | (simp; done) | (simp [*]; done)), H', ⟨by have := HJ2.out; first | omega | exact Nat.le_refl _⟩, ⟨by (with_reducible repeat (first | apply Kd.R_alloc | apply Kd.R_drewN | apply Kd.R_drew)); exact Kd.R_mono (Kd.R_far (p := ⟨gb715, 2, none⟩) (Kd.R_far (p := ⟨gb715, 1, none⟩) (Kd.R_far (p := ⟨gb715, 0, none⟩) (Kd.R_types HO685.out BK715.out (by decide)) (fun _ hk => hk.2) (.int .i64 t709)) (fun _ hk => hk.2) (.int .i64 t710)) (fun _ hk => hk.2) (.slice Ao93 t711.length co93)) (fun _ hk => ⟨hk.1.1.1.1.2, ⟨hk.1.1.1.2, ⟨hk.1.1.2, hk.1.2⟩⟩⟩)⟩, ⟨by (with_reducible repeat (first | apply Kd.R_alloc | apply Kd.R_drewN | apply Kd.R_drew)); exact Kd.R_mono (Kd.R_far (p := ⟨gb715, 2, none⟩) (Kd.R_far (p := ⟨gb715, 1, none⟩) (Kd.R_far (p := ⟨gb715, 0, none⟩) (Kd.R_types HO692.out BK715.out (by decide)) (fun _ hk => hk.2) (.int .i64 t709)) (fun _ hk => hk.2) (.int .i64 t710)) (fun _ hk => hk.2) (.slice Ao93 t711.length co93)) (fun _ hk => ⟨hk.1.1.1.1.2, ⟨hk.1.1.1.2, ⟨hk.1.1.2, hk.1.2⟩⟩⟩)⟩, ⟨by (with_reducible repeat (first | apply Kd.R_alloc | apply Kd.R_drewN | apply Kd.R_drew)); exact Kd.R_mono (Kd.R_far (p := ⟨gb715, 2, none⟩) (Kd.R_far (p := ⟨gb715, 1, none⟩) (Kd.R_far (p := ⟨gb715, 0, none⟩) (Kd.R_types HO699.out BK715.out (by decide)) (fun _ hk => hk.2) (.int .i64 t709)) (fun _ hk => hk.2) (.int .i64 t710)) (fun _ hk => hk.2) (.slice Ao93 t711.length co93)) (fun _ hk => ⟨hk.1.1.1.1.2, ⟨hk.1.1.1.2, ⟨hk.1.1.2, hk.1.2⟩⟩⟩)⟩, ⟨by (with_reducible repeat (first | apply Kd.R_alloc | apply Kd.R_drewN | apply Kd.R_drew)); exact Kd.R_mono (Kd.R_far (p := ⟨gb715, 2, none⟩) (Kd.R_far (p := ⟨gb715, 1, none⟩) (Kd.R_far (p := ⟨gb715, 0, none⟩) (Kd.R_types HO706.out BK715.out (by decide)) (fun _ hk => hk.2) (.int .i64 t709)) (fun _ hk => hk.2) (.int .i64 t710)) (fun _ hk => hk.2) (.slice Ao93 t711.length co93)) (fun _ hk => ⟨hk.1.1.1.1.2, ⟨hk.1.1.1.2, ⟨hk.1.1.2, hk.1.2⟩⟩⟩)⟩, ⟨by (with_reducible repeat (first | apply Kd.R_alloc | apply Kd.R_drewN | apply Kd.R_drew)); exact Kd.R_mono (Kd.R_far (p := ⟨gb715, 2, none⟩) (Kd.R_far (p := ⟨gb715, 1, none⟩) (Kd.R_far (p := ⟨gb715, 0, none⟩) (Kd.R_types HO713.out BK715.out (by decide)) (fun _ hk => hk.2) (.int .i64 t709)) (fun _ hk => hk.2) (.int .i64 t710)) (fun _ hk => hk.2) (.slice Ao93 t711.length co93)) (fun _ hk => ⟨hk.1.1.1.1.2, ⟨hk.1.1.1.2, ⟨hk.1.1.2, hk.1.2⟩⟩⟩)⟩, bf_ BK674, bf_ BK675, bf_ BK687, bf_ BK694, bf_ BK701, bf_ BK708, ⟨by (with_reducible repeat (first | refine blk_drewN ?_ _ | refine blk_drew ?_ | refine blk_alloc ?_ _)); refine blk_put (cs := #[.int .i64 t709, .int .i64 t710, .slice none 0 0]) ?_ 2 _ rfl; (with_reducible repeat (first | refine blk_drewN ?_ _ | refine blk_drew ?_ | refine blk_alloc ?_ _)); refine blk_put (cs := #[.int .i64 t709, .int .i64 0, .slice none 0 0]) ?_ 1 _ rfl; (with_reducible repeat (first | refine blk_drewN ?_ _ | refine blk_drew ?_ | refine blk_alloc ?_ _)); refine blk_put (cs := #[.int .i64 0, .int .i64 0, .slice none 0 0]) ?_ 0 _ rfl; (with_reducible repeat (first | refine blk_drewN ?_ _ | refine blk_drew ?_ | refine blk_alloc ?_ _)); exact BK715.out⟩, ⟨by repeat (first | (with_reducible first | exact HB.out | apply below_alloc | apply pw_below_drewN | apply below_drew1 | refine below_set ?_ GE674.out | refine below_set ?_ GE675.out | refine below_set ?_ GE687.out | refine below_set ?_ GE694.out | refine below_set ?_ GE701.out | refine below_set ?_ GE708.out | refine below_set ?_ GE715.out) | exact HB.out)⟩⟩
       ·
        rw [if_neg c96] at H
        have c96b0 : (t700 == 0) = false := beq_eq_false_iff_ne.mpr c96
        have c96b1 : (t700 != 0) = true := bne_iff_ne.mpr c96
        have H' := Aside0.mk H
        clear H
        go_wp2
        go_meet
        case rel => exact ⟨_, (true), (by first | rfl | (simp; done) | (simp [*]; done)), H', ⟨by have := HJ2.out; first | omega | exact Nat.le_refl _⟩, ⟨by (with_reducible repeat (first | apply Kd.R_alloc | apply Kd.R_drewN | apply Kd.R_drew)); exact Kd.R_mono (Kd.R_far (p := ⟨gb715, 2, none⟩) (Kd.R_far (p := ⟨gb715, 1, none⟩) (Kd.R_far (p := ⟨gb715, 0, none⟩) (Kd.R_types HO685.out BK715.out (by decide)) (fun _ hk => hk.2) (.int .i64 t709)) (fun _ hk => hk.2) (.int .i64 t710)) (fun _ hk => hk.2) (.slice Ao93 t711.length co93)) (fun _ hk => ⟨hk.1.1.1.1.2, ⟨hk.1.1.1.2, ⟨hk.1.1.2, hk.1.2⟩⟩⟩)⟩, ⟨by (with_reducible repeat (first | apply Kd.R_alloc | apply Kd.R_drewN | apply Kd.R_drew)); exact Kd.R_mono (Kd.R_far (p := ⟨gb715, 2, none⟩) (Kd.R_far (p := ⟨gb715, 1, none⟩) (Kd.R_far (p := ⟨gb715, 0, none⟩) (Kd.R_types HO692.out BK715.out (by decide)) (fun _ hk => hk.2) (.int .i64 t709)) (fun _ hk => hk.2) (.int .i64 t710)) (fun _ hk => hk.2) (.slice Ao93 t711.length co93)) (fun _ hk => ⟨hk.1.1.1.1.2, ⟨hk.1.1.1.2, ⟨hk.1.1.2, hk.1.2⟩⟩⟩)⟩, ⟨by (with_reducible repeat (first | apply Kd.R_alloc | apply Kd.R_drewN | apply Kd.R_drew)); exact Kd.R_mono (Kd.R_far (p := ⟨gb715, 2, none⟩) (Kd.R_far (p := ⟨gb715, 1, none⟩) (Kd.R_far (p := ⟨gb715, 0, none⟩) (Kd.R_types HO699.out BK715.out (by decide)) (fun _ hk => hk.2) (.int .i64 t709)) (fun _ hk => hk.2) (.int .i64 t710)) (fun _ hk => hk.2) (.slice Ao93 t711.length co93)) (fun _ hk => ⟨hk.1.1.1.1.2, ⟨hk.1.1.1.2, ⟨hk.1.1.2, hk.1.2⟩⟩⟩)⟩, ⟨by (with_reducible repeat (first | apply Kd.R_alloc | apply Kd.R_drewN | apply Kd.R_drew)); exact Kd.R_mono (Kd.R_far (p := ⟨gb715, 2, none⟩) (Kd.R_far (p := ⟨gb715, 1, none⟩) (Kd.R_far (p := ⟨gb715, 0, none⟩) (Kd.R_types HO706.out BK715.out (by decide)) (fun _ hk => hk.2) (.int .i64 t709)) (fun _ hk => hk.2) (.int .i64 t710)) (fun _ hk => hk.2) (.slice Ao93 t711.length co93)) (fun _ hk => ⟨hk.1.1.1.1.2, ⟨hk.1.1.1.2, ⟨hk.1.1.2, hk.1.2⟩⟩⟩)⟩, ⟨by (with_reducible repeat (first | apply Kd.R_alloc | apply Kd.R_drewN | apply Kd.R_drew)); exact Kd.R_mono (Kd.R_far (p := ⟨gb715, 2, none⟩) (Kd.R_far (p := ⟨gb715, 1, none⟩) (Kd.R_far (p := ⟨gb715, 0, none⟩) (Kd.R_types HO713.out BK715.out (by decide)) (fun _ hk => hk.2) (.int .i64 t709)) (fun _ hk => hk.2) (.int .i64 t710)) (fun _ hk => hk.2) (.slice Ao93 t711.length co93)) (fun _ hk => ⟨hk.1.1.1.1.2, ⟨hk.1.1.1.2, ⟨hk.1.1.2, hk.1.2⟩⟩⟩)⟩, bf_ BK674, bf_ BK675, bf_ BK687, bf_ BK694, bf_ BK701, bf_ BK708, ⟨by (with_reducible repeat (first | refine blk_drewN ?_ _ | refine blk_drew ?_ | refine blk_alloc ?_ _)); refine blk_put (cs := #[.int .i64 t709, .int .i64 t710, .slice none 0 0]) ?_ 2 _ rfl; (with_reducible repeat (first | refine blk_drewN ?_ _ | refine blk_drew ?_ | refine blk_alloc ?_ _)); refine blk_put (cs := #[.int .i64 t709, .int .i64 0, .slice none 0 0]) ?_ 1 _ rfl; (with_reducible repeat (first | refine blk_drewN ?_ _ | refine blk_drew ?_ | refine blk_alloc ?_ _)); refine blk_put (cs := #[.int .i64 0, .int .i64 0, .slice none 0 0]) ?_ 0 _ rfl; (with_reducible repeat (first | refine blk_drewN ?_ _ | refine blk_drew ?_ | refine blk_alloc ?_ _)); exact BK715.out⟩, ⟨by repeat (first | (with_reducible first | exact HB.out | apply below_alloc | apply pw_below_drewN | apply below_drew1 | refine below_set ?_ GE674.out | refine below_set ?_ GE675.out | refine below_set ?_ GE687.out | refine below_set ?_ GE694.out | refine below_set ?_ GE701.out | refine below_set ?_ GE708.out | refine below_set ?_ GE715.out) | exact HB.out)⟩⟩
      ·
       rw [if_neg c95] at H
       have c95b0 : (t693 == 0) = false := beq_eq_false_iff_ne.mpr c95
       have c95b1 : (t693 != 0) = true := bne_iff_ne.mpr c95
       have H' := Aside0.mk H
       clear H
       go_wp2
       go_meet
       case rel => exact ⟨_, (true), (by first | rfl | (simp; done) | (simp [*]; done)), H', ⟨by have := HJ2.out; first | omega | exact Nat.le_refl _⟩, ⟨by (with_reducible repeat (first | apply Kd.R_alloc | apply Kd.R_drewN | apply Kd.R_drew)); exact Kd.R_mono (Kd.R_far (p := ⟨gb715, 2, none⟩) (Kd.R_far (p := ⟨gb715, 1, none⟩) (Kd.R_far (p := ⟨gb715, 0, none⟩) (Kd.R_types HO685.out BK715.out (by decide)) (fun _ hk => hk.2) (.int .i64 t709)) (fun _ hk => hk.2) (.int .i64 t710)) (fun _ hk => hk.2) (.slice Ao93 t711.length co93)) (fun _ hk => ⟨hk.1.1.1.1.2, ⟨hk.1.1.1.2, ⟨hk.1.1.2, hk.1.2⟩⟩⟩)⟩, ⟨by (with_reducible repeat (first | apply Kd.R_alloc | apply Kd.R_drewN | apply Kd.R_drew)); exact Kd.R_mono (Kd.R_far (p := ⟨gb715, 2, none⟩) (Kd.R_far (p := ⟨gb715, 1, none⟩) (Kd.R_far (p := ⟨gb715, 0, none⟩) (Kd.R_types HO692.out BK715.out (by decide)) (fun _ hk => hk.2) (.int .i64 t709)) (fun _ hk => hk.2) (.int .i64 t710)) (fun _ hk => hk.2) (.slice Ao93 t711.length co93)) (fun _ hk => ⟨hk.1.1.1.1.2, ⟨hk.1.1.1.2, ⟨hk.1.1.2, hk.1.2⟩⟩⟩)⟩, ⟨by (with_reducible repeat (first | apply Kd.R_alloc | apply Kd.R_drewN | apply Kd.R_drew)); exact Kd.R_mono (Kd.R_far (p := ⟨gb715, 2, none⟩) (Kd.R_far (p := ⟨gb715, 1, none⟩) (Kd.R_far (p := ⟨gb715, 0, none⟩) (Kd.R_types HO699.out BK715.out (by decide)) (fun _ hk => hk.2) (.int .i64 t709)) (fun _ hk => hk.2) (.int .i64 t710)) (fun _ hk => hk.2) (.slice Ao93 t711.length co93)) (fun _ hk => ⟨hk.1.1.1.1.2, ⟨hk.1.1.1.2, ⟨hk.1.1.2, hk.1.2⟩⟩⟩)⟩, ⟨by (with_reducible repeat (first | apply Kd.R_alloc | apply Kd.R_drewN | apply Kd.R_drew)); exact Kd.R_mono (Kd.R_far (p := ⟨gb715, 2, none⟩) (Kd.R_far (p := ⟨gb715, 1, none⟩) (Kd.R_far (p := ⟨gb715, 0, none⟩) (Kd.R_types HO706.out BK715.out (by decide)) (fun _ hk => hk.2) (.int .i64 t709)) (fun _ hk => hk.2) (.int .i64 t710)) (fun _ hk => hk.2) (.slice Ao93 t711.length co93)) (fun _ hk => ⟨hk.1.1.1.1.2, ⟨hk.1.1.1.2, ⟨hk.1.1.2, hk.1.2⟩⟩⟩)⟩, ⟨by (with_reducible repeat (first | apply Kd.R_alloc | apply Kd.R_drewN | apply Kd.R_drew)); exact Kd.R_mono (Kd.R_far (p := ⟨gb715, 2, none⟩) (Kd.R_far (p := ⟨gb715, 1, none⟩) (Kd.R_far (p := ⟨gb715, 0, none⟩) (Kd.R_types HO713.out BK715.out (by decide)) (fun _ hk => hk.2) (.int .i64 t709)) (fun _ hk => hk.2) (.int .i64 t710)) (fun _ hk => hk.2) (.slice Ao93 t711.length co93)) (fun _ hk => ⟨hk.1.1.1.1.2, ⟨hk.1.1.1.2, ⟨hk.1.1.2, hk.1.2⟩⟩⟩)⟩, bf_ BK674, bf_ BK675, bf_ BK687, bf_ BK694, bf_ BK701, bf_ BK708, ⟨by (with_reducible repeat (first | refine blk_drewN ?_ _ | refine blk_drew ?_ | refine blk_alloc ?_ _)); refine blk_put (cs := #[.int .i64 t709, .int .i64 t710, .slice none 0 0]) ?_ 2 _ rfl; (with_reducible repeat (first | refine blk_drewN ?_ _ | refine blk_drew ?_ | refine blk_alloc ?_ _)); refine blk_put (cs := #[.int .i64 t709, .int .i64 0, .slice none 0 0]) ?_ 1 _ rfl; (with_reducible repeat (first | refine blk_drewN ?_ _ | refine blk_drew ?_ | refine blk_alloc ?_ _)); refine blk_put (cs := #[.int .i64 0, .int .i64 0, .slice none 0 0]) ?_ 0 _ rfl; (with_reducible repeat (first | refine blk_drewN ?_ _ | refine blk_drew ?_ | refine blk_alloc ?_ _)); exact BK715.out⟩, ⟨by repeat (first | (with_reducible first | exact HB.out | apply below_alloc | apply pw_below_drewN | apply below_drew1 | refine below_set ?_ GE674.out | refine below_set ?_ GE675.out | refine below_set ?_ GE687.out | refine below_set ?_ GE694.out | refine below_set ?_ GE701.out | refine below_set ?_ GE708.out | refine below_set ?_ GE715.out) | exact HB.out)⟩⟩
     ·
      rw [if_neg c94] at H
      have c94b0 : (t686 == 0) = false := beq_eq_false_iff_ne.mpr c94
      have c94b1 : (t686 != 0) = true := bne_iff_ne.mpr c94
      (first | rw [c94b0] | (simp only [i64_w, i32_w]; rw [c94b0]) | skip)
      have H' := Aside0.mk H
      clear H
      go_wp2
      go_meet
      case rel => exact ⟨_, (true), (by first | rfl | (simp; done) | (simp [*]; done)), H', ⟨by have := HJ2.out; first | omega | exact Nat.le_refl _⟩, ⟨by (with_reducible repeat (first | apply Kd.R_alloc | apply Kd.R_drewN | apply Kd.R_drew)); exact Kd.R_mono (Kd.R_far (p := ⟨gb715, 2, none⟩) (Kd.R_far (p := ⟨gb715, 1, none⟩) (Kd.R_far (p := ⟨gb715, 0, none⟩) (Kd.R_types HO685.out BK715.out (by decide)) (fun _ hk => hk.2) (.int .i64 t709)) (fun _ hk => hk.2) (.int .i64 t710)) (fun _ hk => hk.2) (.slice Ao93 t711.length co93)) (fun _ hk => ⟨hk.1.1.1.1.2, ⟨hk.1.1.1.2, ⟨hk.1.1.2, hk.1.2⟩⟩⟩)⟩, ⟨by (with_reducible repeat (first | apply Kd.R_alloc | apply Kd.R_drewN | apply Kd.R_drew)); exact Kd.R_mono (Kd.R_far (p := ⟨gb715, 2, none⟩) (Kd.R_far (p := ⟨gb715, 1, none⟩) (Kd.R_far (p := ⟨gb715, 0, none⟩) (Kd.R_types HO692.out BK715.out (by decide)) (fun _ hk => hk.2) (.int .i64 t709)) (fun _ hk => hk.2) (.int .i64 t710)) (fun _ hk => hk.2) (.slice Ao93 t711.length co93)) (fun _ hk => ⟨hk.1.1.1.1.2, ⟨hk.1.1.1.2, ⟨hk.1.1.2, hk.1.2⟩⟩⟩)⟩, ⟨by (with_reducible repeat (first | apply Kd.R_alloc | apply Kd.R_drewN | apply Kd.R_drew)); exact Kd.R_mono (Kd.R_far (p := ⟨gb715, 2, none⟩) (Kd.R_far (p := ⟨gb715, 1, none⟩) (Kd.R_far (p := ⟨gb715, 0, none⟩) (Kd.R_types HO699.out BK715.out (by decide)) (fun _ hk => hk.2) (.int .i64 t709)) (fun _ hk => hk.2) (.int .i64 t710)) (fun _ hk => hk.2) (.slice Ao93 t711.length co93)) (fun _ hk => ⟨hk.1.1.1.1.2, ⟨hk.1.1.1.2, ⟨hk.1.1.2, hk.1.2⟩⟩⟩)⟩, ⟨by (with_reducible repeat (first | apply Kd.R_alloc | apply Kd.R_drewN | apply Kd.R_drew)); exact Kd.R_mono (Kd.R_far (p := ⟨gb715, 2, none⟩) (Kd.R_far (p := ⟨gb715, 1, none⟩) (Kd.R_far (p := ⟨gb715, 0, none⟩) (Kd.R_types HO706.out BK715.out (by decide)) (fun _ hk => hk.2) (.int .i64 t709)) (fun _ hk => hk.2) (.int .i64 t710)) (fun _ hk => hk.2) (.slice Ao93 t711.length co93)) (fun _ hk => ⟨hk.1.1.1.1.2, ⟨hk.1.1.1.2, ⟨hk.1.1.2, hk.1.2⟩⟩⟩)⟩, ⟨by (with_reducible repeat (first | apply Kd.R_alloc | apply Kd.R_drewN | apply Kd.R_drew)); exact Kd.R_mono (Kd.R_far (p := ⟨gb715, 2, none⟩) (Kd.R_far (p := ⟨gb715, 1, none⟩) (Kd.R_far (p := ⟨gb715, 0, none⟩) (Kd.R_types HO713.out BK715.out (by decide)) (fun _ hk => hk.2) (.int .i64 t709)) (fun _ hk => hk.2) (.int .i64 t710)) (fun _ hk => hk.2) (.slice Ao93 t711.length co93)) (fun _ hk => ⟨hk.1.1.1.1.2, ⟨hk.1.1.1.2, ⟨hk.1.1.2, hk.1.2⟩⟩⟩)⟩, bf_ BK674, bf_ BK675, bf_ BK687, bf_ BK694, bf_ BK701, bf_ BK708, ⟨by (with_reducible repeat (first | refine blk_drewN ?_ _ | refine blk_drew ?_ | refine blk_alloc ?_ _)); refine blk_put (cs := #[.int .i64 t709, .int .i64 t710, .slice none 0 0]) ?_ 2 _ rfl; (with_reducible repeat (first | refine blk_drewN ?_ _ | refine blk_drew ?_ | refine blk_alloc ?_ _)); refine blk_put (cs := #[.int .i64 t709, .int .i64 0, .slice none 0 0]) ?_ 1 _ rfl; (with_reducible repeat (first | refine blk_drewN ?_ _ | refine blk_drew ?_ | refine blk_alloc ?_ _)); refine blk_put (cs := #[.int .i64 0, .int .i64 0, .slice none 0 0]) ?_ 0 _ rfl; (with_reducible repeat (first | refine blk_drewN ?_ _ | refine blk_drew ?_ | refine blk_alloc ?_ _)); exact BK715.out⟩, ⟨by repeat (first | (with_reducible first | exact HB.out | apply below_alloc | apply pw_below_drewN | apply below_drew1 | refine below_set ?_ GE674.out | refine below_set ?_ GE675.out | refine below_set ?_ GE687.out | refine below_set ?_ GE694.out | refine below_set ?_ GE701.out | refine below_set ?_ GE708.out | refine below_set ?_ GE715.out) | exact HB.out)⟩⟩
    case rest =>
     clear HC45
     try clear c1
     try clear c2
     try clear p2
     try clear c3
     try clear c4
     try clear c5
     try clear c6
     try clear p6
     try clear c7
     try clear c8
     try clear c9
     try clear c11
     try clear c12
     try clear c13
     try clear c22
     try clear c29
     try clear c32
     try clear c34
     try clear c35
     try clear c37
     try clear c46
     try clear c50
     try clear c51
     try clear c57
     try clear c58
     try clear c59
     try clear p64
     try clear c65
     try clear c66
     try clear c67
     try clear c68
     try clear c75
     try clear c76
     try clear c77
     try clear c78
     try clear c79
     try clear c86
     try clear c87
     try clear c88
     try clear c89
     try clear c90
     try clear c91
     try clear c94
     try clear c94b0
     try clear c94b1
     try clear c95
     try clear c95b0
     try clear c95b1
     try clear c96
     try clear c96b0
     try clear c96b1
     try clear c97
     try clear c97b0
     try clear c97b1
     try clear hcz14_0
     try clear hcz14_1
     try clear hcz14_2
     try clear hcz16_0
     try clear hcz16_1
     try clear hcz16_2
     try clear hcz18_0
     try clear hcz18_1
     try clear hcz18_2
     try clear hcz20_0
     try clear hcz20_1
     try clear hcz20_2
     try clear hcz23_0
     try clear hcz23_1
     try clear hcz23_2
     try clear hcz25_0
     try clear hcz25_1
     try clear hcz25_2
     try clear hcz27_0
     try clear hcz27_1
     try clear hcz27_2
     try clear hcz30_0
     try clear hcz30_1
     try clear hcz30_2
     try clear hcz32_0
     try clear hcz32_1
     try clear hcz32_2
     try clear hcz35_0
     try clear hcz35_1
     try clear hcz35_2
     try clear hcz47_0
     try clear hcz47_1
     try clear hcz47_2
     try clear hcz52_0
     try clear hcz52_1
     try clear hcz52_2
     try clear hcz54_0
     try clear hcz54_1
     try clear hcz54_2
     try clear hcz60_0
     try clear hcz60_1
     try clear hcz60_2
     try clear hcz62_0
     try clear hcz62_1
     try clear hcz62_2
     try clear hcz69_0
     try clear hcz69_1
     try clear hcz69_2
     try clear hcz71_0
     try clear hcz71_1
     try clear hcz71_2
     try clear hcz72_0
     try clear hcz72_1
     try clear hcz72_2
     try clear hcz80_0
     try clear hcz80_1
     try clear hcz80_2
     try clear hcz82_0
     try clear hcz82_1
     try clear hcz82_2
     try clear hcz83_0
     try clear hcz83_1
     try clear hcz83_2
     try clear hcz92_0
     try clear hcz92_1
     try clear hcz92_2
     try clear hfz14_0
     try clear hfz14_1
     try clear hfz14_2
     try clear hfz16_0
     try clear hfz16_1
     try clear hfz16_2
     try clear hfz18_0
     try clear hfz18_1
     try clear hfz18_2
     try clear hfz20_0
     try clear hfz20_1
     try clear hfz20_2
     try clear hfz23_0
     try clear hfz23_1
     try clear hfz23_2
     try clear hfz25_0
     try clear hfz25_1
     try clear hfz25_2
     try clear hfz27_0
     try clear hfz27_1
     try clear hfz27_2
     try clear hfz30_0
     try clear hfz30_1
     try clear hfz30_2
     try clear hfz32_0
     try clear hfz32_1
     try clear hfz32_2
     try clear hfz35_0
     try clear hfz35_1
     try clear hfz35_2
     try clear hfz47_0
     try clear hfz47_1
     try clear hfz47_2
     try clear hfz52_0
     try clear hfz52_1
     try clear hfz52_2
     try clear hfz54_0
     try clear hfz54_1
     try clear hfz54_2
     try clear hfz60_0
     try clear hfz60_1
     try clear hfz60_2
     try clear hfz62_0
     try clear hfz62_1
     try clear hfz62_2
     try clear hfz69_0
     try clear hfz69_1
     try clear hfz69_2
     try clear hfz71_0
     try clear hfz71_1
     try clear hfz71_2
     try clear hfz72_0
     try clear hfz72_1
     try clear hfz72_2
     try clear hfz80_0
     try clear hfz80_1
     try clear hfz80_2
     try clear hfz82_0
     try clear hfz82_1
     try clear hfz82_2
     try clear hfz83_0
     try clear hfz83_1
     try clear hfz83_2
     try clear hfz92_0
     try clear hfz92_1
     try clear hfz92_2
     try clear p2
     obtain ⟨kq, x89_44, rfl, HA, HJ44, HO_688002, HO_695002, HO_702002, HO_709002, HO_716002, BK674, BK675, BK687, BK694, BK701, BK708, BK715, HB⟩ := hcut
     cases kq with
     | zero => exact absurd HA.out (by simp [compositorlaw09_BufferNeutral.j1])
     | succ kj44 =>
      have H := HA.out
      clear HA
      simp only [compositorlaw09_BufferNeutral.j1] at H
      by_cases c98 : x89_44 = true
      ·
       subst c98
       have H1 : (some false) = some true := by rw [if_pos rfl] at H; exact H
       clear H
       have H := H1
       clear H1
       exact absurd H (by simp)
      ·
       replace c98 := Bool.eq_false_iff.mpr c98
       subst c98
       have H1 : ((compositorref09_Equal.f kj44 t681 t682 t683 a0_0 a0_1 l0_2).bind fun t716 => (if t716 = true then ((compositorref09_Equal.f kj44 t695 t696 t697 a0_0 a0_1 l0_2).bind fun t717 => (if t717 = true then ((compositorref09_Equal.f kj44 t702 t703 t704 a0_0 a0_1 l0_2).bind fun t718 => (if t718 = true then ((compositorref09_Equal.f kj44 t709 t710 t711 a0_0 a0_1 l0_2).bind fun t719 => (if t719 = true then ((compositorlaw09_exampleHolds.f kj44).bind fun t720 => (some t720)) else (some false))) else (some false))) else (some false))) else (some false))) = some true := by rw [if_neg (show ¬ (false = true) by decide)] at H; exact H
       clear H
       have H := H1
       clear H1
       replace H := Option.bind_eq_some_iff.mp H
       obtain ⟨t716, A990, H⟩ := H
       try dsimp only at H
       have A99 := Aside0.mk A990
       clear A990
       by_cases c100 : t716 = true
       ·
        subst c100
        have H1 : ((compositorref09_Equal.f kj44 t695 t696 t697 a0_0 a0_1 l0_2).bind fun t717 => (if t717 = true then ((compositorref09_Equal.f kj44 t702 t703 t704 a0_0 a0_1 l0_2).bind fun t718 => (if t718 = true then ((compositorref09_Equal.f kj44 t709 t710 t711 a0_0 a0_1 l0_2).bind fun t719 => (if t719 = true then ((compositorlaw09_exampleHolds.f kj44).bind fun t720 => (some t720)) else (some false))) else (some false))) else (some false))) = some true := by rw [if_pos rfl] at H; exact H
        clear H
        have H := H1
        clear H1
        replace H := Option.bind_eq_some_iff.mp H
        obtain ⟨t717, A1010, H⟩ := H
        try dsimp only at H
        have A101 := Aside0.mk A1010
        clear A1010
        by_cases c102 : t717 = true
        ·
         subst c102
         have H1 : ((compositorref09_Equal.f kj44 t702 t703 t704 a0_0 a0_1 l0_2).bind fun t718 => (if t718 = true then ((compositorref09_Equal.f kj44 t709 t710 t711 a0_0 a0_1 l0_2).bind fun t719 => (if t719 = true then ((compositorlaw09_exampleHolds.f kj44).bind fun t720 => (some t720)) else (some false))) else (some false))) = some true := by rw [if_pos rfl] at H; exact H
         clear H
         have H := H1
         clear H1
         replace H := Option.bind_eq_some_iff.mp H
         obtain ⟨t718, A1030, H⟩ := H
         try dsimp only at H
         have A103 := Aside0.mk A1030
         clear A1030
         by_cases c104 : t718 = true
         ·
          subst c104
          have H1 : ((compositorref09_Equal.f kj44 t709 t710 t711 a0_0 a0_1 l0_2).bind fun t719 => (if t719 = true then ((compositorlaw09_exampleHolds.f kj44).bind fun t720 => (some t720)) else (some false))) = some true := by rw [if_pos rfl] at H; exact H
          clear H
          have H := H1
          clear H1
          replace H := Option.bind_eq_some_iff.mp H
          obtain ⟨t719, A1050, H⟩ := H
          try dsimp only at H
          have A105 := Aside0.mk A1050
          clear A1050
          by_cases c106 : t719 = true
          ·
           subst c106
           have H1 : ((compositorlaw09_exampleHolds.f kj44).bind fun t720 => (some t720)) = some true := by rw [if_pos rfl] at H; exact H
           clear H
           have H := H1
           clear H1
           replace H := Option.bind_eq_some_iff.mp H
           obtain ⟨t720, A1070, H⟩ := H
           try dsimp only at H
           have A107 := Aside0.mk A1070
           clear A1070
           have Hq_ := Option.some.inj H
           have hnb108 := NB687_674.out
           have hnc108 := NB674_687.out
           have hnb109 := NB687_675.out
           have hnc109 := NB675_687.out
           have hnb110 := NB687_694.out
           have hnc110 := NB694_687.out
           have hnb111 := NB687_701.out
           have hnc111 := NB701_687.out
           have hnb112 := NB687_708.out
           have hnc112 := NB708_687.out
           have hnb113 := NB687_715.out
           have hnc113 := NB715_687.out
           have hcz114_0 : wc.cell? ⟨gb687, 0, none⟩ = some (.int .i64 t681) := (blk_cell BK687.out 0).trans rfl
           have hcz114_1 : wc.cell? ⟨gb687, 1, none⟩ = some (.int .i64 t682) := (blk_cell BK687.out 1).trans rfl
           have hcz114_2 : wc.cell? ⟨gb687, 2, none⟩ = some (.slice Ao53 t683.length co53) := (blk_cell BK687.out 2).trans rfl
           have hfz114_0 := blk_frozen BK687.out 0
           have hfz114_1 := blk_frozen BK687.out 1
           have hfz114_2 := blk_frozen BK687.out 2
           have hnb115 := NB674_675.out
           have hnc115 := NB675_674.out
           have hnb116 := NB674_694.out
           have hnc116 := NB694_674.out
           have hnb117 := NB674_701.out
           have hnc117 := NB701_674.out
           have hnb118 := NB674_708.out
           have hnc118 := NB708_674.out
           have hnb119 := NB674_715.out
           have hnc119 := NB715_674.out
           have hcz120_0 : wc.cell? ⟨gb674, 0, none⟩ = some (.int .i64 a0_0) := (blk_cell BK674.out 0).trans rfl
           have hcz120_1 : wc.cell? ⟨gb674, 1, none⟩ = some (.int .i64 a0_1) := (blk_cell BK674.out 1).trans rfl
           have hcz120_2 : wc.cell? ⟨gb674, 2, none⟩ = some (.slice A0_2 l0_2.length c0_2) := (blk_cell BK674.out 2).trans rfl
           have hfz120_0 := blk_frozen BK674.out 0
           have hfz120_1 := blk_frozen BK674.out 1
           have hfz120_2 := blk_frozen BK674.out 2
           go_wp2_with (first | ((with_reducible refine gate_callee (f := 16) rfl ?_); refine goesL_ (some 92) rfl rfl Try.func16 (by kernel_rfl) rfl #[.agg #[.int .i64 t681, .int .i64 t682, .slice Ao53 t683.length co53], .agg #[.int .i64 a0_0, .int .i64 a0_1, .slice A0_2 l0_2.length c0_2]] rfl (by (try simp only [List.map_toArray, List.map_cons, List.map_nil]) <;> rfl) ?_; (with_reducible refine (compositorref09_Equal.calls kj44 t681 t682 _ _ t683 a0_0 a0_1 _ _ l0_2 true _ ?side1 ?side2 ?side3 ?side4 A99.out).mono ?_); (case side1 => repeat (first | exact (Kd.R_reads' HO_688002.out).2.2 | (with_reducible refine Kd.C_alloc ?_ _) | (with_reducible refine Kd.C_drewN ?_ _) | (with_reducible refine Kd.C_drew ?_))); (case side2 => exact (Kd.R_reads' HO_688002.out).2.1); (case side3 => repeat (first | exact (Kd.C_below HR0_2.out HB.out) | (with_reducible refine Kd.C_alloc ?_ _) | (with_reducible refine Kd.C_drewN ?_ _) | (with_reducible refine Kd.C_drew ?_))); (case side4 => exact HC0_2.out); rintro e w121 ⟨rfl, hb⟩; refine ⟨_, rfl, ?_⟩; have n0_ := Aside0.mk (Kd.R_below (by (with_reducible repeat (first | apply Kd.R_alloc | apply Kd.R_drewN | apply Kd.R_drew)); exact HO_688002.out) hb); have n1_ := Aside0.mk (Kd.R_below (by (with_reducible repeat (first | apply Kd.R_alloc | apply Kd.R_drewN | apply Kd.R_drew)); exact HO_695002.out) hb); have n2_ := Aside0.mk (Kd.R_below (by (with_reducible repeat (first | apply Kd.R_alloc | apply Kd.R_drewN | apply Kd.R_drew)); exact HO_702002.out) hb); have n3_ := Aside0.mk (Kd.R_below (by (with_reducible repeat (first | apply Kd.R_alloc | apply Kd.R_drewN | apply Kd.R_drew)); exact HO_709002.out) hb); have n4_ := Aside0.mk (Kd.R_below (by (with_reducible repeat (first | apply Kd.R_alloc | apply Kd.R_drewN | apply Kd.R_drew)); exact HO_716002.out) hb); have n5_ := bb_ BK674 hb; have n6_ := bb_ BK675 hb; have n7_ := bb_ BK687 hb; have n8_ := bb_ BK694 hb; have n9_ := bb_ BK701 hb; have n10_ := bb_ BK708 hb; have n11_ := bb_ BK715 hb; have n12_ := hb_ HB hb; clear HO_688002; clear HO_695002; clear HO_702002; clear HO_709002; clear HO_716002; clear BK674; clear BK675; clear BK687; clear BK694; clear BK701; clear BK708; clear BK715; clear HB; have HO_688002 := n0_; have HO_695002 := n1_; have HO_702002 := n2_; have HO_709002 := n3_; have HO_716002 := n4_; have BK674 := n5_; have BK675 := n6_; have BK687 := n7_; have BK694 := n8_; have BK701 := n9_; have BK708 := n10_; have BK715 := n11_; have HB := n12_; clear n0_ n1_ n2_ n3_ n4_ n5_ n6_ n7_ n8_ n9_ n10_ n11_ n12_; (try clear hb); (try clear hb2); (try clear hk); (try clear hi); have hnb122 := NB701_675.out; have hnc122 := NB675_701.out; have hnb123 := NB701_694.out; have hnc123 := NB694_701.out; have hnb124 := NB701_708.out; have hnc124 := NB708_701.out; have hnb125 := NB701_715.out; have hnc125 := NB715_701.out; have hcz126_0 : w121.cell? ⟨gb701, 0, none⟩ = some (.int .i64 t695) := (blk_cell BK701.out 0).trans rfl; have hcz126_1 : w121.cell? ⟨gb701, 1, none⟩ = some (.int .i64 t696) := (blk_cell BK701.out 1).trans rfl; have hcz126_2 : w121.cell? ⟨gb701, 2, none⟩ = some (.slice Ao70 t697.length co70) := (blk_cell BK701.out 2).trans rfl; have hfz126_0 := blk_frozen BK701.out 0; have hfz126_1 := blk_frozen BK701.out 1; have hfz126_2 := blk_frozen BK701.out 2; have hcz127_0 : w121.cell? ⟨gb674, 0, none⟩ = some (.int .i64 a0_0) := (blk_cell BK674.out 0).trans rfl; have hcz127_1 : w121.cell? ⟨gb674, 1, none⟩ = some (.int .i64 a0_1) := (blk_cell BK674.out 1).trans rfl; have hcz127_2 : w121.cell? ⟨gb674, 2, none⟩ = some (.slice A0_2 l0_2.length c0_2) := (blk_cell BK674.out 2).trans rfl; have hfz127_0 := blk_frozen BK674.out 0; have hfz127_1 := blk_frozen BK674.out 1; have hfz127_2 := blk_frozen BK674.out 2) | (go_at_call 16; (with_reducible refine (compositorref09_Equal.calls kj44 t695 t696 _ _ t697 a0_0 a0_1 _ _ l0_2 true _ ?side1 ?side2 ?side3 ?side4 A101.out).mono ?_); (case side1 => repeat (first | exact (Kd.R_reads' HO_702002.out).2.2 | (with_reducible refine Kd.C_alloc ?_ _) | (with_reducible refine Kd.C_drewN ?_ _) | (with_reducible refine Kd.C_drew ?_))); (case side2 => exact (Kd.R_reads' HO_702002.out).2.1); (case side3 => repeat (first | exact (Kd.C_below HR0_2.out HB.out) | (with_reducible refine Kd.C_alloc ?_ _) | (with_reducible refine Kd.C_drewN ?_ _) | (with_reducible refine Kd.C_drew ?_))); (case side4 => exact HC0_2.out); rintro e w128 ⟨rfl, hb⟩; have n0_ := Aside0.mk (Kd.R_below (by (with_reducible repeat (first | apply Kd.R_alloc | apply Kd.R_drewN | apply Kd.R_drew)); exact HO_688002.out) hb); have n1_ := Aside0.mk (Kd.R_below (by (with_reducible repeat (first | apply Kd.R_alloc | apply Kd.R_drewN | apply Kd.R_drew)); exact HO_695002.out) hb); have n2_ := Aside0.mk (Kd.R_below (by (with_reducible repeat (first | apply Kd.R_alloc | apply Kd.R_drewN | apply Kd.R_drew)); exact HO_702002.out) hb); have n3_ := Aside0.mk (Kd.R_below (by (with_reducible repeat (first | apply Kd.R_alloc | apply Kd.R_drewN | apply Kd.R_drew)); exact HO_709002.out) hb); have n4_ := Aside0.mk (Kd.R_below (by (with_reducible repeat (first | apply Kd.R_alloc | apply Kd.R_drewN | apply Kd.R_drew)); exact HO_716002.out) hb); have n5_ := bb_ BK674 hb; have n6_ := bb_ BK675 hb; have n7_ := bb_ BK687 hb; have n8_ := bb_ BK694 hb; have n9_ := bb_ BK701 hb; have n10_ := bb_ BK708 hb; have n11_ := bb_ BK715 hb; have n12_ := hb_ HB hb; clear HO_688002; clear HO_695002; clear HO_702002; clear HO_709002; clear HO_716002; clear BK674; clear BK675; clear BK687; clear BK694; clear BK701; clear BK708; clear BK715; clear HB; have HO_688002 := n0_; have HO_695002 := n1_; have HO_702002 := n2_; have HO_709002 := n3_; have HO_716002 := n4_; have BK674 := n5_; have BK675 := n6_; have BK687 := n7_; have BK694 := n8_; have BK701 := n9_; have BK708 := n10_; have BK715 := n11_; have HB := n12_; clear n0_ n1_ n2_ n3_ n4_ n5_ n6_ n7_ n8_ n9_ n10_ n11_ n12_; (try clear hb); (try clear hb2); (try clear hk); (try clear hi); have hnb129 := NB708_675.out; have hnc129 := NB675_708.out; have hnb130 := NB708_694.out; have hnc130 := NB694_708.out; have hnb131 := NB708_715.out; have hnc131 := NB715_708.out; have hcz132_0 : w128.cell? ⟨gb708, 0, none⟩ = some (.int .i64 t702) := (blk_cell BK708.out 0).trans rfl; have hcz132_1 : w128.cell? ⟨gb708, 1, none⟩ = some (.int .i64 t703) := (blk_cell BK708.out 1).trans rfl; have hcz132_2 : w128.cell? ⟨gb708, 2, none⟩ = some (.slice Ao81 t704.length co81) := (blk_cell BK708.out 2).trans rfl; have hfz132_0 := blk_frozen BK708.out 0; have hfz132_1 := blk_frozen BK708.out 1; have hfz132_2 := blk_frozen BK708.out 2; have hcz133_0 : w128.cell? ⟨gb674, 0, none⟩ = some (.int .i64 a0_0) := (blk_cell BK674.out 0).trans rfl; have hcz133_1 : w128.cell? ⟨gb674, 1, none⟩ = some (.int .i64 a0_1) := (blk_cell BK674.out 1).trans rfl; have hcz133_2 : w128.cell? ⟨gb674, 2, none⟩ = some (.slice A0_2 l0_2.length c0_2) := (blk_cell BK674.out 2).trans rfl; have hfz133_0 := blk_frozen BK674.out 0; have hfz133_1 := blk_frozen BK674.out 1; have hfz133_2 := blk_frozen BK674.out 2) | (go_at_call 16; (with_reducible refine (compositorref09_Equal.calls kj44 t702 t703 _ _ t704 a0_0 a0_1 _ _ l0_2 true _ ?side1 ?side2 ?side3 ?side4 A103.out).mono ?_); (case side1 => repeat (first | exact (Kd.R_reads' HO_709002.out).2.2 | (with_reducible refine Kd.C_alloc ?_ _) | (with_reducible refine Kd.C_drewN ?_ _) | (with_reducible refine Kd.C_drew ?_))); (case side2 => exact (Kd.R_reads' HO_709002.out).2.1); (case side3 => repeat (first | exact (Kd.C_below HR0_2.out HB.out) | (with_reducible refine Kd.C_alloc ?_ _) | (with_reducible refine Kd.C_drewN ?_ _) | (with_reducible refine Kd.C_drew ?_))); (case side4 => exact HC0_2.out); rintro e w134 ⟨rfl, hb⟩; have n0_ := Aside0.mk (Kd.R_below (by (with_reducible repeat (first | apply Kd.R_alloc | apply Kd.R_drewN | apply Kd.R_drew)); exact HO_688002.out) hb); have n1_ := Aside0.mk (Kd.R_below (by (with_reducible repeat (first | apply Kd.R_alloc | apply Kd.R_drewN | apply Kd.R_drew)); exact HO_695002.out) hb); have n2_ := Aside0.mk (Kd.R_below (by (with_reducible repeat (first | apply Kd.R_alloc | apply Kd.R_drewN | apply Kd.R_drew)); exact HO_702002.out) hb); have n3_ := Aside0.mk (Kd.R_below (by (with_reducible repeat (first | apply Kd.R_alloc | apply Kd.R_drewN | apply Kd.R_drew)); exact HO_709002.out) hb); have n4_ := Aside0.mk (Kd.R_below (by (with_reducible repeat (first | apply Kd.R_alloc | apply Kd.R_drewN | apply Kd.R_drew)); exact HO_716002.out) hb); have n5_ := bb_ BK674 hb; have n6_ := bb_ BK675 hb; have n7_ := bb_ BK687 hb; have n8_ := bb_ BK694 hb; have n9_ := bb_ BK701 hb; have n10_ := bb_ BK708 hb; have n11_ := bb_ BK715 hb; have n12_ := hb_ HB hb; clear HO_688002; clear HO_695002; clear HO_702002; clear HO_709002; clear HO_716002; clear BK674; clear BK675; clear BK687; clear BK694; clear BK701; clear BK708; clear BK715; clear HB; have HO_688002 := n0_; have HO_695002 := n1_; have HO_702002 := n2_; have HO_709002 := n3_; have HO_716002 := n4_; have BK674 := n5_; have BK675 := n6_; have BK687 := n7_; have BK694 := n8_; have BK701 := n9_; have BK708 := n10_; have BK715 := n11_; have HB := n12_; clear n0_ n1_ n2_ n3_ n4_ n5_ n6_ n7_ n8_ n9_ n10_ n11_ n12_; (try clear hb); (try clear hb2); (try clear hk); (try clear hi); have hnb135 := NB715_675.out; have hnc135 := NB675_715.out; have hnb136 := NB715_694.out; have hnc136 := NB694_715.out; have hcz137_0 : w134.cell? ⟨gb715, 0, none⟩ = some (.int .i64 t709) := (blk_cell BK715.out 0).trans rfl; have hcz137_1 : w134.cell? ⟨gb715, 1, none⟩ = some (.int .i64 t710) := (blk_cell BK715.out 1).trans rfl; have hcz137_2 : w134.cell? ⟨gb715, 2, none⟩ = some (.slice Ao93 t711.length co93) := (blk_cell BK715.out 2).trans rfl; have hfz137_0 := blk_frozen BK715.out 0; have hfz137_1 := blk_frozen BK715.out 1; have hfz137_2 := blk_frozen BK715.out 2; have hcz138_0 : w134.cell? ⟨gb674, 0, none⟩ = some (.int .i64 a0_0) := (blk_cell BK674.out 0).trans rfl; have hcz138_1 : w134.cell? ⟨gb674, 1, none⟩ = some (.int .i64 a0_1) := (blk_cell BK674.out 1).trans rfl; have hcz138_2 : w134.cell? ⟨gb674, 2, none⟩ = some (.slice A0_2 l0_2.length c0_2) := (blk_cell BK674.out 2).trans rfl; have hfz138_0 := blk_frozen BK674.out 0; have hfz138_1 := blk_frozen BK674.out 1; have hfz138_2 := blk_frozen BK674.out 2) | (go_at_call 16; (with_reducible refine (compositorref09_Equal.calls kj44 t709 t710 _ _ t711 a0_0 a0_1 _ _ l0_2 true _ ?side1 ?side2 ?side3 ?side4 A105.out).mono ?_); (case side1 => repeat (first | exact (Kd.R_reads' HO_716002.out).2.2 | (with_reducible refine Kd.C_alloc ?_ _) | (with_reducible refine Kd.C_drewN ?_ _) | (with_reducible refine Kd.C_drew ?_))); (case side2 => exact (Kd.R_reads' HO_716002.out).2.1); (case side3 => repeat (first | exact (Kd.C_below HR0_2.out HB.out) | (with_reducible refine Kd.C_alloc ?_ _) | (with_reducible refine Kd.C_drewN ?_ _) | (with_reducible refine Kd.C_drew ?_))); (case side4 => exact HC0_2.out); rintro e w139 ⟨rfl, hb⟩; have n0_ := Aside0.mk (Kd.R_below (by (with_reducible repeat (first | apply Kd.R_alloc | apply Kd.R_drewN | apply Kd.R_drew)); exact HO_688002.out) hb); have n1_ := Aside0.mk (Kd.R_below (by (with_reducible repeat (first | apply Kd.R_alloc | apply Kd.R_drewN | apply Kd.R_drew)); exact HO_695002.out) hb); have n2_ := Aside0.mk (Kd.R_below (by (with_reducible repeat (first | apply Kd.R_alloc | apply Kd.R_drewN | apply Kd.R_drew)); exact HO_702002.out) hb); have n3_ := Aside0.mk (Kd.R_below (by (with_reducible repeat (first | apply Kd.R_alloc | apply Kd.R_drewN | apply Kd.R_drew)); exact HO_709002.out) hb); have n4_ := Aside0.mk (Kd.R_below (by (with_reducible repeat (first | apply Kd.R_alloc | apply Kd.R_drewN | apply Kd.R_drew)); exact HO_716002.out) hb); have n5_ := bb_ BK674 hb; have n6_ := bb_ BK675 hb; have n7_ := bb_ BK687 hb; have n8_ := bb_ BK694 hb; have n9_ := bb_ BK701 hb; have n10_ := bb_ BK708 hb; have n11_ := bb_ BK715 hb; have n12_ := hb_ HB hb; clear HO_688002; clear HO_695002; clear HO_702002; clear HO_709002; clear HO_716002; clear BK674; clear BK675; clear BK687; clear BK694; clear BK701; clear BK708; clear BK715; clear HB; have HO_688002 := n0_; have HO_695002 := n1_; have HO_702002 := n2_; have HO_709002 := n3_; have HO_716002 := n4_; have BK674 := n5_; have BK675 := n6_; have BK687 := n7_; have BK694 := n8_; have BK701 := n9_; have BK708 := n10_; have BK715 := n11_; have HB := n12_; clear n0_ n1_ n2_ n3_ n4_ n5_ n6_ n7_ n8_ n9_ n10_ n11_ n12_; (try clear hb); (try clear hb2); (try clear hk); (try clear hi)) | (go_at_call 13; (with_reducible refine (compositorlaw09_exampleHolds.calls kj44  t720 _ A107.out).mono ?_); rintro e w140 ⟨rfl, hb⟩; have n0_ := Aside0.mk (Kd.R_below (by (with_reducible repeat (first | apply Kd.R_alloc | apply Kd.R_drewN | apply Kd.R_drew)); exact HO_688002.out) hb); have n1_ := Aside0.mk (Kd.R_below (by (with_reducible repeat (first | apply Kd.R_alloc | apply Kd.R_drewN | apply Kd.R_drew)); exact HO_695002.out) hb); have n2_ := Aside0.mk (Kd.R_below (by (with_reducible repeat (first | apply Kd.R_alloc | apply Kd.R_drewN | apply Kd.R_drew)); exact HO_702002.out) hb); have n3_ := Aside0.mk (Kd.R_below (by (with_reducible repeat (first | apply Kd.R_alloc | apply Kd.R_drewN | apply Kd.R_drew)); exact HO_709002.out) hb); have n4_ := Aside0.mk (Kd.R_below (by (with_reducible repeat (first | apply Kd.R_alloc | apply Kd.R_drewN | apply Kd.R_drew)); exact HO_716002.out) hb); have n5_ := bb_ BK674 hb; have n6_ := bb_ BK675 hb; have n7_ := bb_ BK687 hb; have n8_ := bb_ BK694 hb; have n9_ := bb_ BK701 hb; have n10_ := bb_ BK708 hb; have n11_ := bb_ BK715 hb; have n12_ := hb_ HB hb; clear HO_688002; clear HO_695002; clear HO_702002; clear HO_709002; clear HO_716002; clear BK674; clear BK675; clear BK687; clear BK694; clear BK701; clear BK708; clear BK715; clear HB; have HO_688002 := n0_; have HO_695002 := n1_; have HO_702002 := n2_; have HO_709002 := n3_; have HO_716002 := n4_; have BK674 := n5_; have BK675 := n6_; have BK687 := n7_; have BK694 := n8_; have BK701 := n9_; have BK708 := n10_; have BK715 := n11_; have HB := n12_; clear n0_ n1_ n2_ n3_ n4_ n5_ n6_ n7_ n8_ n9_ n10_ n11_ n12_; (try clear hb); (try clear hb2); (try clear hk); (try clear hi)))
           go_ret
           exact ⟨by first | rfl | (simp [errW_none, errW_some] <;> rfl) | (simp [*, errW_none, errW_some] <;> rfl), by repeat (first | (with_reducible first | exact HB.out | apply below_alloc | apply pw_below_drewN | apply below_drew1 | refine below_set ?_ GE674.out | refine below_set ?_ GE675.out | refine below_set ?_ GE687.out | refine below_set ?_ GE694.out | refine below_set ?_ GE701.out | refine below_set ?_ GE708.out | refine below_set ?_ GE715.out) | exact HB.out)⟩
          ·
           replace c106 := Bool.eq_false_iff.mpr c106
           subst c106
           have H1 : (some false) = some true := by rw [if_neg (show ¬ (false = true) by decide)] at H; exact H
           clear H
           have H := H1
           clear H1
           exact absurd H (by simp)
         ·
          replace c104 := Bool.eq_false_iff.mpr c104
          subst c104
          have H1 : (some false) = some true := by rw [if_neg (show ¬ (false = true) by decide)] at H; exact H
          clear H
          have H := H1
          clear H1
          exact absurd H (by simp)
        ·
         replace c102 := Bool.eq_false_iff.mpr c102
         subst c102
         have H1 : (some false) = some true := by rw [if_neg (show ¬ (false = true) by decide)] at H; exact H
         clear H
         have H := H1
         clear H1
         exact absurd H (by simp)
       ·
        replace c100 := Bool.eq_false_iff.mpr c100
        subst c100
        have H1 : (some false) = some true := by rw [if_neg (show ¬ (false = true) by decide)] at H; exact H
        clear H
        have H := H1
        clear H1
        exact absurd H (by simp)
end Go.Proofs.Ytmockeaiccpogaa.All
end
section
namespace Go.Proofs.Ytmockeaiccpogaa.All
open Go.Proofs.YtmockeaiccpogaaSq
open Go.RowKit Go.Proofs.YtmockeaiccpogaaW.PrintWords Go.Proofs.YtmockeaiccpogaaW.PrintLast Go.Proofs.YtmockeaiccpogaaW.PrintMore
attribute [local go_sem] max2_int min2_int max_two min_two max_three min_three max_four min_four
set_option linter.unusedVariables false
set_option linter.unusedSimpArgs false
end Go.Proofs.Ytmockeaiccpogaa.All
end
section
namespace Go.Proofs.Ytmockeaiccpogaa.All
open Go.RowKit Go.Proofs.YtmockeaiccpogaaW.PrintWords Go.Proofs.YtmockeaiccpogaaW.PrintLast Go.Proofs.YtmockeaiccpogaaW.PrintMore
set_option linter.unusedVariables false
structure S22 where
  f0 : Int
  f1 : Int
  f2 : Int
  f3 : Int
structure S27 where
  f0 : Int
  f1 : Int
  f2 : List S43
def k27 : Kd S27 := Kd.iso (Kd.pair (Kd.int .i64) (Kd.pair (Kd.int .i64) (Kd.slice 43 k43))) (fun x : S27 => (x.f0, x.f1, x.f2))
theorem k27_open {w : World} {x : S27} {cs : List Value} (h : k27.K w x cs) : ∃ A2 c2, cs = [.int .i64 x.f0, .int .i64 x.f1, .slice A2 x.f2.length c2] ∧ x.f2.length ≤ c2 ∧ Kd.C k43 w A2 x.f2.length x.f2 := by
  obtain ⟨_, _, rfl, rfl, ⟨_, _, rfl, rfl, g2⟩⟩ := h
  obtain ⟨A2, c2, rfl, l2, h2⟩ := g2
  exact ⟨A2, c2, rfl, l2, h2⟩
structure S41 where
  f0 : Int
  f1 : Int
end Go.Proofs.Ytmockeaiccpogaa.All
end
section
namespace Go.Proofs.Ytmockeaiccpogaa.Pure
open Go.RowKit Go.Proofs.YtmockeaiccpogaaW.PrintWords Go.Proofs.YtmockeaiccpogaaW.PrintMore Go.Proofs.Ytmockeaiccpogaa.All
set_option linter.unusedVariables false
set_option linter.unusedSimpArgs false
theorem i64 {x : Int} (h : (Lit.int .i64 x).wf = true) : -9223372036854775808 ≤ x ∧ x ≤ 9223372036854775807 := by
  simpa [Lit.wf, IntKind.min, IntKind.max, IntKind.signed, IntKind.bits] using h
theorem w64 {x : Int} (h : -9223372036854775808 ≤ x) (h' : x ≤ 9223372036854775807) : wrap64 x = x := by unfold wrap64; omega
theorem wnat {n : Nat} (h : n ≤ 1000000) : wrap64 ((n : Int) + 1) = ((n + 1 : Nat) : Int) := by unfold wrap64; omega
theorem fuel {α : Type} {f : Nat → Option α} (hm : ∀ k r, f k = some r → f (k + 1) = some r) {K : Nat} {r : α} (h : f K = some r) : ∀ k, K ≤ k → f k = some r := by
  intro k hk
  obtain ⟨j, rfl⟩ : ∃ j, k = K + j := ⟨k - K, by omega⟩
  clear hk
  induction j with
  | zero => exact h
  | succ j ih => exact hm _ _ ih
theorem example_holds : ∀ k, 200 ≤ k → compositorlaw09_exampleHolds.f k = some true :=
  fuel (f := fun k => compositorlaw09_exampleHolds.f k) (fun k r h => compositorlaw09_exampleHolds.mono k r h) (by decide +kernel)
theorem mx_spec (a b : Int) : a ≤ mx a b ∧ b ≤ mx a b ∧ (mx a b = a ∨ mx a b = b) := by unfold mx; split <;> omega
theorem mn_spec (a b : Int) : mn a b ≤ a ∧ mn a b ≤ b ∧ (mn a b = a ∨ mn a b = b) := by unfold mn; split <;> omega
def PV (p : S43) : Prop := p.f0 ≤ p.f3 ∧ p.f1 ≤ p.f3 ∧ p.f2 ≤ p.f3
def VB (W H : Int) (l : List S43) : Prop := (1 ≤ W ∧ W ≤ 256) ∧ (1 ≤ H ∧ H ≤ 256) ∧ (l.length : Int) = W * H ∧ ∀ p ∈ l, PV p
noncomputable instance (W H : Int) (l : List S43) : Decidable (VB W H l) := Classical.propDecidable _
def SZ (n : Int) : Prop := 1 ≤ n ∧ n ≤ 256
noncomputable instance (n : Int) : Decidable (SZ n) := Classical.propDecidable _
theorem ok_iff (p : S43) : buffer_Valid.ok p = true ↔ PV p := by
  have m0 := mn_spec p.f0 p.f3
  have m1 := mn_spec p.f1 p.f3
  have m2 := mn_spec p.f2 p.f3
  unfold buffer_Valid.ok PV
  simp only [Bool.and_eq_true, beq_iff_eq, and_true]
  omega
theorem bsize_eq (a : Int) : buffer_size.f a = some (decide (SZ a)) := by
  unfold buffer_size.f
  split <;> (refine congrArg some (Bool.eq_iff_iff.mpr ?_); simp only [decide_eq_true_eq, Bool.false_eq_true, false_iff]; unfold SZ; omega)
theorem rsize_eq (a b : Int) : compositorref09_size.f a b = some (decide (SZ a ∧ SZ b)) := by
  unfold compositorref09_size.f
  repeat' split
  all_goals (refine congrArg some (Bool.eq_iff_iff.mpr ?_); simp only [decide_eq_true_eq, Bool.false_eq_true, false_iff]; unfold SZ; omega)
theorem prod_small {W H : Int} (hW : SZ W) (hH : SZ H) : wrap64 (W * H) = W * H ∧ 1 ≤ W * H ∧ W * H ≤ 65536 := by
  unfold SZ at hW hH
  have p1 := Int.mul_le_mul hW.2 hH.2 (by omega) (by omega : (0 : Int) ≤ 256)
  have p2 : 0 < W * H := Int.mul_pos (by omega) (by omega)
  refine ⟨?_, by omega, by omega⟩
  unfold wrap64; omega
theorem bvalid_eq (W H : Int) (l : List S43) : buffer_Valid.f W H l = some (decide (VB W H l)) := by
  simp only [buffer_Valid.f, bsize_eq, Option.bind_some, decide_eq_true_eq]
  by_cases hW : SZ W
  · by_cases hH : SZ H
    · have hp := prod_small hW hH
      rw [if_pos hW, if_pos hH, hp.1]
      by_cases hl : (l.length : Int) = W * H
      · rw [if_pos hl]
        refine congrArg some (Bool.eq_iff_iff.mpr ?_)
        rw [List.all_eq_true, decide_eq_true_eq]
        exact ⟨fun h => ⟨hW, hH, hl, fun p hp => (ok_iff p).mp (h p hp)⟩, fun h p hp => (ok_iff p).mpr (h.2.2.2 p hp)⟩
      · rw [if_neg hl, decide_eq_false (fun h => hl h.2.2.1)]
    · rw [if_pos hW, if_neg hH, decide_eq_false (fun h => hH h.2.1)]
  · rw [if_neg hW, decide_eq_false (fun h => hW h.1)]
theorem rd_at {l : List S43} {i : Nat} (h : i < l.length) : rd_T43 l (i : Int) = l[i] := by
  simp [rd_T43, List.getD_eq_getElem?_getD, List.getElem?_eq_getElem h]
theorem rpv (p : S43) : compositorref08_Valid.f p.f0 p.f1 p.f2 p.f3 = some (decide (p.f0 ≤ p.f3 ∧ p.f1 ≤ p.f3 ∧ p.f2 ≤ p.f3)) := by
  unfold compositorref08_Valid.f
  repeat' split
  all_goals (refine congrArg some (Bool.eq_iff_iff.mpr ?_); simp only [decide_eq_true_eq, Bool.false_eq_true, false_iff]; omega)
theorem rvl (W H : Int) (l : List S43) (hl : l.length ≤ 100000) : ∀ d i, i + d = l.length → ∀ k, d + 1 ≤ k → ∀ b, (b = true ↔ ∀ p ∈ l.drop i, PV p) → compositorref09_Valid.l0 k i W H l = some b := by
  intro d
  induction d with
  | zero =>
    intro i hi k hk b hb
    obtain ⟨k, rfl⟩ : ∃ j, k = j + 1 := ⟨k - 1, by omega⟩
    rw [compositorref09_Valid.l0, if_neg (by omega)]
    have e : l.drop i = [] := List.drop_eq_nil_of_le (by omega)
    rw [e] at hb
    have : b = true := hb.mpr (fun p hp => by cases hp)
    rw [this]
  | succ d ih =>
    intro i hi k hk b hb
    obtain ⟨k, rfl⟩ : ∃ j, k = j + 1 := ⟨k - 1, by omega⟩
    have hlt : i < l.length := by omega
    rw [compositorref09_Valid.l0, if_pos (by omega), if_pos (by omega), rd_at hlt, rpv, Option.bind_some]
    have e : l.drop i = l[i] :: l.drop (i + 1) := List.drop_eq_getElem_cons hlt
    rw [e] at hb
    have ew : wrap64 ((i : Int) + 1) = ((i + 1 : Nat) : Int) := wnat (by omega)
    rw [ew]
    simp only [decide_eq_true_eq]
    by_cases h0 : PV l[i]
    · rw [if_pos (show l[i].f0 ≤ l[i].f3 ∧ l[i].f1 ≤ l[i].f3 ∧ l[i].f2 ≤ l[i].f3 from h0)]
      refine ih (i + 1) (by omega) k (by omega) b (hb.trans ?_)
      constructor
      · intro h p hm; exact h p (List.mem_cons_of_mem _ hm)
      · intro h p hm
        rcases List.mem_cons.mp hm with rfl | hm
        · exact h0
        · exact h p hm
    · rw [if_neg (show ¬ (l[i].f0 ≤ l[i].f3 ∧ l[i].f1 ≤ l[i].f3 ∧ l[i].f2 ≤ l[i].f3) from h0)]
      cases b with
      | false => rfl
      | true => exact absurd (hb.mp rfl l[i] (List.mem_cons_self ..)) h0
theorem rvalid_eq (W H : Int) (l : List S43) (hl : l.length ≤ 100000) : ∀ k, l.length + 2 ≤ k → compositorref09_Valid.f k W H l = some (decide (VB W H l)) := by
  intro k hk
  obtain ⟨k, rfl⟩ : ∃ j, k = j + 1 := ⟨k - 1, by omega⟩
  simp only [compositorref09_Valid.f, rsize_eq, Option.bind_some, decide_eq_true_eq, compositorref09_Valid.j0, if_true]
  by_cases hs : SZ W ∧ SZ H
  · have hp := prod_small hs.1 hs.2
    rw [if_pos hs, hp.1]
    by_cases he : (l.length : Int) = W * H
    · have e : ((l.length : Int) != W * H) = false := by simpa using he
      rw [e, if_neg (by simp)]
      refine rvl W H l hl l.length 0 (by omega) k (by omega) _ ?_
      rw [decide_eq_true_eq, List.drop_zero]
      exact ⟨fun h => h.2.2.2, fun h => ⟨hs.1, hs.2, he, h⟩⟩
    · have e : ((l.length : Int) != W * H) = true := by simpa using he
      rw [e, if_pos rfl, decide_eq_false (fun h => he h.2.2.1)]
  · rw [if_neg hs, decide_eq_false (fun h => hs ⟨h.1, h.2.1⟩)]
theorem pne (a b : S43) : (!(a.f0 == b.f0) || (!(a.f1 == b.f1) || (!(a.f2 == b.f2) || (!(a.f3 == b.f3))))) = true ↔ a ≠ b := by
  obtain ⟨a0, a1, a2, a3⟩ := a
  obtain ⟨b0, b1, b2, b3⟩ := b
  simp only [Bool.or_eq_true, Bool.not_eq_true', beq_eq_false_iff_ne, ne_eq, S43.mk.injEq]
  omega
def EB (W H : Int) (l : List S43) (W' H' : Int) (l' : List S43) : Prop := W = W' ∧ H = H' ∧ l = l'
noncomputable instance (W H : Int) (l : List S43) (W' H' : Int) (l' : List S43) : Decidable (EB W H l W' H' l') := Classical.propDecidable _
theorem rel (W H : Int) (l : List S43) (W' H' : Int) (l' : List S43) (hl : l.length ≤ 100000) (he : l.length = l'.length) : ∀ d i, i + d = l.length → ∀ k, d + 1 ≤ k → ∀ b, (b = true ↔ l.drop i = l'.drop i) → compositorref09_Equal.l0 k i W H l W' H' l' = some b := by
  intro d
  induction d with
  | zero =>
    intro i hi k hk b hb
    obtain ⟨k, rfl⟩ : ∃ j, k = j + 1 := ⟨k - 1, by omega⟩
    rw [compositorref09_Equal.l0, if_neg (by omega)]
    have : b = true := hb.mpr (by rw [List.drop_eq_nil_of_le (by omega), List.drop_eq_nil_of_le (by omega)])
    rw [this]
  | succ d ih =>
    intro i hi k hk b hb
    obtain ⟨k, rfl⟩ : ∃ j, k = j + 1 := ⟨k - 1, by omega⟩
    have hlt : i < l.length := by omega
    have hlt' : i < l'.length := by omega
    rw [compositorref09_Equal.l0, if_pos (by omega), if_pos (by omega), if_pos (by omega), rd_at hlt, rd_at hlt', wnat (by omega)]
    rw [List.drop_eq_getElem_cons hlt, List.drop_eq_getElem_cons hlt'] at hb
    by_cases hp : l[i] = l'[i]
    · rw [if_neg (fun h => (pne _ _).mp h hp)]
      exact ih (i + 1) (by omega) k (by omega) b (hb.trans (by rw [List.cons.injEq]; exact ⟨fun h => h.2, fun h => ⟨hp, h⟩⟩))
    · rw [if_pos ((pne _ _).mpr hp)]
      cases b with
      | false => rfl
      | true => exact absurd (List.cons.inj (hb.mp rfl)).1 hp
theorem requal_eq (W H : Int) (l : List S43) (W' H' : Int) (l' : List S43) (hl : l.length ≤ 100000) : ∀ k, l.length + 2 ≤ k → compositorref09_Equal.f k W H l W' H' l' = some (decide (EB W H l W' H' l')) := by
  intro k hk
  obtain ⟨k, rfl⟩ : ∃ j, k = j + 1 := ⟨k - 1, by omega⟩
  simp only [compositorref09_Equal.f, compositorref09_Equal.j0, if_true]
  by_cases h1 : W = W'
  · by_cases h2 : H = H'
    · rw [if_pos h1, if_pos h2]
      by_cases h3 : (l.length : Int) = (l'.length : Int)
      · have e : ((l.length : Int) != (l'.length : Int)) = false := by simpa using h3
        rw [e, if_neg (by simp)]
        refine rel W H l W' H' l' hl (by omega) l.length 0 (by omega) k (by omega) _ ?_
        rw [decide_eq_true_eq, List.drop_zero, List.drop_zero]
        exact ⟨fun h => h.2.2, fun h => ⟨h1, h2, h⟩⟩
      · have e : ((l.length : Int) != (l'.length : Int)) = true := by simpa using h3
        rw [e, if_pos rfl, decide_eq_false (fun h => h3 (by rw [h.2.2]))]
    · rw [if_pos h1, if_neg h2, decide_eq_false (fun h => h2 h.2.1)]
  · rw [if_neg h1, decide_eq_false (fun h => h1 h.1)]
theorem requal_refl (W H : Int) (l : List S43) (hl : l.length ≤ 100000) (k : Nat) (hk : l.length + 2 ≤ k) : compositorref09_Equal.f k W H l W H l = some true := by
  rw [requal_eq W H l W H l hl k hk, decide_eq_true (show EB W H l W H l from ⟨rfl, rfl, rfl⟩)]
theorem small_eq (W H : Int) (l : List S43) : compositorlaw09_small.f W H l = some (decide ((l.length : Int) ≤ 400)) := rfl
noncomputable instance (p : S43) : Decidable (PV p) := Classical.propDecidable _
noncomputable def NB (w h : Int) (p : S43) : Int × Int × List S43 × Int := if SZ w ∧ SZ h then (if PV p then (w, h, List.replicate (w * h).toNat p, 0) else (0, 0, [], 15)) else (0, 0, [], 6)
theorem pvalid_eq (p : S43) : pixel_Valid.f p.f0 p.f1 p.f2 p.f3 = some (decide (PV p)) := by
  have m0 := mn_spec p.f0 p.f3
  have m1 := mn_spec p.f1 p.f3
  have m2 := mn_spec p.f2 p.f3
  simp only [pixel_Valid.f, pixel_Clamp.f, Option.bind_some]
  refine congrArg some (Bool.eq_iff_iff.mpr ?_)
  simp only [Bool.and_eq_true, beq_iff_eq, decide_eq_true_eq, and_true]
  unfold PV
  omega
theorem new_eq (w h : Int) (p : S43) (k : Nat) (hk : 1 ≤ k) : buffer_New.f k w h p.f0 p.f1 p.f2 p.f3 = some (NB w h p) := by
  obtain ⟨k, rfl⟩ : ∃ j, k = j + 1 := ⟨k - 1, by omega⟩
  simp only [buffer_New.f, bsize_eq, Option.bind_some, decide_eq_true_eq, buffer_New.j0, if_true, pvalid_eq, NB]
  by_cases h1 : SZ w
  · rw [if_pos h1]
    by_cases h2 : SZ h
    · rw [if_neg (show ¬ (!decide (SZ h)) = true by simp [h2]), if_pos (show SZ w ∧ SZ h from ⟨h1, h2⟩)]
      by_cases h3 : PV p
      · obtain ⟨e, e1, e2⟩ := prod_small h1 h2
        rw [if_pos h3, if_pos h3, e, api_Pixel_64.f, if_pos ⟨rfl, e1, e2⟩]
        rfl
      · rw [if_neg h3, if_neg h3]
    · rw [if_pos (show (!decide (SZ h)) = true by simp [h2]), if_neg (show ¬ (SZ w ∧ SZ h) from fun h => h2 h.2)]
  · rw [if_neg h1, if_neg (fun h => h1 h.1)]
theorem ext_getD {l m : List S43} (h : l.length = m.length) (he : ∀ i, i < l.length → l.getD i z43 = m.getD i z43) : l = m := by
  apply List.ext_getElem h
  intro i h1 h2
  have := he i h1
  rw [List.getD_eq_getElem?_getD, List.getD_eq_getElem?_getD, List.getElem?_eq_getElem h1, List.getElem?_eq_getElem h2] at this
  exact this
theorem over_getD {l s : List S43} {lo : Nat} (h : lo + s.length ≤ l.length) (i : Nat) : (over l lo s).getD i z43 = if lo ≤ i ∧ i < lo + s.length then s.getD (i - lo) z43 else l.getD i z43 := by
  unfold over
  simp only [List.getD_eq_getElem?_getD]
  by_cases h1 : i < lo
  · rw [if_neg (by omega), List.append_assoc, List.getElem?_append_left (by rw [List.length_take]; omega), List.getElem?_take, if_pos h1]
  · rw [List.append_assoc, List.getElem?_append_right (by rw [List.length_take]; omega)]
    have e : (List.take lo l).length = lo := by rw [List.length_take]; omega
    rw [e]
    by_cases h2 : i < lo + s.length
    · rw [if_pos ⟨by omega, h2⟩, List.getElem?_append_left (by omega)]
    · rw [if_neg (by omega), List.getElem?_append_right (by omega), List.getElem?_drop]
      congr 2
      omega
theorem zipWith_getD (g : S43 → S43 → S43) (a b : List S43) {j : Nat} (ha : j < a.length) (hb : j < b.length) : (List.zipWith g a b).getD j z43 = g (a.getD j z43) (b.getD j z43) := by
  simp [List.getD_eq_getElem?_getD, List.getElem?_zipWith, List.getElem?_eq_getElem ha, List.getElem?_eq_getElem hb]
theorem mid_getD (l : List S43) (lo n j : Nat) (h : j < n) : ((l.drop lo).take n).getD j z43 = l.getD (lo + j) z43 := by
  simp only [List.getD_eq_getElem?_getD, List.getElem?_take, if_pos h, List.getElem?_drop]
theorem in_row {W r c t fr n : Nat} (hc : c < W) (hfr : fr + n ≤ W) : (t * W + fr ≤ r * W + c ∧ r * W + c < t * W + fr + n) ↔ (r = t ∧ fr ≤ c ∧ c < fr + n) := by
  rcases Nat.lt_trichotomy r t with h | h | h
  · have m : (r + 1) * W ≤ t * W := Nat.mul_le_mul_right W h
    rw [Nat.succ_mul] at m
    generalize r * W = p at *
    generalize t * W = q at *
    omega
  · subst h
    generalize r * W = p at *
    omega
  · have m : (t + 1) * W ≤ r * W := Nat.mul_le_mul_right W h
    rw [Nat.succ_mul] at m
    generalize r * W = p at *
    generalize t * W = q at *
    omega
theorem rows_getD (g : S43 → S43 → S43) (q : List S43 → List S43 → List S43) (hq : ∀ d s, s.length = d.length → q d s = List.zipWith g d s) (s : List S43) (W SW t0 fr v0 u0 n H : Nat) (l : List S43) (hl : l.length = H * W) (hfr : fr + n ≤ W) :
    ∀ k, t0 + k ≤ H → (∀ j, j < k → (v0 + j) * SW + u0 + n ≤ s.length) → (buffer_combine.rows q s W SW t0 fr v0 u0 n k l).length = l.length ∧
      ∀ r c, r < H → c < W → (buffer_combine.rows q s W SW t0 fr v0 u0 n k l).getD (r * W + c) z43 = if (t0 ≤ r ∧ r < t0 + k) ∧ (fr ≤ c ∧ c < fr + n) then g (l.getD (r * W + c) z43) (s.getD ((v0 + (r - t0)) * SW + u0 + (c - fr)) z43) else l.getD (r * W + c) z43 := by
  intro k
  induction k with
  | zero =>
    intro _ _
    refine ⟨rfl, fun r c hr hc => ?_⟩
    rw [if_neg (by omega)]
    rfl
  | succ k ih =>
    intro hk hs
    obtain ⟨ih1, ih2⟩ := ih (by omega) (fun j hj => hs j (by omega))
    have hsk := hs k (by omega)
    have hlo : (t0 + k) * W + fr + n ≤ l.length := by
      have m : (t0 + k + 1) * W ≤ H * W := Nat.mul_le_mul_right W (by omega)
      rw [Nat.succ_mul] at m
      rw [hl]
      generalize (t0 + k) * W = p at *
      generalize H * W = z at *
      omega
    rw [buffer_combine.rows]
    generalize hL : buffer_combine.rows q s W SW t0 fr v0 u0 n k l = L at *
    have ha : ((L.drop ((t0 + k) * W + fr)).take n).length = n := by rw [List.length_take, List.length_drop]; omega
    have hb : ((s.drop ((v0 + k) * SW + u0)).take n).length = n := by rw [List.length_take, List.length_drop]; omega
    rw [hq _ _ (by rw [ha, hb])]
    have hz : (List.zipWith g ((L.drop ((t0 + k) * W + fr)).take n) ((s.drop ((v0 + k) * SW + u0)).take n)).length = n := by rw [List.length_zipWith, ha, hb, Nat.min_self]
    refine ⟨by rw [over_length _ _ _ (by rw [hz]; omega)]; exact ih1, fun r c hr hc => ?_⟩
    rw [over_getD (by rw [hz]; omega), hz]
    by_cases h1 : r = t0 + k ∧ fr ≤ c ∧ c < fr + n
    · obtain ⟨rfl, h2, h3⟩ := h1
      rw [if_pos ((in_row hc hfr).mpr ⟨rfl, h2, h3⟩), if_pos (by omega)]
      have e : (t0 + k) * W + c - ((t0 + k) * W + fr) = c - fr := by omega
      rw [e, zipWith_getD g _ _ (by rw [ha]; omega) (by rw [hb]; omega), mid_getD _ _ _ _ (by omega), mid_getD _ _ _ _ (by omega)]
      have e2 : (t0 + k) * W + fr + (c - fr) = (t0 + k) * W + c := by omega
      rw [e2, ih2 (t0 + k) c hr hc, if_neg (by omega), show t0 + k - t0 = k by omega]
    · rw [if_neg (fun h => h1 ((in_row hc hfr).mp h)), ih2 r c hr hc]
      by_cases h2 : (t0 ≤ r ∧ r < t0 + k) ∧ (fr ≤ c ∧ c < fr + n)
      · rw [if_pos h2, if_pos (by omega)]
      · rw [if_neg h2, if_neg (by omega)]
noncomputable def PX (g : S43 → S43 → S43) (W : Nat) (l : List S43) (SW SH : Nat) (s : List S43) (x y : Int) (r c : Nat) : S43 :=
  if (x ≤ c ∧ (c : Int) < x + SW) ∧ (y ≤ r ∧ (r : Int) < y + SH) then g (l.getD (r * W + c) z43) (s.getD (((r : Int) - y).toNat * SW + ((c : Int) - x).toNat) z43) else l.getD (r * W + c) z43
noncomputable def PUT (g : S43 → S43 → S43) (W H : Nat) (l : List S43) (SW SH : Nat) (s : List S43) (x y : Int) : List S43 := (List.range (H * W)).map fun i => PX g W l SW SH s x y (i / W) (i % W)
theorem PUT_len (g : S43 → S43 → S43) (W H : Nat) (l : List S43) (SW SH : Nat) (s : List S43) (x y : Int) : (PUT g W H l SW SH s x y).length = H * W := by simp [PUT]
theorem divmod {W r c : Nat} (hc : c < W) : (r * W + c) / W = r ∧ (r * W + c) % W = c := by
  refine ⟨?_, ?_⟩
  · rw [Nat.add_comm, Nat.add_mul_div_right _ _ (by omega), Nat.div_eq_of_lt hc]; omega
  · rw [Nat.add_comm, Nat.add_mul_mod_self_right, Nat.mod_eq_of_lt hc]
theorem lt_rows {W H r c : Nat} (hr : r < H) (hc : c < W) : r * W + c < H * W := by
  have m : (r + 1) * W ≤ H * W := Nat.mul_le_mul_right W hr
  rw [Nat.succ_mul] at m
  omega
theorem PUT_getD (g : S43 → S43 → S43) (W H : Nat) (l : List S43) (SW SH : Nat) (s : List S43) (x y : Int) {r c : Nat} (hr : r < H) (hc : c < W) : (PUT g W H l SW SH s x y).getD (r * W + c) z43 = PX g W l SW SH s x y r c := by
  have h := lt_rows hr hc
  obtain ⟨e1, e2⟩ := divmod (r := r) hc
  simp [PUT, List.getD_eq_getElem?_getD, h, e1, e2]
theorem ext_rows {l m : List S43} {W H : Nat} (hW : 0 < W) (hl : l.length = H * W) (hm : m.length = H * W) (he : ∀ r c, r < H → c < W → l.getD (r * W + c) z43 = m.getD (r * W + c) z43) : l = m := by
  refine ext_getD (by omega) (fun i hi => ?_)
  have h1 : i / W < H := by rw [Nat.div_lt_iff_lt_mul hW]; omega
  have h2 : i % W < W := Nat.mod_lt _ hW
  have h3 : i / W * W + i % W = i := by rw [Nat.mul_comm]; exact Nat.div_add_mod i W
  have := he (i / W) (i % W) h1 h2
  rwa [h3] at this
theorem PUT_out (g : S43 → S43 → S43) (W H : Nat) (l : List S43) (SW SH : Nat) (s : List S43) (x y : Int) (hW : 0 < W) (hl : l.length = H * W) (h : buffer_combine.out W H SW SH x y) : PUT g W H l SW SH s x y = l := by
  refine ext_rows hW (PUT_len _ _ _ _ _ _ _ _ _) hl (fun r c hr hc => ?_)
  rw [PUT_getD _ _ _ _ _ _ _ _ _ hr hc, PX, if_neg]
  unfold buffer_combine.out at h
  omega
theorem all_eq (g : S43 → S43 → S43) (q : List S43 → List S43 → List S43) (hq : ∀ d s, s.length = d.length → q d s = List.zipWith g d s) (W H SW SH : Nat) (l s : List S43) (x y : Int) (hW : 0 < W) (hSW : 0 < SW) (hl : l.length = H * W) (hs : s.length = SH * SW) (h : ¬ buffer_combine.out W H SW SH x y) :
    buffer_combine.all q W H l SW SH s x y = PUT g W H l SW SH s x y := by
  unfold buffer_combine.out at h
  have X1 := mx_spec x 0
  have T1 := mx_spec y 0
  have M1 := mn_spec (x + (SW : Int)) W
  have B1 := mn_spec (y + (SH : Int)) H
  unfold buffer_combine.all
  generalize mx x 0 = X at *
  generalize mx y 0 = T at *
  generalize mn (x + (SW : Int)) W = M at *
  generalize mn (y + (SH : Int)) H = B at *
  simp only [Int.toNat_natCast]
  obtain ⟨t0, ht0⟩ : ∃ t0 : Nat, T.toNat = t0 := ⟨_, rfl⟩
  obtain ⟨fr, hfr⟩ : ∃ t0 : Nat, X.toNat = t0 := ⟨_, rfl⟩
  obtain ⟨v0, hv0⟩ : ∃ t0 : Nat, (T - y).toNat = t0 := ⟨_, rfl⟩
  obtain ⟨u0, hu0⟩ : ∃ t0 : Nat, (X - x).toNat = t0 := ⟨_, rfl⟩
  obtain ⟨n, hn⟩ : ∃ t0 : Nat, (M - X).toNat = t0 := ⟨_, rfl⟩
  obtain ⟨m, hm⟩ : ∃ t0 : Nat, (B - T).toNat = t0 := ⟨_, rfl⟩
  rw [ht0, hfr, hv0, hu0, hn, hm]
  have hbound : ∀ j, j < m → (v0 + j) * SW + u0 + n ≤ s.length := by
    intro j hj
    have h1 : v0 + j + 1 ≤ SH := by omega
    have m1 : (v0 + j + 1) * SW ≤ SH * SW := Nat.mul_le_mul_right SW h1
    rw [Nat.succ_mul] at m1
    have h2 : u0 + n ≤ SW := by omega
    rw [hs]
    generalize (v0 + j) * SW = p at *
    generalize SH * SW = z at *
    omega
  obtain ⟨L1, L2⟩ := rows_getD g q hq s W SW t0 fr v0 u0 n H l hl (by omega) m (by omega) hbound
  refine ext_rows hW (by rw [L1, hl]) (PUT_len _ _ _ _ _ _ _ _ _) (fun r c hr hc => ?_)
  rw [L2 r c hr hc, PUT_getD _ _ _ _ _ _ _ _ _ hr hc, PX]
  by_cases h1 : (t0 ≤ r ∧ r < t0 + m) ∧ (fr ≤ c ∧ c < fr + n)
  · rw [if_pos h1, if_pos (by omega)]
    have e1 : v0 + (r - t0) = ((r : Int) - y).toNat := by omega
    have e2 : u0 + (c - fr) = ((c : Int) - x).toNat := by omega
    rw [e1, Nat.add_assoc, e2]
  · rw [if_neg h1, if_neg (by omega)]
theorem VBn {W H : Int} {a : List S43} (h : VB W H a) : ∃ w n : Nat, W = w ∧ H = n ∧ w ≤ 256 ∧ n ≤ 256 ∧ 0 < w ∧ 0 < n ∧ a.length = n * w := by
  obtain ⟨h1, h2, h3, _⟩ := h
  obtain ⟨w, rfl⟩ : ∃ w : Nat, W = w := ⟨W.toNat, by omega⟩
  obtain ⟨n, rfl⟩ : ∃ n : Nat, H = n := ⟨H.toNat, by omega⟩
  refine ⟨w, n, rfl, rfl, by omega, by omega, by omega, by omega, ?_⟩
  rw [← Int.natCast_mul] at h3
  rw [Nat.mul_comm]
  exact Int.ofNat.inj h3
noncomputable def CM (g : S43 → S43 → S43) (W H : Int) (l : List S43) (SW SH : Int) (s : List S43) (x y : Int) : Int × Int × List S43 × Int := if VB W H l ∧ VB SW SH s then (W, H, PUT g W.toNat H.toNat l SW.toNat SH.toNat s x y, 0) else (0, 0, [], 15)
theorem combine_eq (g : S43 → S43 → S43) (q : List S43 → List S43 → List S43) (hq : ∀ d s, s.length = d.length → q d s = List.zipWith g d s) (W H : Int) (l : List S43) (SW SH : Int) (s : List S43) (x y : Int) : buffer_combine.g q W H l SW SH s x y = some (CM g W H l SW SH s x y) := by
  unfold buffer_combine.g
  rw [bvalid_eq, bvalid_eq, Option.bind_some, Option.bind_some]
  simp only [decide_eq_true_eq, CM]
  by_cases h1 : VB W H l
  · rw [if_pos h1]
    by_cases h2 : VB SW SH s
    · rw [if_pos h2, if_pos (show VB W H l ∧ VB SW SH s from ⟨h1, h2⟩)]
      obtain ⟨w, n, rfl, rfl, _, _, a1, a2, a3⟩ := VBn h1
      obtain ⟨w', n', rfl, rfl, _, _, b1, b2, b3⟩ := VBn h2
      simp only [Int.toNat_natCast]
      by_cases h3 : buffer_combine.out w n w' n' x y
      · rw [if_pos h3, PUT_out g w n l w' n' s x y a1 a3 h3]
      · rw [if_neg h3, all_eq g q hq w n w' n' l s x y a1 b1 a3 b3 h3]
    · rw [if_neg h2, if_neg (show ¬ (VB W H l ∧ VB SW SH s) from fun h => h2 h.2)]
  · rw [if_neg h1, if_neg (show ¬ (VB W H l ∧ VB SW SH s) from fun h => h1 h.1)]
theorem zipWith_snd (d s : List S43) (h : s.length = d.length) : s = List.zipWith (fun _ s => s) d s := by
  apply List.ext_getElem
  · rw [List.length_zipWith, h, Nat.min_self]
  · intro i h1 h2
    simp
theorem zipWith_flip (d s : List S43) : List.zipWith ov s d = List.zipWith (fun d s => ov s d) d s := by
  apply List.ext_getElem
  · rw [List.length_zipWith, List.length_zipWith, Nat.min_comm]
  · intro i h1 h2
    simp
theorem paste_eq (W H : Int) (l : List S43) (SW SH : Int) (s : List S43) (x y : Int) : buffer_Paste.f W H l SW SH s x y = some (CM (fun _ s => s) W H l SW SH s x y) :=
  combine_eq (fun _ s => s) (fun _ s => s) (fun d s h => zipWith_snd d s h) W H l SW SH s x y
theorem blend_eq (W H : Int) (l : List S43) (SW SH : Int) (s : List S43) (x y : Int) : buffer_BlendOver.f W H l SW SH s x y = some (CM (fun d s => ov s d) W H l SW SH s x y) :=
  combine_eq (fun d s => ov s d) (fun d s => List.zipWith ov s d) (fun d s _ => zipWith_flip d s) W H l SW SH s x y
theorem u8 {x : Int} (h : (Lit.int .u8 x).wf = true) : 0 ≤ x ∧ x ≤ 255 := by
  simpa [Lit.wf, IntKind.min, IntKind.max, IntKind.signed, IntKind.bits] using h
def U8 (p : S43) : Prop := (0 ≤ p.f0 ∧ p.f0 ≤ 255) ∧ (0 ≤ p.f1 ∧ p.f1 ≤ 255) ∧ (0 ≤ p.f2 ∧ p.f2 ≤ 255) ∧ (0 ≤ p.f3 ∧ p.f3 ≤ 255)
theorem p255 {c : Int} (h : 0 ≤ c ∧ c ≤ 255) : pixel_Scale.pr c 255 = c := by
  unfold pixel_Scale.pr
  have e0 : wrap64 c = c := by unfold wrap64; omega
  have e0' : wrap64 255 = 255 := by unfold wrap64; omega
  rw [e0, e0']
  have e1 : wrap64 (c * 255) = c * 255 := by unfold wrap64; omega
  rw [e1]
  have e2 : wrap64 (c * 255 + 127) = c * 255 + 127 := by unfold wrap64; omega
  rw [e2, Int.tdiv_eq_ediv_of_nonneg (by omega)]
  have e3 : (c * 255 + 127) / 255 = c := by omega
  rw [e3, e0]
  omega
theorem ov_zero {d : S43} (h : PV d) (hu : U8 d) : ov z43 d = d := by
  obtain ⟨p0, p1, p2⟩ := h
  obtain ⟨u0, u1, u2, u3⟩ := hu
  have e0 : mn d.f0 d.f3 = d.f0 := by have := mn_spec d.f0 d.f3; omega
  have e1 : mn d.f1 d.f3 = d.f1 := by have := mn_spec d.f1 d.f3; omega
  have e2 : mn d.f2 d.f3 = d.f2 := by have := mn_spec d.f2 d.f3; omega
  have z0 : mn (0 : Int) 0 = 0 := rfl
  unfold ov pixel_Over.f pixel_Clamp.f pixel_Scale.f pixel_Clamp.f
  simp only [Option.bind_some, show z43.f0 = 0 from rfl, show z43.f1 = 0 from rfl, show z43.f2 = 0 from rfl, show z43.f3 = 0 from rfl, z0, e0, e1, e2, show ((255 - 0 : Int) % 256) = 255 from rfl, p255 u0, p255 u1, p255 u2, p255 u3, Int.zero_add, Option.elim]
  rw [Int.emod_eq_of_lt u0.1 (by omega), Int.emod_eq_of_lt u1.1 (by omega), Int.emod_eq_of_lt u2.1 (by omega), Int.emod_eq_of_lt u3.1 (by omega)]
theorem getD_mem {l : List S43} {i : Nat} (h : i < l.length) : l.getD i z43 ∈ l := by
  rw [List.getD_eq_getElem?_getD, List.getElem?_eq_getElem h]
  exact List.getElem_mem h
theorem PUT_same (g : S43 → S43 → S43) (W H : Nat) (l s : List S43) (hW : 0 < W) (hl : l.length = H * W) (hg : ∀ r c, r < H → c < W → g (l.getD (r * W + c) z43) (s.getD (r * W + c) z43) = l.getD (r * W + c) z43) : PUT g W H l W H s 0 0 = l := by
  refine ext_rows hW (PUT_len _ _ _ _ _ _ _ _ _) hl (fun r c hr hc => ?_)
  rw [PUT_getD _ _ _ _ _ _ _ _ _ hr hc, PX]
  split
  · have e1 : ((r : Int) - 0).toNat = r := by omega
    have e2 : ((c : Int) - 0).toNat = c := by omega
    rw [e1, e2, hg r c hr hc]
  · rfl
theorem neutral (W H : Int) (l : List S43) (SW SH : Int) (s : List S43) (hu : ∀ p ∈ l, U8 p) : compositorlaw09_BufferNeutral.f 200010 W H l SW SH s = some true := by
  have ex : ∀ b : Bool, b = true → ∀ a1 a2 a3 a4 a5 a6, compositorlaw09_BufferNeutral.j0 200010 b a1 a2 a3 a4 a5 a6 = some true := by
    intro b hb a1 a2 a3 a4 a5 a6
    rw [compositorlaw09_BufferNeutral.j0, if_pos hb, example_holds 200009 (by omega)]
    rfl
  unfold compositorlaw09_BufferNeutral.f
  rw [small_eq, small_eq, Option.bind_some, Option.bind_some]
  simp only [decide_eq_true_eq]
  by_cases h1 : (l.length : Int) ≤ 400
  · rw [if_pos h1]
    by_cases h2 : (s.length : Int) ≤ 400
    · rw [if_pos h2, rvalid_eq W H l (by omega) 200010 (by omega), Option.bind_some]
      by_cases h3 : VB W H l
      · rw [if_pos (decide_eq_true h3), rvalid_eq SW SH s (by omega) 200010 (by omega), Option.bind_some]
        by_cases h4 : VB SW SH s
        · rw [decide_eq_true h4]
          have hnb : NB W H z43 = (W, H, List.replicate (W * H).toNat z43, 0) := by
            unfold NB
            rw [if_pos ⟨h3.1, h3.2.1⟩, if_pos (show PV z43 from ⟨by decide, by decide, by decide⟩)]
          have hvn : VB W H (List.replicate (W * H).toNat z43) := by
            refine ⟨h3.1, h3.2.1, ?_, ?_⟩
            · have := h3.2.2.1
              rw [List.length_replicate]
              omega
            · intro p hp
              rw [List.eq_of_mem_replicate hp]
              exact ⟨by decide, by decide, by decide⟩
          have hwrap : wrap64 (-SH) = -SH := by
            have := h4.2.1
            unfold wrap64
            omega
          have hn := new_eq W H z43 200009 (by omega)
          simp only [show z43.f0 = 0 from rfl, show z43.f1 = 0 from rfl, show z43.f2 = 0 from rfl, show z43.f3 = 0 from rfl, hnb] at hn
          have c1 : CM (fun _ s => s) W H l W H l 0 0 = (W, H, l, 0) := by
            unfold CM
            rw [if_pos ⟨h3, h3⟩]
            obtain ⟨w, n, rfl, rfl, _, _, a1, a2, a3⟩ := VBn h3
            simp only [Int.toNat_natCast]
            rw [PUT_same (fun _ s => s) w n l l a1 a3 (fun _ _ _ _ => rfl)]
          have c2 : CM (fun d s => ov s d) W H l W H (List.replicate (W * H).toNat z43) 0 0 = (W, H, l, 0) := by
            unfold CM
            rw [if_pos ⟨h3, hvn⟩]
            have hpv := h3.2.2.2
            obtain ⟨w, n, rfl, rfl, _, _, a1, a2, a3⟩ := VBn h3
            simp only [Int.toNat_natCast]
            rw [PUT_same (fun d s => ov s d) w n l _ a1 a3 (fun r c hr hc => ?_)]
            have hlt := lt_rows hr hc
            rw [← a3] at hlt
            have hm := getD_mem hlt
            have hz : (List.replicate ((w : Int) * (n : Int)).toNat z43).getD (r * w + c) z43 = z43 := by
              rw [List.getD_eq_getElem?_getD, List.getElem?_replicate]
              split <;> rfl
            rw [hz]
            exact ov_zero (hpv _ hm) (hu _ hm)
          have c3 : CM (fun _ s => s) W H l SW SH s W 0 = (W, H, l, 0) := by
            unfold CM
            rw [if_pos ⟨h3, h4⟩]
            obtain ⟨w, n, rfl, rfl, _, _, a1, a2, a3⟩ := VBn h3
            simp only [Int.toNat_natCast]
            rw [PUT_out _ w n l _ _ s _ _ a1 a3]
            unfold buffer_combine.out
            omega
          have c4 : CM (fun d s => ov s d) W H l SW SH s 0 (-SH) = (W, H, l, 0) := by
            unfold CM
            rw [if_pos ⟨h3, h4⟩]
            obtain ⟨w, n, rfl, rfl, _, _, a1, a2, a3⟩ := VBn h3
            obtain ⟨w', n', rfl, rfl, _, _, b1, b2, b3⟩ := VBn h4
            simp only [Int.toNat_natCast]
            rw [PUT_out _ w n l _ _ s _ _ a1 a3]
            unfold buffer_combine.out
            omega
          rw [show (!true) = false from rfl, compositorlaw09_BufferNeutral.j0, if_neg (by decide), hwrap]
          simp only [paste_eq, blend_eq, Option.bind_some, hn, c1, c2, c3, c4, if_true, bne_self_eq_false]
          simp only [compositorlaw09_BufferNeutral.j1, Bool.false_eq_true, if_false, requal_refl W H l (by omega) 200008 (by omega), Option.bind_some, if_true, example_holds 200008 (by omega)]
        · exact ex _ (by rw [decide_eq_false h4]; rfl) _ _ _ _ _ _
      · rw [if_neg (by rw [decide_eq_false h3]; decide)]
        exact ex _ rfl _ _ _ _ _ _
    · rw [if_neg h2]
      exact ex _ rfl _ _ _ _ _ _
  · rw [if_neg h1]
    exact ex _ rfl _ _ _ _ _ _
theorem BufferNeutral (x0 : S27) (x1 : S27) (ok0 : ((Lit.int .i64 x0.f0).wf = true) ∧ ((Lit.int .i64 x0.f1).wf = true) ∧ (x0.f2.length * 4 ≤ 140737488351232 ∧ x0.f2.length ≤ 9223372036854775807 ∧ ∀ y25 ∈ x0.f2, ((Lit.int .u8 y25.f0).wf = true) ∧ ((Lit.int .u8 y25.f1).wf = true) ∧ ((Lit.int .u8 y25.f2).wf = true) ∧ ((Lit.int .u8 y25.f3).wf = true))) (ok1 : ((Lit.int .i64 x1.f0).wf = true) ∧ ((Lit.int .i64 x1.f1).wf = true) ∧ (x1.f2.length * 4 ≤ 140737488351232 ∧ x1.f2.length ≤ 9223372036854775807 ∧ ∀ y25 ∈ x1.f2, ((Lit.int .u8 y25.f0).wf = true) ∧ ((Lit.int .u8 y25.f1).wf = true) ∧ ((Lit.int .u8 y25.f2).wf = true) ∧ ((Lit.int .u8 y25.f3).wf = true))) :
    ∃ k, compositorlaw09_BufferNeutral.f k x0.f0 x0.f1 x0.f2 x1.f0 x1.f1 x1.f2 = some true := by
  refine ⟨200010, neutral _ _ _ _ _ _ (fun p hp => ?_)⟩
  obtain ⟨u0, u1, u2, u3⟩ := ok0.2.2.2.2 p hp
  exact ⟨u8 u0, u8 u1, u8 u2, u8 u3⟩
end Go.Proofs.Ytmockeaiccpogaa.Pure
end
section
namespace Go.Proofs.YtmockeaiccpogaaOpens
open Go.ChangeShapes Go.WideShapes Go.RowKit Go.Proofs.YtmockeaiccpogaaW.PrintWords
section
variable {H : Type} {enc : TypeId × Value → H} {P : Program} {W : World}
def Opens {α : Type} (enc : TypeId × Value → H) (P : Program) (W : World) (t : TypeId) (d : Kd α) (ok : α → Prop) : Prop :=
  ∀ fuel cs y, DataW.trod enc P W 0 (fun _ => true) true fuel t cs = some y → (∀ n ∈ y.1.weights P t, n ≤ reachBytes) → ∃ x, d.K W x cs ∧ ok x
theorem opens_int {t : TypeId} {k : IntKind} (ht : P.underlying t = some (.int k)) : Opens enc P W t (Kd.int k) (fun x => (Lit.int k x).wf = true) := by
  intro fuel cs y h _
  obtain ⟨n, rfl, _, hw⟩ := DataW.trod_int ht h
  exact ⟨n, rfl, hw⟩
theorem weightsAll_mem {e : TypeId} : ∀ {l : List (DataW H)} {d : DataW H}, d ∈ l → ∀ n ∈ d.weights P e, n ∈ DataW.weightsAll P e l
  | d0 :: r, d, hd, n, hn => by
    simp only [DataW.weightsAll, List.mem_append]
    rcases List.mem_cons.1 hd with rfl | hd
    · exact .inl hn
    · exact .inr (weightsAll_mem hd n hn)
theorem choose_list {α : Type} (n : Nat) (R : Nat → α → Prop) (h : ∀ i, i < n → ∃ x, R i x) : ∃ l : List α, l.length = n ∧ ∀ i x, l[i]? = some x → R i x := by
  induction n with
  | zero => exact ⟨[], rfl, fun i x hx => by simp at hx⟩
  | succ n ih =>
    obtain ⟨l, hl, hr⟩ := ih (fun i hi => h i (by omega))
    obtain ⟨x, hx⟩ := h n (by omega)
    refine ⟨l ++ [x], by simp [hl], fun i y hy => ?_⟩
    rcases Nat.lt_or_ge i l.length with hi | hi
    · rw [List.getElem?_append_left hi] at hy
      exact hr i y hy
    · rw [List.getElem?_append_right hi] at hy
      obtain ⟨hi2, rfl⟩ : i - l.length = 0 ∧ x = y := by
        rcases Nat.eq_zero_or_pos (i - l.length) with h0 | h0
        · rw [h0] at hy; simp at hy; exact ⟨h0, hy⟩
        · rw [List.getElem?_eq_none (by simp; omega)] at hy; cases hy
      have : i = n := by omega
      subst this
      exact hx
theorem opens_slice {α : Type} {t e : TypeId} {d : Kd α} {ok : α → Prop} {B : Nat} (ht : P.underlying t = some (.slice e)) (hc : P.cellsOf e = d.sz) (hB : P.bytesOf e = B) (he : Opens enc P W e d ok) :
    Opens enc P W t (Kd.slice e d) (fun l => l.length * B ≤ 140737488351232 ∧ l.length ≤ 9223372036854775807 ∧ ∀ x ∈ l, ok x) := by
  intro fuel cs y h hz
  rcases DataW.trod_slice ht h with ⟨rfl, _⟩ | ⟨a, len, cap, elems, rest, n, _, rfl, rfl, _, hl, hm, hlen, hel, _, _⟩
  · exact ⟨[], ⟨none, 0, rfl, by simp, rfl, by simp, fun h0 => absurd h0 (by simp)⟩, by simp, by simp, by simp⟩
  · have hw : ∀ n ∈ (((elems.map (·.1)).length + (rest.map (·.1)).length) * P.bytesOf e) :: (DataW.weightsAll P e (elems.map (·.1)) ++ DataW.weightsAll P e (rest.map (·.1))), n ≤ reachBytes := by
      intro m hm'
      refine hz m ?_
      simp only [DataW.weights, ht]
      exact hm'
    obtain ⟨l, hll, hlr⟩ := choose_list (α := α) len (fun i x => ok x ∧ ∃ c, c.length = d.sz ∧ d.K W x c ∧ ∀ j u, c[j]? = some u → W.cell? (a.add (i * d.sz + j)) = some u) (by
      intro i hi
      have h1 := hel i hi
      rw [List.getElem?_eq_getElem (by omega)] at h1
      obtain ⟨c, hcs, htr⟩ := Option.bind_eq_some_iff.1 h1
      have hmem : (elems[i]'(by omega)).1 ∈ elems.map (·.1) := List.mem_map.2 ⟨_, List.getElem_mem _, rfl⟩
      obtain ⟨x, hK, hok⟩ := he n c _ htr (fun m hm' => hw m (by
        refine List.mem_cons_of_mem _ (List.mem_append_left _ ?_)
        exact weightsAll_mem hmem m hm'))
      refine ⟨x, hok, c, d.K_len hK, hK, fun j u hu => ?_⟩
      rw [hc] at hcs
      unfold World.cells? at hcs
      split at hcs
      · have hj : j < d.sz := by
          have := (List.getElem?_eq_some_iff.1 hu).1
          rw [d.K_len hK] at this
          exact this
        have h2 := mapM_some_get hcs j j (by simp [hj])
        rw [hu] at h2
        rw [← h2]
        congr 1
        have : ∀ (a : Addr) (p q : Nat), (a.add p).add q = a.add (p + q) := by
          intro a p q
          unfold Addr.add
          split
          · split <;> simp_all
          · split <;> simp_all [Nat.add_assoc]
        exact (this a _ _).symm
      · cases hcs)
    refine ⟨l, ⟨some a, cap, by rw [hll], by omega, rfl, by unfold maxLen at hm; omega, fun _ => ⟨a, rfl, fun j p hp => ?_⟩⟩, ?_, by unfold maxLen at hm; omega, fun x hx => ?_⟩
    · obtain ⟨_, c, h1, h2, h3⟩ := hlr j p hp
      exact ⟨c, h1, h2, h3⟩
    · have := hw _ List.mem_cons_self
      rw [hB] at this
      simp only [List.length_map, hlen] at this
      rw [hll]
      unfold reachBytes at this
      exact Nat.le_trans (Nat.mul_le_mul_right _ (Nat.le_add_right _ _)) this
    · obtain ⟨i, hi, rfl⟩ := List.getElem_of_mem hx
      exact (hlr i _ (List.getElem?_eq_getElem hi)).1
def OpensFs {α : Type} (enc : TypeId × Value → H) (P : Program) (W : World) (fs : List Field) (off : Nat) (d : Kd α) (ok : α → Prop) : Prop :=
  ∀ (n : Nat) (cs : List Value) (xs : List (DataW H × List MemPlace)), cs.length = off + d.sz →
    xs.length = fs.length → (∀ (i : Nat) (f : Field), fs[i]? = some f → DataW.trod enc P W 0 (fun _ => true) true n f.type ((cs.drop f.offset).take (P.cellsOf f.type)) = xs[i]?) →
    (∀ m ∈ DataW.weightsEach P (fs.map (·.type)) (xs.map (·.1)), m ≤ reachBytes) → ∃ x, d.K W x (cs.drop off) ∧ ok x
theorem opensFs_last {α : Type} {f : Field} {off : Nat} {d : Kd α} {ok : α → Prop} (ho : f.offset = off) (hc : P.cellsOf f.type = d.sz) (h : Opens enc P W f.type d ok) : OpensFs enc P W [f] off d ok := by
  intro n cs xs hcs hx ht hz
  match xs, hx with
  | [x0], _ =>
    have h0 := ht 0 f rfl
    rw [ho, hc, List.take_of_length_le (by rw [List.length_drop]; omega)] at h0
    exact h n _ x0 (by simpa using h0) (fun m hm => hz m (by simp [DataW.weightsEach, hm]))
theorem opensFs_cons {α β : Type} {f : Field} {fs : List Field} {off : Nat} {d : Kd α} {d' : Kd β} {ok : α → Prop} {ok' : β → Prop} (ho : f.offset = off) (hc : P.cellsOf f.type = d.sz) (h : Opens enc P W f.type d ok)
    (hr : OpensFs enc P W fs (off + d.sz) d' ok') : OpensFs enc P W (f :: fs) off (Kd.pair d d') (fun x => ok x.1 ∧ ok' x.2) := by
  intro n cs xs hcs hx ht hz
  have hcs' : cs.length = off + (d.sz + d'.sz) := hcs
  match xs, hx with
  | x0 :: xs, hx =>
    have h0 := ht 0 f rfl
    rw [ho, hc] at h0
    obtain ⟨x, hK, hok⟩ := h n _ x0 (by simpa using h0) (fun m hm => hz m (by simp [DataW.weightsEach, hm]))
    obtain ⟨x', hK', hok'⟩ := hr n cs xs (by omega) (by simpa using hx) (fun i g hg => by simpa using ht (i + 1) g (by simpa using hg)) (fun m hm => hz m (by simp only [List.map_cons, DataW.weightsEach, List.mem_append]; exact .inr hm))
    refine ⟨(x, x'), ⟨_, _, ?_, hK, hK'⟩, hok, hok'⟩
    rw [← List.drop_drop, List.take_append_drop]
theorem opens_struct {α : Type} {t : TypeId} {fs : Array Field} {d : Kd α} {ok : α → Prop} (ht : P.underlying t = some (.struct fs)) (hc : P.cellsOf t = d.sz) (h : OpensFs enc P W fs.toList 0 d ok) : Opens enc P W t d ok := by
  intro fuel cs y hy hz
  obtain ⟨xs, n, _, rfl, hl, hlen, hf⟩ := DataW.trod_struct ht hy
  obtain ⟨x, hK, hok⟩ := h n cs xs (by omega) (by simpa using hlen) (fun i f hi => hf i f (by simpa using hi)) (fun m hm => hz m (by simp only [DataW.weights, ht]; exact hm))
  exact ⟨x, by simpa using hK, hok⟩
theorem opens_iso {α β : Type} {t : TypeId} {d : Kd α} {ok : α → Prop} (f : β → α) (g : α → β) (hfg : ∀ x, f (g x) = x) (h : Opens enc P W t d ok) : Opens enc P W t (Kd.iso d f) (fun y => ok (f y)) := by
  intro fuel cs y hy hz
  obtain ⟨x, hK, hok⟩ := h fuel cs y hy hz
  exact ⟨g x, by show d.K W (f (g x)) cs; rw [hfg]; exact hK, by show ok (f (g x)); rw [hfg]; exact hok⟩
theorem opens_imp {α : Type} {t : TypeId} {d : Kd α} {ok ok' : α → Prop} (h : Opens enc P W t d ok) (hi : ∀ x, ok x → ok' x) : Opens enc P W t d ok' := by
  intro fuel cs y hy hz
  obtain ⟨x, hK, hok⟩ := h fuel cs y hy hz
  exact ⟨x, hK, hi x hok⟩
theorem opens_arg {α : Type} {ts : List TypeId} {ds : List (DataW H)} {j : Nat} {t : TypeId} {v : Value} {dt : DataW H} {ps : List MemPlace} {d : Kd α} {ok : α → Prop} (h : Opens enc P W t d ok)
    (hsz : (DataW.weightsEach P ts ds).all (· ≤ reachBytes) = true) (ht : ts[j]? = some t) (hd : ds[j]? = some dt) (hr : DataW.Trod enc P W 0 (fun _ => true) true t v dt ps) : ∃ x, d.K W x v.cells.toList ∧ ok x := by
  obtain ⟨fuel, hf⟩ := hr
  exact h fuel _ _ hf (fun n hn => by simpa using List.all_eq_true.1 hsz n (DataW.weights_mem_each ht hd n hn))
end
theorem arr_of {cs : Array Value} {l : List Value} (h : (Value.agg cs).cells.toList = l) : cs = l.toArray := by
  have h' : cs.toList = l := h
  rw [← h', Array.toArray_toList]
end Go.Proofs.YtmockeaiccpogaaOpens
namespace Go.Proofs.YtmockeaiccpogaaOpens
open Go.ChangeShapes Go.WideShapes Go.RowKit Go.Proofs.YtmockeaiccpogaaW.PrintWords
end Go.Proofs.YtmockeaiccpogaaOpens
end
